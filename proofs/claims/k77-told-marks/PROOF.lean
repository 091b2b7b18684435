import PyProof.Rows.All
import Wide.All
import OpenK.AllK
import Wide.FinOn
import HandS.ForMost
import HandS.Deep
import HandS.TupAny
import HandS.TupMul
import HandS.Conv
import HandS.IsInst
import HandS.Style
import HandS.Wide
import HandS.WideMore
import HandS.Flow
import HandS.Strs
import KE.GoesEnum
import KE.SortData
import HandS.SortKw
import KE.GoesEnumKw
import HandS.Star
import HandS.Words
import HandS.EndBits
import PySem.Challenge.RW_lacednets_k77_rows_with_told_marks
set_option Elab.async false
set_option linter.all false
set_option autoImplicit false
set_option maxRecDepth 100000
set_option maxHeartbeats 4000000
namespace Ev
open PySem PySem.Spec PyProof.Rows L2
abbrev Frag := PySem.W.Frag

/-! ### values by trees, a store of what may change -/
inductive PV where
  | non | bl (b : Bool) | int (i : Int) | str (x : Str)
  | tup (xs : List PV) | lst (xs : List PV) | edct | ref (r : Nat) | scr (ns : List Int)
instance : Inhabited PV := ⟨.non⟩
inductive SObj where
  | lst (xs : List PV) | dct (kvs : List (Key × PV))
abbrev En := List (Option PV)
abbrev Sto := List SObj

/-- all refs within lie below b -/
def ltB (b : Nat) : PV → Bool
  | .ref r => decide (r < b)
  | .tup xs => xs.attach.all fun ⟨x, _⟩ => ltB b x
  | .lst xs => xs.attach.all fun ⟨x, _⟩ => ltB b x
  | _ => true
theorem ltB_tup (b : Nat) (xs : List PV) : ltB b (.tup xs) = xs.all (ltB b) := by
  rw [ltB]; exact List.all_subtype (fun _ _ => rfl) |>.trans (by simp)
theorem ltB_lst (b : Nat) (xs : List PV) : ltB b (.lst xs) = xs.all (ltB b) := by
  rw [ltB]; exact List.all_subtype (fun _ _ => rfl) |>.trans (by simp)
mutual
theorem ltB_mono {a b : Nat} (h : a ≤ b) : ∀ {v : PV}, ltB a v = true → ltB b v = true
  | .ref r, e => by
    simp only [ltB, decide_eq_true_eq] at e ⊢
    exact Nat.lt_of_lt_of_le e h
  | .tup xs, e => by rw [ltB_tup] at e ⊢; exact ltB_monoL h e
  | .lst xs, e => by rw [ltB_lst] at e ⊢; exact ltB_monoL h e
  | .non, _ | .bl _, _ | .int _, _ | .str _, _ | .edct, _ | .scr _, _ => by unfold ltB; rfl
theorem ltB_monoL {a b : Nat} (h : a ≤ b) : ∀ {xs : List PV}, xs.all (ltB a) = true → xs.all (ltB b) = true
  | [], _ => rfl
  | x :: r, e => by
    simp only [List.all_cons, Bool.and_eq_true] at e ⊢
    exact ⟨ltB_mono h e.1, ltB_monoL h e.2⟩
end
/-- the bases of the frames at work: the top one, those below -/
structure Bs where
  top : Nat
  P : Nat → Prop
  le : ∀ b, P b → b ≤ top
def SObj.ltB (b : Nat) : SObj → Bool
  | .lst xs => xs.all (Ev.ltB b)
  | .dct kvs => kvs.all fun p => Ev.ltB b p.2

/-- a written tuple -/
def KT (K : Frag) (a : Addr) (xs : List V) : Prop :=
  ∃ (o : Obj) (its : Array Value) (n : Nat), K.lookup a = some o ∧ o.cls = .type "tuple" ∧ o.dict = none ∧ o.data = .seq its n ∧ its.size ≤ sizeLine ∧ Vals xs its.toList
/-- a tuple whose object is known to have no dict -/
def Tp (K : Frag) (H : Hp) (a : Addr) (xs : List V) : Prop := (∃ o : Obj, H a = some (.frz o (.tup xs)) ∧ o.dict = none) ∨ KT K a xs
theorem Tp.sq {K : Frag} {H : Hp} {a : Addr} {xs : List V} (h : Tp K H a xs) : SqT K H a xs := by
  rcases h with ⟨o, h, _⟩ | ⟨o, its, n, h1, h2, _, h3, h4, h5⟩
  · exact .inl (.inr ⟨o, h⟩)
  · exact .inr ⟨o, its, n, h1, h2, h3, h4, h5⟩
/-- a new tuple -/
theorem tupNew {X : Cx} {pins : List (Addr × Obj)} {σ : List (Option V)} {H : Hp} {s : Shared} {xs : List V} {its : List Value} {t' : Nat} (I : Inv X pins σ H s) (r : Vals xs its) (z : xs.length ≤ sizeLine) :
    Inv X pins σ (upd H s.heap.objs.size (.frz { cls := .type "tuple", data := .seq its.toArray } (.tup xs))) { s with heap := s.heap.push { cls := .type "tuple", data := .seq its.toArray }, toks := t' } :=
  I.laid (fun b u e => Heap.get?_push_of_some _ e) (Nat.le_refl _) ⟨Heap.get?_push_size _ rfl, z, its, r, IsTup.new _ _⟩
/-- a written list, whatever the heap -/
def KL (K : Frag) (a : Addr) (xs : List V) : Prop :=
  ∃ (o : Obj) (its : Array Value) (n : Nat), K.lookup a = some o ∧ o.cls = .type "list" ∧ o.dict = none ∧ o.data = .seq its n ∧ its.size ≤ sizeLine ∧ Vals xs its.toList

mutual
inductive Rp (K : Frag) (H : Hp) (M : List Addr) (B : Addr → Prop) : PV → V → Prop
  | non : Rp K H M B .non .non
  | bl (b : Bool) : Rp K H M B (.bl b) (.bl b)
  | int (i : Int) : Rp K H M B (.int i) (.int i)
  | str (x : Str) : Rp K H M B (.str x) (.str x)
  | tup {a : Addr} {vs : List V} {xs : List PV} : Tp K H a vs → RpL K H M B xs vs → Rp K H M B (.tup xs) (.ref a)
  | lst {a : Addr} {vs : List V} {xs : List PV} : H a = some (.lst vs) → a ∉ M → ¬ B a → RpL K H M B xs vs → Rp K H M B (.lst xs) (.ref a)
  | edct {a : Addr} : H a = some (.dK []) → a ∉ M → ¬ B a → Rp K H M B .edct (.ref a)
  | ref {r : Nat} {a : Addr} : M[r]? = some a → Rp K H M B (.ref r) (.ref a)
  | scr {a : Addr} {ns : List Int} : Rd H a (.lst (ns.map V.int)) → a ∉ M → ¬ B a → Rp K H M B (.scr ns) (.ref a)
  | scrK {a : Addr} {ns : List Int} : KL K a (ns.map V.int) → Rp K H M B (.scr ns) (.ref a)
inductive RpL (K : Frag) (H : Hp) (M : List Addr) (B : Addr → Prop) : List PV → List V → Prop
  | nil : RpL K H M B [] []
  | cons {x : PV} {xs : List PV} {v : V} {vs : List V} : Rp K H M B x v → RpL K H M B xs vs → RpL K H M B (x :: xs) (v :: vs)
end

def isM : HO → Bool
  | .lst _ => true
  | .dK _ => true
  | _ => false

/-- from one heap to a later one: what is not in M stays, what is new is at N -/
structure Stp (M : List Addr) (H : Hp) (N : List Addr) (H' : Hp) : Prop where
  keep : ∀ a o, H a = some o → a ∉ M → H' a = some o
  dom : ∀ a, H a ≠ none → H' a ≠ none
  fresh : ∀ a ∈ N, H a = none
theorem Stp.refl {M : List Addr} {H : Hp} : Stp M H [] H := ⟨fun _ _ h _ => h, fun _ h => h, fun _ h => nomatch h⟩
theorem Stp.trans {M N N2 : List Addr} {H H1 H2 : Hp} (a : Stp M H N H1) (b : Stp (M ++ N) H1 N2 H2) : Stp M H (N ++ N2) H2 where
  keep := fun c o e n => b.keep c o (a.keep c o e n) fun h => (List.mem_append.mp h).elim n fun h => by rw [a.fresh c h] at e; cases e
  dom := fun c h => b.dom c (a.dom c h)
  fresh := fun c h => (List.mem_append.mp h).elim (a.fresh c) fun h => by
    have h1 := b.fresh c h
    cases q : H c with
    | none => rfl
    | some o => exact absurd h1 (a.dom c (by rw [q]; simp))
theorem Stp.new {M : List Addr} {H : Hp} {p : Addr} {o : HO} (h : H p = none) : Stp M H [] (upd H p o) :=
  ⟨fun a u e _ => by rw [upd_ne (ne_of_none e h)]; exact e, fun a e => by
    by_cases hp : a = p
    · subst hp; rw [upd_same]; simp
    · rw [upd_ne hp]; exact e, fun _ h => nomatch h⟩
theorem Stp.newM {M : List Addr} {H : Hp} {p : Addr} {o : HO} (h : H p = none) : Stp M H [p] (upd H p o) :=
  ⟨(Stp.new (M := M) h).keep, (Stp.new (M := M) h).dom, fun a ha => by rw [List.mem_singleton.mp ha]; exact h⟩

def Trk (M : List Addr) (H : Hp) : Prop := ∀ a ∈ M, ∃ u, H a = some u ∧ isM u = true
section
variable {K : Frag} {H H' : Hp} {M N : List Addr} {B B' : Addr → Prop}
theorem Rd.stp {a : Addr} {u : HO} (s : Stp M H N H') (n : a ∉ M) (r : Rd H a u) : Rd H' a u := by
  rcases r with r | ⟨o, r⟩
  · exact .inl (s.keep _ _ r n)
  · exact .inr ⟨o, s.keep _ _ r n⟩
theorem Trk.no {a : Addr} {u : HO} (t : Trk M H) (h : H a = some u) (m : isM u = false) : a ∉ M := fun hm => by
  obtain ⟨v, e, q⟩ := t a hm
  rw [h] at e; cases e
  rw [m] at q; cases q
theorem Tp.stp {a : Addr} {vs : List V} (t : Trk M H) (s : Stp M H N H') (h : Tp K H a vs) : Tp K H' a vs := by
  rcases h with ⟨o, h, d⟩ | h
  · exact .inl ⟨o, s.keep _ _ h (t.no h rfl), d⟩
  · exact .inr h
theorem Stp.nmem {a : Addr} {o : HO} (s : Stp M H N H') (h : H a = some o) (n : a ∉ M) : a ∉ M ++ N := fun hm =>
  (List.mem_append.mp hm).elim n fun hm => by rw [s.fresh a hm] at h; cases h
theorem Rd.some {a : Addr} {u : HO} (r : Rd H a u) : ∃ o, H a = some o := by
  rcases r with r | ⟨o, r⟩
  · exact ⟨_, r⟩
  · exact ⟨_, r⟩
mutual
theorem Rp.stp (t : Trk M H) (s : Stp M H N H') : ∀ {v : PV} {x : V}, Rp K H M B v x → Rp K H' (M ++ N) B v x
  | _, _, .non => .non
  | _, _, .bl b => .bl b
  | _, _, .int i => .int i
  | _, _, .str x => .str x
  | _, _, .tup h r => .tup (Tp.stp t s h) (RpL.stp t s r)
  | _, _, .lst h n b r => .lst (s.keep _ _ h n) (s.nmem h n) b (RpL.stp t s r)
  | _, _, .edct h n b => .edct (s.keep _ _ h n) (s.nmem h n) b
  | _, _, .ref e => .ref (by rw [List.getElem?_append_left (List.getElem?_eq_some_iff.mp e).1]; exact e)
  | _, _, .scr h n b => .scr (Rd.stp s n h) (by obtain ⟨o, e⟩ := Rd.some h; exact s.nmem e n) b
  | _, _, .scrK h => .scrK h
theorem RpL.stp (t : Trk M H) (s : Stp M H N H') : ∀ {vs : List PV} {xs : List V}, RpL K H M B vs xs → RpL K H' (M ++ N) B vs xs
  | _, _, .nil => .nil
  | _, _, .cons h r => .cons (Rp.stp t s h) (RpL.stp t s r)
end
mutual
theorem Rp.bar (hB : ∀ a, B' a → H a ≠ none → B a) : ∀ {v : PV} {x : V}, Rp K H M B v x → Rp K H M B' v x
  | _, _, .non => .non
  | _, _, .bl b => .bl b
  | _, _, .int i => .int i
  | _, _, .str x => .str x
  | _, _, .tup h r => .tup h (RpL.bar hB r)
  | _, _, .lst h n b r => .lst h n (fun z => b (hB _ z (by rw [h]; simp))) (RpL.bar hB r)
  | _, _, .edct h n b => .edct h n (fun z => b (hB _ z (by rw [h]; simp)))
  | _, _, .ref e => .ref e
  | _, _, .scr h n b => .scr h n (fun z => b (hB _ z (by obtain ⟨o, e⟩ := Rd.some h; rw [e]; simp)))
  | _, _, .scrK h => .scrK h
theorem RpL.bar (hB : ∀ a, B' a → H a ≠ none → B a) : ∀ {vs : List PV} {xs : List V}, RpL K H M B vs xs → RpL K H M B' vs xs
  | _, _, .nil => .nil
  | _, _, .cons h r => .cons (Rp.bar hB h) (RpL.bar hB r)
end
theorem RpL.length : ∀ {vs : List PV} {xs : List V}, RpL K H M B vs xs → xs.length = vs.length
  | _, _, .nil => rfl
  | _, _, .cons _ r => by simp [RpL.length r]
theorem RpL.get : ∀ {vs : List PV} {xs : List V} {i : Nat} {v : PV}, RpL K H M B vs xs → vs[i]? = some v → ∃ x, xs[i]? = some x ∧ Rp K H M B v x
  | _, _, 0, _, .cons h _, e => by simp at e; subst e; exact ⟨_, rfl, h⟩
  | _, _, i + 1, _, .cons _ r, e => by
    obtain ⟨x, h1, h2⟩ := RpL.get (i := i) r (by simpa using e)
    exact ⟨x, by simpa using h1, h2⟩
theorem RpL.get' : ∀ {vs : List PV} {xs : List V} {i : Nat} {x : V}, RpL K H M B vs xs → xs[i]? = some x → ∃ v, vs[i]? = some v ∧ Rp K H M B v x
  | _, _, 0, _, .cons h _, e => by simp at e; subst e; exact ⟨_, rfl, h⟩
  | _, _, i + 1, _, .cons _ r, e => by
    obtain ⟨x, h1, h2⟩ := RpL.get' (i := i) r (by simpa using e)
    exact ⟨x, by simpa using h1, h2⟩
theorem RpL.append : ∀ {vs ws : List PV} {xs ys : List V}, RpL K H M B vs xs → RpL K H M B ws ys → RpL K H M B (vs ++ ws) (xs ++ ys)
  | _, _, _, _, .nil, s => s
  | _, _, _, _, .cons h r, s => .cons h (RpL.append r s)
theorem RpL.take : ∀ {vs : List PV} {xs : List V} (n : Nat), RpL K H M B vs xs → RpL K H M B (vs.take n) (xs.take n)
  | _, _, 0, _ => .nil
  | _, _, _ + 1, .nil => .nil
  | _, _, n + 1, .cons h r => .cons h (RpL.take n r)
theorem RpL.drop : ∀ {vs : List PV} {xs : List V} (n : Nat), RpL K H M B vs xs → RpL K H M B (vs.drop n) (xs.drop n)
  | _, _, 0, r => r
  | _, _, _ + 1, .nil => .nil
  | _, _, n + 1, .cons _ r => RpL.drop n r
theorem RpL.set : ∀ {vs : List PV} {xs : List V} (n : Nat) {v : PV} {x : V}, Rp K H M B v x → RpL K H M B vs xs → RpL K H M B (vs.set n v) (xs.set n x)
  | _, _, _, _, _, _, .nil => .nil
  | _, _, 0, _, _, q, .cons h r => .cons q r
  | _, _, n + 1, _, _, q, .cons h r => .cons h (RpL.set n q r)
theorem RpL.eraseIdx : ∀ {vs : List PV} {xs : List V} (n : Nat), RpL K H M B vs xs → RpL K H M B (vs.eraseIdx n) (xs.eraseIdx n)
  | _, _, _, .nil => .nil
  | _, _, 0, .cons h r => r
  | _, _, n + 1, .cons h r => .cons h (RpL.eraseIdx n r)
theorem RpL.dropLast {vs : List PV} {xs : List V} (h : RpL K H M B vs xs) : RpL K H M B vs.dropLast xs.dropLast := by
  rw [List.dropLast_eq_take, List.dropLast_eq_take, h.length]; exact h.take _
theorem RpL.reverse : ∀ {vs : List PV} {xs : List V}, RpL K H M B vs xs → RpL K H M B vs.reverse xs.reverse
  | _, _, .nil => .nil
  | _, _, .cons h r => by rw [List.reverse_cons, List.reverse_cons]; exact (RpL.reverse r).append (.cons h .nil)
theorem RpL.rep {vs : List PV} {xs : List V} (h : RpL K H M B vs xs) : ∀ k : Nat, RpL K H M B (List.replicate k vs).flatten (List.replicate k xs).flatten
  | 0 => .nil
  | k + 1 => by rw [List.replicate_succ, List.replicate_succ]; exact h.append (RpL.rep h k)
theorem RpL.of_get : ∀ {vs : List PV} {xs : List V}, xs.length = vs.length → (∀ (i : Nat) (v : PV) (x : V), vs[i]? = some v → xs[i]? = some x → Rp K H M B v x) → RpL K H M B vs xs
  | [], [], _, _ => .nil
  | v :: vs, x :: xs, hl, h => .cons (h 0 v x rfl rfl) (RpL.of_get (by simpa using hl) fun i v x e1 e2 => h (i + 1) v x (by simpa using e1) (by simpa using e2))
theorem RpL.ints : ∀ (ns : List Int), RpL K H M B (ns.map PV.int) (ns.map V.int)
  | [] => .nil
  | n :: r => .cons (.int n) (RpL.ints r)
theorem RpL.of_ints : ∀ {ns : List Int} {xs : List V}, RpL K H M B (ns.map PV.int) xs → xs = ns.map V.int
  | [], _, .nil => rfl
  | n :: r, _, .cons h q => by cases h; rw [RpL.of_ints q]; rfl
theorem RpL.of_bls : ∀ {bs : List Bool} {xs : List V}, RpL K H M B (bs.map PV.bl) xs → xs = bs.map V.bl
  | [], _, .nil => rfl
  | n :: r, _, .cons h q => by cases h; rw [RpL.of_bls q]; rfl
end

/-! ### the store -/
def KvR (K : Frag) (H : Hp) (M : List Addr) (B : Addr → Prop) : List (Key × PV) → List (Key × V) → Prop := Paired fun p q => p.1 = q.1 ∧ Rp K H M B p.2 q.2
inductive RpO (K : Frag) (H : Hp) (M : List Addr) (B : Addr → Prop) : SObj → HO → Prop
  | lst {xs : List PV} {vs : List V} : RpL K H M B xs vs → RpO K H M B (.lst xs) (.lst vs)
  | dct {kvs : List (Key × PV)} {kws : List (Key × V)} : KvR K H M B kvs kws → RpO K H M B (.dct kvs) (.dK kws)
structure StR (K : Frag) (H : Hp) (M : List Addr) (B : Addr → Prop) (bs : Bs) (S : Sto) : Prop where
  len : M.length = S.length
  nd : M.Nodup
  ob : ∀ (r : Nat) (o : SObj) (a : Addr), S[r]? = some o → M[r]? = some a → ∃ u, H a = some u ∧ RpO K H M B o u
  bd : ∀ a, B a → H a ≠ none
  mb : ∀ a ∈ M, ¬ B a
  wf : ∀ (b r : Nat) (o : SObj), bs.P b → r < b → S[r]? = some o → o.ltB b = true
  le : bs.top ≤ S.length
section
variable {K : Frag} {H H' : Hp} {M N : List Addr} {B B' : Addr → Prop} {bs : Bs} {S : Sto}
theorem RpO.isM {o : SObj} {u : HO} (h : RpO K H M B o u) : Ev.isM u = true := by cases h <;> rfl
theorem StR.trk (h : StR K H M B bs S) : Trk M H := fun a ha => by
  obtain ⟨r, hr, e⟩ := List.getElem_of_mem ha
  have e1 : M[r]? = some a := by rw [List.getElem?_eq_getElem hr, e]
  have hr' : r < S.length := by rw [← h.len]; exact hr
  obtain ⟨u, hu, q⟩ := h.ob r S[r] a (List.getElem?_eq_getElem hr') e1
  exact ⟨u, hu, q.isM⟩
theorem StR.mfree (h : StR K H M B bs S) {p : Addr} (n : H p = none) : p ∉ M := fun hp => by
  obtain ⟨u, e, _⟩ := h.trk p hp
  rw [n] at e; cases e
theorem StR.bfree (h : StR K H M B bs S) {p : Addr} (n : H p = none) : ¬ B p := fun hp => h.bd p hp n
theorem KvR.stp (t : Trk M H) (s : Stp M H N H') : ∀ {a : List (Key × PV)} {b : List (Key × V)}, KvR K H M B a b → KvR K H' (M ++ N) B a b
  | _, _, .nil => .nil
  | _, _, .cons h r => .cons ⟨h.1, h.2.stp t s⟩ (KvR.stp t s r)
theorem KvR.bar (hB : ∀ a, B' a → H a ≠ none → B a) : ∀ {a : List (Key × PV)} {b : List (Key × V)}, KvR K H M B a b → KvR K H M B' a b
  | _, _, .nil => .nil
  | _, _, .cons h r => .cons ⟨h.1, h.2.bar hB⟩ (KvR.bar hB r)
theorem RpO.stp {o : SObj} {u : HO} (t : Trk M H) (s : Stp M H N H') (h : RpO K H M B o u) : RpO K H' (M ++ N) B o u := by
  cases h with
  | lst h => exact .lst (h.stp t s)
  | dct h => exact .dct (KvR.stp t s h)
theorem RpO.bar {o : SObj} {u : HO} (hB : ∀ a, B' a → H a ≠ none → B a) (h : RpO K H M B o u) : RpO K H M B' o u := by
  cases h with
  | lst h => exact .lst (h.bar hB)
  | dct h => exact .dct (KvR.bar hB h)
/-- a new object that does not change -/
theorem StR.new {p : Addr} {o : HO} (h : StR K H M B bs S) (n : H p = none) : StR K (upd H p o) M B bs S where
  len := h.len
  nd := h.nd
  ob := fun r q a e1 e2 => by
    obtain ⟨u, hu, x⟩ := h.ob r q a e1 e2
    have s : Stp M H [] (upd H p o) := Stp.new n
    refine ⟨u, by rw [upd_ne (ne_of_none hu n)]; exact hu, ?_⟩
    have := RpO.stp h.trk s x
    rwa [List.append_nil] at this
  bd := fun a ha => by
    by_cases hp : a = p
    · subst hp; rw [upd_same]; simp
    · rw [upd_ne hp]; exact h.bd a ha
  mb := h.mb
  wf := h.wf
  le := h.le
theorem Rp.new {p : Addr} {o : HO} {v : PV} {x : V} (h : StR K H M B bs S) (n : H p = none) (r : Rp K H M B v x) : Rp K (upd H p o) M B v x := by
  have := r.stp h.trk (Stp.new (o := o) n)
  rwa [List.append_nil] at this
theorem RpL.new {p : Addr} {o : HO} {v : List PV} {x : List V} (h : StR K H M B bs S) (n : H p = none) (r : RpL K H M B v x) : RpL K (upd H p o) M B v x := by
  have := r.stp h.trk (Stp.new (o := o) n)
  rwa [List.append_nil] at this
/-- a new object that may change -/
theorem StR.newM {p : Addr} {o : HO} {so : SObj} (h : StR K H M B bs S) (n : H p = none) (ho : RpO K H M B so o) : StR K (upd H p o) (M ++ [p]) B bs (S ++ [so]) where
  len := by simp [h.len]
  nd := by
    rw [List.nodup_append]
    refine ⟨h.nd, by simp, fun a ha b hb e => ?_⟩
    rw [List.mem_singleton] at hb
    subst hb; subst e
    exact h.mfree n ha
  ob := fun r q a e1 e2 => by
    have s : Stp M H [p] (upd H p o) := Stp.newM n
    by_cases hr : r < S.length
    · rw [List.getElem?_append_left hr] at e1
      rw [List.getElem?_append_left (by rw [h.len]; exact hr)] at e2
      obtain ⟨u, hu, x⟩ := h.ob r q a e1 e2
      exact ⟨u, by rw [upd_ne (ne_of_none hu n)]; exact hu, RpO.stp h.trk s x⟩
    · rw [List.getElem?_append_right (by omega)] at e1
      rw [List.getElem?_append_right (by rw [h.len]; omega)] at e2
      have hr0 : r - S.length = 0 := by
        have := (List.getElem?_eq_some_iff.mp e1).1
        simp at this; omega
      rw [hr0] at e1
      have hr1 : r - M.length = 0 := by rw [h.len]; exact hr0
      rw [hr1] at e2
      simp at e1 e2
      subst e1; subst e2
      exact ⟨o, upd_same, RpO.stp h.trk s ho⟩
  bd := fun a ha => by
    by_cases hp : a = p
    · subst hp; rw [upd_same]; simp
    · rw [upd_ne hp]; exact h.bd a ha
  mb := fun a ha => (List.mem_append.mp ha).elim (h.mb a) fun ha => by
    rw [List.mem_singleton.mp ha]; exact h.bfree n
  wf := fun b r o hb hr e => h.wf b r o hb hr (by rwa [List.getElem?_append_left (Nat.lt_of_lt_of_le hr (Nat.le_trans (bs.le b hb) h.le))] at e)
  le := by simp; exact Nat.le_succ_of_le h.le
/-- an object of the store is written -/
theorem StR.writeS {r : Nat} {a : Addr} {o : HO} {so so' : SObj} (h : StR K H M B bs S) (hr : S[r]? = some so) (ha : M[r]? = some a) (ho : RpO K H M B so' o) (hw : ∀ b, bs.P b → r < b → so'.ltB b = true) :
    Stp M H [] (upd H a o) ∧ StR K (upd H a o) M B bs (S.set r so') := by
  have ham : a ∈ M := List.mem_of_getElem? ha
  have s : Stp M H [] (upd H a o) := ⟨fun c u e n => by rw [upd_ne (fun z => n (by rw [z]; exact ham))]; exact e, fun c e => by
    by_cases hp : c = a
    · subst hp; rw [upd_same]; simp
    · rw [upd_ne hp]; exact e, fun _ h => nomatch h⟩
  have st : ∀ {q : SObj} {u : HO}, RpO K H M B q u → RpO K (upd H a o) M B q u := fun x => by
    have := RpO.stp h.trk s x
    rwa [List.append_nil] at this
  refine ⟨s, ⟨by simp [h.len], h.nd, fun r' q a' e1 e2 => ?_, fun c hc => ?_, h.mb, fun b r' q hb hr' e => ?_, by simp [h.le]⟩⟩
  · by_cases hrr : r' = r
    · subst hrr
      rw [ha] at e2; cases e2
      rw [List.getElem?_set_self (List.getElem?_eq_some_iff.mp hr).1] at e1
      cases e1
      exact ⟨o, upd_same, st ho⟩
    · rw [List.getElem?_set_ne (Ne.symm hrr)] at e1
      obtain ⟨u, hu, x⟩ := h.ob r' q a' e1 e2
      refine ⟨u, ?_, st x⟩
      rw [upd_ne]; exact hu
      rintro rfl
      exact hrr ((List.getElem?_inj (List.getElem?_eq_some_iff.mp e2).1 h.nd).mp (e2.trans ha.symm))
  · by_cases hp : c = a
    · subst hp; rw [upd_same]; simp
    · rw [upd_ne hp]; exact h.bd c hc
  · by_cases hrr : r' = r
    · subst hrr
      rw [List.getElem?_set_self (List.getElem?_eq_some_iff.mp hr).1] at e
      cases e
      exact hw b hb hr'
    · rw [List.getElem?_set_ne (Ne.symm hrr)] at e
      exact h.wf b r' q hb hr' e
theorem StR.at {r : Nat} {o : SObj} (h : StR K H M B bs S) (e : S[r]? = some o) : ∃ a u, M[r]? = some a ∧ H a = some u ∧ RpO K H M B o u := by
  have hr : r < M.length := by rw [h.len]; exact (List.getElem?_eq_some_iff.mp e).1
  obtain ⟨u, hu, x⟩ := h.ob r o M[r] e (List.getElem?_eq_getElem hr)
  exact ⟨M[r], u, List.getElem?_eq_getElem hr, hu, x⟩
end
end Ev
namespace Ev
open PySem PySem.Spec PyProof.Rows L2

/-! ### readings by values -/
/-- what comes: a value and a store, from a state -/
abbrev Post (K : Frag) (M : List Addr) (H : Hp) (B : Addr → Prop) (bs : Bs) (v : PV) (S' : Sto) (Q : VK) : Prop :=
  ∀ (H' : Hp) (N : List Addr) (x : V), Stp M H N H' → StR K H' (M ++ N) B bs S' → Rp K H' (M ++ N) B v x → Q x H'
abbrev F1 := PV → Sto → Option (PV × Sto)
abbrev F2 := PV → PV → Sto → Option (PV × Sto)
abbrev FL := List PV → Sto → Option (PV × Sto)
def RR2 (K : Frag) (bs : Bs) (f : F2) : R2 := fun x y H Q => ∃ M B S a b v S', StR K H M B bs S ∧ Rp K H M B a x ∧ Rp K H M B b y ∧ f a b S = some (v, S') ∧ Post K M H B bs v S' Q
def RR1 (K : Frag) (bs : Bs) (f : F1) : V → Hp → VK → Prop := fun x H Q => ∃ M B S a v S', StR K H M B bs S ∧ Rp K H M B a x ∧ f a S = some (v, S') ∧ Post K M H B bs v S' Q
def RRL (K : Frag) (bs : Bs) (f : FL) : List V → Hp → VK → Prop := fun xs H Q => ∃ M B S as v S', StR K H M B bs S ∧ RpL K H M B as xs ∧ f as S = some (v, S') ∧ Post K M H B bs v S' Q
def RRM (K : Frag) (bs : Bs) (f : PV → List PV → Sto → Option (PV × Sto)) : V → List V → Hp → VK → Prop := fun x xs H Q =>
  ∃ M B S a as v S', StR K H M B bs S ∧ Rp K H M B a x ∧ RpL K H M B as xs ∧ f a as S = some (v, S') ∧ Post K M H B bs v S' Q

section
variable {K : Frag} {M N : List Addr} {H H' : Hp} {B : Addr → Prop} {bs : Bs} {v w : PV} {S S' : Sto} {Q : VK}
/-- nothing has changed -/
theorem Post.same {x : V} (q : Post K M H B bs v S Q) (h : StR K H M B bs S) (r : Rp K H M B v x) : Q x H :=
  q H [] x Stp.refl (by rw [List.append_nil]; exact h) (by rw [List.append_nil]; exact r)
theorem Post.tup {xs : List PV} {vs : List V} (q : Post K M H B bs (.tup xs) S Q) (h : StR K H M B bs S) (r : RpL K H M B xs vs) : ∀ p (o : Obj), H p = none → o.dict = none → Q (.ref p) (upd H p (.frz o (.tup vs))) := fun p o n d =>
  q _ [] _ (Stp.new n) (by rw [List.append_nil]; exact h.new n) (by rw [List.append_nil]; exact .tup (.inl ⟨o, upd_same, d⟩) (r.new h n))
def mkL (m : Bool) (xs : List PV) (S : Sto) : PV × Sto := if m then (.ref S.length, S ++ [.lst xs]) else (.lst xs, S)
theorem Post.lst {m : Bool} {xs : List PV} {vs : List V} (e : mkL m xs S = (v, S')) (q : Post K M H B bs v S' Q) (h : StR K H M B bs S) (r : RpL K H M B xs vs) : ∀ p, H p = none → Q (.ref p) (upd H p (.lst vs)) := fun p n => by
  cases m with
  | false =>
    simp only [mkL, Bool.false_eq_true, if_false, Prod.mk.injEq] at e
    obtain ⟨rfl, rfl⟩ := e
    exact q _ [] _ (Stp.new n) (by rw [List.append_nil]; exact h.new n) (by rw [List.append_nil]; exact .lst upd_same (h.mfree n) (h.bfree n) (r.new h n))
  | true =>
    simp only [mkL, if_true, Prod.mk.injEq] at e
    obtain ⟨rfl, rfl⟩ := e
    refine q _ [p] _ (Stp.newM n) (h.newM n (.lst r)) (.ref ?_)
    rw [← h.len, List.getElem?_append_right (Nat.le_refl _)]; simp
def mkD (m : Bool) (kvs : List (Key × PV)) (S : Sto) : Option (PV × Sto) := if m then some (.ref S.length, S ++ [.dct kvs]) else match kvs with | [] => some (.edct, S) | _ => none
theorem Post.dct {m : Bool} {kvs : List (Key × PV)} {kws : List (Key × V)} (e : mkD m kvs S = some (v, S')) (q : Post K M H B bs v S' Q) (h : StR K H M B bs S) (r : KvR K H M B kvs kws) : ∀ p, H p = none → Q (.ref p) (upd H p (.dK kws)) := fun p n => by
  cases m with
  | false =>
    simp only [mkD, Bool.false_eq_true, if_false] at e
    cases kvs with
    | nil =>
      cases r
      cases e
      exact q _ [] _ (Stp.new n) (by rw [List.append_nil]; exact h.new n) (by rw [List.append_nil]; exact .edct upd_same (h.mfree n) (h.bfree n))
    | cons _ _ => cases e
  | true =>
    simp only [mkD, if_true, Option.some.injEq, Prod.mk.injEq] at e
    obtain ⟨rfl, rfl⟩ := e
    refine q _ [p] _ (Stp.newM n) (h.newM n (.dct r)) (.ref ?_)
    rw [← h.len, List.getElem?_append_right (Nat.le_refl _)]; simp
/-- an object of the store is written, the value then comes -/
theorem Post.write {r : Nat} {a : Addr} {so so' : SObj} {o : HO} {x : V} (q : Post K M H B bs v (S.set r so') Q) (h : StR K H M B bs S) (e : S[r]? = some so) (ha : M[r]? = some a) (ho : RpO K H M B so' o) (hw : ∀ b, bs.P b → r < b → so'.ltB b = true)
    (rv : Rp K (upd H a o) M B v x) : Q x (upd H a o) := by
  obtain ⟨s, h'⟩ := h.writeS e ha ho hw
  exact q _ [] _ s (by rw [List.append_nil]; exact h') (by rw [List.append_nil]; exact rv)
theorem Rp.write {r : Nat} {a : Addr} {so : SObj} {o : HO} {x : V} (h : StR K H M B bs S) (e : S[r]? = some so) (ha : M[r]? = some a) (rv : Rp K H M B v x) : Rp K (upd H a o) M B v x := by
  have ham : a ∈ M := List.mem_of_getElem? ha
  have s : Stp M H [] (upd H a o) := ⟨fun c u e n => by rw [upd_ne (fun z => n (by rw [z]; exact ham))]; exact e, fun c e => by
    by_cases hp : c = a
    · subst hp; rw [upd_same]; simp
    · rw [upd_ne hp]; exact e, fun _ h => nomatch h⟩
  have := rv.stp h.trk s
  rwa [List.append_nil] at this
end

/-! ### flat values -/
def flat : PV → Bool
  | .non => true | .bl _ => true | .int _ => true | .str _ => true | _ => false
def fv : PV → V
  | .bl b => .bl b | .int i => .int i | .str x => .str x | _ => .non
def eqF (a b : PV) : Bool := eqV (fv a) (fv b)
section
variable {K : Frag} {M : List Addr} {H : Hp} {B : Addr → Prop} {v : PV} {x : V} {xs : List PV} {vs : List V}
theorem Rp.flat (r : Rp K H M B v x) (f : flat v = true) : x = fv v ∧ flatV x = true := by
  cases r <;> first | exact ⟨rfl, rfl⟩ | cases f
theorem RpL.flat : ∀ {xs : List PV} {vs : List V}, RpL K H M B xs vs → xs.all Ev.flat = true → vs = xs.map fv ∧ vs.all flatV = true
  | _, _, .nil, _ => ⟨rfl, rfl⟩
  | _, _, .cons r q, f => by
    simp only [List.all_cons, Bool.and_eq_true] at f
    obtain ⟨e, g⟩ := r.flat f.1
    obtain ⟨e2, g2⟩ := RpL.flat q f.2
    exact ⟨by rw [e, e2]; rfl, by simp [g, g2]⟩
end

/-! ### sequences -/
/-- the items of a list or tuple -/
def seqOf (S : Sto) : PV → Option (List PV)
  | .lst xs => some xs
  | .tup xs => some xs
  | .scr ns => some (ns.map .int)
  | .ref r => match S[r]? with | some (.lst xs) => some xs | _ => none
  | _ => none
/-- .. of a list that is not locked -/
def lstOf (S : Sto) : PV → Option (List PV)
  | .lst xs => some xs
  | .ref r => match S[r]? with | some (.lst xs) => some xs | _ => none
  | _ => none
section
variable {K : Frag} {M : List Addr} {H : Hp} {B : Addr → Prop} {bs : Bs} {v : PV} {x : V} {xs : List PV} {vs : List V} {S : Sto}
theorem StR.lref {r : Nat} (h : StR K H M B bs S) (e : S[r]? = some (.lst xs)) : ∃ a vs, M[r]? = some a ∧ H a = some (.lst vs) ∧ RpL K H M B xs vs := by
  obtain ⟨a, u, h1, h2, h3⟩ := h.at e
  cases h3 with
  | lst h3 => exact ⟨a, _, h1, h2, h3⟩
theorem lstOf_rep (h : StR K H M B bs S) (r : Rp K H M B v x) (e : lstOf S v = some xs) : ∃ a vs, x = .ref a ∧ H a = some (.lst vs) ∧ RpL K H M B xs vs := by
  cases r with
  | lst h1 _ _ h4 => cases e; exact ⟨_, _, rfl, h1, h4⟩
  | ref hr =>
    rename_i r0 a0
    simp only [lstOf] at e
    split at e
    · rename_i ys hy
      cases e
      obtain ⟨a, vs, h1, h2, h3⟩ := h.lref hy
      rw [hr] at h1; cases h1
      exact ⟨_, _, rfl, h2, h3⟩
    · cases e
  | _ => cases e
theorem seqOf_rep (h : StR K H M B bs S) (r : Rp K H M B v x) (e : seqOf S v = some xs) : ∃ a vs, x = .ref a ∧ (SqL K H a vs ∨ SqT K H a vs) ∧ RpL K H M B xs vs := by
  cases r with
  | lst h1 _ _ h4 => cases e; exact ⟨_, _, rfl, .inl (SqL.of h1), h4⟩
  | tup h1 h2 => cases e; exact ⟨_, _, rfl, .inr h1.sq, h2⟩
  | scr h1 _ _ => cases e; exact ⟨_, _, rfl, .inl (.inl h1), RpL.ints _⟩
  | scrK h1 => cases e; exact ⟨_, _, rfl, .inl (.inr h1), RpL.ints _⟩
  | ref hr =>
    simp only [seqOf] at e
    split at e
    · rename_i ys hy
      cases e
      obtain ⟨a, vs, h1, h2, h3⟩ := h.lref hy
      rw [hr] at h1; cases h1
      exact ⟨_, _, rfl, .inl (SqL.of h2), h3⟩
    · cases e
  | _ => cases e
end

/-! ### operators -/
def lim (n : Nat) : Bool := decide (n ≤ sizeLine)
def pAdd (m : Bool) : F2 := fun a b S => match a, b with
  | .int i, .int j => some (.int (i + j), S)
  | .str x, .str y => if x.length + y.length ≤ sizeLine then some (.str (x ++ y), S) else none
  | .tup xs, .tup ys => if xs.length + ys.length ≤ sizeLine then some (.tup (xs ++ ys), S) else none
  | a, b => match lstOf S a, lstOf S b with
    | some xs, some ys => if xs.length + ys.length ≤ sizeLine then some (mkL m (xs ++ ys) S) else none
    | _, _ => none
def pSub : F2 := fun a b S => match a, b with
  | .int i, .int j => some (.int (i - j), S)
  | _, _ => none
def pMul (m : Bool) : F2 := fun a b S => match a, b with
  | .int i, .int j => if i.natAbs < 2 ^ 64 ∨ j.natAbs < 2 ^ 64 then some (.int (i * j), S) else none
  | .tup xs, .int k => if xs ≠ [] ∧ 2 ≤ k ∧ k ≤ 1000 ∧ xs.length ≤ 1000 then some (.tup (List.replicate k.toNat xs).flatten, S) else
      if k = 1 then some (.tup xs, S) else none
  | a, .int k => match lstOf S a with
    | some xs => if -(2 ^ 63) ≤ k ∧ k < 2 ^ 63 ∧ xs.length * k.toNat ≤ sizeLine then some (mkL m (List.replicate k.toNat xs).flatten S) else none
    | none => none
  | _, _ => none
def pDiv : F2 := fun a b S => match a, b with
  | .int i, .int j => if j ≠ 0 ∧ j.natAbs < 1073741824 then some (.int (i.fdiv j), S) else none
  | _, _ => none
def pMod : F2 := fun a b S => match a, b with
  | .int i, .int j => if j ≠ 0 then some (.int (i.fmod j), S) else none
  | _, _ => none
def pShl : F2 := fun a b S => match a, b with
  | .int i, .int j => if 0 ≤ j ∧ j ≤ 1000000 ∧ i.natAbs < 2 ^ 64 then some (.int (i * 2 ^ j.toNat), S) else none
  | _, _ => none
section
variable {X : Cx} {bs : Bs}
theorem ref_of {K : Frag} {M : List Addr} {H : Hp} {B : Addr → Prop} {xs : List PV} {x : V} (r : Rp K H M B (.tup xs) x) : ∃ a vs, x = .ref a ∧ SqT K H a vs ∧ RpL K H M B xs vs := by
  cases r with
  | tup h1 h2 => exact ⟨_, _, rfl, h1.sq, h2⟩
theorem ref_of' {K : Frag} {M : List Addr} {H : Hp} {B : Addr → Prop} {xs : List PV} {x : V} (r : Rp K H M B (.tup xs) x) : ∃ a vs, x = .ref a ∧ Tp K H a vs ∧ RpL K H M B xs vs := by
  cases r with
  | tup h1 h2 => exact ⟨_, _, rfl, h1, h2⟩
theorem op_catF {X : Cx} : OpR X (binaryOp .Add) (fun x y H Q => ∃ a b xs ys, x = .ref a ∧ y = .ref b ∧ SqT X.K H a xs ∧ SqT X.K H b ys ∧ xs ≠ [] ∧ ys ≠ [] ∧ xs.length + ys.length ≤ sizeLine ∧ ∀ p (o : Obj), H p = none → o.dict = none → Q (.ref p) (upd H p (.frz o (.tup (xs ++ ys))))) := by
  intro pins s σ H x y v u Q I rx ry h
  obtain ⟨a, b, xs, ys, rfl, rfl, ha, hb, hx, hy, hz, q⟩ := h
  cases rx; cases ry
  obtain ⟨its, r1, p1, _⟩ := I.tuple ha
  obtain ⟨its2, r2, p2, _⟩ := I.tuple hb
  refine HT.cat_tup p1 p2 (fun z => hx (r1.nil_iff.mp z)) (fun z => absurd (r2.nil_iff.mp z) hy) (fun z => ?_) (by rw [← r1.length, ← r2.length]; exact hz)
  exact ⟨.ref s.heap.objs.size, _, tupNew (t' := s.toks) I (r1.append r2) (by rw [List.length_append]; exact hz), rfl, q _ _ (I.hok.fresh (Nat.le_refl _)) rfl⟩
/-- the last part of HandS' rule for a tuple taken some times, with the object told -/
theorem op_repF {X : Cx} : OpR X (binaryOp .Mult) (fun x y H Q => ∃ l k xs, x = .ref l ∧ y = .int k ∧ SqT X.K H l xs ∧ xs ≠ [] ∧ 2 ≤ k ∧ k ≤ 1000 ∧ xs.length ≤ 1000 ∧ ∀ p (o : Obj), H p = none → o.dict = none → Q (.ref p) (upd H p (.frz o (.tup (List.replicate k.toNat xs).flatten)))) := by
  intro pins s σ H x y v u Q I rx ry h
  obtain ⟨l, k, xs, rfl, rfl, hT, hne, h1, h2, hz, q⟩ := h
  cases rx
  obtain ⟨t, rfl⟩ := ry
  obtain ⟨its, r, ⟨⟨cls, dd, data, sl⟩, ho, hc, n, hd⟩, hs⟩ := I.tuple hT
  simp only at hc hd
  subst hc hd
  have hle : its.length = xs.length := r.length.symm
  have hpos : 0 < its.length := by rw [hle]; exact List.length_pos_iff.mpr hne
  have hi : its.toArray.isEmpty = false := by cases its with | nil => simp at hpos | cons a b => rfl
  have prod : its.length * k.toNat ≤ 1000000 := by rw [hle]; exact Nat.le_trans (Nat.mul_le_mul hz (by omega : k.toNat ≤ 1000)) (by decide)
  have prodI : ((its.toArray.size : Nat) : Int) * k ≤ 1000000 := by
    have e : k = ((k.toNat : Nat) : Int) := by omega
    rw [e, List.size_toArray, ← Int.natCast_mul]; omega
  have fl : (List.replicate k.toNat its).flatten.length ≤ sizeLine := by
    rw [PyProof.Rows.lm_len_rep_flat, sizeLine_eq, Nat.mul_comm]; omega
  refine wpAny_binaryOp_repeat_ref (T := "tuple") (U := "int") (by decide) ⟨_, ho, rfl⟩ (fun s' => typeIs_int s' k t) noFill_tuple_mul F.fills_int_mul F.slot_int_rmul repeat_tuple F.slot_int_index.lookup
    (call_meets F.slot_int_rmul (typeIs_int s k t) F.entry_int_rmul (F.args_int_rmul_2 _ _) (int_rmul_tuple k t l its.toArray n dd sl)
      ⟨ho, rfl, ⟨_, ho, rfl⟩, call_meets F.slot_tuple_mul ⟨_, ho, rfl⟩ F.entry_tuple_mul (F.args_tuple_mul_2 _ _)
        (tuple_mulW l its.toArray n dd sl k t (by rw [decide_eq_false (by omega), decide_eq_false (by omega)]; rfl) (by rw [hi, Bool.false_or]; exact beq_eq_false_iff_ne.mpr (by omega)) (by rw [hi, Bool.or_false]; exact decide_eq_false (by omega)) (by omega)
          (by unfold Builtin.Tuple.tupleTooMany; rw [sizeLine_eq]; exact decide_eq_false (by omega)) (by rw [size_rep, List.size_toArray]; exact fl)) ⟨ho, ?_⟩⟩)
  rw [size_rep]
  refine ⟨.ref s.heap.objs.size, _, tupNew (t' := s.toks) I (r.rep k.toNat) ?_, rfl, q _ _ (I.hok.fresh (Nat.le_refl _)) rfl⟩
  rw [PyProof.Rows.lm_len_rep_flat] at fl ⊢
  rw [← hle]; exact fl
theorem op_pAdd {m : Bool} : OpR X (binaryOp .Add) (RR2 X.K bs (pAdd m)) := by
  intro pins s σ H x y v u Q I rx ry h
  obtain ⟨M, B, S, a, b, w, S', hS, ra, rb, e, q⟩ := h
  have lists : (match lstOf S a, lstOf S b with
    | some xs, some ys => if xs.length + ys.length ≤ sizeLine then some (mkL m (xs ++ ys) S) else none
    | _, _ => none) = some (w, S') → wpAny (model X.prog X.w) X.A (binaryOp .Add v u) (EP X pins σ Q) X.xe s := fun e => by
    split at e
    · rename_i xs ys h1 h2
      split at e
      · rename_i hz
        obtain ⟨p, vs, rfl, hp, r1⟩ := lstOf_rep hS ra h1
        obtain ⟨p2, vs2, rfl, hp2, r2⟩ := lstOf_rep hS rb h2
        refine op_cat pins s σ H _ _ v u Q I rx ry ⟨p, p2, vs, vs2, rfl, rfl, hp, hp2, by rw [r1.length, r2.length]; exact hz, ?_⟩
        exact Post.lst (Option.some.inj e) q hS (r1.append r2)
      · cases e
    · cases e
  unfold pAdd at e
  split at e
  · cases e
    cases ra; cases rb
    exact op_add pins s σ H _ _ v u Q I rx ry ⟨_, _, rfl, rfl, q.same hS (.int _)⟩
  · split at e
    · rename_i hz
      cases e
      cases ra; cases rb
      exact op_add_str pins s σ H _ _ v u Q I rx ry ⟨_, _, rfl, rfl, hz, q.same hS (.str _)⟩
    · cases e
  · rename_i xs ys
    split at e
    · rename_i hz
      cases e
      obtain ⟨p, vs, rfl, hp, r1⟩ := ref_of ra
      obtain ⟨p2, vs2, rfl, hp2, r2⟩ := ref_of rb
      have l1 := r1.length
      have l2 := r2.length
      by_cases z : vs = []
      · refine op_catA pins s σ H _ _ v u Q I rx ry ⟨p, p2, vs, vs2, rfl, rfl, hp, hp2, by rw [l1, l2]; exact hz, fun z => ?_, fun z' => absurd z z', fun z' => absurd z z'⟩
        subst z
        have : xs = [] := by simpa using l1.symm
        subst this
        exact q.same hS (by simpa using rb)
      · by_cases z2 : vs2 = []
        · refine op_catA pins s σ H _ _ v u Q I rx ry ⟨p, p2, vs, vs2, rfl, rfl, hp, hp2, by rw [l1, l2]; exact hz, fun z' => absurd z' z, fun _ _ => ?_, fun _ z' => absurd z2 z'⟩
          subst z2
          have : ys = [] := by simpa using l2.symm
          subst this
          exact q.same hS (by simpa using ra)
        · exact op_catF pins s σ H _ _ v u Q I rx ry ⟨p, p2, vs, vs2, rfl, rfl, hp, hp2, z, z2, by rw [l1, l2]; exact hz, q.tup hS (r1.append r2)⟩
    · cases e
  · exact lists e
theorem op_pSub : OpR X (binaryOp .Sub) (RR2 X.K bs pSub) := by
  intro pins s σ H x y v u Q I rx ry h
  obtain ⟨M, B, S, a, b, w, S', hS, ra, rb, e, q⟩ := h
  unfold pSub at e
  split at e
  · cases e
    cases ra; cases rb
    exact op_sub pins s σ H _ _ v u Q I rx ry ⟨_, _, rfl, rfl, q.same hS (.int _)⟩
  · cases e
theorem op_pDiv : OpR X (binaryOp .FloorDiv) (RR2 X.K bs pDiv) := by
  intro pins s σ H x y v u Q I rx ry h
  obtain ⟨M, B, S, a, b, w, S', hS, ra, rb, e, q⟩ := h
  unfold pDiv at e
  split at e
  · split at e
    · rename_i hz
      cases e
      cases ra; cases rb
      exact op_fdivN pins s σ H _ _ v u Q I rx ry ⟨_, _, rfl, rfl, hz, q.same hS (.int _)⟩
    · cases e
  · cases e
theorem op_pMod : OpR X (binaryOp .Mod) (RR2 X.K bs pMod) := by
  intro pins s σ H x y v u Q I rx ry h
  obtain ⟨M, B, S, a, b, w, S', hS, ra, rb, e, q⟩ := h
  unfold pMod at e
  split at e
  · split at e
    · rename_i hz
      cases e
      cases ra; cases rb
      exact op_modN pins s σ H _ _ v u Q I rx ry ⟨_, _, rfl, rfl, hz, q.same hS (.int _)⟩
    · cases e
  · cases e
theorem op_pShl : OpR X (binaryOp .LShift) (RR2 X.K bs pShl) := by
  intro pins s σ H x y v u Q I rx ry h
  obtain ⟨M, B, S, a, b, w, S', hS, ra, rb, e, q⟩ := h
  unfold pShl at e
  split at e
  · split at e
    · rename_i hz
      cases e
      cases ra; cases rb
      exact op_shl pins s σ H _ _ v u Q I rx ry ⟨_, _, rfl, rfl, hz, q.same hS (.int _)⟩
    · cases e
  · cases e
theorem tupTimes1 (l : Addr) (items : Array Value) (n : Nat) (dd : Option Addr) (sl : Array (Option Value)) (u : Tok) :
    Meets (Builtin.«tuple.__mul__» ⟨[.ref l, .int 1 u], []⟩) (fun _ R s => s.heap.get? l = some { cls := .type "tuple", dict := dd, data := .seq items n, slots := sl } ∧
      R (.ok (.ret (Value.ref l))) s) :=
  .of_wp fun prog w A R s h => by
    obtain ⟨hp, g, d, tk, os⟩ := s
    obtain ⟨hl, h⟩ := h
    have f1 := AutoSeq1.idx_int
    have c1 : (items.isEmpty || (1 : Int) == 1) = true := by simp
    wp_walk using wpAny_loadPart' hl
    exact ⟨_, rfl, h⟩
theorem op_repT1 {X : Cx} : OpR X (binaryOp .Mult) (fun x y H Q => ∃ l xs, x = .ref l ∧ y = .int 1 ∧ SqT X.K H l xs ∧ Q (.ref l) H) := by
  intro pins s σ H x y v u Q I rx ry h
  obtain ⟨l, xs, rfl, rfl, hT, q⟩ := h
  cases rx
  obtain ⟨t, rfl⟩ := ry
  obtain ⟨its, r, ⟨⟨cls, dd, data, sl⟩, ho, hc, n, hd⟩, hs⟩ := I.tuple hT
  simp only at hc hd
  subst hc hd
  exact wpAny_binaryOp_repeat_ref (T := "tuple") (U := "int") (by decide) ⟨_, ho, rfl⟩ (fun s' => typeIs_int s' 1 t) noFill_tuple_mul F.fills_int_mul F.slot_int_rmul repeat_tuple F.slot_int_index.lookup
    (call_meets F.slot_int_rmul (typeIs_int s 1 t) F.entry_int_rmul (F.args_int_rmul_2 _ _) (int_rmul_tuple 1 t l its.toArray n dd sl)
      ⟨ho, rfl, ⟨_, ho, rfl⟩, call_meets F.slot_tuple_mul ⟨_, ho, rfl⟩ F.entry_tuple_mul (F.args_tuple_mul_2 _ _) (tupTimes1 l its.toArray n dd sl t) ⟨ho, ⟨.ref l, H, I, rfl, q⟩⟩⟩)
theorem natAbs_CMul {i j : Int} (h : i.natAbs < 2 ^ 64 ∨ j.natAbs < 2 ^ 64) : CMul i j := by
  rcases h with h | h
  · left; constructor <;> omega
  · right; constructor <;> omega
theorem op_pMul {m : Bool} : OpR X (binaryOp .Mult) (RR2 X.K bs (pMul m)) := by
  intro pins s σ H x y v u Q I rx ry h
  obtain ⟨M, B, S, a, b, w, S', hS, ra, rb, e, q⟩ := h
  unfold pMul at e
  split at e
  · split at e
    · rename_i hz
      cases e
      cases ra; cases rb
      exact op_mul pins s σ H _ _ v u Q I rx ry ⟨_, _, rfl, rfl, natAbs_CMul hz, q.same hS (.int _)⟩
    · cases e
  · rename_i xs k
    obtain ⟨p, vs, rfl, hp, r1⟩ := ref_of ra
    cases rb
    split at e
    · rename_i hz
      cases e
      have l1 := r1.length
      refine op_repF pins s σ H _ _ v u Q I rx ry ⟨p, k, vs, rfl, rfl, hp, fun z => hz.1 (by subst z; simpa using l1.symm), hz.2.1, hz.2.2.1, by rw [l1]; exact hz.2.2.2, ?_⟩
      exact q.tup hS (r1.rep _)
    · split at e
      · rename_i h1
        cases e
        subst h1
        exact op_repT1 pins s σ H _ _ v u Q I rx ry ⟨p, vs, rfl, rfl, hp, q.same hS ra⟩
      · cases e
  · rename_i k _ _
    cases rb
    split at e
    · rename_i xs h1
      split at e
      · rename_i hz
        obtain ⟨p, vs, rfl, hp, r1⟩ := lstOf_rep hS ra h1
        refine op_rep pins s σ H _ _ v u Q I rx ry ⟨p, k, vs, rfl, rfl, hp, hz.1, hz.2.1, by rw [r1.length]; exact hz.2.2, ?_⟩
        exact Post.lst (Option.some.inj e) q hS (r1.rep _)
      · cases e
    · cases e
  · cases e
end
end Ev
namespace Ev
open PySem PySem.Spec PyProof.Rows L2

/-! ### plain data -/
mutual
def toD : PV → Option PyData
  | .non => some .none
  | .bl b => some (.bool b)
  | .int i => some (.int i)
  | .str x => some (.str x)
  | .tup xs => (toDs xs).map .tuple
  | .lst xs => (toDs xs).map .list
  | _ => none
def toDs : List PV → Option (List PyData)
  | [] => some []
  | x :: r => match toD x, toDs r with
    | some d, some ds => some (d :: ds)
    | _, _ => none
end
/-- a ref's own list -/
def deref (S : Sto) (v : PV) : PV := match v with
  | .ref r => match S[r]? with | some (.lst xs) => .lst xs | _ => v
  | v => v
section
variable {K : Frag} {M : List Addr} {H : Hp} {B : Addr → Prop} {bs : Bs} {S : Sto}
mutual
theorem Rp.dp : ∀ {v : PV} {x : V} {d : PyData}, Rp K H M B v x → toD v = some d → Dp K H x d
  | .non, _, d, h, e => by cases h; cases e; exact .non
  | .bl b, _, d, h, e => by cases h; cases e; exact .bl b
  | .int i, _, d, h, e => by cases h; cases e; exact .int i
  | .str x, _, d, h, e => by cases h; cases e; exact .str x
  | .tup xs, _, d, h, e => by
    cases h with
    | tup h1 h2 =>
      have h1 := h1.sq
      rw [toD] at e
      cases q : toDs xs with
      | none => rw [q] at e; cases e
      | some ds => rw [q] at e; cases e; exact .tup h1 (RpL.dp h2 q)
  | .lst xs, _, d, h, e => by
    cases h with
    | lst h1 _ _ h2 =>
      rw [toD] at e
      cases q : toDs xs with
      | none => rw [q] at e; cases e
      | some ds => rw [q] at e; cases e; exact .lst (SqL.of h1) (RpL.dp h2 q)
  | .edct, _, _, _, e => by cases e
  | .ref _, _, _, _, e => by cases e
  | .scr _, _, _, _, e => by cases e
theorem RpL.dp : ∀ {vs : List PV} {xs : List V} {ds : List PyData}, RpL K H M B vs xs → toDs vs = some ds → DpAll K H xs ds
  | [], _, ds, h, e => by cases h; cases e; exact .nil
  | v :: vs, _, ds, h, e => by
    cases h with
    | cons h1 h2 =>
      rw [toDs] at e
      cases q1 : toD v with
      | none => rw [q1] at e; cases e
      | some d =>
        cases q2 : toDs vs with
        | none => rw [q1, q2] at e; cases e
        | some es => rw [q1, q2] at e; cases e; exact .cons (Rp.dp h1 q1) (RpL.dp h2 q2)
end
theorem deref_dp {v : PV} {x : V} {d : PyData} (h : StR K H M B bs S) (r : Rp K H M B v x) (e : toD (deref S v) = some d) : Dp K H x d := by
  unfold deref at e
  split at e
  · rename_i r0
    split at e
    · rename_i xs hx
      cases r with
      | ref hr =>
        obtain ⟨a, vs, h1, h2, h3⟩ := h.lref hx
        rw [hr] at h1; cases h1
        rw [toD] at e
        cases q : toDs xs with
        | none => rw [q] at e; cases e
        | some ds => rw [q] at e; cases e; exact .lst (SqL.of h2) (h3.dp q)
    · cases e
  · exact r.dp e
end

/-! ### == -/
def eqPV (S : Sto) (a b : PV) : Option Bool :=
  if flat a && flat b then (if scal (fv a) (fv b) = true then some (decide (fv a = fv b)) else none) else
  match a, b with
  | .tup xs, .tup [] => some xs.isEmpty
  | a, b => match toD (deref S a), toD (deref S b) with
    | some d, some e => if SeqAt.shaped d && SeqAt.shaped e then some (PyData.eqv d e) else none
    | _, _ => none
def cmpI (op : CmpOp) (i j : Int) : Option Bool := match op with
  | .Lt => some (decide (i < j)) | .LtE => some (decide (i ≤ j)) | .Gt => some (decide (j < i)) | .GtE => some (decide (j ≤ i)) | _ => none
def isNon : PV → Bool
  | .non => true
  | _ => false
def pCmp (op : CmpOp) (a b : PV) (S : Sto) : Option Bool := match op with
  | .Eq => eqPV S a b
  | .NotEq => (eqPV S a b).map (!·)
  | .In => match seqOf S b with
    | some ys => if flat a && ys.all flat then some (inV (fv a) (ys.map fv)) else none
    | none => none
  | .NotIn => match seqOf S b with
    | some ys => if flat a && ys.all flat then some (!inV (fv a) (ys.map fv)) else none
    | none => none
  | .Is => match b with | .non => some (isNon a) | _ => none
  | .IsNot => match b with | .non => some (!isNon a) | _ => none
  | op => match a, b with
    | .int i, .int j => cmpI op i j
    | _, _ => none
def RRC (K : Frag) (bs : Bs) (op : CmpOp) : R2 := RR2 K bs fun a b S => (pCmp op a b S).map fun c => (.bl c, S)
/-- room for what looks at data -/
def Rm (X : Cx) : Prop := X.A.units + 65 < cLine
section
variable {X : Cx} {bs : Bs}
theorem tup_eq_nil (hu : X.A.units < cLine) : OpR X (compareOp .Eq) (fun x y H Q => ∃ a b xs, x = .ref a ∧ y = .ref b ∧ SqT X.K H a xs ∧ SqT X.K H b [] ∧ Q (.bl xs.isEmpty) H) := by
  intro pins s σ H x y v u Q I rx ry h
  obtain ⟨a, b, xs, rfl, rfl, ha, hb, q⟩ := h
  cases rx; cases ry
  obtain ⟨its, r, t1, _⟩ := I.tuple ha
  obtain ⟨its2, r2, t2, _⟩ := I.tuple hb
  cases r2
  refine SeqAt.RcAt.tuples (e := fun _ => false) (show s.heap.IsTuple a its.toArray from t1) (show s.heap.IsTuple b ([] : List Value).toArray from t2) hu (fun j h1 h2 => absurd h2 (by simp)) X.prog X.w X.xe _ ⟨.bl xs.isEmpty, H, I, ?_, q⟩
  show Value.bool _ = Value.bool _
  have l := r.length
  cases xs <;> cases its <;> simp at l ⊢
theorem tup_ne_nil (hu : X.A.units < cLine) : OpR X (compareOp .NotEq) (fun x y H Q => ∃ a b xs, x = .ref a ∧ y = .ref b ∧ SqT X.K H a xs ∧ SqT X.K H b [] ∧ Q (.bl (!xs.isEmpty)) H) := by
  intro pins s σ H x y v u Q I rx ry h
  obtain ⟨a, b, xs, rfl, rfl, ha, hb, q⟩ := h
  cases rx; cases ry
  obtain ⟨its, r, t1, _⟩ := I.tuple ha
  obtain ⟨its2, r2, t2, _⟩ := I.tuple hb
  cases r2
  refine SeqAt.RcNeAt.tuples (e := fun _ => false) (show s.heap.IsTuple a its.toArray from t1) (show s.heap.IsTuple b ([] : List Value).toArray from t2) hu (fun j h1 h2 => absurd h2 (by simp)) X.prog X.w X.xe _ ⟨.bl (!xs.isEmpty), H, I, ?_, q⟩
  show Value.bool _ = Value.bool _
  have l := r.length
  cases xs <;> cases its <;> simp at l ⊢
theorem op_eqPV (hu : Rm X) : OpR X (compareOp .Eq) (RRC X.K bs .Eq) := by
  intro pins s σ H x y v u Q I rx ry h
  obtain ⟨M, B, S, a, b, w, S', hS, ra, rb, e, q⟩ := h
  simp only [pCmp] at e
  have he : ∃ c, eqPV S a b = some c ∧ w = .bl c ∧ S' = S := by
    cases h0 : eqPV S a b with
    | none => rw [h0] at e; cases e
    | some c => rw [h0] at e; cases e; exact ⟨c, rfl, rfl, rfl⟩
  obtain ⟨c, he, rfl, rfl⟩ := he
  have q' : Q (.bl c) H := q.same hS (.bl c)
  unfold eqPV at he
  split at he
  · rename_i hf
    simp only [Bool.and_eq_true] at hf
    split at he
    · rename_i hs
      cases he
      obtain ⟨e1, _⟩ := ra.flat hf.1
      obtain ⟨e2, _⟩ := rb.flat hf.2
      subst e1; subst e2
      exact op_eq pins s σ H _ _ v u Q I rx ry ⟨hs, q'⟩
    · cases he
  · split at he
    · cases he
      obtain ⟨p, vs, rfl, hp, r1⟩ := ref_of ra
      obtain ⟨p2, vs2, rfl, hp2, r2⟩ := ref_of rb
      cases r2
      refine tup_eq_nil (Nat.lt_of_le_of_lt (Nat.le_add_right _ 65) hu) pins s σ H _ _ v u Q I rx ry ⟨p, p2, vs, rfl, rfl, hp, hp2, ?_⟩
      have l := r1.length
      rename_i xs _
      have : vs.isEmpty = xs.isEmpty := by
        cases vs <;> cases xs <;> simp at l ⊢
      rw [this]; exact q'
    · split at he
      · rename_i d d2 h1 h2
        split at he
        · rename_i hs
          simp only [Bool.and_eq_true] at hs
          cases he
          exact op_eqD (show X.A.units + 64 < cLine from Nat.lt_of_succ_lt hu) pins s σ H _ _ v u Q I rx ry ⟨d, d2, deref_dp hS ra h1, deref_dp hS rb h2, hs.1, hs.2, q'⟩
        · cases he
      · cases he
theorem op_nePV (hu : Rm X) : OpR X (compareOp .NotEq) (RRC X.K bs .NotEq) := by
  intro pins s σ H x y v u Q I rx ry h
  obtain ⟨M, B, S, a, b, w, S', hS, ra, rb, e, q⟩ := h
  simp only [pCmp] at e
  have he : ∃ c, eqPV S a b = some c ∧ w = .bl (!c) ∧ S' = S := by
    cases h0 : eqPV S a b with
    | none => rw [h0] at e; cases e
    | some c => rw [h0] at e; cases e; exact ⟨c, rfl, rfl, rfl⟩
  obtain ⟨c, he, rfl, rfl⟩ := he
  have q' : Q (.bl (!c)) H := q.same hS (.bl _)
  unfold eqPV at he
  split at he
  · rename_i hf
    simp only [Bool.and_eq_true] at hf
    split at he
    · rename_i hs
      cases he
      obtain ⟨e1, _⟩ := ra.flat hf.1
      obtain ⟨e2, _⟩ := rb.flat hf.2
      subst e1; subst e2
      exact op_ne pins s σ H _ _ v u Q I rx ry ⟨hs, q'⟩
    · cases he
  · split at he
    · cases he
      obtain ⟨p, vs, rfl, hp, r1⟩ := ref_of ra
      obtain ⟨p2, vs2, rfl, hp2, r2⟩ := ref_of rb
      cases r2
      refine tup_ne_nil (Nat.lt_of_le_of_lt (Nat.le_add_right _ 65) hu) pins s σ H _ _ v u Q I rx ry ⟨p, p2, vs, rfl, rfl, hp, hp2, ?_⟩
      have l := r1.length
      rename_i xs _
      have : vs.isEmpty = xs.isEmpty := by
        cases vs <;> cases xs <;> simp at l ⊢
      rw [this]; exact q'
    · split at he
      · rename_i d d2 h1 h2
        split at he
        · rename_i hs
          simp only [Bool.and_eq_true] at hs
          cases he
          exact op_neD (show X.A.units + 64 < cLine from Nat.lt_of_succ_lt hu) pins s σ H _ _ v u Q I rx ry ⟨d, d2, deref_dp hS ra h1, deref_dp hS rb h2, hs.1, hs.2, q'⟩
        · cases he
      · cases he
theorem op_inPV : OpR X (compareOp .In) (RRC X.K bs .In) := by
  intro pins s σ H x y v u Q I rx ry h
  obtain ⟨M, B, S, a, b, w, S', hS, ra, rb, e, q⟩ := h
  simp only [pCmp] at e
  split at e
  · rename_i ys hy
    split at e
    · rename_i hf
      simp only [Bool.and_eq_true] at hf
      cases e
      obtain ⟨p, vs, rfl, hp, r1⟩ := seqOf_rep hS rb hy
      obtain ⟨e1, f1⟩ := ra.flat hf.1
      obtain ⟨e2, f2⟩ := r1.flat hf.2
      subst e1; subst e2
      exact op_in_seq pins s σ H _ _ v u Q I rx ry ⟨p, _, rfl, hp, f1, f2, q.same hS (.bl _)⟩
    · cases e
  · cases e
theorem op_notInPV : OpR X (compareOp .NotIn) (RRC X.K bs .NotIn) := by
  intro pins s σ H x y v u Q I rx ry h
  obtain ⟨M, B, S, a, b, w, S', hS, ra, rb, e, q⟩ := h
  simp only [pCmp] at e
  split at e
  · rename_i ys hy
    split at e
    · rename_i hf
      simp only [Bool.and_eq_true] at hf
      cases e
      obtain ⟨p, vs, rfl, hp, r1⟩ := seqOf_rep hS rb hy
      obtain ⟨e1, f1⟩ := ra.flat hf.1
      obtain ⟨e2, f2⟩ := r1.flat hf.2
      subst e1; subst e2
      exact op_notIn_seq pins s σ H _ _ v u Q I rx ry ⟨p, _, rfl, hp, f1, f2, q.same hS (.bl _)⟩
    · cases e
  · cases e
theorem op_isPV : OpR X (compareOp .Is) (RRC X.K bs .Is) := by
  intro pins s σ H x y v u Q I rx ry h
  obtain ⟨M, B, S, a, b, w, S', hS, ra, rb, e, q⟩ := h
  simp only [pCmp] at e
  split at e
  · cases e
    cases rb
    refine op_isN pins s σ H _ _ v u Q I rx ry ⟨rfl, ?_⟩
    have : (decide (x = V.non)) = isNon a := by cases ra <;> rfl
    rw [this]
    exact q.same hS (.bl _)
  · cases e
theorem op_isNotPV : OpR X (compareOp .IsNot) (RRC X.K bs .IsNot) := by
  intro pins s σ H x y v u Q I rx ry h
  obtain ⟨M, B, S, a, b, w, S', hS, ra, rb, e, q⟩ := h
  simp only [pCmp] at e
  split at e
  · cases e
    cases rb
    refine op_notN pins s σ H _ _ v u Q I rx ry ⟨rfl, ?_⟩
    have : (!decide (x = V.non)) = (!isNon a) := by cases ra <;> rfl
    rw [this]
    exact q.same hS (.bl _)
  · cases e
theorem op_ordPV {op : CmpOp} (hop : op = .Lt ∨ op = .LtE ∨ op = .Gt ∨ op = .GtE) : OpR X (compareOp op) (RRC X.K bs op) := by
  intro pins s σ H x y v u Q I rx ry h
  obtain ⟨M, B, S, a, b, w, S', hS, ra, rb, e, q⟩ := h
  rcases hop with rfl | rfl | rfl | rfl <;> simp only [pCmp] at e <;> split at e <;> simp only [cmpI, Option.map_some, Option.map_none, Option.some.injEq, Prod.mk.injEq, reduceCtorEq] at e <;> obtain ⟨rfl, rfl⟩ := e <;> cases ra <;> cases rb
  · exact op_lt pins s σ H _ _ v u Q I rx ry ⟨_, _, rfl, rfl, q.same hS (.bl _)⟩
  · exact op_le pins s σ H _ _ v u Q I rx ry ⟨_, _, rfl, rfl, q.same hS (.bl _)⟩
  · exact op_gt pins s σ H _ _ v u Q I rx ry ⟨_, _, rfl, rfl, q.same hS (.bl _)⟩
  · exact op_ge pins s σ H _ _ v u Q I rx ry ⟨_, _, rfl, rfl, q.same hS (.bl _)⟩
theorem op_cmpPV (hu : Rm X) (op : CmpOp) : OpR X (compareOp op) (RRC X.K bs op) := by
  cases op with
  | Eq => exact op_eqPV hu
  | NotEq => exact op_nePV hu
  | Lt => exact op_ordPV (.inl rfl)
  | LtE => exact op_ordPV (.inr (.inl rfl))
  | Gt => exact op_ordPV (.inr (.inr (.inl rfl)))
  | GtE => exact op_ordPV (.inr (.inr (.inr rfl)))
  | In => exact op_inPV
  | NotIn => exact op_notInPV
  | Is => exact op_isPV
  | IsNot => exact op_isNotPV
end
end Ev
namespace Ev
open PySem PySem.Spec PyProof.Rows L2

/-! ### truth -/
def truthy (S : Sto) (v : PV) : Option Bool := match v with
  | .non => some false
  | .bl b => some b
  | .int i => some (i != 0)
  | .str y => if y.length ≤ sizeLine then some ((y.length : Int) != 0) else none
  | v => match seqOf S v with
    | some xs => some (!xs.isEmpty)
    | none => none
section
variable {X : Cx} {bs : Bs}
theorem isEmpty_rep {K : Frag} {M : List Addr} {H : Hp} {B : Addr → Prop} {xs : List PV} {vs : List V} (r : RpL K H M B xs vs) : vs.isEmpty = xs.isEmpty := by cases r <;> rfl
theorem truthy_rep {K : Frag} {M : List Addr} {H : Hp} {B : Addr → Prop} {S : Sto} {v : PV} {x : V} {k : Bool} (h : StR K H M B bs S) (r : Rp K H M B v x) (e : truthy S v = some k) : TruV K x H k := by
  have seqs : (match seqOf S v with
    | some xs => some (!xs.isEmpty)
    | none => none) = some k → TruV K x H k := fun e => by
    split at e
    · rename_i xs hx
      cases e
      obtain ⟨a, vs, rfl, hs, r1⟩ := seqOf_rep h r hx
      rcases hs with hs | hs
      · exact .inl ⟨vs, hs, by rw [isEmpty_rep r1]⟩
      · exact .inr (.inl ⟨vs, hs, by rw [isEmpty_rep r1]⟩)
    · cases e
  unfold truthy at e
  split at e
  · cases r; cases e; exact rfl
  · cases r; cases e; exact rfl
  · cases r; cases e; exact rfl
  · cases r
    split at e
    · rename_i hz; cases e; exact ⟨hz, rfl⟩
    · cases e
  · exact seqs e

/-! ### calls of built-ins, by values -/
def pLen : FL := fun as S => match as with
  | [.str x] => if x.length ≤ sizeLine then some (.int x.length, S) else none
  | [v] => (seqOf S v).map fun xs => (.int xs.length, S)
  | _ => none
theorem cr_len : CallR X (.builtin "len") (RRL X.K bs pLen) := by
  intro pins s σ H xs us Q I r h
  obtain ⟨M, B, S, as, w, S', hS, ra, e, q⟩ := h
  unfold pLen at e
  split at e
  · split at e
    · rename_i hz
      cases e
      cases ra with
      | cons h1 h2 =>
        cases h1; cases h2
        exact call_len pins s σ H _ us Q I r ⟨_, _, rfl, ⟨hz, rfl⟩, q.same hS (.int _)⟩
    · cases e
  · cases ra with
    | cons h1 h2 =>
      cases h2
      rename_i v _ x
      cases hx : seqOf S v with
      | none => rw [hx] at e; cases e
      | some ys =>
        rw [hx] at e; cases e
        obtain ⟨a, vs, rfl, hs, r1⟩ := seqOf_rep hS h1 hx
        refine call_len pins s σ H _ us Q I r ⟨_, vs.length, rfl, ?_, by rw [r1.length]; exact q.same hS (.int _)⟩
        rcases hs with hs | hs
        · exact .inl ⟨vs, hs, rfl⟩
        · exact .inr ⟨vs, hs, rfl⟩
  · cases e
def b2z (b : Bool) : Int := if b then 1 else 0
def pInt : FL := fun as S => match as with
  | [.int i] => some (.int i, S)
  | [.bl b] => some (.int (b2z b), S)
  | _ => none
theorem cr_int : CallR X (.type "int") (RRL X.K bs pInt) := by
  intro pins s σ H xs us Q I r h
  obtain ⟨M, B, S, as, w, S', hS, ra, e, q⟩ := h
  unfold pInt at e
  split at e
  · cases e
    cases ra with
    | cons h1 h2 => cases h1; cases h2; exact call_int1 pins s σ H _ us Q I r (.inl ⟨_, rfl, q.same hS (.int _)⟩)
  · cases e
    cases ra with
    | cons h1 h2 => cases h1; cases h2; exact call_int1 pins s σ H _ us Q I r (.inr ⟨_, rfl, q.same hS (.int _)⟩)
  · cases e
def pAbs : FL := fun as S => match as with
  | [.int i] => some (.int (if i < 0 then -i else i), S)
  | _ => none
theorem cr_abs : CallR X (.builtin "abs") (RRL X.K bs pAbs) := by
  intro pins s σ H xs us Q I r h
  obtain ⟨M, B, S, as, w, S', hS, ra, e, q⟩ := h
  unfold pAbs at e
  split at e
  · cases e
    cases ra with
    | cons h1 h2 => cases h1; cases h2; exact call_abs pins s σ H _ us Q I r ⟨_, rfl, q.same hS (.int _)⟩
  · cases e
def pMax : FL := fun as S => match as with
  | [.int i, .int j] => some (.int (if j > i then j else i), S)
  | _ => none
theorem cr_max2 (hc : X.calm = true) : CallR X (.builtin "max") (RRL X.K bs pMax) := by
  intro pins s σ H xs us Q I r h
  obtain ⟨M, B, S, as, w, S', hS, ra, e, q⟩ := h
  unfold pMax at e
  split at e
  · cases e
    cases ra with
    | cons h1 h2 =>
      cases h2 with
      | cons h2 h3 => cases h1; cases h2; cases h3; exact call_max2 hc pins s σ H _ us Q I r ⟨_, _, rfl, q.same hS (.int _)⟩
  · cases e
/-- all ints -/
def ints? : List PV → Option (List Int)
  | [] => some []
  | .int i :: r => (ints? r).map (i :: ·)
  | _ => none
def bls? : List PV → Option (List Bool)
  | [] => some []
  | .bl i :: r => (bls? r).map (i :: ·)
  | _ => none
theorem ints?_eq : ∀ {xs : List PV} {ns : List Int}, ints? xs = some ns → xs = ns.map PV.int
  | [], ns, e => by cases e; rfl
  | .int i :: r, ns, e => by
    rw [ints?] at e
    cases h : ints? r with
    | none => rw [h] at e; cases e
    | some ms => rw [h] at e; cases e; rw [ints?_eq h]; rfl
  | .non :: _, _, e | .bl _ :: _, _, e | .str _ :: _, _, e | .tup _ :: _, _, e | .lst _ :: _, _, e | .edct :: _, _, e | .ref _ :: _, _, e | .scr _ :: _, _, e => by simp [ints?] at e
theorem bls?_eq : ∀ {xs : List PV} {ns : List Bool}, bls? xs = some ns → xs = ns.map PV.bl
  | [], ns, e => by cases e; rfl
  | .bl i :: r, ns, e => by
    rw [bls?] at e
    cases h : bls? r with
    | none => rw [h] at e; cases e
    | some ms => rw [h] at e; cases e; rw [bls?_eq h]; rfl
  | .non :: _, _, e | .int _ :: _, _, e | .str _ :: _, _, e | .tup _ :: _, _, e | .lst _ :: _, _, e | .edct :: _, _, e | .ref _ :: _, _, e | .scr _ :: _, _, e => by simp [bls?] at e
theorem ints?_map (ns : List Int) : ints? (ns.map PV.int) = some ns := by
  induction ns with
  | nil => rfl
  | cons n r ih => rw [List.map_cons, ints?, ih]; rfl
theorem bls?_map (ns : List Bool) : bls? (ns.map PV.bl) = some ns := by
  induction ns with
  | nil => rfl
  | cons n r ih => rw [List.map_cons, bls?, ih]; rfl
def isTup : PV → Bool
  | .tup _ => true
  | _ => false
theorem seqL_rep {K : Frag} {M : List Addr} {H : Hp} {B : Addr → Prop} {S : Sto} {v : PV} {x : V} {xs : List PV} (h : StR K H M B bs S) (r : Rp K H M B v x) (ht : isTup v = false) (e : seqOf S v = some xs) : ∃ a vs, x = .ref a ∧ SqL K H a vs ∧ RpL K H M B xs vs := by
  cases r with
  | lst h1 _ _ h4 => cases e; exact ⟨_, _, rfl, SqL.of h1, h4⟩
  | tup h1 h2 => cases ht
  | scr h1 _ _ => cases e; exact ⟨_, _, rfl, .inl h1, RpL.ints _⟩
  | scrK h1 => cases e; exact ⟨_, _, rfl, .inr h1, RpL.ints _⟩
  | ref hr =>
    simp only [seqOf] at e
    split at e
    · rename_i ys hy
      cases e
      obtain ⟨a, vs, h1, h2, h3⟩ := h.lref hy
      rw [hr] at h1; cases h1
      exact ⟨_, _, rfl, SqL.of h2, h3⟩
    · cases e
  | _ => cases e
def pSum : FL := fun as S => match as with
  | [v] => if isTup v then none else match seqOf S v with
    | some xs => (ints? xs).map fun ns => (.int ns.sum, S)
    | none => none
  | _ => none
theorem cr_sumP (hc : X.calm = true) : CallR X (.builtin "sum") (RRL X.K bs pSum) := by
  intro pins s σ H xs us Q I r h
  obtain ⟨M, B, S, as, w, S', hS, ra, e, q⟩ := h
  unfold pSum at e
  split at e
  · cases ra with
    | cons h1 h2 =>
      cases h2
      split at e
      · cases e
      · rename_i ht
        split at e
        · rename_i ys hy
          obtain ⟨a, vs, rfl, hs, r1⟩ := seqL_rep hS h1 (by simpa using ht) hy
          cases hi : ints? ys with
          | none => rw [hi] at e; cases e
          | some ns =>
            rw [hi] at e; cases e
            rw [ints?_eq hi] at r1
            rw [RpL.of_ints r1] at hs
            exact L2.cr_sum hc pins s σ H _ us Q I r ⟨a, ns, rfl, hs, q.same hS (.int _)⟩
        · cases e
  · cases e
def pAll : FL := fun as S => match as with
  | [v] => if isTup v then none else match seqOf S v with
    | some xs => (bls? xs).map fun ns => (.bl (ns.all id), S)
    | none => none
  | _ => none
theorem cr_allP (hc : X.calm = true) : CallR X (.builtin "all") (RRL X.K bs pAll) := by
  intro pins s σ H xs us Q I r h
  obtain ⟨M, B, S, as, w, S', hS, ra, e, q⟩ := h
  unfold pAll at e
  split at e
  · cases ra with
    | cons h1 h2 =>
      cases h2
      split at e
      · cases e
      · rename_i ht
        split at e
        · rename_i ys hy
          obtain ⟨a, vs, rfl, hs, r1⟩ := seqL_rep hS h1 (by simpa using ht) hy
          cases hi : bls? ys with
          | none => rw [hi] at e; cases e
          | some ns =>
            rw [hi] at e; cases e
            rw [bls?_eq hi] at r1
            rw [RpL.of_bls r1] at hs
            exact L2.cr_all hc pins s σ H _ us Q I r ⟨a, ns, rfl, hs, q.same hS (.bl _)⟩
        · cases e
  · cases e
theorem call_tupleF {X : Cx} : CallR X (.type "tuple") (fun xs H Q => ∃ p ys, xs = [.ref p] ∧ SqL X.K H p ys ∧ ∀ l (o : Obj), H l = none → o.dict = none → Q (.ref l) (upd H l (.frz o (.tup ys)))) := by
  intro pins s σ H xs us Q I r h
  obtain ⟨p, ys, rfl, hq, q⟩ := h
  obtain ⟨u, rfl, rx⟩ := vals1 r
  cases rx
  obtain ⟨its, r', pl, hz⟩ := I.list hq
  refine call_tuple_list pl.isList (fun h' kp => ?_) (by rw [List.size_toArray, ← r'.length]; exact hz)
  have I1 : Inv X pins σ H { s with heap := h' } := I.kept (t' := s.toks) kp
  exact ⟨.ref h'.objs.size, _, tupNew (s := { s with heap := h' }) (t' := s.toks) I1 r' hz, rfl, q _ _ (I1.hok.fresh (Nat.le_refl _)) rfl⟩
def pTuple : FL := fun as S => match as with
  | [v] => (seqOf S v).map fun xs => (.tup xs, S)
  | _ => none
theorem seqOf_tup {S : Sto} {v : PV} {xs : List PV} (ht : isTup v = true) (e : seqOf S v = some xs) : v = .tup xs := by
  cases v <;> first | (cases e; rfl) | cases ht
theorem cr_tuple : CallR X (.type "tuple") (RRL X.K bs pTuple) := by
  intro pins s σ H xs us Q I r h
  obtain ⟨M, B, S, as, w, S', hS, ra, e, q⟩ := h
  unfold pTuple at e
  split at e
  · rename_i v0
    cases ra with
    | cons h1 h2 =>
      cases h2
      cases hx : seqOf S v0 with
      | none => rw [hx] at e; cases e
      | some ys =>
        rw [hx] at e; cases e
        by_cases ht : isTup v0 = true
        · have hv := seqOf_tup ht hx
          subst hv
          obtain ⟨a, vs, rfl, hs, r1⟩ := ref_of h1
          exact call_tuple_of pins s σ H _ us Q I r ⟨a, vs, rfl, .inr ⟨hs, q.same hS h1⟩⟩
        · obtain ⟨a, vs, rfl, hs, r1⟩ := seqL_rep hS h1 (by simpa using ht) hx
          exact call_tupleF pins s σ H _ us Q I r ⟨a, vs, rfl, hs, q.tup hS r1⟩
  · cases e
def pList (m : Bool) : FL := fun as S => match as with
  | [v] => (seqOf S v).map fun xs => mkL m xs S
  | _ => none
theorem cr_list {m : Bool} : CallR X (.type "list") (RRL X.K bs (pList m)) := by
  intro pins s σ H xs us Q I r h
  obtain ⟨M, B, S, as, w, S', hS, ra, e, q⟩ := h
  unfold pList at e
  split at e
  · rename_i v0
    cases ra with
    | cons h1 h2 =>
      cases h2
      cases hx : seqOf S v0 with
      | none => rw [hx] at e; cases e
      | some ys =>
        rw [hx] at e
        obtain ⟨a, vs, rfl, hs, r1⟩ := seqOf_rep hS h1 hx
        exact call_list_of pins s σ H _ us Q I r ⟨a, vs, rfl, hs, Post.lst (Option.some.inj e) q hS r1⟩
  · cases e

/-! ### isinstance -/
def tyName (S : Sto) : PV → Option String
  | .non => some "NoneType" | .bl _ => some "bool" | .int _ => some "int" | .str _ => some "str" | .tup _ => some "tuple" | .lst _ => some "list" | .edct => some "dict"
  | .ref r => match S[r]? with | some (.lst _) => some "list" | some (.dct _) => some "dict" | none => none
  | .scr _ => none
theorem tyName_rep {K : Frag} {M : List Addr} {H : Hp} {B : Addr → Prop} {S : Sto} {v : PV} {x : V} {T : String} (h : StR K H M B bs S) (r : Rp K H M B v x) (e : tyName S v = some T) : TyX K H x (.type T) := by
  cases r with
  | non => cases e; exact .base .non
  | bl b => cases e; exact .base (.bl b)
  | int b => cases e; exact .base (.int b)
  | str b => cases e; exact .base (.str b)
  | tup h1 _ =>
    cases e
    rcases h1 with ⟨o, h1, _⟩ | ⟨o, its, n, h1, h2, _⟩
    · exact .fTuple h1
    · exact .kTuple h1 h2
  | lst h1 _ _ _ => cases e; exact .base (.lst h1)
  | edct h1 _ _ => cases e; exact .base (.dK h1)
  | ref hr =>
    simp only [tyName] at e
    split at e
    · rename_i xs hx
      cases e
      obtain ⟨a, vs, h1, h2, h3⟩ := h.lref hx
      rw [hr] at h1; cases h1
      exact .base (.lst h2)
    · rename_i xs hx
      cases e
      obtain ⟨a, u, h1, h2, h3⟩ := h.at hx
      rw [hr] at h1; cases h1
      cases h3
      exact .base (.dK h2)
    · cases e
  | scr _ _ _ => cases e
  | scrK _ => cases e
/-- isinstance(v, T) -/
def pIsI (T : String) (v : PV) (S : Sto) : Option Bool := (tyName S v).bind fun a => kitB a T
theorem cr_isi {T : String} : CallR X (.builtin "isinstance") (fun xs H Q => ∃ x, xs = [x, .ty T] ∧ RR1 X.K bs (fun v S => (pIsI T v S).map fun c => (.bl c, S)) x H Q) := by
  intro pins s σ H xs us Q I r h
  obtain ⟨x, rfl, M, B, S, a, w, S', hS, ra, e, q⟩ := h
  cases ht : tyName S a with
  | none => simp [pIsI, ht] at e
  | some T' =>
    simp only [pIsI, ht, Option.bind_some] at e
    cases hk : kitB T' T with
    | none => rw [hk] at e; cases e
    | some c =>
      rw [hk] at e; cases e
      exact call_isi pins s σ H _ us Q I r ⟨x, .ty T, .type T', .type T, c, rfl, .ty T, tyName_rep hS ra ht, kit_ty hk, q.same hS (.bl _)⟩
end
end Ev
namespace Ev
open PySem PySem.Spec PyProof.Rows L2

/-! ### keys -/
def keyOf : PV → Option Key
  | .int i => some (.inl i)
  | .str x => some (.inr x)
  | _ => none
def valP (kvs : List (Key × PV)) (k : Key) : Option PV := (kvs.find? fun kv => decide (kv.1 = k)).map (·.2)
def putP (kvs : List (Key × PV)) (k : Key) (v : PV) : List (Key × PV) :=
  if (kvs.any fun kv => decide (kv.1 = k)) = true then kvs.map (fun kv => if kv.1 = k then (kv.1, v) else kv) else kvs ++ [(k, v)]
def dctOf (S : Sto) : PV → Option (List (Key × PV))
  | .ref r => match S[r]? with | some (.dct kvs) => some kvs | _ => none
  | _ => none
section
variable {K : Frag} {M : List Addr} {H : Hp} {B : Addr → Prop} {bs : Bs} {S : Sto} {v : PV} {x : V}
theorem keyOf_rep {k : Key} (r : Rp K H M B v x) (e : keyOf v = some k) : x = kV k := by
  cases r <;> first | (cases e; rfl) | cases e
theorem KvR.val : ∀ {kvs : List (Key × PV)} {kws : List (Key × V)} {k : Key} {v : PV}, KvR K H M B kvs kws → valP kvs k = some v → ∃ x, valV kws k = some x ∧ Rp K H M B v x
  | _, _, _, _, .nil, e => by cases e
  | (k1, v1) :: r, (k2, v2) :: r2, k, v, .cons h t, e => by
    obtain ⟨h1, h2⟩ := h
    simp only at h1
    subst h1
    by_cases hk : k1 = k
    · have e' : v1 = v := by simpa [valP, List.find?_cons, hk] using e
      subst e'
      exact ⟨v2, valV_pos hk, h2⟩
    · have e' : valP r k = some v := by simpa [valP, List.find?_cons, hk] using e
      obtain ⟨x, q1, q2⟩ := KvR.val t e'
      exact ⟨x, by rw [valV_neg (p := (k1, v2)) hk]; exact q1, q2⟩
theorem KvR.any : ∀ {kvs : List (Key × PV)} {kws : List (Key × V)} (k : Key), KvR K H M B kvs kws → (kws.any fun kv => decide (kv.1 = k)) = (kvs.any fun kv => decide (kv.1 = k))
  | _, _, _, .nil => rfl
  | _, _, k, .cons h t => by rw [List.any_cons, List.any_cons, KvR.any k t, h.1]
theorem KvR.mapP : ∀ {kvs : List (Key × PV)} {kws : List (Key × V)} (k : Key) {v : PV} {x : V}, KvR K H M B kvs kws → Rp K H M B v x → KvR K H M B (kvs.map (fun kv => if kv.1 = k then (kv.1, v) else kv)) (kws.map (fun kv => if kv.1 = k then (kv.1, x) else kv))
  | _, _, _, _, _, .nil, _ => .nil
  | (k1, v1) :: r, (k2, v2) :: r2, k, _, _, .cons h t, q => by
    obtain ⟨h1, h2⟩ := h
    simp only at h1
    subst h1
    rw [List.map_cons, List.map_cons]
    refine .cons ?_ (KvR.mapP k t q)
    by_cases hk : k1 = k
    · rw [if_pos hk, if_pos hk]; exact ⟨rfl, q⟩
    · rw [if_neg hk, if_neg hk]; exact ⟨rfl, h2⟩
theorem KvR.snoc : ∀ {kvs : List (Key × PV)} {kws : List (Key × V)} (k : Key) {v : PV} {x : V}, KvR K H M B kvs kws → Rp K H M B v x → KvR K H M B (kvs ++ [(k, v)]) (kws ++ [(k, x)])
  | _, _, _, _, _, .nil, q => .cons ⟨rfl, q⟩ .nil
  | _, _, k, _, _, .cons h t, q => .cons h (KvR.snoc k t q)
theorem KvR.put {kvs : List (Key × PV)} {kws : List (Key × V)} (k : Key) {v : PV} {x : V} (h : KvR K H M B kvs kws) (q : Rp K H M B v x) : KvR K H M B (putP kvs k v) (putK kws k x) := by
  unfold putP putK
  rw [KvR.any k h]
  split
  · exact h.mapP k q
  · exact h.snoc k q
theorem KvR.length : ∀ {kvs : List (Key × PV)} {kws : List (Key × V)}, KvR K H M B kvs kws → kws.length = kvs.length
  | _, _, .nil => rfl
  | _, _, .cons _ t => by simp [KvR.length t]
theorem dctOf_rep {kvs : List (Key × PV)} (h : StR K H M B bs S) (r : Rp K H M B v x) (e : dctOf S v = some kvs) : ∃ n a kws, v = .ref n ∧ S[n]? = some (.dct kvs) ∧ M[n]? = some a ∧ x = .ref a ∧ H a = some (.dK kws) ∧ KvR K H M B kvs kws := by
  cases r with
  | ref hr =>
    rename_i n a
    simp only [dctOf] at e
    split at e
    · rename_i ys hy
      cases e
      obtain ⟨a', u, h1, h2, h3⟩ := h.at hy
      rw [hr] at h1; cases h1
      cases h3 with
      | dct h3 => exact ⟨n, _, _, rfl, hy, hr, rfl, h2, h3⟩
    · cases e
  | _ => cases e
end

/-! ### o[i] -/
def pIdx : F2 := fun a b S => match b with
  | .int i => match a with
    | .str z => if z.length ≤ sizeLine then (atI z.cps.toList i).map fun c => (.str ⟨#[c]⟩, S) else none
    | a => match seqOf S a with
      | some xs => (atI xs i).map fun v => (v, S)
      | none => (dctOf S a).bind fun kvs => (valP kvs (.inl i)).map fun v => (v, S)
  | .str k => (dctOf S a).bind fun kvs => (valP kvs (.inr k)).map fun v => (v, S)
  | _ => none
section
variable {X : Cx} {bs : Bs}
theorem ixN_len {n m : Nat} (h : n = m) (i : Int) : ixN n i = ixN m i := by rw [h]
theorem atI_rep {K : Frag} {M : List Addr} {H : Hp} {B : Addr → Prop} {xs : List PV} {vs : List V} {i : Int} {v : PV} (r : RpL K H M B xs vs) (e : atI xs i = some v) : ∃ x, atI vs i = some x ∧ Rp K H M B v x := by
  unfold atI at e ⊢
  rw [r.length]
  cases hj : ixN xs.length i with
  | none => rw [hj] at e; cases e
  | some j =>
    rw [hj] at e
    exact r.get e
theorem ix_dict (hu : X.A.units + 1 < cLine) : IxR X (fun x y H Q => ∃ a v, x = .ref a ∧ DGet H a y (some v) ∧ Q v H) := by
  intro value slice pins s σ H x y v u Q I rx ry h hs
  obtain ⟨a, w, rfl, g, q⟩ := h
  cases rx
  exact tail_any (dict_typeIs I g) PySem.F.slot_dict_getitem.lookup (d_getItem hu I g ry fun w' s3 I3 rw' => ⟨w, H, I3, rw', q⟩) hs
theorem ix_pv (hu : X.A.units + 1 < cLine) : IxR X (RR2 X.K bs pIdx) := by
  intro value slice pins s σ H x y v u Q I rx ry h hs
  obtain ⟨M, B, S, a, b, w, S', hS, ra, rb, e, q⟩ := h
  have dicts : ∀ k : Key, y = kV k → ((dctOf S a).bind fun kvs => (valP kvs k).map fun v => (v, S)) = some (w, S') → wpAny (model X.prog X.w) X.A (subscriptTail value slice v u) (EP X pins σ Q) X.xe s := fun k hk e => by
    cases hd : dctOf S a with
    | none => rw [hd] at e; cases e
    | some kvs =>
      rw [hd, Option.bind_some] at e
      cases hv : valP kvs k with
      | none => rw [hv] at e; cases e
      | some v0 =>
        rw [hv] at e; cases e
        obtain ⟨n, p, kws, rfl, _, _, rfl, hp, hkv⟩ := dctOf_rep hS ra hd
        obtain ⟨z, h1, h2⟩ := hkv.val hv
        refine ix_dict hu value slice pins s σ H _ _ v u Q I rx ry ⟨p, z, rfl, ?_, q.same hS h2⟩ hs
        rw [hk, ← h1]
        exact DGet.k hp
  unfold pIdx at e
  split at e
  · cases rb
    split at e
    · cases ra
      split at e
      · rename_i hz
        cases hc : atI _ _ with
        | none => rw [hc] at e; cases e
        | some c =>
          rw [hc] at e; cases e
          exact ix_str value slice pins s σ H _ _ v u Q I rx ry ⟨_, _, c, rfl, rfl, hz, hc, q.same hS (.str _)⟩ hs
      · cases e
    · split at e
      · rename_i xs hx
        cases hc : atI xs _ with
        | none => rw [hc] at e; cases e
        | some c =>
          rw [hc] at e; cases e
          obtain ⟨p, vs, rfl, hp, r1⟩ := seqOf_rep hS ra hx
          obtain ⟨z, h1, h2⟩ := atI_rep r1 hc
          rcases hp with hp | hp
          · exact ix_list value slice pins s σ H _ _ v u Q I rx ry ⟨p, vs, _, z, rfl, rfl, hp, h1, q.same hS h2⟩ hs
          · exact ix_tup value slice pins s σ H _ _ v u Q I rx ry ⟨p, vs, _, z, rfl, rfl, hp, h1, q.same hS h2⟩ hs
      · exact dicts (.inl _) rfl e
  · cases rb
    exact dicts (.inr _) rfl e
  · cases e

/-! ### o[lo:hi] -/
def cutP (xs : List PV) (lo hi : Option Int) : List PV := (xs.drop (HT.sIx xs.length 0 lo)).take (HT.sIx xs.length xs.length hi - HT.sIx xs.length 0 lo)
theorem cut_rep {K : Frag} {M : List Addr} {H : Hp} {B : Addr → Prop} {xs : List PV} {vs : List V} (r : RpL K H M B xs vs) (lo hi : Option Int) : RpL K H M B (cutP xs lo hi) (cutV vs lo hi) := by
  unfold cutP cutV
  rw [r.length]
  exact (r.drop _).take _
def pSlice (m : Bool) (lo hi : Option Int) : F1 := fun a S => match a with
  | .tup xs => some (.tup (cutP xs lo hi), S)
  | a => (lstOf S a).map fun xs => mkL m (cutP xs lo hi) S
theorem sl_tupF : SlR X (fun x lo hi H Q => ∃ a xs, x = .ref a ∧ SqT X.K H a xs ∧ ¬ (HT.sIx xs.length 0 lo = 0 ∧ HT.sIx xs.length xs.length hi = xs.length) ∧ ∀ p (o : Obj), H p = none → o.dict = none → Q (.ref p) (upd H p (.frz o (.tup (cutV xs lo hi))))) := by
  intro pins s σ H x v vl vu lo hi sl Q I rx hs pl pu h
  obtain ⟨a, xs, rfl, hx, hw, q⟩ := h
  cases rx
  obtain ⟨its, r, ht, hz⟩ := I.tuple hx
  have hlen : its.toArray.size = xs.length := by rw [List.size_toArray]; exact r.length.symm
  refine ⟨"tuple", _, PyProof.Rows.slot_tuple_getitem.lookup, ht.typeIs, ?_⟩
  refine HT.getItem_tuple_cut ht hs pl pu (by rw [hlen]; exact hw) ?_ (by rw [hlen]; exact hz)
  rw [hlen]
  exact ⟨.ref s.heap.objs.size, _, tupNew (t' := s.toks) I ((r.drop _).take _) (Nat.le_trans (cutV_length xs lo hi) hz), rfl, q _ _ (I.hok.fresh (Nat.le_refl _)) rfl⟩
theorem cut_whole {xs : List PV} {lo hi : Option Int} (h : HT.sIx xs.length 0 lo = 0 ∧ HT.sIx xs.length xs.length hi = xs.length) : cutP xs lo hi = xs := by
  unfold cutP
  rw [h.1, h.2]; simp
theorem sl_pv {m : Bool} : SlR X (fun x lo hi H Q => RR1 X.K bs (pSlice m lo hi) x H Q) := by
  intro pins s σ H x v vl vu lo hi sl Q I rx hs pl pu h
  obtain ⟨M, B, S, a, w, S', hS, ra, e, q⟩ := h
  unfold pSlice at e
  split at e
  · rename_i xs
    cases e
    obtain ⟨p, vs, rfl, hp, r1⟩ := ref_of ra
    by_cases hw : HT.sIx vs.length 0 lo = 0 ∧ HT.sIx vs.length vs.length hi = vs.length
    · refine sl_tupA pins s σ H _ v vl vu lo hi sl Q I rx hs pl pu ⟨p, vs, rfl, hp, fun _ => ?_, fun z => absurd hw z⟩
      rw [r1.length] at hw
      rw [cut_whole hw] at q
      exact q.same hS ra
    · exact sl_tupF pins s σ H _ v vl vu lo hi sl Q I rx hs pl pu ⟨p, vs, rfl, hp, hw, q.tup hS (cut_rep r1 lo hi)⟩
  · cases hx : lstOf S a with
    | none => rw [hx] at e; cases e
    | some xs =>
      rw [hx] at e
      obtain ⟨p, vs, rfl, hp, r1⟩ := lstOf_rep hS ra hx
      exact sl_list pins s σ H _ v vl vu lo hi sl Q I rx hs pl pu ⟨p, vs, rfl, SqL.of hp, Post.lst (Option.some.inj e) q hS (cut_rep r1 lo hi)⟩
end

/-! ### o[i] = v -/
def pSet (bs : Nat) (o i v : PV) (S : Sto) : Option Sto := match o with
  | .ref r => if decide (bs ≤ r) || ltB 0 v then match S[r]? with
      | some (.lst xs) => match i with
        | .int k => (ixN xs.length k).map fun j => S.set r (.lst (xs.set j v))
        | _ => none
      | some (.dct kvs) => (keyOf i).bind fun k => if kvs.length < sizeLine then some (S.set r (.dct (putP kvs k v))) else none
      | none => none
    else none
  | _ => none
def RRS (K : Frag) (bs : Bs) : TSet := fun o i v H Q => ∃ M B S a b c S', StR K H M B bs S ∧ Rp K H M B a o ∧ Rp K H M B b i ∧ Rp K H M B c v ∧ pSet bs.top a b c S = some S' ∧
  ∀ H' N, Stp M H N H' → StR K H' (M ++ N) B bs S' → Q H'
theorem all_set {α : Type} {p : α → Bool} {xs : List α} {j : Nat} {v : α} (h : xs.all p = true) (hv : p v = true) : (xs.set j v).all p = true := by
  rw [List.all_eq_true] at h ⊢
  intro x hx
  rcases List.mem_or_eq_of_mem_set hx with h1 | h1
  · exact h x h1
  · rw [h1]; exact hv
theorem ltB_put {bs : Nat} {kvs : List (Key × PV)} {k : Key} {v : PV} (h : (SObj.dct kvs).ltB bs = true) (hv : ltB bs v = true) : (SObj.dct (putP kvs k v)).ltB bs = true := by
  unfold SObj.ltB at h ⊢
  simp only [List.all_eq_true] at h ⊢
  intro p hp
  unfold putP at hp
  split at hp
  · obtain ⟨q, hq, rfl⟩ := List.mem_map.mp hp
    split
    · exact hv
    · exact h q hq
  · rcases List.mem_append.mp hp with hp | hp
    · exact h p hp
    · rw [List.mem_singleton.mp hp]; exact hv
theorem set_pv {X : Cx} {bs : Bs} (hu : X.A.units + 1 < cLine) : PSet X (RRS X.K bs) := by
  intro pins s σ H o i v ov iv u Q I ro ri rv h
  obtain ⟨M, B, S, a, b, c, S', hS, ra, rb, rc, e, q⟩ := h
  unfold pSet at e
  split at e
  · rename_i r
    cases ra with
    | ref hr =>
      rename_i p
      split at e
      · rename_i hg
        simp only [Bool.or_eq_true, decide_eq_true_eq] at hg
        split at e
        · rename_i xs hx
          split at e
          · rename_i k
            cases rb
            cases hj : ixN xs.length k with
            | none => rw [hj] at e; cases e
            | some j =>
              rw [hj] at e; cases e
              obtain ⟨p', vs, h1, h2, h3⟩ := hS.lref hx
              rw [hr] at h1; cases h1
              refine set_list pins s σ H _ _ _ ov iv u Q I ro ri rv ⟨p, vs, k, j, rfl, rfl, h2, by rw [h3.length]; exact hj, ?_⟩
              have hw : ∀ b, bs.P b → r < b → (SObj.lst (xs.set j c)).ltB b = true := fun b' pb hb => by
                rcases hg with hg | hg
                · have := bs.le b' pb; omega
                · exact all_set (hS.wf b' r _ pb hb hx) (ltB_mono (Nat.zero_le _) hg)
              obtain ⟨w1, w2⟩ := hS.writeS hx hr (.lst (h3.set j rc)) hw
              exact q _ [] w1 (by rw [List.append_nil]; exact w2)
          · cases e
        · rename_i kvs hx
          cases hk : keyOf b with
          | none => rw [hk] at e; cases e
          | some k =>
            rw [hk, Option.bind_some] at e
            split at e
            · rename_i hl
              cases e
              obtain ⟨p', w0, h1, h2, h3⟩ := hS.at hx
              rw [hr] at h1; cases h1
              cases h3 with
              | dct h3 =>
                have hw : ∀ b, bs.P b → r < b → (SObj.dct (putP kvs k c)).ltB b = true := fun b' pb hb => by
                  rcases hg with hg | hg
                  · have := bs.le b' pb; omega
                  · exact ltB_put (hS.wf b' r _ pb hb hx) (ltB_mono (Nat.zero_le _) hg)
                obtain ⟨w1, w2⟩ := hS.writeS hx hr (.dct (h3.put k rc)) hw
                cases ro
                rw [keyOf_rep rb hk] at ri
                exact d_setItem hu I (DPut.k h2 (by rw [h3.length]; exact hl)) ri rv fun s' I' => ⟨_, I', q _ [] w1 (by rw [List.append_nil]; exact w2)⟩
            · cases e
        · cases e
      · cases e
  · cases e
end Ev
namespace Ev
open PySem PySem.Spec PyProof.Rows L2

/-! ### methods of built-in types -/
abbrev FM := PV → List PV → Sto → Option (PV × Sto)
/-- the type, for a list -/
def isLst (S : Sto) : PV → Bool
  | .lst _ => true
  | .ref r => match S[r]? with | some (.lst _) => true | _ => false
  | _ => false
section
variable {X : Cx} {bs : Bs}
theorem lst_type {pins : List (Addr × Obj)} {s : Shared} {σ : L2.St} {H : Hp} {x : V} {v : Value} {M : List Addr} {B : Addr → Prop} {S : Sto} {a : PV} (I : Inv X pins σ H s) (rx : RelV x v) (hS : StR X.K H M B bs S) (ra : Rp X.K H M B a x) (h : isLst S a = true) :
    s.TypeIs v "list" ∧ ∀ p, v = .ref p → ∃ ob, s.heap.get? p = some ob ∧ ob.dict = none := by
  have e : ∃ xs, lstOf S a = some xs := by
    cases a with
    | lst xs => exact ⟨xs, rfl⟩
    | ref r =>
      simp only [isLst] at h
      simp only [lstOf]
      split at h
      · rename_i xs hx; exact ⟨xs, by first | rw [hx] | rfl⟩
      · cases h
    | _ => cases h
  obtain ⟨xs, e⟩ := e
  obtain ⟨p, vs, rfl, hp, _⟩ := lstOf_rep hS ra e
  have := tyV_is I rx (T := "list") (show tyV X.K "list" (.ref p) H from .inl ⟨rfl, vs, SqL.of hp⟩)
  exact this
theorem tup_type {pins : List (Addr × Obj)} {s : Shared} {σ : L2.St} {H : Hp} {x : V} {v : Value} {M : List Addr} {B : Addr → Prop} {xs : List PV} (I : Inv X pins σ H s) (rx : RelV x v) (ra : Rp X.K H M B (.tup xs) x) :
    s.TypeIs v "tuple" ∧ ∀ p, v = .ref p → ∃ ob, s.heap.get? p = some ob ∧ ob.dict = none := by
  obtain ⟨p, vs, rfl, hp, _⟩ := ref_of' ra
  cases rx
  rcases hp with ⟨o, hp, hd⟩ | ⟨o, its, n, h1, h2, h3, _⟩
  · obtain ⟨e1, _, its, r, ⟨o', e2, c, n, d⟩⟩ := I.hok p _ hp
    rw [e1] at e2; cases e2
    exact ⟨⟨o, e1, c⟩, fun q e => by cases e; exact ⟨o, e1, hd⟩⟩
  · exact ⟨⟨o, I.kIn p o h1, h2⟩, fun q e => by cases e; exact ⟨o, I.kIn _ o h1, h3⟩⟩

/-! #### list.append -/
def pAppend (bs : Nat) : FM := fun a as S => match a, as with
  | .ref r, [v] => if decide (bs ≤ r) || ltB 0 v then match S[r]? with
      | some (.lst xs) => if xs.length < sizeLine then some (.non, S.set r (.lst (xs ++ [v]))) else none
      | _ => none
    else none
  | _, _ => none
/-- which receivers are lists by the shape alone: refs are told by the store at the time -/
def MDr (X : Cx) (bs : Bs) (name : Str) (f : FM) : Prop :=
  ∀ (pins : List (Addr × Obj)) (s : Shared) (σ : L2.St) (H : Hp) (x : V) (v : Value) (M : List Addr) (B : Addr → Prop) (S : Sto) (a : PV), Inv X pins σ H s → RelV x v → StR X.K H M B bs S → Rp X.K H M B a x → (∃ as S1 r, f a as S1 = some r ∧ tyName S1 a = tyName S a) →
    ∃ T id, PlainAttrs T ∧ Slot T name id ∧ typeOf (.builtin id) = pure (.type "method_descriptor") ∧ s.TypeIs v T ∧ (∀ p, v = .ref p → ∃ ob, s.heap.get? p = some ob ∧ ob.dict = none) ∧
      ∀ (s1 : Shared) (H1 : Hp) (M1 : List Addr) (S1 : Sto) (xs : List V) (us : List Value) (as : List PV) (w : PV) (S' : Sto) (Q : VK), Inv X pins σ H1 s1 → Vals xs us → StR X.K H1 M1 B bs S1 → Rp X.K H1 M1 B a x → RpL X.K H1 M1 B as xs → tyName S1 a = tyName S a →
        f a as S1 = some (w, S') → Post X.K M1 H1 B bs w S' Q → wpAny (model X.prog X.w) X.A (call (.builtin id) (v :: us)) (EP X pins σ Q) X.xe s1
theorem tyName_list {S : Sto} {r : Nat} (h : tyName S (.ref r) = some "list") : ∃ xs, S[r]? = some (.lst xs) := by
  simp only [tyName] at h
  cases q : S[r]? with
  | none => rw [q] at h; simp at h
  | some o =>
    cases o with
    | lst xs => exact ⟨xs, rfl⟩
    | dct kvs => rw [q] at h; simp at h
theorem isLst_of {S S1 : Sto} {a : PV} (h : isLst S1 a = true) (e : tyName S1 a = tyName S a) : isLst S a = true := by
  cases a with
  | lst xs => rfl
  | ref r =>
    have h1 : tyName S1 (.ref r) = some "list" := by
      simp only [isLst] at h
      simp only [tyName]
      split at h
      · rename_i xs hx; rw [hx]
      · cases h
    obtain ⟨xs, hx⟩ := tyName_list (e.symm.trans h1)
    simp [isLst, hx]
  | _ => cases h
theorem pAppend_inv {bs : Nat} {a : PV} {as : List PV} {S : Sto} {w : PV} {S' : Sto} (e : pAppend bs a as S = some (w, S')) :
    ∃ r v xs, a = .ref r ∧ as = [v] ∧ S[r]? = some (.lst xs) ∧ (bs ≤ r ∨ ltB 0 v = true) ∧ xs.length < sizeLine ∧ w = .non ∧ S' = S.set r (.lst (xs ++ [v])) := by
  unfold pAppend at e
  split at e
  · rename_i r v
    split at e
    · rename_i hg
      simp only [Bool.or_eq_true, decide_eq_true_eq] at hg
      split at e
      · rename_i xs hx
        split at e
        · rename_i hz; cases e; exact ⟨r, v, xs, rfl, rfl, hx, hg, hz, rfl, rfl⟩
        · cases e
      · cases e
    · cases e
  · cases e
def pPop : FM := fun a as S => match a, as with
  | .ref r, [] => match S[r]? with
      | some (.lst xs) => (xs[xs.length - 1]?).map fun v => (v, S.set r (.lst xs.dropLast))
      | _ => none
  | .ref r, [.int i] => match S[r]? with
      | some (.lst xs) => if -(2 ^ 63) ≤ i ∧ i < 2 ^ 63 then (seqIndex? i xs.length).bind fun k => (xs[k]?).map fun v => (v, S.set r (.lst (xs.eraseIdx k))) else none
      | _ => none
  | _, _ => none
theorem pPop_inv {a : PV} {as : List PV} {S : Sto} {w : PV} {S' : Sto} (e : pPop a as S = some (w, S')) :
    ∃ r xs, a = .ref r ∧ S[r]? = some (.lst xs) ∧ ((as = [] ∧ xs[xs.length - 1]? = some w ∧ S' = S.set r (.lst xs.dropLast)) ∨
      ∃ i k, as = [.int i] ∧ -(2 ^ 63) ≤ i ∧ i < 2 ^ 63 ∧ seqIndex? i xs.length = some k ∧ xs[k]? = some w ∧ S' = S.set r (.lst (xs.eraseIdx k))) := by
  unfold pPop at e
  split at e
  · rename_i r
    split at e
    · rename_i xs hx
      cases hv : xs[xs.length - 1]? with
      | none => rw [hv] at e; cases e
      | some y => rw [hv] at e; cases e; exact ⟨r, xs, rfl, hx, .inl ⟨rfl, hv, rfl⟩⟩
    · cases e
  · rename_i r i
    split at e
    · rename_i xs hx
      split at e
      · rename_i hb
        cases hk : seqIndex? i xs.length with
        | none => rw [hk] at e; cases e
        | some k =>
          rw [hk, Option.bind_some] at e
          cases hv : xs[k]? with
          | none => rw [hv] at e; cases e
          | some y => rw [hv] at e; cases e; exact ⟨r, xs, rfl, hx, .inr ⟨i, k, rfl, hb.1, hb.2, hk, hv, rfl⟩⟩
      · cases e
    · cases e
  · cases e
theorem md_append : MDr X bs "append" (pAppend bs.top) := by
  intro pins s σ H x v M B S a I rx hS ra ⟨as0, S0, r0, e0, et0⟩
  have hl : isLst S0 a = true := by
    obtain ⟨r, y, xs, rfl, _, q, _⟩ := pAppend_inv (w := r0.1) (S' := r0.2) e0
    simp [isLst, q]
  obtain ⟨t1, t2⟩ := lst_type I rx hS ra (isLst_of hl et0)
  refine ⟨"list", _, PySem.F.plainAttrs_list, PySem.F.slot_list_append, PySem.F.type_list_append, t1, t2, fun s1 H1 M1 S1 xs us as w S' Q I1 ru hS1 ra1 rs _ e q => ?_⟩
  obtain ⟨r, y, ys, rfl, rfl, hy, hg, hz, rfl, rfl⟩ := pAppend_inv e
  cases ra1 with
  | ref hr =>
    cases rs with
    | cons ry rn =>
      cases rn
      obtain ⟨p', vs, h1, h2, h3⟩ := hS1.lref hy
      rw [hr] at h1; cases h1
      refine mt_append pins s1 σ H1 _ _ v us Q I1 rx ru ⟨_, vs, _, rfl, rfl, h2, by rw [h3.length]; exact hz, ?_⟩
      refine Post.write q hS1 hy hr (.lst (h3.append (.cons ry .nil))) (fun b' pb hb => ?_) .non
      rcases hg with hg | hg
      · have := bs.le b' pb; omega
      · have := hS1.wf b' r _ pb hb hy
        simp only [SObj.ltB, List.all_append, List.all_cons, List.all_nil, Bool.and_true, Bool.and_eq_true] at this ⊢
        exact ⟨this, ltB_mono (Nat.zero_le _) hg⟩

/-! #### list.pop -/
theorem all_sub {α : Type} {p : α → Bool} {xs ys : List α} (h : xs.all p = true) (hs : ∀ y ∈ ys, y ∈ xs) : ys.all p = true := by
  rw [List.all_eq_true] at h ⊢
  exact fun y hy => h y (hs y hy)
theorem md_pop : MDr X bs "pop" pPop := by
  intro pins s σ H x v M B S a I rx hS ra ⟨as0, S0, r0, e0, et0⟩
  have hl : isLst S0 a = true := by
    obtain ⟨r, xs, rfl, q, _⟩ := pPop_inv (w := r0.1) (S' := r0.2) e0
    simp [isLst, q]
  obtain ⟨t1, t2⟩ := lst_type I rx hS ra (isLst_of hl et0)
  refine ⟨"list", _, PySem.F.plainAttrs_list, PySem.F.slot_list_pop, PySem.F.type_list_pop, t1, t2, fun s1 H1 M1 S1 xs us as w S' Q I1 ru hS1 ra1 rs _ e q => ?_⟩
  obtain ⟨r, ys, rfl, hy, h⟩ := pPop_inv e
  cases ra1 with
  | ref hr =>
    obtain ⟨p', vs, h1, h2, h3⟩ := hS1.lref hy
    rw [hr] at h1; cases h1
    rcases h with ⟨rfl, hv, rfl⟩ | ⟨i, k, rfl, b1, b2, hk, hv, rfl⟩
    · cases rs
      obtain ⟨z, hz1, hz2⟩ := h3.get hv
      refine mt_pop pins s1 σ H1 _ _ v us Q I1 rx ru ⟨_, vs, z, rfl, rfl, h2, by rw [h3.length]; exact hz1, ?_⟩
      exact Post.write q hS1 hy hr (.lst h3.dropLast) (fun b' pb hb => all_sub (hS1.wf b' r _ pb hb hy) fun y hy => List.dropLast_subset _ hy) (Rp.write hS1 hy hr hz2)
    · cases rs with
      | cons ri rn =>
        cases rn; cases ri
        obtain ⟨z, hz1, hz2⟩ := h3.get hv
        refine mt_popAt pins s1 σ H1 _ _ v us Q I1 rx ru ⟨_, vs, i, k, z, rfl, rfl, h2, b1, b2, by rw [h3.length]; exact hk, hz1, ?_⟩
        exact Post.write q hS1 hy hr (.lst (h3.eraseIdx k)) (fun b' pb hb => all_sub (hS1.wf b' r _ pb hb hy) fun y hy => List.mem_of_mem_eraseIdx hy) (Rp.write hS1 hy hr hz2)

/-! #### index -/
def pIndex : FM := fun a as S => match as with
  | [y] => match seqOf S a with
      | some ys => if flat y && ys.all flat then (ys.findIdx? fun z => eqF z y).map fun j => (.int j, S) else none
      | none => none
  | _ => none
theorem findIdx_some {α : Type} {p : α → Bool} {xs : List α} {j : Nat} (h : xs.findIdx? p = some j) : ∃ x, xs[j]? = some x ∧ p x = true ∧ ∀ (m : Nat) (z : α), m < j → xs[m]? = some z → p z = false := by
  obtain ⟨h1, h2, h3⟩ := List.findIdx?_eq_some_iff_getElem.mp h
  refine ⟨xs[j], List.getElem?_eq_getElem h1, h2, fun m z hm e => ?_⟩
  obtain ⟨q1, q2⟩ := List.getElem?_eq_some_iff.mp e
  have := h3 m hm
  rw [q2] at this
  simpa using this
theorem mt_tupIndexF : MtR X "tuple.index" (fun x xs H Q => ∃ (a : Addr) (ys : List V) (y : V) (j : Nat) (z : V), x = V.ref a ∧ xs = [y] ∧ SqT X.K H a ys ∧ flatV y = true ∧ ys.all flatV = true ∧ ys[j]? = some z ∧ eqV z y = true ∧
    (∀ (m : Nat) (z' : V), m < j → ys[m]? = some z' → eqV z' y = false) ∧ Q (.int (j : Nat)) H) := by
  intro pins s σ H x xs v us Q I rx rs h
  obtain ⟨p, ys, y, j, z, rfl, rfl, hq, fy, fys, hz, hzj, hno, q⟩ := h
  cases rx
  obtain ⟨uy, rfl, ry⟩ := vals1 rs
  obtain ⟨its, r, ⟨⟨cls, dd, dt, sl⟩, ho, hc, n, hd⟩, _⟩ := I.tuple hq
  simp only at hc hd
  subst hc hd
  have at' : ∀ (m : Nat) (hm : m < its.toArray.size), ∃ y', ys[m]? = some y' ∧ RelV y' its.toArray[m] := fun m hm => by
    have hm' : m < ys.length := by rw [r.length]; simpa using hm
    obtain ⟨w, hw, rw'⟩ := r.get (List.getElem?_eq_getElem hm')
    obtain ⟨_, e⟩ := List.getElem?_eq_some_iff.mp hw
    exact ⟨ys[m], List.getElem?_eq_getElem hm', by have : its.toArray[m] = w := by simpa using e
                                                   rw [this]; exact rw'⟩
  have hj : j < its.toArray.size := by
    have := (List.getElem?_eq_some_iff.mp hz).1
    rw [List.size_toArray, ← r.length]; exact this
  refine call_meets PySem.F.slot_tuple_index ⟨_, ho, rfl⟩ PySem.F.entry_tuple_index (PySem.F.args_tuple_index_2 _ _) (TI.tuple_indexAt p its.toArray n dd sl uy (eqU y) j hj ?_ ?_)
    ⟨ho, fun w hw => mem_eqAt ry fy r fys w (by simpa using hw), ⟨.int (j : Nat), H, I.tok _, ⟨_, rfl⟩, q⟩⟩
  · obtain ⟨y', h1, h2⟩ := at' j hj
    rw [hz] at h1; cases h1
    rw [eqU_of h2 (flat_at fys hz)]; exact hzj
  · intro m hm hmj
    obtain ⟨y', h1, h2⟩ := at' m hm
    rw [eqU_of h2 (flat_at fys h1)]
    exact hno m _ hmj h1
theorem md_index : MDr X bs "index" pIndex := by
  intro pins s σ H x v M B S a I rx hS ra ⟨as0, S0, r0, e0, et0⟩
  have key : ∀ (s1 : Shared) (H1 : Hp) (M1 : List Addr) (S1 : Sto) (xs : List V) (as : List PV) (w : PV) (S' : Sto) (Q : VK), StR X.K H1 M1 B bs S1 → Rp X.K H1 M1 B a x → RpL X.K H1 M1 B as xs → pIndex a as S1 = some (w, S') → Post X.K M1 H1 B bs w S' Q →
      ∃ (p : Addr) (ys : List V) (y : V) (j : Nat) (z : V), x = V.ref p ∧ xs = [y] ∧ (SqL X.K H1 p ys ∨ SqT X.K H1 p ys) ∧ flatV y = true ∧ ys.all flatV = true ∧ ys[j]? = some z ∧ eqV z y = true ∧ (∀ (m : Nat) (z' : V), m < j → ys[m]? = some z' → eqV z' y = false) ∧ Q (.int (j : Nat)) H1 := by
    intro s1 H1 M1 S1 xs as w S' Q hS1 ra1 rs e q
    unfold pIndex at e
    split at e
    · rename_i y
      split at e
      · rename_i ys hy
        split at e
        · rename_i hf
          simp only [Bool.and_eq_true] at hf
          cases hj : ys.findIdx? fun z => eqF z y with
          | none => rw [hj] at e; cases e
          | some j =>
            rw [hj] at e; cases e
            obtain ⟨p, vs, rfl, hp, r1⟩ := seqOf_rep hS1 ra1 hy
            cases rs with
            | cons ry rn =>
              cases rn
              obtain ⟨e1, f1⟩ := ry.flat hf.1
              obtain ⟨e2, f2⟩ := r1.flat hf.2
              subst e1; subst e2
              obtain ⟨z, hz1, hz2, hz3⟩ := findIdx_some hj
              refine ⟨p, _, _, j, fv z, rfl, rfl, hp, f1, f2, by rw [List.getElem?_map, hz1]; rfl, hz2, fun m z' hm e => ?_, q.same hS1 (.int _)⟩
              rw [List.getElem?_map] at e
              cases q0 : ys[m]? with
              | none => rw [q0] at e; cases e
              | some z0 => rw [q0] at e; cases e; exact hz3 m z0 hm q0
        · cases e
      · cases e
    · cases e
  by_cases ht : isTup a = true
  · cases a with
    | tup ws =>
      obtain ⟨t1, t2⟩ := tup_type I rx ra
      refine ⟨"tuple", _, PySem.F.plainAttrs_tuple, PySem.F.slot_tuple_index, PySem.F.type_tuple_index, t1, t2, fun s1 H1 M1 S1 xs us as w S' Q I1 ru hS1 ra1 rs _ e q => ?_⟩
      obtain ⟨p, ys, y, j, z, rfl, rfl, hp, k1, k2, k3, k4, k5, k6⟩ := key s1 H1 M1 S1 xs as w S' Q hS1 ra1 rs e q
      obtain ⟨p', vs, h1, h2, _⟩ := ref_of ra1
      cases h1
      rcases hp with hp | hp
      · exfalso
        obtain ⟨its, _, pl, _⟩ := I1.list hp
        obtain ⟨its2, _, pt, _⟩ := I1.tuple h2
        obtain ⟨o, n, e1, c1, _⟩ := pl
        obtain ⟨o2, e2, c2, _⟩ := pt
        rw [e1] at e2; cases e2
        rw [c1] at c2; simp at c2
      · exact mt_tupIndexF pins s1 σ H1 _ _ v us Q I1 rx ru ⟨p, ys, y, j, z, rfl, rfl, hp, k1, k2, k3, k4, k5, k6⟩
    | _ => cases ht
  · have hl : ∃ p vs, x = .ref p ∧ SqL X.K H p vs := by
      have : ∃ xs, seqOf S a = some xs := by
        unfold pIndex at e0
        split at e0
        · split at e0
          · rename_i ys hy
            cases a with
            | lst xs => exact ⟨_, rfl⟩
            | scr ns => exact ⟨_, rfl⟩
            | tup xs => exact absurd rfl ht
            | ref r =>
              simp only [seqOf] at hy ⊢
              split at hy
              · rename_i q
                obtain ⟨xs, hx⟩ := tyName_list (S := S) (r := r) (et0.symm.trans (by simp only [tyName]; rw [q]))
                exact ⟨xs, by first | rw [hx] | rfl⟩
              · cases hy
            | _ => cases hy
          · cases e0
        · cases e0
      obtain ⟨xs, hx⟩ := this
      obtain ⟨p, vs, h1, h2, _⟩ := seqL_rep hS ra (by simpa using ht) hx
      exact ⟨p, vs, h1, h2⟩
    obtain ⟨p0, vs0, rfl, hp0⟩ := hl
    obtain ⟨t1, t2⟩ := tyV_is I rx (T := "list") (show tyV X.K "list" (.ref p0) H from .inl ⟨rfl, vs0, hp0⟩)
    refine ⟨"list", _, PySem.F.plainAttrs_list, PySem.F.slot_list_index, PySem.F.type_list_index, t1, t2, fun s1 H1 M1 S1 xs us as w S' Q I1 ru hS1 ra1 rs _ e q => ?_⟩
    obtain ⟨p, ys, y, j, z, h0, rfl, hp, k1, k2, k3, k4, k5, k6⟩ := key s1 H1 M1 S1 xs as w S' Q hS1 ra1 rs e q
    cases h0
    rcases hp with hp | hp
    · exact mt_index pins s1 σ H1 _ _ v us Q I1 rx ru ⟨p0, ys, y, j, z, rfl, rfl, hp, k1, k2, k3, k4, k5, k6⟩
    · exfalso
      have hx : ∃ xs, seqOf S1 a = some xs := by
        unfold pIndex at e
        split at e
        · split at e
          · rename_i q; exact ⟨_, q⟩
          · cases e
        · cases e
      obtain ⟨xs, hx⟩ := hx
      obtain ⟨p, vs, h1, h2, _⟩ := seqL_rep hS1 ra1 (by simpa using ht) hx
      cases h1
      obtain ⟨its, _, pl, _⟩ := I1.list h2
      obtain ⟨its2, _, pt, _⟩ := I1.tuple hp
      obtain ⟨o, n, e1, c1, _⟩ := pl
      obtain ⟨o2, e2, c2, _⟩ := pt
      rw [e1] at e2; cases e2
      rw [c1] at c2; simp at c2
end
end Ev
namespace Ev
open PySem PySem.Spec PyProof.Rows L2

/-! ### repr -/
mutual
inductive Rz (h : Heap) : Value → PyData → Prop
  | none : Rz h .none .none
  | bool (b : Bool) : Rz h (.bool b) (.bool b)
  | int (i : Int) (t : Tok) : Rz h (.int i t) (.int i)
  | str (x : Str) (t : Tok) : Rz h (.str x t) (.str x)
  | list {a : Addr} {o : Obj} {vs : Array Value} {n : Nat} {xs : List PyData} : h.get? a = some o → o.cls = .type "list" → o.data = .seq vs n → RzL h vs.toList xs → Rz h (.ref a) (.list xs)
  | tuple {a : Addr} {o : Obj} {vs : Array Value} {n : Nat} {xs : List PyData} : h.get? a = some o → o.cls = .type "tuple" → o.data = .seq vs n → RzL h vs.toList xs → Rz h (.ref a) (.tuple xs)
  | edict {a : Addr} {o : Obj} {es : Array DictEntry} {n : Nat} : h.get? a = some o → o.cls = .type "dict" → o.data = .dict es n → es.toList = [] → (a == sysModules) = false → Rz h (.ref a) (.dict [])
inductive RzL (h : Heap) : List Value → List PyData → Prop
  | nil : RzL h [] []
  | cons {v : Value} {vs : List Value} {d : PyData} {ds : List PyData} : Rz h v d → RzL h vs ds → RzL h (v :: vs) (d :: ds)
end
section
variable {h : Heap}
mutual
theorem Rz.reads : ∀ {v : Value} {d : PyData}, Rz h v d → ∃ as, Reads h v d as
  | _, _, .none => ⟨_, .none⟩
  | _, _, .bool b => ⟨_, .bool b⟩
  | _, _, .int i t => ⟨_, .int i t⟩
  | _, _, .str x t => ⟨_, .str x t⟩
  | _, _, .list h1 h2 h3 h4 => let ⟨_, r⟩ := RzL.reads h4; ⟨_, .list h1 h2 h3 r⟩
  | _, _, .tuple h1 h2 h3 h4 => let ⟨_, r⟩ := RzL.reads h4; ⟨_, .tuple h1 h2 h3 r⟩
  | _, _, .edict h1 h2 h3 h4 _ => ⟨_, .dict h1 h2 h3 (by rw [h4]; exact .nil) (by rw [h4]; exact .nil)⟩
theorem RzL.reads : ∀ {vs : List Value} {ds : List PyData}, RzL h vs ds → ∃ as, ReadsAll h vs ds as
  | _, _, .nil => ⟨_, .nil⟩
  | _, _, .cons a b => let ⟨_, r⟩ := Rz.reads a; let ⟨_, q⟩ := RzL.reads b; ⟨_, .cons r q⟩
end
variable {prog : Program} {w : World}
mutual
theorem Rz.repK : ∀ {v : Value} {d : PyData}, Rz h v d → d.showable = true → d.shown.length ≤ sizeLine → ∃ bs, ReadAtMost h d.depth bs ∧ ReprK prog w bs h d.depth v d.shown
  | _, _, .none, _, _ => ⟨[], (fun _ z => nomatch z), by simp only [PyData.shown]; exact .of_is ReprIs.none _ _ _⟩
  | _, _, .bool b, _, _ => ⟨[], (fun _ z => nomatch z), by simp only [PyData.shown]; exact .of_is (ReprIs.bool b) _ _ _⟩
  | _, _, .int i t, hs, _ => ⟨[], (fun _ z => nomatch z), by simp only [PyData.shown]; exact .of_is (ReprIs.int t (by simpa [PyData.showable] using hs)) _ _ _⟩
  | _, _, .str x t, _, hz => ⟨[], (fun _ z => nomatch z), by simp only [PyData.shown]; exact .of_is (ReprIs.str x t (by simpa only [PyData.shown] using hz)) _ _ _⟩
  | _, _, .list (a := a) (vs := vs) (xs := xs) h1 h2 h3 h4, hs, hz => by
    have hz' : (listText (PyData.shownAll xs)).length ≤ sizeLine := by simpa only [PyData.shown] using hz
    obtain ⟨bs, hb, hk⟩ := RzL.repK h4 (by simpa [PyData.showable] using hs) fun t ht => Nat.le_trans (listText_mem_le ht) hz'
    obtain ⟨as, rs⟩ := RzL.reads h4
    have r : Reads h (.ref a) (.list xs) _ := .list h1 h2 h3 rs
    have hna : a ∉ bs := not_mem_of_deeper r (by simp only [PyData.depth]; omega) hb
    refine ⟨a :: bs, ReadAtMost.cons r (by simp only [PyData.depth]; omega) hb, ?_⟩
    simp only [PyData.depth, PyData.shown]
    obtain ⟨l⟩ := vs
    cases l with
    | nil =>
      have h4' : RzL h [] xs := h4
      cases h4'
      simp only [PyData.shownAll, listText_nil]
      exact ReprK.listEmpty h1 h2 h3
    | cons x l => exact ReprK.list h1 h2 h3 hna (by simpa using hk.length_eq) fun i y e => hk.item i y (by simpa using e)
  | _, _, .tuple (a := a) (xs := xs) h1 h2 h3 h4, hs, hz => by
    have hz' : (tupleText (PyData.shownAll xs)).length ≤ sizeLine := by simpa only [PyData.shown] using hz
    obtain ⟨bs, hb, hk⟩ := RzL.repK h4 (by simpa [PyData.showable] using hs) fun t ht => Nat.le_trans (tupleText_mem_le ht) hz'
    obtain ⟨as, rs⟩ := RzL.reads h4
    have r : Reads h (.ref a) (.tuple xs) _ := .tuple h1 h2 h3 rs
    have hna : a ∉ bs := not_mem_of_deeper r (by simp only [PyData.depth]; omega) hb
    refine ⟨a :: bs, ReadAtMost.cons r (by simp only [PyData.depth]; omega) hb, ?_⟩
    simp only [PyData.depth, PyData.shown]
    exact ReprK.tuple h1 h2 h3 hna hk
  | _, _, .edict (a := a) (es := es) h1 h2 h3 h4 h5, _, _ => by
    have r : Reads h (.ref a) (.dict []) _ := .dict h1 h2 h3 (by rw [h4]; exact .nil) (by rw [h4]; exact .nil)
    refine ⟨[a], ReadAtMost.cons r (Nat.le_refl _) (fun _ z => nomatch z), ?_⟩
    simp only [PyData.depth, PyData.shown, PyData.shownKv]
    exact ReprK.dict h1 h2 h3 h5 (by simp) (by rw [h4]; exact .nil)
theorem RzL.repK : ∀ {vs : List Value} {ds : List PyData}, RzL h vs ds → PyData.showableAll ds = true → (∀ t ∈ PyData.shownAll ds, t.length ≤ sizeLine) →
    ∃ bs, ReadAtMost h (PyData.depthAll ds) bs ∧ ReprAllK prog w bs h (PyData.depthAll ds) vs (PyData.shownAll ds)
  | _, _, .nil, _, _ => ⟨[], (fun _ z => nomatch z), by simp only [PyData.shownAll]; exact .nil⟩
  | _, _, .cons (d := d) (ds := ds) r rs, hs, hz => by
    have hs' : d.showable = true ∧ PyData.showableAll ds = true := by simpa [PyData.showableAll] using hs
    obtain ⟨b1, hb1, k1⟩ := Rz.repK r hs'.1 (hz _ (by simp only [PyData.shownAll]; exact List.mem_cons_self ..))
    obtain ⟨b2, hb2, k2⟩ := RzL.repK rs hs'.2 fun t ht => hz t (by simp only [PyData.shownAll]; exact List.mem_cons_of_mem _ ht)
    refine ⟨b1 ++ b2, ?_, ?_⟩
    · simp only [PyData.depthAll]
      exact (hb1.mono (Nat.le_max_left _ _)).append (hb2.mono (Nat.le_max_right _ _))
    · simp only [PyData.depthAll, PyData.shownAll]
      exact .cons ((k1.more fun b hb => List.mem_append_left _ hb).level_le (Nat.le_max_left _ _)) (k2.more_le (fun b hb => List.mem_append_right _ hb) (Nat.le_max_right _ _))
end
/-- repr(v), of what is an object -/
theorem rz_repr {A : Around} {E : Value → Shared → Prop} {s : Shared} {Q : Value → Shared → Prop} {a : Addr} {d : PyData} (r : Rz s.heap (.ref a) d) (hs : d.showable = true) (hz : d.shown.length ≤ sizeLine) (hg : A.guards = some []) (hu : A.units + (d.depth + 1) < cLine)
    (hQ : ∀ h' u tk, (∀ b o, s.heap.get? b = some o → h'.get? b = some o) → Q (.str d.shown u) { s with heap := h', toks := tk }) : wpAny (model prog w) A (call (.builtin "repr") [.ref a]) Q E s := by
  have go : ∀ {T idr : String}, SlotG T "__repr__" idr → s.TypeIs (.ref a) T → wpAny (model prog w) A.in1 (call (.builtin idr) [.ref a]) (fun v s' => ∃ x u, v = .str x u ∧ Q v s') E s → wpAny (model prog w) A (call (.builtin "repr") [.ref a]) Q E s := fun sl ty hc =>
    call_repr_slot (by omega) ty sl hc
  have hu1 : A.in1.units + d.depth < cLine := by show A.units + 1 + d.depth < cLine; omega
  cases r with
  | @list _ o vs n xs h1 h2 h3 h4 =>
    have hz' : (listText (PyData.shownAll xs)).length ≤ sizeLine := by simpa only [PyData.shown] using hz
    obtain ⟨bs, hb, hk⟩ := RzL.repK (prog := prog) (w := w) h4 (by simpa [PyData.showable] using hs) fun t ht => Nat.le_trans (listText_mem_le ht) hz'
    obtain ⟨as, rs⟩ := RzL.reads h4
    have hna : a ∉ bs := not_mem_of_deeper (.list h1 h2 h3 rs) (by simp only [PyData.depth]; omega) hb
    refine go F.slot_list_repr.toG ⟨o, h1, h2⟩ ?_
    simp only [PyData.depth] at hu1
    simp only [PyData.shown] at hQ
    obtain ⟨l⟩ := vs
    cases l with
    | nil =>
      have h4' : RzL s.heap [] xs := h4
      cases h4'
      simp only [PyData.shownAll, listText_nil] at hQ
      exact call_list_repr_empty ⟨o, h1, h2⟩ h1 h3 ⟨_, _, rfl, hQ s.heap _ _ fun _ _ e => e⟩
    | cons x l => exact call_list_reprK h1 h2 h3 hna (by simpa using hk.length_eq) (fun i y e => hk.item i y (by simpa using e)) hg (fun b _ => Clear.nil b) hu1 (fun _ _ e => e) (fun h' u tk k => ⟨_, _, rfl, hQ h' u tk k⟩) hz'
  | @tuple _ o vs n xs h1 h2 h3 h4 =>
    have hz' : (tupleText (PyData.shownAll xs)).length ≤ sizeLine := by simpa only [PyData.shown] using hz
    obtain ⟨bs, hb, hk⟩ := RzL.repK (prog := prog) (w := w) h4 (by simpa [PyData.showable] using hs) fun t ht => Nat.le_trans (tupleText_mem_le ht) hz'
    obtain ⟨as, rs⟩ := RzL.reads h4
    have hna : a ∉ bs := not_mem_of_deeper (.tuple h1 h2 h3 rs) (by simp only [PyData.depth]; omega) hb
    refine go F.slot_tuple_repr ⟨o, h1, h2⟩ ?_
    simp only [PyData.depth] at hu1
    simp only [PyData.shown] at hQ
    exact call_tuple_reprK h1 h2 h3 hna hk hg (fun b _ => Clear.nil b) hu1 (fun _ _ e => e) (fun h' u tk k => ⟨_, _, rfl, hQ h' u tk k⟩) hz'
  | @edict _ o es n h1 h2 h3 h4 h5 =>
    refine go F.slot_dict_repr ⟨o, h1, h2⟩ ?_
    simp only [PyData.depth] at hu1
    simp only [PyData.shown, PyData.shownKv] at hQ
    exact call_dict_reprK (as := []) (d := 0) h1 h2 h3 h5 (by simp) (by rw [h4]; exact .nil) hg (fun b _ => Clear.nil b) (by show A.units + 1 + (0 + 1) < cLine; omega) (fun _ _ e => e) (fun h' u tk k => ⟨_, _, rfl, hQ h' u tk k⟩) (by simpa [PyData.shown, PyData.shownKv] using hz)
end

/-! #### from values -/
mutual
def toR : PV → Option PyData
  | .non => some .none
  | .bl b => some (.bool b)
  | .int i => some (.int i)
  | .str x => some (.str x)
  | .tup xs => (toRs xs).map .tuple
  | .lst xs => (toRs xs).map .list
  | .edct => some (.dict [])
  | _ => none
def toRs : List PV → Option (List PyData)
  | [] => some []
  | x :: r => match toR x, toRs r with
    | some d, some ds => some (d :: ds)
    | _, _ => none
end
section
variable {X : Cx} {pins : List (Addr × Obj)} {σ : L2.St} {H : Hp} {s : Shared} {M : List Addr} {B : Addr → Prop} {bs : Bs}
mutual
theorem Rp.rz (I : Inv X pins σ H s) : ∀ {v : PV} {x : V} {u : Value} {d : PyData}, Rp X.K H M B v x → RelV x u → toR v = some d → Rz s.heap u d
  | .non, _, _, _, h, r, e => by cases h; cases r; cases e; exact .none
  | .bl b, _, _, _, h, r, e => by cases h; cases r; cases e; exact .bool b
  | .int i, _, _, _, h, r, e => by cases h; obtain ⟨t, rfl⟩ := r; cases e; exact .int i t
  | .str i, _, _, _, h, r, e => by cases h; obtain ⟨t, rfl⟩ := r; cases e; exact .str i t
  | .tup xs, _, _, _, h, r, e => by
    cases h with
    | tup h1 h2 =>
      cases r
      rw [toR] at e
      cases q : toRs xs with
      | none => rw [q] at e; cases e
      | some ds =>
        rw [q] at e; cases e
        obtain ⟨its, rv, ⟨o, ho, hc, n, hd⟩, _⟩ := I.tuple h1.sq
        exact .tuple ho hc hd (RpL.rz I h2 rv q)
  | .lst xs, _, _, _, h, r, e => by
    cases h with
    | lst h1 _ _ h2 =>
      cases r
      rw [toR] at e
      cases q : toRs xs with
      | none => rw [q] at e; cases e
      | some ds =>
        rw [q] at e; cases e
        obtain ⟨its, rv, ⟨o, n, ho, hc, _, hd⟩, _⟩ := I.list (SqL.of h1)
        exact .list ho hc hd (RpL.rz I h2 rv q)
  | .edct, _, _, _, h, r, e => by
    cases h with
    | edct h1 _ _ =>
      cases r; cases e
      obtain ⟨_, hd, vs, rv, o, es, ep, h2, h3, h4, _, h6, _⟩ := I.hok _ _ h1
      cases rv
      exact .edict h2 h3.1 h4 (by generalize es.toList = l at h6 ⊢; cases h6; rfl) hd
  | .ref _, _, _, _, _, _, e => by cases e
  | .scr _, _, _, _, _, _, e => by cases e
theorem RpL.rz (I : Inv X pins σ H s) : ∀ {vs : List PV} {xs : List V} {us : List Value} {ds : List PyData}, RpL X.K H M B vs xs → Vals xs us → toRs vs = some ds → RzL s.heap us ds
  | [], _, _, _, h, r, e => by cases h; cases r; cases e; exact .nil
  | v :: vs, _, _, _, h, r, e => by
    cases h with
    | cons h1 h2 =>
      cases r with
      | cons r1 r2 =>
        rw [toRs] at e
        cases q1 : toR v with
        | none => rw [q1] at e; cases e
        | some d =>
          cases q2 : toRs vs with
          | none => rw [q1, q2] at e; cases e
          | some es => rw [q1, q2] at e; cases e; exact .cons (Rp.rz I h1 r1 q1) (RpL.rz I h2 r2 q2)
end
end
def pRepr : FL := fun as S => match as with
  | [v] => (toR v).bind fun d => if d.showable = true ∧ d.shown.length ≤ sizeLine ∧ d.depth ≤ 60 then some (.str d.shown, S) else none
  | _ => none
theorem cr_repr {X : Cx} {bs : Bs} (hu : Rm X) (hg : X.A.guards = some []) : CallR X (.builtin "repr") (RRL X.K bs pRepr) := by
  intro pins s σ H xs us Q I r h
  obtain ⟨M, B, S, as, w, S', hS, ra, e, q⟩ := h
  unfold pRepr at e
  split at e
  · rename_i v0
    cases ra with
    | cons h1 h2 =>
      cases h2
      obtain ⟨u, rfl, ru⟩ := vals1 r
      cases hd : toR v0 with
      | none => rw [hd] at e; cases e
      | some d =>
        rw [hd, Option.bind_some] at e
        split at e
        · rename_i hc
          cases e
          have rz := h1.rz I ru hd
          have fin : ∀ h' t tk, (∀ b o, s.heap.get? b = some o → h'.get? b = some o) → EP X pins σ Q (.str d.shown t) { s with heap := h', toks := tk } := fun h' t tk k =>
            ⟨.str d.shown, H, I.kept k, ⟨t, rfl⟩, q.same hS (.str _)⟩
          cases rz with
          | none => exact P.repr_of_none (fin s.heap _ _ fun _ _ e => e)
          | bool b =>
            have : (PyData.bool b).shown = (if b = true then Str.ofString "True" else Str.ofString "False") := by cases b <;> simp only [PyData.shown] <;> rfl
            rw [this] at fin
            exact P.repr_of_bool (fin s.heap _ _ fun _ _ e => e)
          | int i t =>
            have : (PyData.int i).shown = toString i := by simp only [PyData.shown]
            rw [this] at fin
            exact P.repr_of_int (by simpa [PyData.showable] using hc.1) (fin s.heap _ _ fun _ _ e => e)
          | str x t =>
            have : (PyData.str x).shown = reprText x := by simp only [PyData.shown]
            rw [this] at fin hc
            exact P.repr_of_str (fin s.heap _ _ fun _ _ e => e) hc.2.1
          | list h1 h2 h3 h4 => exact rz_repr (.list h1 h2 h3 h4) hc.1 hc.2.1 hg (by have := hc.2.2; have : X.A.units + 65 < cLine := hu; omega) fun h' t tk k => fin h' t tk k
          | tuple h1 h2 h3 h4 => exact rz_repr (.tuple h1 h2 h3 h4) hc.1 hc.2.1 hg (by have := hc.2.2; have : X.A.units + 65 < cLine := hu; omega) fun h' t tk k => fin h' t tk k
          | edict h1 h2 h3 h4 h5 => exact rz_repr (.edict h1 h2 h3 h4 h5) hc.1 hc.2.1 hg (by have := hc.2.2; have : X.A.units + 65 < cLine := hu; omega) fun h' t tk k => fin h' t tk k
        · cases e
  · cases e
end Ev
namespace Ev
open PySem PySem.Spec PyProof.Rows L2
open PySem.W (EachIs)

/-! ### sorted -/
def encP (v : PV) : PyData := (toD v).getD .none
def alikeB (ds : List PyData) : Bool := ds.all fun d => ds.all fun e => PySem.W.alike d e
def tup1 : PyData → Bool
  | .tuple (_ :: _) => true
  | _ => false
def noTup : PyData → Bool
  | .tuple _ => false
  | .none => false
  | _ => true
def sortB (ds : List PyData) : Bool := ds.all tup1 || ds.all noTup
def pSorted (rev m : Bool) : FL := fun as S => match as with
  | [v] => if isTup v then none else match seqOf S v with
    | some xs => match toDs xs with
      | some ds => if alikeB ds && sortB ds && ds.all (fun d => decide (d.depth ≤ 60)) && decide (xs.length ≤ sizeLine) then some (mkL m (xs.mergeSort (PySem.W.dataLe rev encP)) S) else none
      | none => none
    | none => none
  | _ => none
theorem toDs_enc : ∀ {xs : List PV} {ds : List PyData}, toDs xs = some ds → ds = xs.map encP ∧ ∀ x ∈ xs, ∃ d, toD x = some d
  | [], ds, e => by cases e; exact ⟨rfl, fun _ h => nomatch h⟩
  | x :: xs, ds, e => by
    rw [toDs] at e
    cases q1 : toD x with
    | none => rw [q1] at e; cases e
    | some d =>
      cases q2 : toDs xs with
      | none => rw [q1, q2] at e; cases e
      | some es =>
        rw [q1, q2] at e; cases e
        obtain ⟨h1, h2⟩ := toDs_enc q2
        refine ⟨by rw [List.map_cons, ← h1]; simp [encP, q1], fun y hy => ?_⟩
        rcases List.mem_cons.mp hy with rfl | hy
        · exact ⟨d, q1⟩
        · exact h2 y hy
section
variable {K : Frag} {M : List Addr} {H : Hp} {B : Addr → Prop}
theorem RpL.zip : ∀ {xs : List PV} {vs : List V}, RpL K H M B xs vs → ∀ p ∈ xs.zip vs, Rp K H M B p.1 p.2
  | _, _, .nil, _, h => nomatch h
  | x :: xs, v :: vs, .cons r t, p, h => by
    rcases List.mem_cons.mp (by simpa using h : p ∈ (x, v) :: xs.zip vs) with rfl | h
    · exact r
    · exact RpL.zip t p h
theorem RpL.of_zip : ∀ {ps : List (PV × V)}, (∀ p ∈ ps, Rp K H M B p.1 p.2) → RpL K H M B (ps.map (·.1)) (ps.map (·.2))
  | [], _ => .nil
  | p :: ps, h => .cons (h p List.mem_cons_self) (RpL.of_zip fun q hq => h q (List.mem_cons_of_mem _ hq))
end
theorem each_zip : ∀ {xs : List PV} {vs : List V} {us : List Value}, xs.length = vs.length → Vals vs us → EachIs (fun u (p : PV × V) => RelV p.2 u) us (xs.zip vs)
  | [], [], _, _, r => by cases r; exact .nil
  | x :: xs, v :: vs, _, hl, r => by cases r with | cons r t => exact .cons r (each_zip (by simpa using hl) t)
theorem vals_of_each : ∀ {us : List Value} {ps : List (PV × V)}, EachIs (fun u (p : PV × V) => RelV p.2 u) us ps → Vals (ps.map (·.2)) us
  | _, _, .nil => .nil
  | _, _, .cons r t => .cons r (vals_of_each t)
section
variable {X : Cx} {bs : Bs}
theorem each_reads {pins : List (Addr × Obj)} {s : Shared} {σ : L2.St} {H : Hp} {M : List Addr} {B : Addr → Prop} (I : Inv X pins σ H s) : ∀ {xs : List PV} {vs : List V} {us : List Value}, RpL X.K H M B xs vs → Vals vs us → (∀ x ∈ xs, ∃ d, toD x = some d) →
    EachIs (fun u (p : PV × V) => ∃ as, Reads s.heap u (encP p.1) as) us (xs.zip vs)
  | [], [], _, .nil, r, _ => by cases r; exact .nil
  | x :: xs, v :: vs, _, .cons r t, rv, h => by
    cases rv with
    | cons r2 t2 =>
      refine .cons ?_ (each_reads I t t2 fun x hx => h x (List.mem_cons_of_mem _ hx))
      obtain ⟨d, hd⟩ := h _ List.mem_cons_self
      obtain ⟨as, hr⟩ := Dp.reads I d _ _ (r.dp hd) r2
      exact ⟨as, by show Reads s.heap _ (encP _) as; unfold encP; rw [hd]; exact hr⟩
/-- what both forms of the call ask -/
theorem sorted_run' {pins : List (Addr × Obj)} {s : Shared} {σ : L2.St} {H : Hp} {M : List Addr} {B : Addr → Prop} {S : Sto} {v w : PV} {S' : Sto} {Q : VK} {rev m : Bool} {x : V} {u : Value} (hu : Rm X) (I : Inv X pins σ H s) (rx : RelV x u) (hS : StR X.K H M B bs S) (ra : Rp X.K H M B v x)
    (e : pSorted rev m [v] S = some (w, S')) (q : Post X.K M H B bs w S' Q) :
    ∃ (a : Addr) (its : List Value) (ps : List (PV × V)), u = .ref a ∧ s.heap.IsList a its.toArray ∧ EachIs (fun u (p : PV × V) => RelV p.2 u) its ps ∧ EachIs (fun u p => ∃ as, Reads s.heap u (encP p.1) as) its ps ∧
      PySem.W.AllAlike (ps.map fun p => encP p.1) ∧ PySem.W.Sortable (ps.map fun p => encP p.1) ∧ ps.length ≤ sizeLine ∧ (∀ p ∈ ps, X.A.units + 2 + (encP p.1).depth < cLine) ∧
      ∀ out, out.length = ps.length → EachIs (fun u (p : PV × V) => RelV p.2 u) out (ps.mergeSort (PySem.W.dataLe rev fun p => encP p.1)) → EP X pins σ Q (.ref (s.heap.objs.size + 1)) { s with heap := sortedAll s.heap its (List.toArray out) } := by
  unfold pSorted at e
  simp only at e
  split at e
  · cases e
  · rename_i ht
    split at e
    · rename_i xs hx
      split at e
      · rename_i ds hd
        split at e
        · rename_i hc
          simp only [Bool.and_eq_true, decide_eq_true_eq, List.all_eq_true] at hc
          obtain ⟨⟨⟨c1, c2⟩, c3⟩, c4⟩ := hc
          obtain ⟨a, vs, rfl, hs, r1⟩ := seqL_rep hS ra (by simpa using ht) hx
          cases rx
          obtain ⟨its, rv, pl, hz⟩ := I.list hs
          obtain ⟨hds, hall⟩ := toDs_enc hd
          have hlen : xs.length = vs.length := r1.length.symm
          have hfst : (xs.zip vs).map (fun p => encP p.1) = ds := by
            have e0 : (xs.zip vs).map (fun p => encP p.1) = ((xs.zip vs).map Prod.fst).map encP := by rw [List.map_map]; rfl
            rw [hds, e0, List.map_fst_zip (by omega)]
          have hmem : ∀ p ∈ xs.zip vs, p.1 ∈ xs := fun p hp => (List.of_mem_zip hp).1
          refine ⟨a, its, xs.zip vs, rfl, pl.isList, each_zip hlen rv, each_reads I r1 rv hall, ?_, ?_, ?_, ?_, ?_⟩
          · rw [hfst]
            intro d h1 d' h2
            unfold alikeB at c1
            simp only [List.all_eq_true] at c1
            exact c1 d h1 d' h2
          · rw [hfst]
            unfold sortB at c2
            simp only [Bool.or_eq_true, List.all_eq_true] at c2
            rcases c2 with c2 | c2
            · refine .inl fun d hd => ?_
              have := c2 d hd
              cases d with
              | tuple xs => cases xs with
                | nil => cases this
                | cons y r => exact ⟨y, r, rfl⟩
              | _ => cases this
            · refine .inr fun d hd => ?_
              have := c2 d hd
              cases d with
              | tuple xs => cases this
              | none => cases this
              | _ => first | exact ⟨(fun z => nomatch z), (fun _ z => nomatch z)⟩ | exact ⟨(by intro z; cases z), (by intro _ z; cases z)⟩
          · rw [List.length_zip, ← hlen, Nat.min_self]; exact c4
          · intro p hp
            have h1 : encP p.1 ∈ ds := by rw [hds]; exact List.mem_map_of_mem (hmem p hp)
            have := c3 _ h1
            have h2 : X.A.units + 65 < cLine := hu
            omega
          · intro out ho eo
            have e' := Option.some.inj e
            have hsort : ((xs.zip vs).mergeSort (PySem.W.dataLe rev fun p => encP p.1)).map Prod.fst = xs.mergeSort (PySem.W.dataLe rev encP) := by
              refine (PySem.W.sort_maps (s := PySem.W.dataLe rev encP) Prod.fst (fun _ _ _ _ => rfl)).trans ?_
              rw [List.map_fst_zip (by omega)]
            have hrp : RpL X.K H M B (((xs.zip vs).mergeSort (PySem.W.dataLe rev fun p => encP p.1)).map Prod.fst) (((xs.zip vs).mergeSort (PySem.W.dataLe rev fun p => encP p.1)).map Prod.snd) :=
              RpL.of_zip fun p hp => r1.zip p ((List.mergeSort_perm _ _).mem_iff.mp hp)
            rw [hsort] at hrp
            have hv := vals_of_each eo
            obtain ⟨ep, he'⟩ := PyProof.Rows.sortedAll_at s.heap its out.toArray
            have hl2 : (((xs.zip vs).mergeSort (PySem.W.dataLe rev fun p => encP p.1)).map Prod.snd).length ≤ sizeLine := by
              rw [List.length_map, List.length_mergeSort, List.length_zip, ← hlen, Nat.min_self]; exact c4
            exact ⟨.ref _, _, I.laid (t' := s.toks) (o := .lst (((xs.zip vs).mergeSort (PySem.W.dataLe rev fun p => encP p.1)).map Prod.snd)) (fun _ _ => PyProof.Rows.sortedAll_old) (Nat.le_succ _) ⟨hl2, out, ep, hv, he'⟩, rfl, Post.lst e' q hS hrp _ (I.hok.fresh (Nat.le_succ _))⟩
        · cases e
      · cases e
    · cases e
theorem cr_sortedP {m : Bool} (hu : Rm X) : CallR X (.builtin "sorted") (RRL X.K bs (pSorted false m)) := by
  intro pins s σ H xs us Q I r h
  obtain ⟨M, B, S, as, w, S', hS, ra, e, q⟩ := h
  have : ∃ v, as = [v] := by
    unfold pSorted at e
    split at e
    · exact ⟨_, rfl⟩
    · cases e
  obtain ⟨v, rfl⟩ := this
  cases ra with
  | cons h1 h2 =>
    cases h2
    obtain ⟨u, rfl, ru⟩ := vals1 r
    obtain ⟨a, its, ps, rfl, k1, k2, k3, k4, k5, k6, k7, k8⟩ := sorted_run' hu I ru hS h1 e q
    exact PySem.W.sorted_data (enc := fun p => encP p.1) k1 k2 k3 k4 k5 k6 k7 k8
theorem cr_sortedR {m b : Bool} (hu : Rm X) : CallRK X (.builtin "sorted") [Str.ofString "reverse"] (fun xs zs H Q => zs = [.bl b] ∧ RRL X.K bs (pSorted b m) xs H Q) := by
  intro pins s σ H xs zs us ws Q I r rz h
  obtain ⟨rfl, M, B, S, as, w, S', hS, ra, e, q⟩ := h
  obtain ⟨w1, rfl, e1⟩ := vals1 rz
  obtain rfl : w1 = Value.bool b := e1
  have : ∃ v, as = [v] := by
    unfold pSorted at e
    split at e
    · exact ⟨_, rfl⟩
    · cases e
  obtain ⟨v, rfl⟩ := this
  cases ra with
  | cons h1 h2 =>
    cases h2
    obtain ⟨u, rfl, ru⟩ := vals1 r
    obtain ⟨a, its, ps, rfl, k1, k2, k3, k4, k5, k6, k7, k8⟩ := sorted_run' hu I ru hS h1 e q
    exact PySem.W.sorted_rev_data (enc := fun p => encP p.1) k1 k2 k3 k4 k5 k6 k7 k8
end
end Ev
namespace Ev
open PySem PySem.Spec PyProof.Rows
open Sem (wp)
abbrev IsZipS (h : Heap) (z TI TO : Addr) (f0 : Value) : Prop :=
  h.get? z = some { cls := .type "zip", dict := none, data := .fields #[f0, .bool false, .bool true, .ref TI, .ref TO], slots := #[] }
section
variable {prog : Program} {w : World} {A : Around} {E : Value → Shared → Prop} {s : Shared} {z TI TO i1 i2 : Addr} {fp1 fp2 : List Addr} {n1 n2 i : Nat} {P1 P2 : Nat → Value → Prop} {St1 St2 : Nat → Heap → Prop} {a1 a2 : Value}
theorem next_or {it : Addr} {fp : List Addr} {n i : Nat} {P : Nat → Value → Prop} {St : Nat → Heap → Prop} {Q : Option Value → Shared → Prop} (D : Draws prog w A it fp n P St) (hlt : i < n) (st : St i s.heap)
    (hQ : ∀ x h' tk, P i x → St (i + 1) h' → Heap.SameBut it s.heap h' → Q (some x) { s with heap := h', toks := tk }) : wpAny (model prog w) A (Builtin.SmallTypes.nextOrEnd (.ref it)) Q E s := by
  unfold Builtin.SmallTypes.nextOrEnd
  exact wpAny_bind (wpAny_attempt (D.item i s _ _ hlt st fun x h' tk a b c => wpAny_pure (hQ x h' tk a b c)))
theorem next_or_end {it : Addr} {fp : List Addr} {n : Nat} {P : Nat → Value → Prop} {St : Nat → Heap → Prop} {Q : Option Value → Shared → Prop} (D : Draws prog w A it fp n P St) (st : St n s.heap)
    (hQ : ∀ h', Heap.ExtBut it s.heap h' → Q none { s with heap := h' }) : wpAny (model prog w) A (Builtin.SmallTypes.nextOrEnd (.ref it)) Q E s := by
  unfold Builtin.SmallTypes.nextOrEnd
  refine wpAny_bind (wpAny_attempt (D.done s _ _ st fun h' e hx he => ?_))
  obtain ⟨o, ho, hc⟩ := he
  refine wpAny_bind (wpAny_isInstance (T := "StopIteration") (b := true) ⟨o, ho, hc⟩ isSubtype_stop ?_)
  exact wpAny_pure (hQ h' hx)
theorem zipS_item {Q : Value → Shared → Prop} (S : ZipSep2 z TI TO i1 i2 fp1 fp2) (D1 : Draws prog w A i1 fp1 n1 P1 St1) (D2 : Draws prog w A i2 fp2 n2 P2 St2)
    (hz : IsZipS s.heap z TI TO .none) (hTI : IsTupOf2 s.heap TI (.ref i1) (.ref i2)) (hTO : IsTupOf2 s.heap TO a1 a2) (st1 : St1 i s.heap) (st2 : St2 i s.heap) (hlt1 : i < n1) (hlt2 : i < n2)
    (hQ : ∀ x1 x2 h' tk, P1 i x1 → P2 i x2 → IsZipS h' z TI TO (rawInt s.heap.objs.size) → IsTupOf2 h' TO x1 x2 → St1 (i + 1) h' → St2 (i + 1) h' → IsTupOf2 h' s.heap.objs.size x1 x2 → h'.objs.size = s.heap.objs.size + 1 →
      (∀ c o, c ≠ z → c ≠ TO → c ≠ i1 → c ≠ i2 → s.heap.get? c = some o → h'.get? c = some o) → Q (.ref s.heap.objs.size) { s with heap := h', toks := tk }) :
    wpAny (model prog w) A (Builtin.«zip.__next__» ⟨[.ref z], []⟩) (fun fin s' => ∃ v, fin = .done (.ret v) ∧ Q v s') E s := by
  obtain ⟨hp, g, d, tk0, os⟩ := s
  show wpAny _ _ (field (.ref z) 2 >>= _) _ _ _
  refine wpAny_bind (wpAny_field hz rfl (x := .bool true) rfl ?_)
  show wpAny _ _ (field (.ref z) 3 >>= _) _ _ _
  refine wpAny_bind (wpAny_field hz rfl (x := .ref TI) rfl ?_)
  refine wpAny_bind (wpAny_seqItems hTI rfl ?_)
  show wpAny _ _ (Builtin.SmallTypes.ownedTupleIsFree (.ref z) >>= _) _ _ _
  refine wpAny_bind ?_
  unfold Builtin.SmallTypes.ownedTupleIsFree
  refine wpAny_bind (wpAny_field hz rfl (x := .none) rfl (wpAny_pure ?_))
  simp only [if_true]
  refine wpAny_bind (wpAny_rule ?_)
  refine wpAny_bind (wpAny_field hz rfl (x := .ref TO) rfl ?_)
  refine wpAny_bind (wpAny_setField_rec hz (by simp) fun g0 hz0 hs0 => ?_)
  replace hz0 : IsZipS g0 z TI TO .ellipsis := hz0
  replace hs0 : Heap.SameBut z hp g0 := hs0
  refine wpAny_bind ?_
  simp only [List.zipIdx_cons, List.zipIdx_nil, List.forIn_cons, List.forIn_nil]
  refine wpAny_bind (wpAny_bind (wpAny_onRaise ?_))
  show wpAny _ _ (Builtin.SmallTypes.nextOrEnd (.ref i1)) _ _ ⟨g0, g, d, tk0, os⟩
  refine next_or D1 hlt1 (D1.over st1 hs0 S.zf1) fun x1 p1 tk1 hx1 sn1 hp1 => ?_
  replace hp1 : Heap.SameBut i1 g0 p1 := hp1
  have hU1 : IsTupOf2 p1 TO a1 a2 := hp1.extBut _ _ S.Ti1 (hs0.extBut _ _ S.TOz hTO)
  refine wpAny_bind (wpAny_seqItems (s := ⟨p1, g, d, tk1, os⟩) hU1 rfl ?_)
  refine wpAny_bind (updateSeq_IsTupOf2 (s := ⟨p1, g, d, tk1, os⟩) hU1 fun g1 hT1 hs1 => ?_)
  replace hT1 : IsTupOf2 g1 TO x1 a2 := hT1
  replace hs1 : Heap.SameBut TO p1 g1 := hs1
  refine wpAny_bind (wpAny_letGo (wpAny_pure ?_))
  refine wpAny_bind (wpAny_bind (wpAny_onRaise ?_))
  show wpAny _ _ (Builtin.SmallTypes.nextOrEnd (.ref i2)) _ _ ⟨g1, g, d, tk1, os⟩
  refine next_or D2 hlt2 (D2.over (D2.over (D2.over st2 hs0 S.zf2) hp1 S.sep1_2) hs1 S.Tf2) fun x2 p2 tk2 hx2 sn2 hp2 => ?_
  replace hp2 : Heap.SameBut i2 g1 p2 := hp2
  have hU2 : IsTupOf2 p2 TO x1 a2 := hp2.extBut _ _ S.Ti2 hT1
  refine wpAny_bind (wpAny_seqItems (s := ⟨p2, g, d, tk2, os⟩) hU2 rfl ?_)
  refine wpAny_bind (updateSeq_IsTupOf2 (s := ⟨p2, g, d, tk2, os⟩) hU2 fun g2 hT2 hs2 => ?_)
  replace hT2 : IsTupOf2 g2 TO x1 x2 := hT2
  replace hs2 : Heap.SameBut TO p2 g2 := hs2
  refine wpAny_bind (wpAny_letGo (wpAny_pure (wpAny_pure ?_)))
  refine wpAny_bind (wpAny_seqItems (s := ⟨g2, g, d, tk2, os⟩) hT2 rfl ?_)
  refine wpAny_bind (wpAny_newTuple ?_)
  have hsz : g2.objs.size = hp.objs.size := by rw [hs2.1, hp2.1, hs1.1, hp1.1, hs0.1]
  have hzz : IsZipS g2 z TI TO .ellipsis := (hs2.extBut _ _ S.TOz.symm (hp2.extBut _ _ S.zi2 (hs1.extBut _ _ S.TOz.symm (hp1.extBut _ _ S.zi1 hz0))))
  have hkk : ∀ c o, c ≠ z → c ≠ TO → c ≠ i1 → c ≠ i2 → hp.get? c = some o → g2.get? c = some o := fun c o cz cT c1 c2 e =>
    (hs2.extBut _ _ cT (hp2.extBut _ _ c2 (hs1.extBut _ _ cT (hp1.extBut _ _ c1 (hs0.extBut _ _ cz e)))))
  have hj1 : St1 (i + 1) g2 := (D1.over (D1.over (D1.over sn1 hs1 S.Tf1) hp2 S.sep2_1) hs2 S.Tf1)
  have hj2 : St2 (i + 1) g2 := (D2.over sn2 hs2 S.Tf2)
  have hzlt : z < g2.objs.size := Heap.lt_size hzz
  show wpAny _ _ (Builtin.SmallTypes.ownedTupleHandOut (.ref z) (.ref g2.objs.size) >>= _) _ _ ⟨g2.push { cls := .type "tuple", data := .seq #[x1, x2] }, g, d, tk2, os⟩
  refine wpAny_bind ?_
  unfold Builtin.SmallTypes.ownedTupleHandOut
  have hz₆ : IsZipS (g2.push { cls := .type "tuple", data := .seq #[x1, x2] }) z TI TO .ellipsis := Heap.get?_push_of_some _ hzz
  refine wpAny_bind (wpAny_setField_rec hz₆ (by simp) fun h₇ hz₇ hs₇ => ?_)
  replace hz₇ : IsZipS h₇ z TI TO (rawInt g2.objs.size) := hz₇
  refine wpAny_setField_rec hz₇ (by simp) fun h₈ hz₈ hs₈ => ?_
  replace hz₈ : IsZipS h₈ z TI TO (rawInt g2.objs.size) := hz₈
  replace hs₇ : Heap.SameBut z (g2.push { cls := .type "tuple", data := .seq #[x1, x2] }) h₇ := hs₇
  replace hs₈ : Heap.SameBut z h₇ h₈ := hs₈
  have up : ∀ c o, c ≠ z → g2.get? c = some o → h₈.get? c = some o := fun c o c1 e => hs₈.extBut _ _ c1 (hs₇.extBut _ _ c1 (Heap.get?_push_of_some _ e))
  have hT₈ : IsTupOf2 h₈ g2.objs.size x1 x2 := hs₈.extBut _ _ (Nat.ne_of_gt hzlt) (hs₇.extBut _ _ (Nat.ne_of_gt hzlt) (Heap.get?_push_size _ rfl))
  have hz8 : h₈.objs.size = g2.objs.size + 1 := by rw [hs₈.1, hs₇.1, Heap.size_push]
  rw [hsz] at hz₈ hT₈ hz8
  refine wpAny_pure ⟨_, rfl, ?_⟩
  show Q (.ref g2.objs.size) ⟨h₈, g, d, tk2, os⟩
  rw [hsz]
  exact hQ x1 x2 h₈ tk2 hx1 hx2 hz₈ (up _ _ S.TOz hT2) (D1.frame _ _ _ hj1 fun b hb o e => up b o (fun q => S.zf1 (q ▸ hb)) e) (D2.frame _ _ _ hj2 fun b hb o e => up b o (fun q => S.zf2 (q ▸ hb)) e) hT₈ hz8 fun c o cz cT c1 c2 e => up c o cz (hkk c o cz cT c1 c2 e)

/-- both have come to their ends -/
theorem zipS_end {Q : Fin → Shared → Prop} (hh : A.handled = none) (S : ZipSep2 z TI TO i1 i2 fp1 fp2) (D1 : Draws prog w A i1 fp1 n1 P1 St1) (D2 : Draws prog w A i2 fp2 n2 P2 St2)
    (hz : IsZipS s.heap z TI TO .none) (hTI : IsTupOf2 s.heap TI (.ref i1) (.ref i2)) (hTO : IsTupOf2 s.heap TO a1 a2) (st1 : St1 n1 s.heap) (st2 : St2 n2 s.heap)
    (hE : ∀ h' tk e, (∀ c o, c ≠ z → c ≠ TO → c ≠ i1 → c ≠ i2 → s.heap.get? c = some o → h'.get? c = some o) → (∃ o, h'.get? e = some o ∧ o.cls = .type "StopIteration") → E (.ref e) { s with heap := h', toks := tk }) :
    wpAny (model prog w) A (Builtin.«zip.__next__» ⟨[.ref z], []⟩) Q E s := by
  obtain ⟨hp, g, d, tk0, os⟩ := s
  show wpAny _ _ (field (.ref z) 2 >>= _) _ _ _
  refine wpAny_bind (wpAny_field hz rfl (x := .bool true) rfl ?_)
  show wpAny _ _ (field (.ref z) 3 >>= _) _ _ _
  refine wpAny_bind (wpAny_field hz rfl (x := .ref TI) rfl ?_)
  refine wpAny_bind (wpAny_seqItems hTI rfl ?_)
  show wpAny _ _ (Builtin.SmallTypes.ownedTupleIsFree (.ref z) >>= _) _ _ _
  refine wpAny_bind ?_
  unfold Builtin.SmallTypes.ownedTupleIsFree
  refine wpAny_bind (wpAny_field hz rfl (x := .none) rfl (wpAny_pure ?_))
  simp only [if_true]
  refine wpAny_bind (wpAny_rule ?_)
  refine wpAny_bind (wpAny_field hz rfl (x := .ref TO) rfl ?_)
  refine wpAny_bind (wpAny_setField_rec hz (by simp) fun g0 hz0 hs0 => ?_)
  replace hz0 : IsZipS g0 z TI TO .ellipsis := hz0
  replace hs0 : Heap.SameBut z hp g0 := hs0
  refine wpAny_bind ?_
  simp only [List.zipIdx_cons, List.zipIdx_nil, List.forIn_cons, List.forIn_nil]
  refine wpAny_bind (wpAny_bind (wpAny_onRaise ?_))
  show wpAny _ _ (Builtin.SmallTypes.nextOrEnd (.ref i1)) _ _ ⟨g0, g, d, tk0, os⟩
  refine next_or_end D1 (D1.over st1 hs0 S.zf1) fun p1 hp1 => ?_
  replace hp1 : Heap.ExtBut i1 g0 p1 := hp1
  have hz1 : IsZipS p1 z TI TO .ellipsis := hp1 _ _ S.zi1 hz0
  refine wpAny_bind (wpAny_setField_rec (s := ⟨p1, g, d, tk0, os⟩) hz1 (by simp) fun p2 hz2 hs2 => ?_)
  replace hs2 : Heap.SameBut z p1 p2 := hs2
  refine wpAny_bind ?_
  show wpAny _ _ (forIn (m := Sem) [(Value.ref i2, 1)] PUnit.unit _ >>= _) _ _ ⟨p2, g, d, tk0, os⟩
  refine wpAny_bind ?_
  simp only [List.forIn_cons, List.forIn_nil]
  refine wpAny_bind (wpAny_bind ?_)
  have s2 : St2 n2 p2 := D2.frame _ _ _ (D2.over st2 hs0 S.zf2) fun b hb o e => (hs2.2 b (fun q => S.zf2 (q ▸ hb))).trans (hp1 b o (fun q => S.sep1_2 (q ▸ hb)) e)
  refine next_or_end D2 s2 fun p3 hp3 => ?_
  replace hp3 : Heap.ExtBut i2 p2 p3 := hp3
  show wpAny _ _ (pure _) _ _ ⟨p3, g, d, tk0, os⟩
  refine wpAny_pure (wpAny_pure ?_)
  have kk : ∀ c o, c ≠ z → c ≠ TO → c ≠ i1 → c ≠ i2 → hp.get? c = some o → p3.get? c = some o := fun c o cz cT c1 c2 e =>
    hp3 _ _ c2 (hs2.extBut _ _ cz (hp1 _ _ c1 (hs0.extBut _ _ cz e)))
  show wpAny _ _ (rule _ >>= _) _ _ ⟨p3, g, d, tk0, os⟩
  refine wpAny_bind (wpAny_rule ?_)
  show wpAny _ _ (newExc (.type "StopIteration") [] >>= _) _ _ _
  refine wpAny_bind ?_
  simp only [newExc, newTuple]
  refine wpAny_bind (wpAny_newObj_type ?_ (by size_fits))
  refine wpAny_bind (m := firstArgMember _ _) (wpAny_of_eq (a := Value.none) (by first | rfl | (simp only [firstArgMember]; rfl)) ?_)
  refine wpAny_newObj_type ?_ (by size_fits)
  simp only [raiseNew]
  refine wpAny_bind (wpAny_handled ?_)
  first | rw [show A.in1.handled = none from hh] | rw [hh]
  refine wpAny_bind (wpAny_pure (wpAny_throw ?_))
  exact hE _ _ _ (fun c o cz cT c1 c2 e => Heap.get?_push_of_some _ (Heap.get?_push_of_some _ (kk c o cz cT c1 c2 e))) ⟨_, Heap.get?_push_size _ rfl, rfl⟩

theorem pyNext_zipS_item {Q : Option Value → Shared → Prop} (S : ZipSep2 z TI TO i1 i2 fp1 fp2) (D1 : Draws prog w A.in1 i1 fp1 n1 P1 St1) (D2 : Draws prog w A.in1 i2 fp2 n2 P2 St2)
    (hz : IsZipS s.heap z TI TO .none) (hTI : IsTupOf2 s.heap TI (.ref i1) (.ref i2)) (hTO : IsTupOf2 s.heap TO a1 a2) (st1 : St1 i s.heap) (st2 : St2 i s.heap) (hlt1 : i < n1) (hlt2 : i < n2)
    (hQ : ∀ x1 x2 h' tk, P1 i x1 → P2 i x2 → IsZipS h' z TI TO (rawInt s.heap.objs.size) → IsTupOf2 h' TO x1 x2 → St1 (i + 1) h' → St2 (i + 1) h' → IsTupOf2 h' s.heap.objs.size x1 x2 → h'.objs.size = s.heap.objs.size + 1 →
      (∀ c o, c ≠ z → c ≠ TO → c ≠ i1 → c ≠ i2 → s.heap.get? c = some o → h'.get? c = some o) → Q (some (.ref s.heap.objs.size)) { s with heap := h', toks := tk }) :
    wpAny (model prog w) A (pyNext (.ref z)) Q E s := by
  have hT : s.TypeIs (.ref z) "zip" := ⟨_, hz, rfl⟩
  unfold pyNext
  exact wpAny_bind (wpAny_attempt (wpAny_callSpecial?_slot (name := Str.ofString "__next__") hT F.slot_zip_next
    (wpAny_call_entry F.slot_zip_next hT F.entry_zip_next
      (zipS_item S D1 D2 hz hTI hTO st1 st2 hlt1 hlt2 fun x1 x2 h' tk y1 y2 b1 b2 d1 d2 b5 b6 b7 => wpAny_pure (hQ x1 x2 h' tk y1 y2 b1 b2 d1 d2 b5 b6 b7)) (F.args_zip_next_1 _))))
theorem pyNext_zipS_end {Q : Option Value → Shared → Prop} (hh : A.handled = none) (S : ZipSep2 z TI TO i1 i2 fp1 fp2) (D1 : Draws prog w A.in1 i1 fp1 n1 P1 St1) (D2 : Draws prog w A.in1 i2 fp2 n2 P2 St2)
    (hz : IsZipS s.heap z TI TO .none) (hTI : IsTupOf2 s.heap TI (.ref i1) (.ref i2)) (hTO : IsTupOf2 s.heap TO a1 a2) (st1 : St1 n1 s.heap) (st2 : St2 n2 s.heap)
    (hQ : ∀ h' tk, (∀ c o, c ≠ z → c ≠ TO → c ≠ i1 → c ≠ i2 → s.heap.get? c = some o → h'.get? c = some o) → Q none { s with heap := h', toks := tk }) : wpAny (model prog w) A (pyNext (.ref z)) Q E s := by
  have hT : s.TypeIs (.ref z) "zip" := ⟨_, hz, rfl⟩
  unfold pyNext
  refine wpAny_bind (wpAny_attempt (wpAny_callSpecial?_slot (name := Str.ofString "__next__") hT F.slot_zip_next
    (wpAny_call_entry F.slot_zip_next hT F.entry_zip_next (zipS_end (A := A.in1) hh S D1 D2 hz hTI hTO st1 st2 fun h' tk e hk he => ?_) (F.args_zip_next_1 _))))
  obtain ⟨o, ho, hc⟩ := he
  refine wpAny_bind (wpAny_isInstance (T := "StopIteration") (b := true) ⟨o, ho, hc⟩ isSubtype_stop ?_)
  exact wpAny_pure (hQ _ _ hk)
theorem letGo_zipS {elts : List Expr} {x1} {pos : Pos} {T : Addr} {Q : Unit → Shared → Prop} (hz : IsZipS s.heap z TI TO (rawInt T))
    (hQ : ∀ h', IsZipS h' z TI TO .none → Heap.SameBut z s.heap h' → Q () { s with heap := h' }) :
    wpAny (model prog w) A (letOwnedTupleGo (.Tuple elts x1 pos) (.ref z) (.ref T)) Q E s := by
  unfold letOwnedTupleGo
  refine wpAny_bind (wpAny_load hz ?_)
  show wpAny _ _ (if (["enumerate", "zip", "dict_itemiterator", "dict_reverseitemiterator", "odict_iterator", "itertools.zip_longest", "itertools.pairwise"].contains "zip" &&
      (#[rawInt T, .bool false, .bool true, .ref TI, .ref TO] : Array Value)[0]? == some (rawInt T)) = true then _ else _) Q E s
  rw [if_pos (by simp)]
  refine wpAny_bind (wpAny_rule ?_)
  show wpAny _ _ (setField (.ref z) 0 .none) Q E s
  exact wpAny_setField_rec hz (by simp) fun h' hz' hs' => hQ h' hz' hs'
theorem pyIter_zipS {f0 : Value} {Q : Value → Shared → Prop} (hz : IsZipS s.heap z TI TO f0) (h : Q (.ref z) s) : wpAny (model prog w) A (pyIter (.ref z)) Q E s := by
  have hT : s.TypeIs (.ref z) "zip" := ⟨_, hz, rfl⟩
  refine wpAny_pyIter_slot hT F.slot_zip_iter (wpAny_call_entry F.slot_zip_iter hT F.entry_zip_iter ?_ (F.args_zip_iter_1 _))
  show wpAny _ _ (ret (.ref z)) _ _ s
  exact wpAny_pure ⟨_, rfl, "zip", _, hT, F.slot_zip_next.lookup, h⟩
end

/-! ### it begins -/
theorem tc_zipS (a b c : Value) : checkTypeCall "zip" ⟨[a, b], [(Str.ofString "strict", c)]⟩ = pure () := by kernel_rfl
theorem nc_zipS (a b c : Value) : checkBuiltinCall "zip.__new__" ⟨[.type "zip", a, b], [(Str.ofString "strict", c)]⟩ = pure () := by kernel_rfl
theorem oi_zipS (obj a b c : Value) : argsOk "object.__init__" ⟨[obj, a, b], [(Str.ofString "strict", c)]⟩ := by unfold argsOk; kernel_rfl
abbrev zsZ (h : Heap) (o1 o2 : Obj) : Heap := (gzO2 h o1 o2).push { cls := .type "zip", data := .fields #[.none, .bool false, .bool true, .ref ((h.push o1).push o2).objs.size, .ref (gzT2 h o1 o2).objs.size] }
theorem meets_zipS {v1 v2 : Value} {o1 o2 : Obj} {H1 H2 : Heap → Prop} (B1 : Begins v1 o1 H1) (B2 : Begins v2 o2 H2) :
    Meets (Builtin.«zip.__new__» ⟨[.type "zip", v1, v2], [(Str.ofString "strict", .bool true)]⟩) (fun _ R s => (H1 s.heap ∧ H2 s.heap) ∧
      R (.ok (.ret (.ref (gzO2 s.heap o1 o2).objs.size))) { s with heap := zsZ s.heap o1 o2 }) :=
  .of_wp fun prog w A R s h => by
    obtain ⟨hp, g, d, tk, os⟩ := s; obtain ⟨⟨h1, h2⟩, h⟩ := h
    have hsub := sub_zip
    have q1 : ∀ {A' : Around} {E : Value → Shared → Prop} {Q : Value → Shared → Prop}, Q (.ref hp.objs.size) ⟨(hp.push o1), g, d, tk, os⟩ → wpAny (model prog w) A' (pyIter v1) Q E ⟨hp, g, d, tk, os⟩ :=
      fun q => B1.iter prog w _ _ ⟨hp, g, d, tk, os⟩ _ (B1.keeps _ _ h1 fun b o' e => e) q
    have q2 : ∀ {A' : Around} {E : Value → Shared → Prop} {Q : Value → Shared → Prop}, Q (.ref (hp.push o1).objs.size) ⟨((hp.push o1).push o2), g, d, tk, os⟩ → wpAny (model prog w) A' (pyIter v2) Q E ⟨(hp.push o1), g, d, tk, os⟩ :=
      fun q => B2.iter prog w _ _ ⟨(hp.push o1), g, d, tk, os⟩ _ (B2.keeps _ _ h2 fun b o' e => (Heap.get?_push_of_some _ e)) q
    have e1 : (Str.ofString "strict" != ("strict" : Str)) = false := by decide +kernel
    wp_walk using q1, q2
    all_goals exact ⟨_, rfl, h⟩
section
variable {prog : Program} {w : World} {A : Around} {E : Value → Shared → Prop} {s : Shared}
theorem zipS_begins {v1 v2 : Value} {o1 o2 : Obj} {H1 H2 : Heap → Prop} {Q : Value → Shared → Prop} (B1 : Begins v1 o1 H1) (B2 : Begins v2 o2 H2) (h1 : H1 s.heap) (h2 : H2 s.heap)
    (h : ∀ h', IsZipS h' (s.heap.objs.size + 4) (s.heap.objs.size + 2) (s.heap.objs.size + 3) .none → IsTupOf2 h' (s.heap.objs.size + 2) (.ref s.heap.objs.size) (.ref (s.heap.objs.size + 1)) →
      IsTupOf2 h' (s.heap.objs.size + 3) .none .none → h'.get? s.heap.objs.size = some o1 → h'.get? (s.heap.objs.size + 1) = some o2 → h'.objs.size = s.heap.objs.size + 5 →
      (∀ c o, s.heap.get? c = some o → h'.get? c = some o) → Q (.ref (s.heap.objs.size + 4)) { s with heap := h' }) :
    wpAny (model prog w) A (call (.type "zip") [v1, v2] [(Str.ofString "strict", .bool true)]) Q E s := by
  refine callType_newKw F.called_zip (by decide) (tc_zipS _ _ _) (nc_zipS _ _ _) (fun obj => oi_zipS obj _ _ _) F.entry_zip_new (meets_zipS B1 B2) ⟨⟨h1, h2⟩, ?_⟩
  have z1 : (s.heap.push o1).objs.size = s.heap.objs.size + 1 := by rw [Heap.size_push]
  have z2 : ((s.heap.push o1).push o2).objs.size = s.heap.objs.size + 2 := by rw [Heap.size_push, z1]
  have zT : (gzT2 s.heap o1 o2).objs.size = s.heap.objs.size + 3 := by rw [Heap.size_push, z2]
  have zO : (gzO2 s.heap o1 o2).objs.size = s.heap.objs.size + 4 := by rw [Heap.size_push, zT]
  have zZ : (zsZ s.heap o1 o2).objs.size = s.heap.objs.size + 5 := by rw [Heap.size_push, zO]
  have gZ : (zsZ s.heap o1 o2).get? (gzO2 s.heap o1 o2).objs.size = some { cls := .type "zip", data := .fields #[.none, .bool false, .bool true, .ref ((s.heap.push o1).push o2).objs.size, .ref (gzT2 s.heap o1 o2).objs.size] } := Heap.get?_push_size _ rfl
  have gO : (zsZ s.heap o1 o2).get? (gzT2 s.heap o1 o2).objs.size = some { cls := .type "tuple", data := .seq #[.none, .none] } := Heap.get?_push_of_some _ (Heap.get?_push_size _ rfl)
  have gT : (zsZ s.heap o1 o2).get? ((s.heap.push o1).push o2).objs.size = some { cls := .type "tuple", data := .seq #[.ref s.heap.objs.size, .ref (s.heap.push o1).objs.size] } := Heap.get?_push_of_some _ (Heap.get?_push_of_some _ (Heap.get?_push_size _ rfl))
  have g1 : (zsZ s.heap o1 o2).get? s.heap.objs.size = some o1 := Heap.get?_push_of_some _ (Heap.get?_push_of_some _ (Heap.get?_push_of_some _ (Heap.get?_push_of_some _ (Heap.get?_push_size _ B1.free))))
  have g2 : (zsZ s.heap o1 o2).get? (s.heap.push o1).objs.size = some o2 := Heap.get?_push_of_some _ (Heap.get?_push_of_some _ (Heap.get?_push_of_some _ (Heap.get?_push_size _ B2.free)))
  rw [zO, zT, z2] at gZ
  rw [zT] at gO
  rw [z2, z1] at gT
  rw [z1] at g2
  show _ ∧ _
  rw [zO]
  exact ⟨⟨_, gZ, rfl⟩, h _ gZ gT gO g1 g2 zZ fun c o e => Heap.get?_push_of_some _ (Heap.get?_push_of_some _ (Heap.get?_push_of_some _ (Heap.get?_push_of_some _ (Heap.get?_push_of_some _ e))))⟩
end
end Ev
namespace Ev
open PySem PySem.Spec PyProof.Rows L2

/-! ### lists (false) and tuples (true), drawn from -/
def Sq (t : Bool) (K : Frag) (H : Hp) (a : Addr) (xs : List V) : Prop := match t with | true => SqT K H a xs | false => SqL K H a xs
def itAt (t : Bool) (h : Heap) (it a : Addr) (i : Nat) : Prop := match t with | true => h.IsTupleIter it a i | false => h.IsListIter it a i
def sqAt (t : Bool) (h : Heap) (a : Addr) (its : Array Value) : Prop := match t with | true => h.IsTuple a its | false => h.IsList a its
def itObj (t : Bool) (a : Addr) : Obj := match t with
  | true => { cls := .type "tuple_iterator", data := .fields #[.ref a, .int 0 0] }
  | false => { cls := .type "list_iterator", data := .fields #[.ref a, .int 0 0] }
section
variable {X : Cx} {pins : List (Addr × Obj)} {σ : L2.St} {H : Hp} {s : Shared} {h h' : Heap} {t : Bool} {a it : Addr} {i : Nat} {xs ys : List V}
theorem sq_at (I : Inv X pins σ H s) (q : Sq t X.K H a xs) : ∃ its : List Value, Vals xs its ∧ sqAt t s.heap a its.toArray := by
  cases t with
  | true => obtain ⟨its, r, p, _⟩ := I.tuple q; exact ⟨its, r, p⟩
  | false => obtain ⟨its, r, p, _⟩ := I.list q; exact ⟨its, r, p.isList⟩
theorem sq_inj (I : Inv X pins σ H s) (p : Sq t X.K H a xs) (q : Sq t X.K H a ys) : xs = ys := by
  cases t with
  | true => exact I.tuple_inj p q
  | false => exact I.list_inj p q
theorem itAt_keep (q : itAt t h it a i) (k : ∀ o, h.get? it = some o → h'.get? it = some o) : itAt t h' it a i := by
  cases t with
  | true => exact Heap.IsTupleIter.at q k
  | false => exact Heap.IsListIter.at q k
theorem itAt_obj (q : itAt t h it a i) : ∃ o, h.get? it = some o ∧ ∀ v, o.data ≠ .cell v := by
  cases t with
  | true => obtain ⟨o, e, c, d⟩ := q; exact ⟨o, e, fun v z => by rw [d] at z; cases z⟩
  | false => obtain ⟨o, e, c, d⟩ := q; exact ⟨o, e, fun v z => by rw [d] at z; cases z⟩
theorem itAt_zero (e : h.get? it = some (itObj t a)) : itAt t h it a 0 := by
  cases t with
  | true => exact ⟨_, e, rfl, rfl⟩
  | false => exact ⟨_, e, rfl, rfl⟩
theorem begins_sq (its : Array Value) : Begins (.ref a) (itObj t a) fun h => sqAt t h a its := by
  cases t with
  | true => exact begins_tuple a its
  | false => exact begins_list a its
theorem sqAt_lt {its : Array Value} (q : sqAt t h a its) : a < h.objs.size := by
  cases t with
  | true => obtain ⟨o, e, _⟩ := q; exact Heap.lt_size e
  | false => obtain ⟨o, e, _⟩ := q; exact Heap.lt_size e
theorem drawsT {prog : Program} {w : World} {A : Around} (hh : A.handled = none) (it a : Addr) (hne : a ≠ it) (its : Array Value) :
    Draws prog w A it [it, a] its.size (fun i v => its[i]? = some v) (fun i h => itAt t h it a i ∧ sqAt t h a its) := by
  cases t with
  | true => exact Draws.tuple hh it a hne its
  | false => exact Draws.list hh it a hne its
end

/-! ### enumerate -/
def ItEn (K : Frag) (t : Bool) (a : Addr) : It :=
  ⟨fun i H => ∃ (xs : List V) (x : V), Sq t K H a xs ∧ xs[i]? = some x, fun i H v H' => ∃ T x, v = .ref T ∧ H T = none ∧ H' = upd H T (.tup [.int (i : Nat), x]) ∧ ∀ xs, Sq t K H a xs → xs[i]? = some x,
    fun i H => ∃ xs : List V, Sq t K H a xs ∧ xs.length = i⟩
theorem turn_En {P : Program} {w : World} {K : Frag} {elts : List Expr} {kk : Nat} {tpos : Pos} {t : Bool} (a e it : Addr) :
    Turn P w K (.Tuple elts kk tpos) (ItEn K t a) [e, it] e (fun i h => (∃ old, IsEnum h e it ((i : Nat) : Int) old) ∧ itAt t h it a i ∧ e ≠ it ∧ a ≠ it ∧ a ≠ e) where
  mem := by simp
  obj := fun i h st b hb => by
    obtain ⟨⟨old, he⟩, hi, _⟩ := st
    rcases List.mem_cons.mp hb with z | z
    · rw [z]; exact ⟨_, he, fun v q => nomatch q⟩
    · rw [List.mem_singleton.mp z]; exact itAt_obj hi
  keep := fun i h h' st k => let ⟨⟨old, he⟩, hi, hne⟩ := st; ⟨⟨old, k e (by simp) _ he⟩, itAt_keep hi fun o q => k it (by simp) o q, hne⟩
  item := by
    intro X hP hw hK hc i pins s σ H E I hf st hg
    subst hP hw hK
    obtain ⟨⟨old, he⟩, hit, hne, hai, hae⟩ := st
    obtain ⟨xs, x, hq, hx⟩ := hg
    obtain ⟨its, rv, p⟩ := sq_at I hq
    obtain ⟨u, hu, ru⟩ := rv.get hx
    have hel : e < s.heap.objs.size := Heap.lt_size he
    have hil : it < s.heap.objs.size := by obtain ⟨_, q, _⟩ := itAt_obj hit; exact Heap.lt_size q
    have hlt : i < its.toArray.size := by
      have := (List.getElem?_eq_some_iff.mp hu).1
      simpa using this
    refine wpAny_pyNext_enum_itemC (drawsT (t := t) (prog := X.prog) (w := X.w) (A := X.A.in1) (I.ok.hd hc) it a hai its.toArray) he ⟨hit, p⟩ hlt hne (by simp only [List.mem_cons, List.not_mem_nil, or_false, not_or]; exact ⟨hne, Ne.symm hae⟩) fun x' h' tk hx' ho st' hT hsz hk => ?_
    have hxu : x' = u := by
      have : its[i]? = some x' := by simpa using hx'
      rw [hu] at this; cases this; rfl
    subst hxu
    refine ⟨_, rfl, wpAny_letOwnedTupleGo_enum (s := { s with heap := h', toks := tk + 1 }) ho fun h'' he' sb => ?_⟩
    have hT2 : h''.get? s.heap.objs.size = some { cls := .type "tuple", data := .seq #[.int i tk, x'] } := (sb.2 _ (Nat.ne_of_gt hel)).trans hT
    have I1 : Inv X pins σ (upd H s.heap.objs.size (.tup [.int (i : Nat), x])) { s with heap := h'', toks := tk + 1 } :=
      I.turnedNew (ch := [e, it]) (fun b ob hb q => (sb.2 b (fun z => hb (by simp [z]))).trans (hk b ob (fun z => hb (by simp [z])) (fun z => hb (by simp [z])) q)) hf (Nat.le_refl _)
        ⟨by show 2 ≤ sizeLine; decide, [.int i tk, x'], .cons ⟨_, rfl⟩ (.cons ru .nil), ⟨_, hT2, rfl, _, rfl⟩⟩
    refine ⟨.ref s.heap.objs.size, _, I1, rfl, ⟨_, x, rfl, I.hok.fresh (Nat.le_refl _), rfl, fun ys hy => by rw [sq_inj I hy hq]; exact hx⟩, ⟨⟨x', ?_⟩, itAt_keep st'.1 fun o q => (sb.2 it (Ne.symm hne)).trans q, hne, hai, hae⟩, fun b hb => ?_⟩
    · have e1 : ((i + 1 : Nat) : Int) = (i : Int) + 1 := by omega
      rw [e1]; exact he'
    · have hb' : b < s.heap.objs.size := by
        rcases List.mem_cons.mp hb with z | z
        · rw [z]; exact hel
        · rw [List.mem_singleton.mp z]; exact hil
      rw [upd_ne (Nat.ne_of_lt hb')]
      exact (hf b hb).1
  done := by
    intro X hP hw hK hc i pins s σ H E I hf st hg
    subst hP hw hK
    obtain ⟨⟨old, he⟩, hit, hne, hai, hae⟩ := st
    obtain ⟨xs, hq, hx⟩ := hg
    obtain ⟨its, rv, p⟩ := sq_at I hq
    obtain ⟨f0, f1, f2, f3, f4, f5⟩ := hf it (by simp)
    have hl := rv.length
    have hn : i = its.toArray.size := by rw [List.size_toArray, ← hl, hx]
    rw [hn] at hit
    exact wpAny_pyNext_enum_endD (drawsT (t := t) (prog := X.prog) (w := X.w) (A := X.A.in1) (I.ok.hd hc) it a hai its.toArray) he ⟨hit, p⟩ fun h' eb => ⟨rfl, I.turned (t' := s.toks) (fun b o hb q => eb b o hb q) f0 f1 f3 f4 f5⟩
  self := fun A i s Q E st h => let ⟨⟨_, he⟩, _⟩ := st; wpAny_pyIter_enum he h

/-! ### zip -/
def zipIs (st : Bool) (h : Heap) (z TI TO : Addr) (f0 : Value) : Prop := match st with | true => IsZipS h z TI TO f0 | false => IsZip h z TI TO f0
def ItZp (K : Frag) (st t1 t2 : Bool) (a b : Addr) : It :=
  ⟨fun i H => ∃ (xs ys : List V) (x y : V), Sq t1 K H a xs ∧ Sq t2 K H b ys ∧ xs[i]? = some x ∧ ys[i]? = some y,
    fun i H v H' => ∃ T x y, v = .ref T ∧ H T = none ∧ H' = upd H T (.tup [x, y]) ∧ (∀ xs, Sq t1 K H a xs → xs[i]? = some x) ∧ ∀ ys, Sq t2 K H b ys → ys[i]? = some y,
    fun i H => ∃ xs ys : List V, Sq t1 K H a xs ∧ Sq t2 K H b ys ∧ i ≤ xs.length ∧ i ≤ ys.length ∧ (match st with | true => i = xs.length ∧ i = ys.length | false => i = xs.length ∨ i = ys.length)⟩
structure ZApart (z TI TO i1 i2 a b : Addr) : Prop where
  s : ZipSep2 z TI TO i1 i2 [i1, a] [i2, b]
  ai : a ≠ i1
  bi : b ≠ i2
  i1z : i1 ≠ z
  i2z : i2 ≠ z
theorem zapart {n a b : Nat} (ha : a < n) (hb : b < n) : ZApart (n + 4) (n + 2) (n + 3) n (n + 1) a b := by
  have ne : ∀ {x y : Nat}, (x < y ∨ y < x) → x ≠ y := by omega
  have no : ∀ {x y z : Nat}, x ≠ y → x ≠ z → x ∉ [y, z] := fun h1 h2 h => by simp at h; omega
  exact ⟨⟨ne (by omega), ne (by omega), ne (by omega), ne (by omega), by simp, no (ne (by omega)) (ne (by omega)), no (ne (by omega)) (ne (by omega)), ne (by omega), by simp, no (ne (by omega)) (ne (by omega)), no (ne (by omega)) (ne (by omega)),
    no (ne (by omega)) (ne (by omega)), no (ne (by omega)) (ne (by omega))⟩, ne (by omega), ne (by omega), ne (by omega), ne (by omega)⟩
theorem turn_Zp {P : Program} {w : World} {K : Frag} {elts : List Expr} {kk : Nat} {tpos : Pos} {st t1 t2 : Bool} {a b z TI TO i1 i2 : Addr} (D : ZApart z TI TO i1 i2 a b) :
    Turn P w K (.Tuple elts kk tpos) (ItZp K st t1 t2 a b) [z, TI, TO, i1, i2] z (fun i h => zipIs st h z TI TO .none ∧ IsPair h TI (.ref i1) (.ref i2) ∧ (∃ x y, IsPair h TO x y) ∧ itAt t1 h i1 a i ∧ itAt t2 h i2 b i) where
  mem := by simp
  obj := fun i h st' c hc => by
    obtain ⟨hz, hTI, ⟨x, y, hTO⟩, h1, h2⟩ := st'
    have e' : c = z ∨ c = TI ∨ c = TO ∨ c = i1 ∨ c = i2 := by simpa using hc
    rcases e' with q | q | q | q | q
    · rw [q]
      cases st with
      | true => exact ⟨_, hz, fun v q => nomatch q⟩
      | false => exact ⟨_, hz, fun v q => nomatch q⟩
    · rw [q]; exact ⟨_, hTI, fun v q => nomatch q⟩
    · rw [q]; exact ⟨_, hTO, fun v q => nomatch q⟩
    · rw [q]; exact itAt_obj h1
    · rw [q]; exact itAt_obj h2
  keep := fun i h h' st' k => by
    obtain ⟨hz, hTI, ⟨x, y, hTO⟩, h1, h2⟩ := st'
    refine ⟨?_, k TI (by simp) _ hTI, ⟨x, y, k TO (by simp) _ hTO⟩, itAt_keep h1 fun o q => k i1 (by simp) o q, itAt_keep h2 fun o q => k i2 (by simp) o q⟩
    cases st with
    | true => exact k z (by simp) _ hz
    | false => exact k z (by simp) _ hz
  item := by
    intro X hP hw hK hc i pins s σ H E I hf st' hg
    subst hP hw hK
    obtain ⟨hz, hTI, ⟨x0, y0, hTO⟩, h1, h2⟩ := st'
    obtain ⟨xs, ys, x, y, hqx, hqy, hx, hy⟩ := hg
    obtain ⟨its, rv, p⟩ := sq_at I hqx
    obtain ⟨its2, rv2, p2⟩ := sq_at I hqy
    obtain ⟨u, hu, ru⟩ := rv.get hx
    obtain ⟨u2, hu2, ru2⟩ := rv2.get hy
    have hzl : z < s.heap.objs.size := by
      cases st with
      | true => exact Heap.lt_size hz
      | false => exact Heap.lt_size hz
    have lt1 : i < its.toArray.size := by simpa using (List.getElem?_eq_some_iff.mp hu).1
    have lt2 : i < its2.toArray.size := by simpa using (List.getElem?_eq_some_iff.mp hu2).1
    have D1 := drawsT (t := t1) (prog := X.prog) (w := X.w) (A := X.A.in1) (I.ok.hd hc) i1 a D.ai its.toArray
    have D2 := drawsT (t := t2) (prog := X.prog) (w := X.w) (A := X.A.in1) (I.ok.hd hc) i2 b D.bi its2.toArray
    have fin : ∀ (y1 y2 : Value) (h' : Heap) (tk : Nat), its.toArray[i]? = some y1 → its2.toArray[i]? = some y2 → zipIs st h' z TI TO (rawInt s.heap.objs.size) → IsTupOf2 h' TO y1 y2 → (itAt t1 h' i1 a (i + 1) ∧ sqAt t1 h' a its.toArray) →
        (itAt t2 h' i2 b (i + 1) ∧ sqAt t2 h' b its2.toArray) → IsTupOf2 h' s.heap.objs.size y1 y2 → h'.objs.size = s.heap.objs.size + 1 → (∀ c o, c ≠ z → c ≠ TO → c ≠ i1 → c ≠ i2 → s.heap.get? c = some o → h'.get? c = some o) →
        ∃ v, some (Value.ref s.heap.objs.size) = some v ∧ wpAny (model X.prog X.w) X.A (letOwnedTupleGo (.Tuple elts kk tpos) (.ref z) v) (fun _ s2 => ∃ x H', Inv X pins σ H' s2 ∧ RelV x v ∧ (ItZp X.K st t1 t2 a b).yld i H x H' ∧
          (zipIs st s2.heap z TI TO .none ∧ IsPair s2.heap TI (.ref i1) (.ref i2) ∧ (∃ x y, IsPair s2.heap TO x y) ∧ itAt t1 s2.heap i1 a (i + 1) ∧ itAt t2 s2.heap i2 b (i + 1)) ∧ ∀ b ∈ [z, TI, TO, i1, i2], H' b = none) E { s with heap := h', toks := tk } := by
      intro y1 y2 h' tk hy1 hy2 z' TO' h1' h2' hT hsz hk
      have e1 : y1 = u := by
        have : its[i]? = some y1 := by simpa using hy1
        rw [hu] at this; cases this; rfl
      have e2 : y2 = u2 := by
        have : its2[i]? = some y2 := by simpa using hy2
        rw [hu2] at this; cases this; rfl
      subst e1; subst e2
      refine ⟨_, rfl, ?_⟩
      have last : ∀ h'' : Heap, zipIs st h'' z TI TO .none → Heap.SameBut z h' h'' → ∃ x H', Inv X pins σ H' { s with heap := h'', toks := tk } ∧ RelV x (Value.ref s.heap.objs.size) ∧ (ItZp X.K st t1 t2 a b).yld i H x H' ∧
          (zipIs st h'' z TI TO .none ∧ IsPair h'' TI (.ref i1) (.ref i2) ∧ (∃ x y, IsPair h'' TO x y) ∧ itAt t1 h'' i1 a (i + 1) ∧ itAt t2 h'' i2 b (i + 1)) ∧ ∀ b ∈ [z, TI, TO, i1, i2], H' b = none := by
        intro h'' z'' sb
        have hT2 : h''.get? s.heap.objs.size = some { cls := .type "tuple", data := .seq #[y1, y2] } := (sb.2 _ (Nat.ne_of_gt hzl)).trans hT
        have I1 : Inv X pins σ (upd H s.heap.objs.size (.tup [x, y])) { s with heap := h'', toks := tk } :=
          I.turnedNew (ch := [z, TI, TO, i1, i2]) (fun c o hb q => (sb.2 c (fun q' => hb (by simp [q']))).trans (hk c o (fun q' => hb (by simp [q'])) (fun q' => hb (by simp [q'])) (fun q' => hb (by simp [q'])) (fun q' => hb (by simp [q'])) q)) hf (Nat.le_refl _)
            ⟨by show 2 ≤ sizeLine; decide, [y1, y2], .cons ru (.cons ru2 .nil), ⟨_, hT2, rfl, _, rfl⟩⟩
        refine ⟨.ref s.heap.objs.size, _, I1, rfl, ⟨_, x, y, rfl, I.hok.fresh (Nat.le_refl _), rfl, fun l hl => by rw [sq_inj I hl hqx]; exact hx, fun l hl => by rw [sq_inj I hl hqy]; exact hy⟩, ⟨z'', ?_, ⟨y1, y2, ?_⟩, ?_, ?_⟩, fun c hcm => ?_⟩
        · exact (sb.2 _ D.s.TIz).trans (hk _ _ D.s.TIz D.s.TITO D.s.TIi1 D.s.TIi2 hTI)
        · exact (sb.2 _ D.s.TOz).trans TO'
        · exact itAt_keep h1'.1 fun o q => (sb.2 _ D.i1z).trans q
        · exact itAt_keep h2'.1 fun o q => (sb.2 _ D.i2z).trans q
        · have hlt : c < s.heap.objs.size := by
            have e' : c = z ∨ c = TI ∨ c = TO ∨ c = i1 ∨ c = i2 := by simpa using hcm
            rcases e' with q | q | q | q | q
            · rw [q]; exact hzl
            · rw [q]; exact Heap.lt_size hTI
            · rw [q]; exact Heap.lt_size hTO
            · rw [q]; obtain ⟨_, e1, _⟩ := itAt_obj h1; exact Heap.lt_size e1
            · rw [q]; obtain ⟨_, e2, _⟩ := itAt_obj h2; exact Heap.lt_size e2
          rw [upd_ne (Nat.ne_of_lt hlt)]
          exact (hf c hcm).1
      cases st with
      | true => exact letGo_zipS (s := { s with heap := h', toks := tk }) z' fun h'' z'' sb => last h'' z'' sb
      | false => exact wpAny_letOwnedTupleGo_zip (s := { s with heap := h', toks := tk }) z' fun h'' z'' sb => last h'' z'' sb
    cases st with
    | true => exact pyNext_zipS_item D.s D1 D2 hz hTI hTO ⟨h1, p⟩ ⟨h2, p2⟩ lt1 lt2 fin
    | false => exact wpAny_pyNext_zipD2_item D.s D1 D2 hz hTI hTO ⟨h1, p⟩ ⟨h2, p2⟩ lt1 lt2 fin
  done := by
    intro X hP hw hK hc i pins s σ H E I hf st' hg
    subst hP hw hK
    obtain ⟨hz, hTI, ⟨x0, y0, hTO⟩, h1, h2⟩ := st'
    obtain ⟨xs, ys, hqx, hqy, hl1, hl2, hend⟩ := hg
    obtain ⟨its, rv, p⟩ := sq_at I hqx
    obtain ⟨its2, rv2, p2⟩ := sq_at I hqy
    have l1 := rv.length
    have l2 := rv2.length
    have D1 := drawsT (t := t1) (prog := X.prog) (w := X.w) (A := X.A.in1) (I.ok.hd hc) i1 a D.ai its.toArray
    have D2 := drawsT (t := t2) (prog := X.prog) (w := X.w) (A := X.A.in1) (I.ok.hd hc) i2 b D.bi its2.toArray
    have fin : ∀ (h' : Heap) (tk : Nat), (∀ c o, c ≠ z → c ≠ TO → c ≠ i1 → c ≠ i2 → s.heap.get? c = some o → h'.get? c = some o) → (none : Option Value) = none ∧ Inv X pins σ H { s with heap := h', toks := tk } := fun h' tk hk =>
      ⟨rfl, I.turnedL (ch := [z, TI, TO, i1, i2]) (fun c o hb q => hk c o (fun q' => hb (by simp [q'])) (fun q' => hb (by simp [q'])) (fun q' => hb (by simp [q'])) (fun q' => hb (by simp [q'])) q) hf⟩
    cases st with
    | true =>
      have n1 : i = its.toArray.size := by rw [List.size_toArray, ← l1]; exact hend.1
      have n2 : i = its2.toArray.size := by rw [List.size_toArray, ← l2]; exact hend.2
      exact pyNext_zipS_end (I.ok.hd hc) D.s D1 D2 hz hTI hTO ⟨by rw [← n1]; exact h1, p⟩ ⟨by rw [← n2]; exact h2, p2⟩ fin
    | false =>
      have hend' : i = xs.length ∨ i = ys.length := hend
      exact wpAny_pyNext_zipD2_end D.s D1 D2 hz hTI hTO ⟨h1, p⟩ ⟨h2, p2⟩ (by rw [List.size_toArray, ← l1]; exact hl1) (by rw [List.size_toArray, ← l2]; exact hl2) (by rw [List.size_toArray, ← l1, List.size_toArray, ← l2]; exact hend') fin
  self := fun A i s Q E st' h => by
    cases st with
    | true => exact pyIter_zipS st'.1 h
    | false => exact wpAny_pyIter_zip st'.1 h
end Ev
namespace Ev
open PySem PySem.Spec PyProof.Rows L2

/-! ### a small language -/
inductive Bn | len | int | abs | max | sum | all | tup | lst (m : Bool) | rep | srt (r m : Bool)
inductive Mt | app | pop | idx
mutual
inductive ME
  | var (i : Nat)
  | con (c : PV)
  | bin (op : Operator) (m : Bool) (a b : ME)
  | neg (a : ME)
  | cmp (op : CmpOp) (a b : ME)
  | chn (op op' : CmpOp) (a b c : ME)
  | not (a : ME)
  | and (a b : ME)
  | or (a b : ME)
  | ite (c a b : ME)
  | tup (as : MA)
  | lst (m : Bool) (as : MA)
  | emp (m : Bool)
  | dct (m : Bool) (ks : List Str) (as : MA)
  | idx (a b : ME)
  | slc (m : Bool) (a : ME) (lo hi : MO)
  | rev (m : Bool) (a : ME)
  | cal (f : Nat) (as : MA)
  | blt (b : Bn) (as : MA)
  | isi (T : String) (a : ME)
  | met (k : Mt) (o : ME) (as : MA)
  | lrg (m : Bool) (a : ME)
  | lc (m : Bool) (it : MI) (tg : List Nat) (one : Bool) (vs : List Nat) (t : MO) (elt : ME)
inductive MA
  | nil
  | cons (a : ME) (r : MA)
  | star (a : ME) (r : MA)
inductive MO
  | no
  | so (a : ME)
inductive MI
  | seq (a : ME)
  | rng (a : ME)
  | rng2 (a b : ME)
  | enu (a : ME)
  | zip (st : Bool) (a b : ME)
end
/-- statements; a target: its slots, and whether it is one name -/
inductive MS
  | asg (tg : List Nat) (one : Bool) (e : ME)
  | par (is : List Nat) (as : MA)
  | sub (o i e : ME)
  | exp (e : ME)
  | ret (e : ME)
  | retN
  | ifS (c : ME) (a b : MS)
  | forS (it : MI) (tg : List Nat) (one : Bool) (b : MS)
  | whl (c : ME) (b : MS)
  | brk | cnt | nop
  | seq (a b : MS)

/-! ### what it does -/
abbrev Orc := Nat → List PV → Sto → Option (PV × Sto)
abbrev Dn (α : Type) := En → Sto → Option (α × Sto)
def Dn.ret {α : Type} (a : α) : Dn α := fun _ S => some (a, S)
def Dn.non {α : Type} : Dn α := fun _ _ => none
def Dn.bnd {α β : Type} (m : Dn α) (k : α → Dn β) : Dn β := fun en S => match m en S with
  | some p => k p.1 en p.2
  | none => none
def Dn.lft {α : Type} (f : Sto → Option (α × Sto)) : Dn α := fun _ S => f S
structure D2 where
  e : Dn PV
  t : Dn Bool
def gv (i : Nat) : Dn PV := fun en S => match en[i]? with
  | some (some v) => some (v, S)
  | _ => none
def tst (f : Dn PV) : Dn Bool := f.bnd fun v => .lft fun S => (truthy S v).map fun b => (b, S)
def asB (f : Dn PV) : Dn Bool := f.bnd fun v => .lft fun S => match v with
  | .bl b => some (b, S)
  | _ => none
def D2.of (f : Dn PV) : D2 := ⟨f, tst f⟩
def D2.ofB (f : Dn PV) : D2 := ⟨f, asB f⟩
def opF (m : Bool) : Operator → F2
  | .Add => pAdd m | .Sub => pSub | .Mult => pMul m | .FloorDiv => pDiv | .Mod => pMod | .LShift => pShl
  | _ => fun _ _ _ => none
def pNeg : F1 := fun a S => match a with
  | .int i => some (.int (-i), S)
  | _ => none
def cmpD (op : CmpOp) (a b : PV) : Dn PV := .lft fun S => (pCmp op a b S).map fun c => (.bl c, S)
def b2 (a b : Dn PV) (k : PV → PV → Dn PV) : Dn PV := a.bnd fun x => b.bnd fun y => k x y
def chnD (op op' : CmpOp) (a b c : Dn PV) : Dn PV := a.bnd fun x => b.bnd fun y => (asB (cmpD op x y)).bnd fun k => if k then c.bnd fun z => cmpD op' y z else .ret (.bl false)
def notD (a : Dn PV) : Dn PV := (asB a).bnd fun b => .ret (.bl (!b))
def andD (a b : Dn PV) : Dn PV := (asB a).bnd fun k => if k then b else .ret (.bl false)
def orD (a b : Dn PV) : Dn PV := (asB a).bnd fun k => if k then .ret (.bl true) else b
def notT (a : Dn Bool) : Dn Bool := a.bnd fun b => .ret (!b)
def andT (a b : Dn Bool) : Dn Bool := a.bnd fun k => if k then b else .ret false
def orT (a b : Dn Bool) : Dn Bool := a.bnd fun k => if k then .ret true else b
def iteD (c : Dn Bool) (a b : Dn PV) : Dn PV := c.bnd fun k => if k then a else b
def tupD (as : Dn (List PV)) : Dn PV := as.bnd fun xs => .lft fun S => if xs.length ≤ sizeLine then some (.tup xs, S) else none
def lstD (m : Bool) (as : Dn (List PV)) : Dn PV := as.bnd fun xs => .lft fun S => if xs.length ≤ sizeLine then some (mkL m xs S) else none
def kvsOf : List Str → List PV → List (Key × PV)
  | k :: ks, v :: vs => (.inr k, v) :: kvsOf ks vs
  | _, _ => []
def dctD (m : Bool) (ks : List Str) (as : Dn (List PV)) : Dn PV := as.bnd fun vs => .lft fun S => if ks.length = vs.length then mkD m ((kvsOf ks vs).foldl (fun acc kv => putP acc kv.1 kv.2) []) S else none
def partD (v : PV) : Option Int := match v with
  | .int i => some i
  | _ => none
def someD (a : Dn PV) : Dn (Option Int) := a.bnd fun v => .lft fun S => (partD v).map fun i => (some i, S)
def pRev (m : Bool) : F1 := fun a S => match a with
  | .tup xs => some (.tup xs.reverse, S)
  | a => (seqOf S a).map fun xs => mkL m xs.reverse S
def bltF : Bn → FL
  | .len => pLen | .int => pInt | .abs => pAbs | .max => pMax | .sum => pSum | .all => pAll | .tup => pTuple | .lst m => pList m | .rep => pRepr | .srt r m => pSorted r m
def metF (tp : Nat) : Mt → FM
  | .app => pAppend tp | .pop => pPop | .idx => pIndex
def isiD (T : String) (a : Dn PV) : Dn PV := a.bnd fun v => .lft fun S => (pIsI T v S).map fun c => (.bl c, S)
/-- the receiver's type is told when it is read -/
def metD (tp : Nat) (k : Mt) (o : Dn PV) (as : Dn (List PV)) : Dn PV := o.bnd fun x => fun en S => match as en S with
  | some p => if tyName p.2 x = tyName S x then metF tp k x p.1 p.2 else none
  | none => none
def lrgD (m : Bool) (a : Dn PV) : Dn PV := a.bnd fun v => .lft fun S => match v with
  | .int j => if -(2 ^ 62) ≤ j ∧ j.toNat ≤ 2 ^ 24 then some (mkL m ((List.range j.toNat).map fun (i : Nat) => PV.int i) S) else none
  | _ => none
def starD (a : Dn PV) (r : Dn (List PV)) : Dn (List PV) := a.bnd fun v en S => match v with
  | .tup xs => (r en S).map fun p => (xs ++ p.1, p.2)
  | _ => none
/-- an iterator, read by turns -/
inductive ItV
  | seq (v : PV)
  | rng (lo : Int) (n : Nat)
  | enu (v : PV)
  | zip (st : Bool) (v w : PV)
def ItV.len (S : Sto) : ItV → Option Nat
  | .seq v => (seqOf S v).map List.length
  | .rng _ n => some n
  | .enu v => (seqOf S v).map List.length
  | .zip st v w => match seqOf S v, seqOf S w with
    | some xs, some ys => if st then (if xs.length = ys.length then some xs.length else none) else some (min xs.length ys.length)
    | _, _ => none
def ItV.item (S : Sto) (i : Nat) : ItV → Option PV
  | .seq v => (seqOf S v).bind fun xs => xs[i]?
  | .rng lo n => if i < n then some (.int (lo + i)) else none
  | .enu v => ((seqOf S v).bind fun xs => xs[i]?).map fun x => .tup [.int i, x]
  | .zip _ v w => match (seqOf S v).bind (fun xs => xs[i]?), (seqOf S w).bind (fun ys => ys[i]?) with
    | some x, some y => some (.tup [x, y])
    | _, _ => none
def ItV.okT (one : Bool) : ItV → Bool
  | .enu _ => !one
  | .zip _ _ _ => !one
  | _ => true
def rngOk (i j : Int) : Bool := decide (-(2 ^ 62) ≤ i) && decide (i < 2 ^ 62) && decide (-(2 ^ 62) ≤ j) && decide (j < 2 ^ 62)
def seqI (a : Dn PV) (k : PV → ItV) : Dn ItV := a.bnd fun v => .lft fun S => (seqOf S v).map fun _ => (k v, S)
def zipI (st : Bool) (a b : Dn PV) : Dn ItV := a.bnd fun v => b.bnd fun w => .lft fun S => ((seqOf S v).bind fun _ => seqOf S w).map fun _ => (.zip st v w, S)
def rngI (a : Dn PV) : Dn ItV := a.bnd fun v => .lft fun S => match v with
  | .int j => if rngOk 0 j then some (.rng 0 j.toNat, S) else none
  | _ => none
def rng2I (a b : Dn PV) : Dn ItV := a.bnd fun v => b.bnd fun w => .lft fun S => match v, w with
  | .int i, .int j => if rngOk i j then some (.rng i (j - i).toNat, S) else none
  | _, _ => none
/-- values put into slots -/
def setAll : List Nat → List PV → En → Option En
  | [], [], en => some en
  | i :: is, v :: vs, en => setAll is vs (en.set i (some v))
  | _, _, _ => none
def tgF (tg : List Nat) (one : Bool) (v : PV) (en : En) : Option En := match one with
  | true => match tg with
    | [i] => some (en.set i (some v))
    | _ => none
  | false => match v with
    | .tup xs => setAll tg xs en
    | _ => none
def wipeE (en : En) : List Nat → En
  | [] => en
  | v :: vs => (wipeE en vs).set v none
/-- the turns of a comprehension -/
def lcL (J : ItV) (tg : List Nat) (one : Bool) (t : Dn Bool) (e : Dn PV) (en : En) : Nat → Nat → List PV → Sto → Option (List PV × Sto)
  | 0, i, acc, S => if J.len S = some i then some (acc, S) else none
  | k + 1, i, acc, S => (J.item S i).bind fun v => (tgF tg one v en).bind fun en2 => (t en2 S).bind fun p => match p.1 with
    | true => (e en2 p.2).bind fun q => if acc.length < sizeLine then lcL J tg one t e en k (i + 1) (acc ++ [q.1]) q.2 else none
    | false => lcL J tg one t e en k (i + 1) acc p.2
def lcD (m : Bool) (it : Dn ItV) (tg : List Nat) (one : Bool) (vs : List Nat) (t : Dn Bool) (e : Dn PV) : Dn PV := it.bnd fun J en S =>
  if J.okT one then (J.len S).bind fun n => (lcL J tg one t e (wipeE en vs) n 0 [] S).map fun p => mkL m p.1 p.2 else none
mutual
def ME.dn (R : Orc) (tp : Nat) : ME → D2
  | .var i => .of (gv i)
  | .con c => .of (.ret c)
  | .bin op m a b => .of (b2 (a.dn R tp).e (b.dn R tp).e fun x y => .lft fun S => opF m op x y S)
  | .neg a => .of ((a.dn R tp).e.bnd fun x => .lft fun S => pNeg x S)
  | .cmp op a b => .ofB (b2 (a.dn R tp).e (b.dn R tp).e (cmpD op))
  | .chn op op' a b c => .ofB (chnD op op' (a.dn R tp).e (b.dn R tp).e (c.dn R tp).e)
  | .not a => ⟨notD (a.dn R tp).e, notT (a.dn R tp).t⟩
  | .and a b => ⟨andD (a.dn R tp).e (b.dn R tp).e, andT (a.dn R tp).t (b.dn R tp).t⟩
  | .or a b => ⟨orD (a.dn R tp).e (b.dn R tp).e, orT (a.dn R tp).t (b.dn R tp).t⟩
  | .ite c a b => .of (iteD (c.dn R tp).t (a.dn R tp).e (b.dn R tp).e)
  | .tup as => .of (tupD (as.dn R tp))
  | .lst m as => .of (lstD m (as.dn R tp))
  | .emp m => .of (.lft fun S => mkD m [] S)
  | .dct m ks as => .of (dctD m ks (as.dn R tp))
  | .idx a b => .of (b2 (a.dn R tp).e (b.dn R tp).e fun x y => .lft fun S => pIdx x y S)
  | .slc m a lo hi => .of ((a.dn R tp).e.bnd fun x => (lo.dn R tp).1.bnd fun l => (hi.dn R tp).1.bnd fun h => .lft fun S => pSlice m l h x S)
  | .rev m a => .of ((a.dn R tp).e.bnd fun x => .lft fun S => pRev m x S)
  | .cal f as => .of ((as.dn R tp).bnd fun xs => .lft fun S => R f xs S)
  | .blt b as => .of ((as.dn R tp).bnd fun xs => .lft fun S => bltF b xs S)
  | .isi T a => .of (isiD T (a.dn R tp).e)
  | .met k o as => .of (metD tp k (o.dn R tp).e (as.dn R tp))
  | .lrg m a => .of (lrgD m (a.dn R tp).e)
  | .lc m it tg one vs t e => .of (lcD m (it.dn R tp) tg one vs (t.dn R tp).2 (e.dn R tp).e)
def MA.dn (R : Orc) (tp : Nat) : MA → Dn (List PV)
  | .nil => .ret []
  | .cons a r => (a.dn R tp).e.bnd fun x => (r.dn R tp).bnd fun xs => .ret (x :: xs)
  | .star a r => starD (a.dn R tp).e (r.dn R tp)
/-- a part of a slice; a test -/
def MO.dn (R : Orc) (tp : Nat) : MO → Dn (Option Int) × Dn Bool
  | .no => (.ret none, .ret true)
  | .so a => (someD (a.dn R tp).e, (a.dn R tp).t)
def MI.dn (R : Orc) (tp : Nat) : MI → Dn ItV
  | .seq a => seqI (a.dn R tp).e .seq
  | .rng a => rngI (a.dn R tp).e
  | .rng2 a b => rng2I (a.dn R tp).e (b.dn R tp).e
  | .enu a => seqI (a.dn R tp).e .enu
  | .zip st a b => zipI st (a.dn R tp).e (b.dn R tp).e
end
inductive SR
  | nx (en : En) (S : Sto)
  | rt (v : PV) (S : Sto)
  | bk (en : En) (S : Sto)
  | ct (en : En) (S : Sto)
abbrev DS := En → Sto → Option SR
def sqD (a b : DS) : DS := fun en S => (a en S).bind fun r => match r with
  | .nx en S => b en S
  | r => some r
def forL (J : ItV) (tg : List Nat) (one : Bool) (b : DS) : Nat → Nat → DS
  | 0, i, en, S => if J.len S = some i then some (.nx en S) else none
  | k + 1, i, en, S => (J.item S i).bind fun v => (tgF tg one v en).bind fun en2 => (b en2 S).bind fun r => match r with
    | .nx en3 S3 => forL J tg one b k (i + 1) en3 S3
    | .ct en3 S3 => forL J tg one b k (i + 1) en3 S3
    | .bk en3 S3 => some (.nx en3 S3)
    | .rt v S3 => some (.rt v S3)
def whlL (c : Dn Bool) (b : DS) : Nat → DS
  | 0, _, _ => none
  | k + 1, en, S => (c en S).bind fun p => match p.1 with
    | false => some (.nx en p.2)
    | true => (b en p.2).bind fun r => match r with
      | .nx en3 S3 => whlL c b k en3 S3
      | .ct en3 S3 => whlL c b k en3 S3
      | .bk en3 S3 => some (.nx en3 S3)
      | .rt v S3 => some (.rt v S3)
def exD {α : Type} (m : Dn α) (k : α → DS) : DS := fun en S => match m en S with
  | some p => k p.1 en p.2
  | none => none
def MS.dn (R : Orc) (W tp : Nat) : MS → DS
  | .asg tg one e => exD (e.dn R tp).e fun v en S => (tgF tg one v en).map fun en2 => .nx en2 S
  | .par is as => exD (as.dn R tp) fun vs en S => (setAll is vs en).map fun en2 => .nx en2 S
  | .sub o i e => exD (e.dn R tp).e fun v => exD (o.dn R tp).e fun x => exD (i.dn R tp).e fun y en S => (pSet tp x y v S).map fun S2 => .nx en S2
  | .exp e => exD (e.dn R tp).e fun _ en S => some (.nx en S)
  | .ret e => exD (e.dn R tp).e fun v _ S => some (.rt v S)
  | .retN => fun _ S => some (.rt .non S)
  | .ifS c a b => exD (c.dn R tp).t fun k => if k then a.dn R W tp else b.dn R W tp
  | .forS it tg one b => exD (it.dn R tp) fun J en S => if J.okT one then (J.len S).bind fun n => forL J tg one (b.dn R W tp) n 0 en S else none
  | .whl c b => whlL (c.dn R tp).t (b.dn R W tp) W
  | .brk => fun en S => some (.bk en S)
  | .cnt => fun en S => some (.ct en S)
  | .nop => fun en S => some (.nx en S)
  | .seq a b => sqD (a.dn R W tp) (b.dn R W tp)
end Ev
namespace Ev
open PySem PySem.Spec PyProof.Rows L2

/-! ### later states -/
def Fut (M : List Addr) (H : Hp) (M' : List Addr) (H' : Hp) : Prop := ∃ N, M' = M ++ N ∧ Stp M H N H'
section
variable {K : Frag} {H H1 H2 : Hp} {M M1 M2 N : List Addr} {B : Addr → Prop} {bs : Bs} {S S1 : Sto}
theorem Fut.refl : Fut M H M H := ⟨[], by simp, Stp.refl⟩
theorem Fut.of (s : Stp M H N H1) : Fut M H (M ++ N) H1 := ⟨N, rfl, s⟩
theorem Fut.trans (a : Fut M H M1 H1) (b : Fut M1 H1 M2 H2) : Fut M H M2 H2 := by
  obtain ⟨N, rfl, a⟩ := a
  obtain ⟨N2, rfl, b⟩ := b
  exact ⟨N ++ N2, by rw [List.append_assoc], a.trans b⟩
theorem Rp.fut {v : PV} {x : V} (t : Trk M H) (f : Fut M H M1 H1) (r : Rp K H M B v x) : Rp K H1 M1 B v x := by
  obtain ⟨N, rfl, s⟩ := f
  exact r.stp t s
theorem RpL.fut {v : List PV} {x : List V} (t : Trk M H) (f : Fut M H M1 H1) (r : RpL K H M B v x) : RpL K H1 M1 B v x := by
  obtain ⟨N, rfl, s⟩ := f
  exact r.stp t s
theorem Fut.keep (f : Fut M H M1 H1) {a : Addr} {o : HO} (e : H a = some o) (n : a ∉ M) : H1 a = some o ∧ a ∉ M1 := by
  obtain ⟨N, rfl, s⟩ := f
  exact ⟨s.keep a o e n, s.nmem e n⟩
theorem Fut.dom (f : Fut M H M1 H1) {a : Addr} (e : H a ≠ none) : H1 a ≠ none := by
  obtain ⟨N, rfl, s⟩ := f
  exact s.dom a e

/-- the state of a frame -/
structure Rs (K : Frag) (M : List Addr) (B : Addr → Prop) (bs : Bs) (en : En) (S : Sto) (σ : L2.St) (H : Hp) : Prop where
  st : StR K H M B bs S
  len : en.length = σ.length
  v : ∀ (i : Nat) (v : PV), en[i]? = some (some v) → ∃ x, σ[i]? = some (some x) ∧ Rp K H M B v x
theorem Rs.later {en : En} {σ : L2.St} (h : Rs K M B bs en S σ H) (f : Fut M H M1 H1) (st : StR K H1 M1 B bs S1) : Rs K M1 B bs en S1 σ H1 :=
  ⟨st, h.len, fun i v e => let ⟨x, e1, r⟩ := h.v i v e; ⟨x, e1, r.fut h.st.trk f⟩⟩
end

abbrev Rel (α β : Type) := Frag → Hp → List Addr → (Addr → Prop) → α → β → Prop
def At {α β : Type} (K : Frag) (bs : Bs) (rel : Rel α β) (m : Dn α) (M : List Addr) (B : Addr → Prop) (en : En) (S : Sto) (H : Hp) (Q : β → Hp → Prop) : Prop :=
  ∃ v S', m en S = some (v, S') ∧ ∀ (H' : Hp) (M' : List Addr) (x : β), Fut M H M' H' → StR K H' M' B bs S' → rel K H' M' B v x → Q x H'
def RG {α β : Type} (K : Frag) (bs : Bs) (rel : Rel α β) (m : Dn α) : L2.St → Hp → (β → Hp → Prop) → Prop := fun σ H Q =>
  ∃ M B en S, Rs K M B bs en S σ H ∧ At K bs rel m M B en S H Q
abbrev rE : Rel PV V := fun K H M B v x => Rp K H M B v x
abbrev rA : Rel (List PV) (List V) := fun K H M B v x => RpL K H M B v x
abbrev rQ {α : Type} : Rel α α := fun _ _ _ _ a b => a = b
section
variable {α β γ δ : Type} {K : Frag} {bs : Bs} {M : List Addr} {B : Addr → Prop} {en : En} {S : Sto} {σ : L2.St} {H : Hp}
theorem At.bnd {rel1 : Rel α β} {rel2 : Rel γ δ} {m1 : Dn α} {k : α → Dn γ} {Q : δ → Hp → Prop} {R : β → Hp → Prop} (hR : Rs K M B bs en S σ H) (h : At K bs rel2 (m1.bnd k) M B en S H Q)
    (c : ∀ (a : α) (x : β) (H1 : Hp) (M1 : List Addr) (S1 : Sto), Fut M H M1 H1 → Rs K M1 B bs en S1 σ H1 → rel1 K H1 M1 B a x → At K bs rel2 (k a) M1 B en S1 H1 Q → R x H1) : At K bs rel1 m1 M B en S H R := by
  obtain ⟨v, S', e, q⟩ := h
  unfold Dn.bnd at e
  cases h1 : m1 en S with
  | none => rw [h1] at e; cases e
  | some p =>
    rw [h1] at e
    refine ⟨p.1, p.2, h1, fun H1 M1 x f st r => c p.1 x H1 M1 p.2 f (hR.later f st) r ⟨v, S', e, fun H2 M2 y f2 st2 r2 => q H2 M2 y (f.trans f2) st2 r2⟩⟩
theorem At.ret {rel : Rel α β} {a : α} {x : β} {Q : β → Hp → Prop} (h : At K bs rel (Dn.ret a) M B en S H Q) (st : StR K H M B bs S) (r : rel K H M B a x) : Q x H := by
  obtain ⟨v, S', e, q⟩ := h
  cases e
  exact q H M x Fut.refl st r
/-- the last step, of values alone -/
theorem At.post {f : Sto → Option (PV × Sto)} {Q : VK} (h : At K bs rE (Dn.lft f) M B en S H Q) : ∃ v S', f S = some (v, S') ∧ Post K M H B bs v S' Q := by
  obtain ⟨v, S', e, q⟩ := h
  exact ⟨v, S', e, fun H' N x s st r => q H' _ x (Fut.of s) st r⟩
theorem At.same {rel : Rel α β} {f : Sto → Option (α × Sto)} {Q : β → Hp → Prop} (h : At K bs rel (Dn.lft f) M B en S H Q) (st : StR K H M B bs S) : ∃ v S', f S = some (v, S') ∧ (S' = S → ∀ x, rel K H M B v x → Q x H) := by
  obtain ⟨v, S', e, q⟩ := h
  exact ⟨v, S', e, fun z x r => q H M x Fut.refl (by rw [z]; exact st) r⟩
end

/-! ### the rules -/
theorem _root_.L2.PE.imp {X : Cx} {e : Expr} {t t' : TE} (h : PE X e t) (c : ∀ σ H Q, t' σ H Q → t σ H Q) : PE X e t' := ⟨fun pins s σ H Q I w => h.run pins s σ H Q I (c σ H Q w)⟩
theorem _root_.L2.PT.imp {X : Cx} {e : Expr} {t t' : TT} (h : PT X e t) (c : ∀ σ H Q, t' σ H Q → t σ H Q) : PT X e t' := ⟨fun pins s σ H Q I w => h.run pins s σ H Q I (c σ H Q w)⟩
theorem _root_.L2.PW.imp {X : Cx} {e : Expr} {t t' : TT} (h : PW X e t) (c : ∀ σ H Q, t' σ H Q → t σ H Q) : PW X e t' := ⟨fun wh pins s σ H Q I w => h.run wh pins s σ H Q I (c σ H Q w)⟩
theorem _root_.L2.PA.imp {X : Cx} {e : List Expr} {t t' : TA} (h : PA X e t) (c : ∀ σ H Q, t' σ H Q → t σ H Q) : PA X e t' := ⟨fun pos pins s σ H Q I w => h.run pos pins s σ H Q I (c σ H Q w)⟩
theorem _root_.L2.PO.imp {X : Cx} {e : Option Expr} {t t' : TO} (h : PO X e t) (c : ∀ σ H Q, t' σ H Q → t σ H Q) : PO X e t' := ⟨fun pins s σ H Q I w => h.run pins s σ H Q I (c σ H Q w)⟩
theorem _root_.L2.PI.imp {X : Cx} {tg e : Expr} {t t' : TI} (h : PI X tg e t) (c : ∀ σ H Q, t' σ H Q → t σ H Q) : PI X tg e t' := ⟨fun pins s σ H Q I w => h.run pins s σ H Q I (c σ H Q w)⟩
theorem _root_.L2.PS.imp {X : Cx} {e : Stmt} {t t' : TS} (h : PS X e t) (c : ∀ D σ H, t' D σ H → t D σ H) : PS X e t' := ⟨fun pins s σ H D I w => h.run pins s σ H D I (c D σ H w)⟩
theorem _root_.L2.PSs.imp {X : Cx} {e : List Stmt} {t t' : TS} (h : PSs X e t) (c : ∀ D σ H, t' D σ H → t D σ H) : PSs X e t' := ⟨fun pins s σ H D I w => h.run pins s σ H D I (c D σ H w)⟩
section
variable {X : Cx} {bs : Bs} {e a b c : Expr} {f fa fb fc : Dn PV} {ft : Dn Bool} {pos : Pos}
abbrev GE (X : Cx) (bs : Bs) (e : Expr) (f : Dn PV) : Prop := PE X e (RG X.K bs rE f)
abbrev GT (X : Cx) (bs : Bs) (e : Expr) (f : Dn Bool) : Prop := PT X e (RG X.K bs rQ f)
abbrev GW (X : Cx) (bs : Bs) (e : Expr) (f : Dn Bool) : Prop := PW X e (RG X.K bs rQ f)
abbrev GA (X : Cx) (bs : Bs) (e : List Expr) (f : Dn (List PV)) : Prop := PA X e (RG X.K bs rA f)
theorem ge_var {i : Nat} {x : Str} (hN : X.N[i]? = some x) (hv : Vis X.env.scope x) (hd : (x == ("__debug__" : Str)) = false) (hcd : (x == ("__classdict__" : Str)) = false) : GE X bs (.Name x pos) (gv i) :=
  (pe_var hN hv hd hcd).imp fun σ H Q ⟨M, B, en, S, hR, v, S', e, q⟩ => by
    unfold gv at e
    split at e
    · rename_i v0 h0
      cases e
      obtain ⟨x0, e1, r⟩ := hR.v i _ h0
      exact ⟨x0, e1, q H M x0 Fut.refl hR.st r⟩
    · cases e
theorem ge_con {t : TE} {cv : PV} {v : V} (h : PE X e (tC v)) (r : ∀ H M B, Rp X.K H M B cv v) : GE X bs e (.ret cv) :=
  h.imp fun σ H Q ⟨M, B, en, S, hR, h⟩ => h.ret hR.st (r H M B)
theorem gt_of (he : ∀ whole, isTrue e X.env whole = (do let v ← whole; standAt e.pos; holding [v] (PySem.truthy v))) (h : GE X bs e f) : GT X bs e (tst f) :=
  (pt_truth h he).imp fun σ H Q ⟨M, B, en, S, hR, h⟩ => ⟨M, B, en, S, hR, h.bnd hR fun v x H1 M1 S1 f1 hR1 r h2 => by
    obtain ⟨v', S', e, q⟩ := h2
    dsimp only [Dn.lft] at e
    cases ht : Ev.truthy S1 v with
    | none => rw [ht] at e; cases e
    | some k =>
      rw [ht] at e; cases e
      exact ⟨_, truthy_rep hR1.st r ht, q H1 M1 _ Fut.refl hR1.st rfl⟩⟩
/-- behind a reading of a bool -/
theorem At.asB {Q : Bool → Hp → Prop} {M : List Addr} {B : Addr → Prop} {en : En} {S : Sto} {σ : L2.St} {H : Hp} (hR : Rs X.K M B bs en S σ H) (h : At X.K bs rQ (Ev.asB f) M B en S H Q) : At X.K bs rE f M B en S H fun x H1 => ∃ k, x = .bl k ∧ Q k H1 :=
  h.bnd hR fun v x H1 M1 S1 f1 hR1 r h2 => by
    obtain ⟨v', S', e, q⟩ := h2
    dsimp only [Dn.lft] at e
    split at e
    · cases e
      cases r
      exact ⟨_, rfl, q H1 M1 _ Fut.refl hR1.st rfl⟩
    · cases e
theorem At.asB2 {γ : Type} {k : Bool → Dn γ} {δ : Type} {rel2 : Rel γ δ} {Q : δ → Hp → Prop} {R : VK} {M : List Addr} {B : Addr → Prop} {en : En} {S : Sto} {σ : L2.St} {H : Hp} (hR : Rs X.K M B bs en S σ H)
    (h : At X.K bs rel2 ((Ev.asB f).bnd k) M B en S H Q)
    (c : ∀ (a : Bool) (H1 : Hp) (M1 : List Addr) (S1 : Sto), Fut M H M1 H1 → Rs X.K M1 B bs en S1 σ H1 → At X.K bs rel2 (k a) M1 B en S1 H1 Q → R (.bl a) H1) : At X.K bs rE f M B en S H R := by
  have h1 : At X.K bs rQ (Ev.asB f) M B en S H fun b H1 => R (.bl b) H1 := h.bnd hR fun a x H1 M1 S1 f1 hR1 r h2 => by
    cases r
    exact c a H1 M1 S1 f1 hR1 h2
  obtain ⟨v, S', e, q⟩ := h1.asB hR
  refine ⟨v, S', e, fun H' M' x f st r => ?_⟩
  obtain ⟨k, rfl, z⟩ := q H' M' x f st r
  exact z
theorem ge_op {op : Operator} {m : Bool} (ha : GE X bs a fa) (hb : GE X bs b fb) (ho : OpR X (binaryOp op) (RR2 X.K bs (opF m op))) : GE X bs (.BinOp a op b pos) (b2 fa fb fun x y => .lft fun S => opF m op x y S) :=
  (pe_op ho ha hb).imp fun σ H Q ⟨M, B, en, S, hR, h⟩ => ⟨M, B, en, S, hR, h.bnd hR fun v x H1 M1 S1 f1 hR1 r1 h1 => ⟨M1, B, en, S1, hR1, h1.bnd hR1 fun w y H2 M2 S2 f2 hR2 r2 h2 => by
    obtain ⟨v', S', e, q⟩ := h2.post
    exact ⟨M2, B, S2, v, w, v', S', hR2.st, r1.fut hR1.st.trk f2, r2, e, q⟩⟩⟩
theorem op_F {m : Bool} (op : Operator) : OpR X (binaryOp op) (RR2 X.K bs (opF m op)) := by
  cases op with
  | Add => exact op_pAdd
  | Sub => exact op_pSub
  | Mult => exact op_pMul
  | FloorDiv => exact op_pDiv
  | Mod => exact op_pMod
  | LShift => exact op_pShl
  | _ => exact fun pins s σ H x y v u Q I rx ry h => by obtain ⟨_, _, _, _, _, _, _, _, _, _, e, _⟩ := h; cases e
theorem un_negP : UnR X (unaryOp .USub) (RR1 X.K bs pNeg) := by
  intro pins s σ H x v Q I rx h
  obtain ⟨M, B, S, a, w, S', hS, ra, e, q⟩ := h
  unfold pNeg at e
  split at e
  · cases e
    cases ra
    exact un_neg pins s σ H _ v Q I rx ⟨_, rfl, q.same hS (.int _)⟩
  · cases e
theorem ge_neg (ha : GE X bs a fa) : GE X bs (.UnaryOp .USub a pos) (fa.bnd fun x => .lft fun S => pNeg x S) :=
  (pe_un un_negP ha).imp fun σ H Q ⟨M, B, en, S, hR, h⟩ => ⟨M, B, en, S, hR, h.bnd hR fun v x H1 M1 S1 f1 hR1 r1 h1 => by
    obtain ⟨v', S', e, q⟩ := h1.post
    exact ⟨M1, B, S1, v, v', S', hR1.st, r1, e, q⟩⟩
theorem cmp_core {op : CmpOp} {σ : L2.St} {H : Hp} {Q : VK} (h : RG X.K bs rE (b2 fa fb (cmpD op)) σ H Q) : tOp (RRC X.K bs op) (RG X.K bs rE fa) (RG X.K bs rE fb) σ H Q := by
  obtain ⟨M, B, en, S, hR, h⟩ := h
  exact ⟨M, B, en, S, hR, h.bnd hR fun v x H1 M1 S1 f1 hR1 r1 h1 => ⟨M1, B, en, S1, hR1, h1.bnd hR1 fun w y H2 M2 S2 f2 hR2 r2 h2 => by
    obtain ⟨v', S', e, q⟩ := h2.post
    exact ⟨M2, B, S2, v, w, v', S', hR2.st, r1.fut hR1.st.trk f2, r2, e, q⟩⟩⟩
theorem asB_core {σ : L2.St} {H : Hp} {Q : Bool → Hp → Prop} (h : RG X.K bs rQ (Ev.asB f) σ H Q) : RG X.K bs rE f σ H fun x H1 => ∃ k, x = .bl k ∧ Q k H1 := by
  obtain ⟨M, B, en, S, hR, h⟩ := h
  exact ⟨M, B, en, S, hR, h.asB hR⟩
theorem ge_cmp (hu : Rm X) {op : CmpOp} (ha : GE X bs a fa) (hb : GE X bs b fb) (hm : behindInMarks op b = false) : GE X bs (.Compare a [op] [b] pos) (b2 fa fb (cmpD op)) :=
  (pe_cmpR (op_cmpPV hu op) ha hb hm).imp fun σ H Q h => cmp_core h
theorem gt_cmp (hu : Rm X) {op : CmpOp} (ha : GE X bs a fa) (hb : GE X bs b fb) (hm : behindInMarks op b = false) : GT X bs (.Compare a [op] [b] pos) (asB (b2 fa fb (cmpD op))) :=
  (pt_cmpR (op_cmpPV hu op) ha hb hm).imp fun σ H Q h => cmp_core (asB_core h)
theorem RRC.of {op : CmpOp} {x y : V} {H : Hp} {Q : VK} (h : RRC X.K bs op x y H Q) : RRC X.K bs op x y H Q := h
theorem chn_core {op op' : CmpOp} {σ : L2.St} {H : Hp} {Q : VK} (h : RG X.K bs rE (chnD op op' fa fb fc) σ H Q) : tChain (RRC X.K bs op) (RRC X.K bs op') (RG X.K bs rE fa) (RG X.K bs rE fb) (RG X.K bs rE fc) σ H Q := by
  obtain ⟨M, B, en, S, hR, h⟩ := h
  refine ⟨M, B, en, S, hR, h.bnd hR fun v x H1 M1 S1 f1 hR1 r1 h1 => ⟨M1, B, en, S1, hR1, h1.bnd hR1 fun w y H2 M2 S2 f2 hR2 r2 h2 => ?_⟩⟩
  have h3 := h2.asB2 (R := fun z H3 => ∃ k, z = V.bl k ∧ (if k = true then RG X.K bs rE fc σ H3 fun w' H4 => RRC X.K bs op' y w' H4 Q else Q (.bl false) H3)) hR2 fun k H3 M3 S3 f3 hR3 h3 => by
    refine ⟨k, rfl, ?_⟩
    cases k with
    | false => exact h3.ret hR3.st (.bl false)
    | true => exact ⟨M3, B, en, S3, hR3, h3.bnd hR3 fun u z H4 M4 S4 f4 hR4 r4 h4 => by
        obtain ⟨v', S', e, q⟩ := h4.post
        exact ⟨M4, B, S4, w, u, v', S', hR4.st, r2.fut hR2.st.trk (f3.trans f4), r4, e, q⟩⟩
  obtain ⟨v', S', e, q⟩ := h3.post
  exact ⟨M2, B, S2, v, w, v', S', hR2.st, r1.fut hR1.st.trk f2, r2, e, q⟩
theorem ge_chn (hu : Rm X) {op op' : CmpOp} (ha : GE X bs a fa) (hb : GE X bs b fb) (hc : GE X bs c fc) (hm : lastMarks [op, op'] [b, c] = false) : GE X bs (.Compare a [op, op'] [b, c] pos) (chnD op op' fa fb fc) :=
  (pe_chain (op_cmpPV hu op) (op_cmpPV hu op') ha hb hc hm).imp fun σ H Q h => chn_core h
theorem gt_chn (hu : Rm X) {op op' : CmpOp} (ha : GE X bs a fa) (hb : GE X bs b fb) (hc : GE X bs c fc) (hm : lastMarks [op, op'] [b, c] = false) : GT X bs (.Compare a [op, op'] [b, c] pos) (asB (chnD op op' fa fb fc)) :=
  (pt_chain (op_cmpPV hu op) (op_cmpPV hu op') ha hb hc hm).imp fun σ H Q h => chn_core (asB_core h)
theorem ge_not (ha : GE X bs a fa) : GE X bs (.UnaryOp .Not a pos) (notD fa) :=
  (pe_not ha).imp fun σ H Q ⟨M, B, en, S, hR, h⟩ => ⟨M, B, en, S, hR, h.asB2 hR fun k H1 M1 S1 f1 hR1 h1 => ⟨k, rfl, h1.ret hR1.st (.bl _)⟩⟩
theorem ge_and {rest : List Expr} (ha : GE X bs a fa) (hb : GE X bs (.BoolOp .And (b :: rest) pos) fb) : GE X bs (.BoolOp .And (a :: b :: rest) pos) (andD fa fb) :=
  (pe_and ha hb).imp fun σ H Q ⟨M, B, en, S, hR, h⟩ => ⟨M, B, en, S, hR, h.asB2 hR fun k H1 M1 S1 f1 hR1 h1 => ⟨k, rfl, by
    cases k with
    | false => exact h1.ret hR1.st (.bl _)
    | true => exact ⟨M1, B, en, S1, hR1, h1⟩⟩⟩
theorem ge_or {rest : List Expr} (ha : GE X bs a fa) (hb : GE X bs (.BoolOp .Or (b :: rest) pos) fb) : GE X bs (.BoolOp .Or (a :: b :: rest) pos) (orD fa fb) :=
  (pe_or ha hb).imp fun σ H Q ⟨M, B, en, S, hR, h⟩ => ⟨M, B, en, S, hR, h.asB2 hR fun k H1 M1 S1 f1 hR1 h1 => ⟨k, rfl, by
    cases k with
    | true => exact h1.ret hR1.st (.bl _)
    | false => exact ⟨M1, B, en, S1, hR1, h1⟩⟩⟩
variable {ga gb : Dn Bool}
theorem gt_not (ha : GT X bs a ga) : GT X bs (.UnaryOp .Not a pos) (notT ga) :=
  (pt_not ha).imp fun σ H Q ⟨M, B, en, S, hR, h⟩ => ⟨M, B, en, S, hR, h.bnd (rel1 := rQ) hR fun v x H1 M1 S1 f1 hR1 r1 h1 => by
    cases r1
    exact h1.ret hR1.st rfl⟩
theorem gw_and {rest : List Expr} (ha : GT X bs a ga) (hb : GW X bs (.BoolOp .And (b :: rest) pos) gb) : GW X bs (.BoolOp .And (a :: b :: rest) pos) (andT ga gb) :=
  (pw_and ha hb).imp fun σ H Q ⟨M, B, en, S, hR, h⟩ => ⟨M, B, en, S, hR, h.bnd (rel1 := rQ) hR fun k x H1 M1 S1 f1 hR1 r1 h1 => by
    cases r1
    cases k with
    | false => exact h1.ret hR1.st rfl
    | true => exact ⟨M1, B, en, S1, hR1, h1⟩⟩
theorem gw_or {rest : List Expr} (ha : GT X bs a ga) (hb : GW X bs (.BoolOp .Or (b :: rest) pos) gb) : GW X bs (.BoolOp .Or (a :: b :: rest) pos) (orT ga gb) :=
  (pw_or ha hb).imp fun σ H Q ⟨M, B, en, S, hR, h⟩ => ⟨M, B, en, S, hR, h.bnd (rel1 := rQ) hR fun k x H1 M1 S1 f1 hR1 r1 h1 => by
    cases r1
    cases k with
    | true => exact h1.ret hR1.st rfl
    | false => exact ⟨M1, B, en, S1, hR1, h1⟩⟩
theorem ge_ite (hc : GT X bs c ga) (ha : GE X bs a fa) (hb : GE X bs b fb) : GE X bs (.IfExp c a b pos) (iteD ga fa fb) :=
  (pe_ifExp hc ha hb).imp fun σ H Q ⟨M, B, en, S, hR, h⟩ => ⟨M, B, en, S, hR, h.bnd (rel1 := rQ) hR fun k x H1 M1 S1 f1 hR1 r1 h1 => by
    cases r1
    cases k with
    | true => exact ⟨M1, B, en, S1, hR1, h1⟩
    | false => exact ⟨M1, B, en, S1, hR1, h1⟩⟩
/-! arguments -/
variable {es : List Expr} {fs : Dn (List PV)}
theorem ga_nil : GA X bs [] (.ret []) := pa_nil.imp fun σ H Q ⟨M, B, en, S, hR, h⟩ => h.ret hR.st .nil
theorem ga_cons (ha : GE X bs a fa) (hr : GA X bs es fs) (hs : starEach (a :: es) X.env = (false, eval a X.env) :: starEach es X.env) : GA X bs (a :: es) (fa.bnd fun x => fs.bnd fun xs => .ret (x :: xs)) :=
  (pa_cons ha hr hs).imp fun σ H Q ⟨M, B, en, S, hR, h⟩ => ⟨M, B, en, S, hR, h.bnd hR fun v x H1 M1 S1 f1 hR1 r1 h1 => ⟨M1, B, en, S1, hR1, h1.bnd (rel1 := rA) hR1 fun vs xs H2 M2 S2 f2 hR2 r2 h2 =>
    h2.ret hR2.st (.cons (r1.fut hR1.st.trk f2) r2)⟩⟩
theorem ga_star {p : Pos} (ha : GE X bs a fa) (hr : GA X bs es fs) : GA X bs (.Starred a p :: es) (starD fa fs) :=
  (StX.pa_star ha hr).imp fun σ H Q ⟨M, B, en, S, hR, h⟩ => ⟨M, B, en, S, hR, h.bnd hR fun v x H1 M1 S1 f1 hR1 r1 h1 => by
    obtain ⟨v', S', e, q⟩ := h1
    split at e
    · rename_i xs
      dsimp only at e
      cases h2 : fs en S1 with
      | none => rw [h2] at e; cases e
      | some p =>
        rw [h2] at e; cases e
        obtain ⟨ad, vs, rfl, ht, rl⟩ := ref_of r1
        exact ⟨ad, vs, rfl, .inl ht, M1, B, en, S1, hR1, p.1, p.2, h2, fun H' M' ys f st r => q H' M' _ f st ((rl.fut hR1.st.trk f).append r)⟩
    · cases e⟩
theorem pe_tupF {k : Nat} {t : TA} (h : PA X es t) : PE X (.Tuple es k pos) (fun σ H Q => t σ H fun xs H1 => xs.length ≤ sizeLine ∧ ∀ p (o : Obj), H1 p = none → o.dict = none → Q (.ref p) (upd H1 p (.frz o (.tup xs)))) := by
  refine ⟨fun pins s σ H Q I hq => ?_⟩
  refine wpAny_Tuple_spliced (thn (h.run pos pins s σ H _ I hq) fun us s1 ⟨xs, H1, I1, r, z, q⟩ => ⟨by rw [← r.length]; exact z, ?_⟩)
  exact ⟨.ref s1.heap.objs.size, _, tupNew (t' := s1.toks) I1 r z, rfl, q _ _ (I1.hok.fresh (Nat.le_refl _)) rfl⟩
theorem ge_tup {k : Nat} (h : GA X bs es fs) : GE X bs (.Tuple es k pos) (tupD fs) :=
  (pe_tupF h).imp fun σ H Q ⟨M, B, en, S, hR, h⟩ => ⟨M, B, en, S, hR, h.bnd (rel1 := rA) hR fun vs xs H1 M1 S1 f1 hR1 r1 h1 => by
    obtain ⟨v', S', e, q⟩ := h1.post
    split at e
    · rename_i hz
      cases e
      exact ⟨by rw [r1.length]; exact hz, fun p o n d => q.tup hR1.st r1 p o n d⟩
    · cases e⟩
theorem ge_lst {m : Bool} (h : GA X bs es fs) : GE X bs (.List es pos) (lstD m fs) :=
  (pe_lst h).imp fun σ H Q ⟨M, B, en, S, hR, h⟩ => ⟨M, B, en, S, hR, h.bnd (rel1 := rA) hR fun vs xs H1 M1 S1 f1 hR1 r1 h1 => by
    obtain ⟨v', S', e, q⟩ := h1.post
    split at e
    · rename_i hz
      exact ⟨by rw [r1.length]; exact hz, Post.lst (Option.some.inj e) q hR1.st r1⟩
    · cases e⟩
theorem ge_emp {m : Bool} : GE X bs (.Dict [] [] pos) (.lft fun S => mkD m [] S) :=
  pe_dnewK.imp fun σ H Q ⟨M, B, en, S, hR, h⟩ => by
    obtain ⟨v', S', e, q⟩ := h.post
    exact Post.dct e q hR.st .nil
theorem ge_idx (hu : X.A.units + 1 < cLine) (ha : GE X bs a fa) (hb : GE X bs b fb) (hs : PlainIx b) : GE X bs (.Subscript a b pos) (b2 fa fb fun x y => .lft fun S => pIdx x y S) :=
  (pe_ix (ix_pv hu) ha hb hs).imp fun σ H Q ⟨M, B, en, S, hR, h⟩ => ⟨M, B, en, S, hR, h.bnd hR fun v x H1 M1 S1 f1 hR1 r1 h1 => ⟨M1, B, en, S1, hR1, h1.bnd hR1 fun w y H2 M2 S2 f2 hR2 r2 h2 => by
    obtain ⟨v', S', e, q⟩ := h2.post
    exact ⟨M2, B, S2, v, w, v', S', hR2.st, r1.fut hR1.st.trk f2, r2, e, q⟩⟩⟩
abbrev GO (X : Cx) (bs : Bs) (e : Option Expr) (f : Dn (Option Int)) : Prop := PO X e (RG X.K bs rQ f)
theorem go_no : GO X bs none (.ret none) := po_none.imp fun σ H Q ⟨M, B, en, S, hR, h⟩ => h.ret hR.st rfl
theorem go_so (ha : GE X bs a fa) : GO X bs (some a) (someD fa) :=
  (po_some ha).imp fun σ H Q ⟨M, B, en, S, hR, h⟩ => ⟨M, B, en, S, hR, h.bnd hR fun v x H1 M1 S1 f1 hR1 r1 h1 => by
    obtain ⟨v', S', e, q⟩ := h1
    dsimp only [Dn.lft] at e
    cases hp : partD v with
    | none => rw [hp] at e; cases e
    | some i =>
      rw [hp] at e; cases e
      unfold partD at hp
      split at hp
      · cases hp
        cases r1
        exact ⟨_, rfl, q H1 M1 _ Fut.refl hR1.st rfl⟩
      · cases hp⟩
theorem ge_slc {m : Bool} {lo hi : Option Expr} {fl fh : Dn (Option Int)} {p2 : Pos} (ha : GE X bs a fa) (hl : GO X bs lo fl) (hh : GO X bs hi fh) :
    GE X bs (.Subscript a (.Slice lo hi none p2) pos) (fa.bnd fun x => fl.bnd fun l => fh.bnd fun h => .lft fun S => pSlice m l h x S) :=
  (pe_slice sl_pv ha hl hh).imp fun σ H Q ⟨M, B, en, S, hR, h⟩ => ⟨M, B, en, S, hR, h.bnd hR fun v x H1 M1 S1 f1 hR1 r1 h1 => ⟨M1, B, en, S1, hR1, h1.bnd (rel1 := rQ) hR1 fun l l' H2 M2 S2 f2 hR2 r2 h2 => by
    cases r2
    exact ⟨M2, B, en, S2, hR2, h2.bnd (rel1 := rQ) hR2 fun u u' H3 M3 S3 f3 hR3 r3 h3 => by
      cases r3
      obtain ⟨v', S', e, q⟩ := h3.post
      exact ⟨M3, B, S3, v, v', S', hR3.st, r1.fut hR1.st.trk (f2.trans f3), e, q⟩⟩⟩⟩
end
end Ev
namespace Ev
open PySem PySem.Spec PyProof.Rows L2 HT
section
variable {prog : Program} {w : World} {A : Around} {E : Value → Shared → Prop} {s : Shared}
theorem adjust_back (n : Nat) : Builtin.Slice.sliceAdjust none none (-1) (n : Int) = ((n : Int) - 1, -1) := by
  unfold Builtin.Slice.sliceAdjust
  rfl
theorem places_back (n : Nat) : Builtin.Slice.slicePlaces ((n : Int) - 1) (-1) (-1) = n := by
  unfold Builtin.Slice.slicePlaces
  rw [if_neg (by decide)]
  split
  · have : ((n : Int) - 1 - -1 - 1) / (- -1) + 1 = n := by
      rw [show (- -1 : Int) = 1 from rfl, Int.ediv_one]; omega
    rw [this]; exact Int.toNat_natCast n
  · have : n = 0 := by omega
    subst this; rfl
theorem pick_back (xs : Array Value) : ((List.range xs.size).filterMap fun (k : Nat) => xs[(((xs.size : Nat) : Int) - 1 + (k : Int) * -1).toNat]?).toArray = xs.toList.reverse.toArray := by
  have e : (List.range xs.size).filterMap (fun (k : Nat) => xs[(((xs.size : Nat) : Int) - 1 + (k : Int) * -1).toNat]?) = ((List.range xs.size).map fun k => xs.size - 1 - k).filterMap fun k => xs[k]? := by
    rw [List.filterMap_map]
    have key : ∀ l : List Nat, (∀ k ∈ l, k < xs.size) → l.filterMap (fun (k : Nat) => xs[(((xs.size : Nat) : Int) - 1 + (k : Int) * -1).toNat]?) = l.filterMap ((fun k => xs[k]?) ∘ fun k => xs.size - 1 - k) := by
      intro l
      induction l with
      | nil => intro _; rfl
      | cons k r ih =>
        intro h
        have hk := h k (List.mem_cons_self ..)
        have e1 : (((xs.size : Nat) : Int) - 1 + (k : Int) * -1).toNat = xs.size - 1 - k := by omega
        rw [List.filterMap_cons, List.filterMap_cons, ih fun j hj => h j (List.mem_cons_of_mem _ hj), e1]
        rfl
    exact key _ fun k hk => List.mem_range.mp hk
  rw [e, PySem.W.krv_range, List.filterMap_reverse, PySem.W.krv_all]
theorem tup_back {t sl : Addr} {items : Array Value} {vl vu vs : Value} {Q : Value → Shared → Prop} (ht : IsTup s.heap t items) (hs : s.heap.IsSliceOf sl vl vu vs) (pl : IsPart vl none) (pu : IsPart vu none) (ps : IsPart vs (some (-1)))
    (h : Q (.ref s.heap.objs.size) { s with heap := s.heap.push { cls := .type "tuple", data := .seq items.toList.reverse.toArray } }) (hsz : items.size ≤ sizeLine) : wpAny (model prog w) A (getItem (.ref t) (.ref sl)) Q E s := by
  have htake : sizeOk (.seq items.toList.reverse.toArray) := by
    show items.toList.reverse.toArray.size ≤ sizeLine
    rw [List.size_toArray, List.length_reverse, Array.length_toList]
    exact hsz
  obtain ⟨os, hos, hcs, hds⟩ := id hs
  have hTs : s.TypeIs (.ref sl) "slice" := ⟨os, hos, hcs⟩
  unfold getItem
  try with_reducible refine wpAny_holding ?_
  first | refine wpAny_bind (wpAny_pure ?_) | skip
  refine wpAny_bind (wpAny_sequenceKey ht.typeIs (by decide) ?_)
  refine wpAny_bind (wpAny_callSpecial?_slot (name := Str.ofString "__getitem__") ht.typeIs PyProof.Rows.slot_tuple_getitem
    (wpAny_call_entry PyProof.Rows.slot_tuple_getitem ht.typeIs entry_tuple_getitem ?_ (args_tuple_getitem _ _)))
  show wpAny _ _ (Builtin.Tuple.tupleItemsOf (.ref t) >>= _) _ _ s
  refine wpAny_bind (tupleItemsOf_ ht ?_)
  refine wpAny_bind (wpAny_typeOf hTs ?_)
  rw [if_pos (by decide)]
  refine wpAny_bind ?_
  unfold Builtin.Slice.sliceApplied Builtin.Slice.sliceFields
  refine wpAny_bind (wpAny_bind (wpAny_field hos hds (x := vl) rfl (wpAny_bind (wpAny_field hos hds (x := vu) rfl (wpAny_bind (wpAny_field hos hds (x := vs) rfl (wpAny_pure ?_)))))))
  refine wpAny_bind (slicePart_ ps ?_)
  show wpAny _ _ (if ((-1 : Int) == 0) = true then _ else _) _ _ s
  rw [if_neg (by decide)]
  refine wpAny_bind (slicePart_ pl (wpAny_bind (slicePart_ pu (wpAny_bind (wpAny_pure ?_)))))
  show wpAny _ _ (match Builtin.Slice.sliceAdjust none none (-1) ((items.size : Nat) : Int) with | (lo, hi) => pure (lo, (-1 : Int), Builtin.Slice.slicePlaces lo hi (-1))) _ _ s
  rw [adjust_back items.size]
  show wpAny _ _ (pure (((items.size : Nat) : Int) - 1, (-1 : Int), Builtin.Slice.slicePlaces (((items.size : Nat) : Int) - 1) (-1) (-1))) _ _ s
  rw [places_back]
  refine wpAny_pure ?_
  have hno : ¬ ((((items.size : Nat) : Int) - 1 == 0 && (-1 : Int) == 1 && items.size == items.size) = true) := by
    intro q
    rw [Bool.and_eq_true, Bool.and_eq_true] at q
    exact absurd q.1.2 (by decide)
  show wpAny _ _ (if (((items.size : Nat) : Int) - 1 == 0 && (-1 : Int) == 1 && items.size == items.size) = true then _ else _) _ _ s
  rw [if_neg hno, pick_back]
  first
    | exact wpAny_bind (m := Builtin.Tuple.tupleExact _) (wpAny_newObj_type (wpAny_pure ⟨_, rfl, wpAny_pure h⟩) htake)
    | exact wpAny_bind (m := Builtin.Tuple.tupleExact _) (wpAny_newObj_type (wpAny_bind (wpAny_pure (wpAny_pure ⟨_, rfl, wpAny_pure h⟩))) htake)
    | exact wpAny_bind (wpAny_bind (m := Builtin.Tuple.tupleExact _) (wpAny_newObj_type (wpAny_pure (wpAny_pure ⟨_, rfl, wpAny_pure h⟩)) htake))
    | exact wpAny_bind (wpAny_bind (m := Builtin.Tuple.tupleExact _) (wpAny_newObj_type (wpAny_pure ⟨_, rfl, wpAny_pure h⟩) htake))
end
def tRevT (K : Frag) (te : TE) : TE := fun σ H Q => te σ H fun x H1 => ∃ a xs, x = .ref a ∧ SqT K H1 a xs ∧ ∀ p (o : Obj), H1 p = none → o.dict = none → Q (.ref p) (upd H1 p (.frz o (.tup xs.reverse)))
theorem run_revT {X : Cx} {e : Expr} {k : Nat} {p1 p2 p3 : Pos} {pins : List (Addr × Obj)} {σ : L2.St} {H : Hp} {s : Shared} {Q : VK} {a : Addr} {xs : List V} (I : Inv X pins σ H s) (hx : SqT X.K H a xs)
    (q : ∀ p (o : Obj), H p = none → o.dict = none → Q (.ref p) (upd H p (.frz o (.tup xs.reverse)))) :
    wpAny (model X.prog X.w) X.A (eval (.Slice none none (some (.UnaryOp .USub (.Constant (.int 1) k p1) p2)) p3) X.env)
      (fun i s2 => wpAny (model X.prog X.w) X.A (subscriptTail e (.Slice none none (some (.UnaryOp .USub (.Constant (.int 1) k p1) p2)) p3) (.ref a) i) (EP X pins σ Q) X.xe s2) X.xe s := by
  have hst : PO X (some (.UnaryOp .USub (.Constant (.int 1) k p1) p2)) (tPart (tUn (rU fun i => .int (-i)) (tC (.int 1)))) := po_some (pe_un un_neg pe_int)
  refine wpAny_Slice (thn (po_none.run pins s σ H (fun o H2 => o = none ∧ H2 = H) I ⟨rfl, rfl⟩) fun vl s2 ⟨l, H2, I2, pl, el, e2⟩ => ?_)
  subst el e2
  refine thn (po_none.run pins s2 σ H2 (fun o H3 => o = none ∧ H3 = H2) I2 ⟨rfl, rfl⟩) fun vu s3 ⟨u, H3, I3, pu, eu, e3⟩ => ?_
  subst eu e3
  refine thn (hst.run pins s3 σ H3 (fun o H4 => o = some (-1) ∧ H4 = H3) I3 ⟨1, rfl, -1, rfl, rfl, rfl⟩) fun vs s4 ⟨o, H4, I4, ps, eo, e4⟩ => ?_
  subst eo e4
  have I5 : Inv X pins σ H4 { s4 with heap := s4.heap.push { cls := .type "slice", data := .fields #[vl, vu, vs] } } := I4.kept (t' := s4.toks) fun b ob q => Heap.get?_push_of_some _ q
  obtain ⟨its, r, ht, hz⟩ := I5.tuple hx
  have hlen := r.length
  show wpAny (model X.prog X.w) X.A (subscriptTail e (.Slice none none (some (.UnaryOp .USub (.Constant (.int 1) k p1) p2)) p3) (.ref a) (.ref s4.heap.objs.size)) (EP X pins σ Q) X.xe { s4 with heap := s4.heap.push { cls := .type "slice", data := .fields #[vl, vu, vs] } }
  refine tail_any (ops := [.ref a, .ref s4.heap.objs.size]) ht.typeIs PyProof.Rows.slot_tuple_getitem.lookup ?_ (by with_unfolding_all rfl)
  refine tup_back ht (Heap.IsSliceOf.new _ vl vu vs) pl pu ps ?_ (by rw [List.size_toArray]; omega)
  exact ⟨.ref _, _, tupNew (t' := s4.toks) I5 r.reverse (by rw [List.length_reverse]; exact hz), rfl, q _ _ (I5.hok.fresh (Nat.le_refl _)) rfl⟩
theorem ge_rev {X : Cx} {bs : Bs} {e : Expr} {f : Dn PV} {m : Bool} {k : Nat} {p1 p2 p3 pos : Pos} (he : GE X bs e f) : GE X bs (.Subscript e (.Slice none none (some (.UnaryOp .USub (.Constant (.int 1) k p1) p2)) p3) pos) (f.bnd fun x => .lft fun S => pRev m x S) := by
  refine ⟨fun pins s σ H Q I ⟨M, B, en, S, hR, h⟩ => ?_⟩
  let R : V → Hp → Prop := fun x H1 => (∃ a xs, x = .ref a ∧ SqT X.K H1 a xs ∧ ∀ p (o : Obj), H1 p = none → o.dict = none → Q (.ref p) (upd H1 p (.frz o (.tup xs.reverse)))) ∨
    (∃ a xs, x = .ref a ∧ SqL X.K H1 a xs ∧ ∀ p, H1 p = none → Q (.ref p) (upd H1 p (.lst xs.reverse)))
  have h1 : At X.K bs rE f M B en S H R := h.bnd hR fun v x H1 M1 S1 f1 hR1 r1 h1 => by
    obtain ⟨v', S', e, q⟩ := h1.post
    unfold pRev at e
    split at e
    · cases e
      obtain ⟨p, vs, rfl, hp, rl⟩ := ref_of r1
      exact .inl ⟨p, vs, rfl, hp, fun p o n d => q.tup hR1.st rl.reverse p o n d⟩
    · rename_i hnt
      cases hs : seqOf S1 v with
      | none => rw [hs] at e; cases e
      | some xs =>
        rw [hs] at e
        obtain ⟨p, vs, rfl, hp, rl⟩ := seqL_rep hR1.st r1 (by cases v <;> first | rfl | exact absurd rfl (hnt _)) hs
        exact .inr ⟨p, vs, rfl, hp, Post.lst (Option.some.inj e) q hR1.st rl.reverse⟩
  refine Subscript_ (thn (he.run pins s σ H _ I ⟨M, B, en, S, hR, h1⟩) fun v s1 ⟨x, H1, I1, r1, q1⟩ => ?_)
  rcases q1 with ⟨a, xs, rfl, hx, q⟩ | ⟨a, xs, rfl, hx, q⟩
  · cases r1
    exact run_revT I1 hx q
  · cases r1
    have hst : PO X (some (.UnaryOp .USub (.Constant (.int 1) k p1) p2)) (tPart (tUn (rU fun i => .int (-i)) (tC (.int 1)))) := po_some (pe_un un_neg pe_int)
    refine wpAny_Slice (thn (po_none.run pins s1 σ H1 (fun o H2 => o = none ∧ H2 = H1) I1 ⟨rfl, rfl⟩) fun vl s2 ⟨l, H2, I2, pl, el, e2⟩ => ?_)
    subst el e2
    refine thn (po_none.run pins s2 σ H2 (fun o H3 => o = none ∧ H3 = H2) I2 ⟨rfl, rfl⟩) fun vu s3 ⟨u, H3, I3, pu, eu, e3⟩ => ?_
    subst eu e3
    refine thn (hst.run pins s3 σ H3 (fun o H4 => o = some (-1) ∧ H4 = H3) I3 ⟨1, rfl, -1, rfl, rfl, rfl⟩) fun vs s4 ⟨o, H4, I4, ps, eo, e4⟩ => ?_
    subst eo e4
    have I5 : Inv X pins σ H4 { s4 with heap := s4.heap.push { cls := .type "slice", data := .fields #[vl, vu, vs] } } := I4.kept (t' := s4.toks) fun b ob q => Heap.get?_push_of_some _ q
    obtain ⟨its, r, ht, hz⟩ := I5.list hx
    have hlen := r.length
    show wpAny (model X.prog X.w) X.A (subscriptTail e (.Slice none none (some (.UnaryOp .USub (.Constant (.int 1) k p1) p2)) p3) (.ref a) (.ref s4.heap.objs.size)) (EP X pins σ Q) X.xe { s4 with heap := s4.heap.push { cls := .type "slice", data := .fields #[vl, vu, vs] } }
    refine tail_any (ops := [.ref a, .ref s4.heap.objs.size]) ht.isList.typeIs (PySem.slot_list_getitem.lookup) ?_ (by with_unfolding_all rfl)
    refine wpAny_getItem_list_slice ht.isList (Heap.IsSliceOf.new _ vl vu vs) pl pu ps (by decide) ?_ (by rw [List.size_toArray]; omega)
    rw [PySem.W.krv_pick]
    refine ⟨.ref _, _, I5.laid (t' := s4.toks) (o := .lst xs.reverse) (fun b ob q => Heap.get?_push_of_some _ q) (Nat.le_refl _) ?_, rfl, q _ (I5.hok.fresh (Nat.le_refl _))⟩
    exact ⟨by rw [List.length_reverse]; exact hz, _, 0, r.reverse, Heap.get?_push_size _ rfl⟩
end Ev
namespace Ev
open PySem PySem.Spec PyProof.Rows L2

/-! ### calls -/
section
variable {X : Cx} {bs : Bs} {e a b c o : Expr} {es : List Expr} {f fa fb fo : Dn PV} {fs : Dn (List PV)} {x : Str} {p pos apos cpos : Pos}
theorem cb_core {fl : FL} {σ : L2.St} {H : Hp} {Q : VK} (h : RG X.K bs rE (fs.bnd fun xs => .lft fun S => fl xs S) σ H Q) : RG X.K bs rA fs σ H fun vs H1 => RRL X.K bs fl vs H1 Q := by
  obtain ⟨M, B, en, S, hR, h⟩ := h
  exact ⟨M, B, en, S, hR, h.bnd (rel1 := rA) hR fun vs xs H1 M1 S1 f1 hR1 r1 h1 => by
    obtain ⟨v', S', e, q⟩ := h1.post
    exact ⟨M1, B, S1, vs, v', S', hR1.st, r1, e, q⟩⟩
theorem ge_callB {fl : FL} {id : String} (hc : CallR X (.builtin id) (RRL X.K bs fl)) (hg : Gl X x) (hm : X.mg x = none) (hv : bootBuiltins x = some (.builtin id)) (ha : GA X bs (e :: es) fs) (hn : x ≠ "__name__") (hdb : (x == ("__debug__" : Str)) = false)
    (he : starEach (e :: es) X.env = (false, eval e X.env) :: starEach es X.env) (hpl : (backTo pos (starEach es X.env)).any (·.1) = false) : GE X bs (.Call (.Name x p) (e :: es) [] pos) (fs.bnd fun xs => .lft fun S => fl xs S) :=
  (pe_callB hc hg hm hv ha hn hdb he hpl).imp fun σ H Q h => cb_core h
theorem ge_callTy {fl : FL} {T : String} (hc : CallR X (.type T) (RRL X.K bs fl)) (hg : Gl X x) (hm : X.mg x = none) (hv : bootBuiltins x = some (.type T)) (ha : GA X bs (e :: es) fs) (hn : x ≠ "__name__") (hdb : (x == ("__debug__" : Str)) = false)
    (he : starEach (e :: es) X.env = (false, eval e X.env) :: starEach es X.env) (hpl : (backTo pos (starEach es X.env)).any (·.1) = false) : GE X bs (.Call (.Name x p) (e :: es) [] pos) (fs.bnd fun xs => .lft fun S => fl xs S) :=
  (pe_callTy hc hg hm hv ha hn hdb he hpl).imp fun σ H Q h => cb_core h
theorem ge_callD {fl : FL} {ad : Addr} (hc : CallR X (.ref ad) (RRL X.K bs fl)) (hg : Gl X x) (hm : X.mg x = some (.ref ad)) (hk : PySem.W.keepIn X.K (.ref ad) = true) (ha : GA X bs (e :: es) fs) (hdb : (x == ("__debug__" : Str)) = false)
    (he : starEach (e :: es) X.env = (false, eval e X.env) :: starEach es X.env) (hpl : (backTo pos (starEach es X.env)).any (·.1) = false) : GE X bs (.Call (.Name x p) (e :: es) [] pos) (fs.bnd fun xs => .lft fun S => fl xs S) := by
  refine ⟨fun pins s σ H Q I h => ?_⟩
  refine wpAny_Call_Name_kw (ld_glob I hg hm ?_ hdb)
  refine PySem.W.callWith_K (h₀ := X.base) I.ok.mod.kin hk (thn (ha.run pos pins s σ H _ I (cb_core h)) fun us s1 ⟨vs, H1, I1, r, q⟩ => ⟨I1.kIn, ?_⟩) he hpl
  exact hc pins s1 σ H1 vs us Q I1 r q
theorem ge_srv {m r : Bool} (hu : Rm X) (hg : Gl X "sorted") (hm : X.mg "sorted" = none) (ha : GA X bs (e :: es) fs) {k : Nat} {kp vp : Pos} (he : backTo pos (starEach (e :: es) X.env) = (false, eval e X.env) :: backTo pos (starEach es X.env))
    (hpl : (backTo pos (starEach (e :: es) X.env)).any (·.1) = false) : GE X bs (.Call (.Name "sorted" p) (e :: es) [⟨some "reverse", .Constant (.bool r) k vp, kp⟩] pos) (fs.bnd fun xs => .lft fun S => pSorted r m xs S) :=
  (pe_callBK (cr_sortedR (m := m) (b := r) hu) hg hm rfl ha (pk_cons pe_bl pk_nil) (he := he) (hpl := hpl)).imp fun σ H Q h => by
    obtain ⟨M, B, en, S, hR, h⟩ := cb_core h
    obtain ⟨v, S', e, q⟩ := h
    exact ⟨M, B, en, S, hR, v, S', e, fun H' M' y f st r => ⟨rfl, q H' M' y f st r⟩⟩
theorem ge_isi {T : String} (hg : Gl X "isinstance") (hm : X.mg "isinstance" = none) (hg2 : Gl X x) (hm2 : X.mg x = none) (hv2 : bootBuiltins x = some (.type T)) (hn2 : x ≠ "__name__") (hdb2 : (x == ("__debug__" : Str)) = false) {p2 : Pos} (ha : GE X bs a fa)
    (h1 : starEach [a, .Name x p2] X.env = (false, eval a X.env) :: starEach [.Name x p2] X.env) : GE X bs (.Call (.Name "isinstance" p) [a, .Name x p2] [] pos) (isiD T fa) := by
  have hpa : PA X [a, .Name x p2] (tCons (RG X.K bs rE fa) (tCons (tC (.ty T)) tNil)) := pa_cons ha (pa_cons (pe_bltn hg2 hm2 hv2 rfl hn2 hdb2) pa_nil) h1
  refine (pe_callB (cr_isi (T := T) (bs := bs)) hg hm rfl hpa (he := h1)).imp fun σ H Q ⟨M, B, en, S, hR, h⟩ => ⟨M, B, en, S, hR, h.bnd hR fun v y H1 M1 S1 f1 hR1 r1 h1 => ?_⟩
  obtain ⟨v', S', e, q⟩ := h1.post
  exact ⟨y, rfl, M1, B, S1, v, v', S', hR1.st, r1, e, q⟩
/-- a method of a built-in -/
def mtName : Mt → Str
  | .app => "append" | .pop => "pop" | .idx => "index"
theorem md_F (k : Mt) : MDr X bs (mtName k) (metF bs.top k) := by
  cases k with
  | app => exact md_append
  | pop => exact md_pop
  | idx => exact md_index
/-- what comes behind the receiver -/
theorem met_core {k : Mt} {σ : L2.St} {H : Hp} {Q : VK} (h : RG X.K bs rE (metD bs.top k fo fs) σ H Q) :
    RG X.K bs rE fo σ H fun x H1 => ∃ M B en S v, Rs X.K M B bs en S σ H1 ∧ Rp X.K H1 M B v x ∧ (∃ as S1 r, metF bs.top k v as S1 = some r ∧ tyName S1 v = tyName S v) ∧
      At X.K bs rA fs M B en S H1 fun xs H2 => ∃ M2 S2 as w S', StR X.K H2 M2 B bs S2 ∧ Rp X.K H2 M2 B v x ∧ RpL X.K H2 M2 B as xs ∧ tyName S2 v = tyName S v ∧ metF bs.top k v as S2 = some (w, S') ∧ Post X.K M2 H2 B bs w S' Q := by
  obtain ⟨M, B, en, S, hR, h⟩ := h
  refine ⟨M, B, en, S, hR, h.bnd hR fun v x H1 M1 S1 f1 hR1 r1 h1 => ?_⟩
  obtain ⟨w, S', e, q⟩ := h1
  dsimp only at e
  cases h2 : fs en S1 with
  | none => rw [h2] at e; cases e
  | some p =>
    rw [h2] at e
    dsimp only at e
    split at e
    · rename_i ht
      refine ⟨M1, B, en, S1, v, hR1, r1, ⟨p.1, p.2, _, e, ht⟩, p.1, p.2, h2, fun H2 M2 xs f st r => ⟨M2, p.2, p.1, w, S', st, r1.fut hR1.st.trk f, r, ht, e, fun H' N y s st' r' => q H' _ y (f.trans (Fut.of s)) st' r'⟩⟩
    · cases e
theorem ge_met {k : Mt} (ho : GE X bs o fo) (ha : GA X bs (e :: es) fs) (hbase : attributeBase o (mtName k) X.env (eval o X.env) = eval o X.env)
    (hfew : ((backTo cpos (starEach (e :: es) X.env)).all (fun x => !x.1) && (backToKw cpos (keywordEach [] X.env)).all (fun x => x.1.isSome)
      && decide ((e :: es).length + ([] : List Keyword).length + (if ([] : List Keyword).isEmpty then 0 else 1) < 30)) = true)
    (hline : (apos.endLine == cpos.line) = true) (hs : starEach (e :: es) X.env = (false, eval e X.env) :: starEach es X.env) (hplain : (backTo cpos (starEach es X.env)).any (·.1) = false) :
    GE X bs (.Call (.Attribute o (mtName k) apos) (e :: es) [] cpos) (metD bs.top k fo fs) := by
  refine ⟨fun pins s σ H Q I h => ?_⟩
  refine wpAny_Call_method_late hbase hfew hline rfl (thn (ho.run pins s σ H _ I (met_core h)) fun v s1 ⟨x, H1, I1, r1, q1⟩ => ?_)
  obtain ⟨M, B, en, S, pv, hR, rp, hex, hat⟩ := q1
  obtain ⟨T, id, pa, slot, hty, h1, h2, hrun⟩ := md_F k pins s1 σ H1 x v M B S pv I1 r1 hR.st rp hex
  refine ⟨T, id, pa, slot, hty, h1, h2, ?_⟩
  have hA := ha.run cpos pins s1 σ H1 _ I1 ⟨M, B, en, S, hR, hat⟩
  rw [hs] at hA ⊢
  refine Calls.callWith_builtin (by show (false || (backTo cpos (starEach es X.env)).any (·.1)) = false; rw [hplain] <;> rfl) (Calls.evalArgs_plain ?_)
  exact thn hA fun us s2 ⟨vs, H2, I2, r2, M2, S2, as, w, S', st2, rp2, rl, ht, e, q⟩ => hrun s2 H2 M2 S2 vs us as w S' Q I2 r2 st2 rp2 rl ht e q
theorem ge_met0 {k : Mt} (ho : GE X bs o fo) (hbase : attributeBase o (mtName k) X.env (eval o X.env) = eval o X.env) (hline : (apos.endLine == cpos.line) = true) :
    GE X bs (.Call (.Attribute o (mtName k) apos) [] [] cpos) (metD bs.top k fo (.ret [])) := by
  refine ⟨fun pins s σ H Q I h => ?_⟩
  refine wpAny_Call_method0_late hbase hline (thn (ho.run pins s σ H _ I (met_core h)) fun v s1 ⟨x, H1, I1, r1, q1⟩ => ?_)
  obtain ⟨M, B, en, S, pv, hR, rp, hex, hat⟩ := q1
  obtain ⟨T, id, pa, slot, hty, h1, h2, hrun⟩ := md_F k pins s1 σ H1 x v M B S pv I1 r1 hR.st rp hex
  obtain ⟨M2, S2, as, w, S', st2, rp2, rl, ht, e, q⟩ := hat.ret hR.st (.nil)
  cases rl
  exact ⟨T, id, pa, slot, hty, h1, h2, Calls.callWith_builtin rfl (PySem.evalArgs_none (hrun s1 H1 M2 S2 [] [] [] w S' Q I1 .nil st2 rp2 .nil ht e q))⟩
/-- list(range(a)) -/
theorem rg_rep {K : Frag} {H : Hp} {M : List Addr} {B : Addr → Prop} (n : Nat) : RpL K H M B ((List.range n).map fun (i : Nat) => PV.int i) ((List.range n).map fun (i : Nat) => V.int (0 + (i : Nat))) := by
  generalize List.range n = l
  induction l with
  | nil => exact .nil
  | cons i r ih =>
    rw [List.map_cons, List.map_cons, Int.zero_add]
    exact .cons (.int _) ih
theorem ge_lrg {m : Bool} (hc : X.calm = true) (hg : Gl X "list") (hm : X.mg "list" = none) (hg2 : Gl X "range") (hm2 : X.mg "range" = none) (ha : GE X bs a fa) (na : starEach [a] X.env = (false, eval a X.env) :: starEach [] X.env) {p2 pos2 : Pos} :
    GE X bs (.Call (.Name "list" p) [.Call (.Name "range" p2) [a] [] pos2] [] pos) (lrgD m fa) :=
  (pe_listRg hc hg hm (prg_1 hg2 hm2 ha na)).imp fun σ H Q ⟨M, B, en, S, hR, h⟩ => ⟨M, B, en, S, hR, h.bnd hR fun v y H1 M1 S1 f1 hR1 r1 h1 => by
    obtain ⟨v', S', e, q⟩ := h1.post
    split at e
    · rename_i j
      split at e
      · rename_i hj
        cases r1
        refine ⟨j, rfl, ⟨by decide, by decide, hj.1, by omega, by rw [Int.sub_zero]; exact hj.2⟩, ?_⟩
        have := rg_rep (K := X.K) (H := H1) (M := M1) (B := B) j.toNat
        have e' := Option.some.inj e
        have := Post.lst e' q hR1.st this
        unfold rgV
        rw [Int.sub_zero]
        exact this
      · cases e
    · cases e⟩

/-! ### a dict display -/
def Brd (B : Addr → Prop) (p : Addr) : Addr → Prop := fun a => B a ∨ a = p
end
section
variable {K : Frag} {H : Hp} {M M' : List Addr} {B : Addr → Prop} {bs : Bs} {S : Sto} {p : Addr} {o : HO}
mutual
/-- an address that was barred stands for a value of its own -/
theorem Rp.adopt {u : HO} (hp : H p = some u) (hu : isM u = true) (hM : M' = M ∨ M' = M ++ [p]) : ∀ {v : PV} {x : V}, Rp K H M (Brd B p) v x → Rp K (upd H p o) M' B v x
  | _, _, .non => .non
  | _, _, .bl b => .bl b
  | _, _, .int i => .int i
  | _, _, .str x => .str x
  | _, _, .tup (a := a) h r => .tup (by
      rcases h with ⟨ob, h, d⟩ | h
      · refine .inl ⟨ob, ?_, d⟩
        rw [upd_ne]; exact h
        rintro rfl; rw [hp] at h; cases h; cases hu
      · exact .inr h) (RpL.adopt hp hu hM r)
  | _, _, .lst (a := a) h n b r => .lst (by rw [upd_ne fun z => b (.inr z)]; exact h) (by
      rcases hM with rfl | rfl
      · exact n
      · exact fun z => (List.mem_append.mp z).elim n fun z => b (.inr (List.mem_singleton.mp z))) (fun z => b (.inl z)) (RpL.adopt hp hu hM r)
  | _, _, .edct (a := a) h n b => .edct (by rw [upd_ne fun z => b (.inr z)]; exact h) (by
      rcases hM with rfl | rfl
      · exact n
      · exact fun z => (List.mem_append.mp z).elim n fun z => b (.inr (List.mem_singleton.mp z))) (fun z => b (.inl z))
  | _, _, .ref e => .ref (by
      rcases hM with rfl | rfl
      · exact e
      · rw [List.getElem?_append_left (List.getElem?_eq_some_iff.mp e).1]; exact e)
  | _, _, .scr (a := a) h n b => .scr (by
      rcases h with h | ⟨ob, h⟩
      · exact .inl (by rw [upd_ne fun z => b (.inr z)]; exact h)
      · exact .inr ⟨ob, by rw [upd_ne fun z => b (.inr z)]; exact h⟩) (by
      rcases hM with rfl | rfl
      · exact n
      · exact fun z => (List.mem_append.mp z).elim n fun z => b (.inr (List.mem_singleton.mp z))) (fun z => b (.inl z))
  | _, _, .scrK h => .scrK h
theorem RpL.adopt {u : HO} (hp : H p = some u) (hu : isM u = true) (hM : M' = M ∨ M' = M ++ [p]) : ∀ {v : List PV} {x : List V}, RpL K H M (Brd B p) v x → RpL K (upd H p o) M' B v x
  | _, _, .nil => .nil
  | _, _, .cons h r => .cons (Rp.adopt hp hu hM h) (RpL.adopt hp hu hM r)
end
theorem KvR.adopt {u : HO} (hp : H p = some u) (hu : isM u = true) (hM : M' = M ∨ M' = M ++ [p]) : ∀ {a : List (Key × PV)} {b : List (Key × V)}, KvR K H M (Brd B p) a b → KvR K (upd H p o) M' B a b
  | _, _, .nil => .nil
  | _, _, .cons h r => .cons ⟨h.1, h.2.adopt hp hu hM⟩ (KvR.adopt hp hu hM r)
theorem RpO.adopt {u : HO} (hp : H p = some u) (hu : Ev.isM u = true) (hM : M' = M ∨ M' = M ++ [p]) {a : SObj} {b : HO} (h : RpO K H M (Brd B p) a b) : RpO K (upd H p o) M' B a b := by
  cases h with
  | lst h => exact .lst (h.adopt hp hu hM)
  | dct h => exact .dct (KvR.adopt hp hu hM h)
theorem StR.adopt {u : HO} (hp : H p = some u) (hu : isM u = true) (hn : p ∉ M) (h : StR K H M (Brd B p) bs S) : StR K (upd H p o) M B bs S where
  len := h.len
  nd := h.nd
  ob := fun r q a e1 e2 => by
    obtain ⟨v, hv, x⟩ := h.ob r q a e1 e2
    have : a ≠ p := fun z => hn (z ▸ List.mem_of_getElem? e2)
    exact ⟨v, by rw [upd_ne this]; exact hv, x.adopt hp hu (.inl rfl)⟩
  bd := fun a ha => by
    by_cases z : a = p
    · subst z; rw [upd_same]; simp
    · rw [upd_ne z]; exact h.bd a (.inl ha)
  mb := fun a ha z => h.mb a ha (.inl z)
  wf := h.wf
  le := h.le
theorem StR.adoptM {u : HO} (hp : H p = some u) (hu : isM u = true) (hn : p ∉ M) (hb : ¬ B p) {so : SObj} (ho : RpO K H M (Brd B p) so o) (h : StR K H M (Brd B p) bs S) : StR K (upd H p o) (M ++ [p]) B bs (S ++ [so]) where
  len := by simp [h.len]
  nd := by
    rw [List.nodup_append]
    refine ⟨h.nd, by simp, fun a ha b hb e => ?_⟩
    rw [List.mem_singleton] at hb
    subst hb; subst e
    exact hn ha
  ob := fun r q a e1 e2 => by
    by_cases hr : r < S.length
    · rw [List.getElem?_append_left hr] at e1
      rw [List.getElem?_append_left (by rw [h.len]; exact hr)] at e2
      obtain ⟨v, hv, x⟩ := h.ob r q a e1 e2
      have : a ≠ p := fun z => hn (z ▸ List.mem_of_getElem? e2)
      exact ⟨v, by rw [upd_ne this]; exact hv, x.adopt hp hu (.inr rfl)⟩
    · rw [List.getElem?_append_right (by omega)] at e1
      rw [List.getElem?_append_right (by rw [h.len]; omega)] at e2
      have hr0 : r - S.length = 0 := by
        have := (List.getElem?_eq_some_iff.mp e1).1
        simp at this; omega
      rw [hr0] at e1
      have hr1 : r - M.length = 0 := by rw [h.len]; exact hr0
      rw [hr1] at e2
      simp at e1 e2
      subst e1; subst e2
      exact ⟨o, upd_same, ho.adopt hp hu (.inr rfl)⟩
  bd := fun a ha => by
    by_cases z : a = p
    · subst z; rw [upd_same]; simp
    · rw [upd_ne z]; exact h.bd a (.inl ha)
  mb := fun a ha => (List.mem_append.mp ha).elim (fun ha z => h.mb a ha (.inl z)) fun ha => by
    rw [List.mem_singleton.mp ha]; exact hb
  wf := fun b r o hb hr e => h.wf b r o hb hr (by rwa [List.getElem?_append_left (Nat.lt_of_lt_of_le hr (Nat.le_trans (bs.le b hb) h.le))] at e)
  le := by simp; exact Nat.le_succ_of_le h.le
/-- a fresh address is barred -/
theorem StR.bar1 (h : StR K H M B bs S) (hn : H p = none) (hm : isM o = true) : StR K (upd H p o) M (Brd B p) bs S := by
  have h1 := h.new (o := o) hn
  have hpM := h.mfree hn
  refine ⟨h1.len, h1.nd, fun r q a e1 e2 => ?_, fun a ha => ?_, fun a ha z => ?_, h1.wf, h1.le⟩
  · obtain ⟨v, hv, x⟩ := h.ob r q a e1 e2
    refine ⟨v, by rw [upd_ne (ne_of_none hv hn)]; exact hv, ?_⟩
    have s : Stp M H [] (upd H p o) := Stp.new hn
    have x1 : RpO K H M (Brd B p) q v := x.bar fun a hb ha => hb.elim id fun z => absurd (z ▸ hn) ha
    have := x1.stp h.trk s
    rwa [List.append_nil] at this
  · rcases ha with ha | rfl
    · exact h1.bd a ha
    · rw [upd_same]; simp
  · rcases z with z | z
    · exact h1.mb a ha z
    · exact hpM (z ▸ ha)
theorem Rp.bar1 {v : PV} {x : V} (h : StR K H M B bs S) (hn : H p = none) (r : Rp K H M B v x) : Rp K (upd H p o) M (Brd B p) v x := by
  have x1 : Rp K H M (Brd B p) v x := r.bar fun a hb ha => hb.elim id fun z => absurd (z ▸ hn) ha
  have := x1.stp h.trk (Stp.new (o := o) hn)
  rwa [List.append_nil] at this
/-- the barred address is written -/
theorem StR.poke {u : HO} (hp : H p = some u) (hu : isM u = true) (hn : p ∉ M) (h : StR K H M (Brd B p) bs S) : StR K (upd H p o) M (Brd B p) bs S := by
  have h1 := StR.adopt (B := Brd B p) (o := o) hp hu hn ⟨h.len, h.nd, fun r q a e1 e2 => let ⟨v, hv, x⟩ := h.ob r q a e1 e2; ⟨v, hv, x.bar fun a z _ => z.elim id .inr⟩, fun a ha => h.bd a (ha.elim id .inr), fun a ha z => h.mb a ha (z.elim id .inr), h.wf, h.le⟩
  exact h1
theorem Rp.poke {u : HO} {v : PV} {x : V} (hp : H p = some u) (hu : isM u = true) (r : Rp K H M (Brd B p) v x) : Rp K (upd H p o) M (Brd B p) v x :=
  Rp.adopt (B := Brd B p) hp hu (.inl rfl) (r.bar fun a z _ => z.elim id .inr)
theorem RpL.poke {u : HO} {v : List PV} {x : List V} (hp : H p = some u) (hu : isM u = true) (r : RpL K H M (Brd B p) v x) : RpL K (upd H p o) M (Brd B p) v x :=
  RpL.adopt (B := Brd B p) hp hu (.inl rfl) (r.bar fun a z _ => z.elim id .inr)
/-- from ahead of the laying of p to behind -/
theorem Fut.lay {H0 : Hp} {M0 : List Addr} (f : Fut M0 H0 M H) (hn : H0 p = none) (hp : p ∉ M) : Fut M0 H0 M (upd H p o) ∧ Fut M0 H0 (M ++ [p]) (upd H p o) := by
  obtain ⟨N, rfl, s⟩ := f
  have k : ∀ a u, H0 a = some u → a ∉ M0 → upd H p o a = some u := fun a u e n => by
    rw [upd_ne (ne_of_none e hn)]; exact s.keep a u e n
  have d : ∀ a, H0 a ≠ none → upd H p o a ≠ none := fun a e => by
    by_cases z : a = p
    · subst z; exact absurd hn e
    · rw [upd_ne z]; exact s.dom a e
  refine ⟨⟨N, rfl, k, d, s.fresh⟩, ⟨N ++ [p], by rw [List.append_assoc], k, d, fun a ha => (List.mem_append.mp ha).elim (s.fresh a) fun ha => by rw [List.mem_singleton.mp ha]; exact hn⟩⟩
/-- what was barred comes forth as a list -/
theorem fin_lst {u : HO} {m : Bool} {acc : List PV} {vs : List V} {v : PV} {S' : Sto} {M0 : List Addr} {H0 : Hp} {Q : VK} (hp : H p = some u) (hu : isM u = true) (hn : p ∉ M) (hb : ¬ B p) (h : StR K H M (Brd B p) bs S) (r : RpL K H M (Brd B p) acc vs)
    (e : mkL m acc S = (v, S')) (f : Fut M0 H0 M H) (h0 : H0 p = none) (q : ∀ (H' : Hp) (M' : List Addr) (x : V), Fut M0 H0 M' H' → StR K H' M' B bs S' → Rp K H' M' B v x → Q x H') : Q (.ref p) (upd H p (.lst vs)) := by
  cases m with
  | false =>
    simp only [mkL, Bool.false_eq_true, if_false, Prod.mk.injEq] at e
    obtain ⟨rfl, rfl⟩ := e
    exact q _ M _ (f.lay h0 hn).1 (h.adopt hp hu hn) (.lst upd_same hn hb (r.adopt hp hu (.inl rfl)))
  | true =>
    simp only [mkL, if_true, Prod.mk.injEq] at e
    obtain ⟨rfl, rfl⟩ := e
    refine q _ (M ++ [p]) _ (f.lay h0 hn).2 (h.adoptM hp hu hn hb (.lst r)) (.ref ?_)
    rw [← h.len, List.getElem?_append_right (Nat.le_refl _)]; simp
theorem fin_dct {u : HO} {m : Bool} {kvs : List (Key × PV)} {kws : List (Key × V)} {v : PV} {S' : Sto} {M0 : List Addr} {H0 : Hp} {Q : VK} (hp : H p = some u) (hu : isM u = true) (hn : p ∉ M) (hb : ¬ B p) (h : StR K H M (Brd B p) bs S) (r : KvR K H M (Brd B p) kvs kws)
    (e : mkD m kvs S = some (v, S')) (f : Fut M0 H0 M H) (h0 : H0 p = none) (q : ∀ (H' : Hp) (M' : List Addr) (x : V), Fut M0 H0 M' H' → StR K H' M' B bs S' → Rp K H' M' B v x → Q x H') : Q (.ref p) (upd H p (.dK kws)) := by
  cases m with
  | false =>
    simp only [mkD, Bool.false_eq_true, if_false] at e
    cases kvs with
    | nil =>
      cases r
      cases e
      exact q _ M _ (f.lay h0 hn).1 (h.adopt hp hu hn) (.edct upd_same hn hb)
    | cons _ _ => cases e
  | true =>
    simp only [mkD, if_true, Option.some.injEq, Prod.mk.injEq] at e
    obtain ⟨rfl, rfl⟩ := e
    refine q _ (M ++ [p]) _ (f.lay h0 hn).2 (h.adoptM hp hu hn hb (.dct r)) (.ref ?_)
    rw [← h.len, List.getElem?_append_right (Nat.le_refl _)]; simp
end
end Ev
namespace Ev
open PySem PySem.Spec PyProof.Rows L2

/-! ### enumerate of one argument -/
theorem meets_en1 {v : Value} {o : Obj} {H : Heap → Prop} (B : Begins v o H) :
    Meets (Builtin.«enumerate.__new__» ⟨[.type "enumerate", v], []⟩) (fun _ R s => H s.heap ∧
      R (.ok (.ret (.ref (s.heap.push o).objs.size))) { s with heap := (s.heap.push o).push { cls := .type "enumerate", data := .fields #[.none, .bool false, .ref s.heap.objs.size, rawInt 0, .none, .none] } }) :=
  .of_wp fun prog w A R s h => by
    obtain ⟨hp, g, d, tk, os⟩ := s; obtain ⟨h1, h⟩ := h
    have hsub := sub_enumerate
    have q1 : ∀ {A' : Around} {E : Value → Shared → Prop} {Q : Value → Shared → Prop}, Q (.ref hp.objs.size) ⟨hp.push o, g, d, tk, os⟩ → wpAny (model prog w) A' (pyIter v) Q E ⟨hp, g, d, tk, os⟩ :=
      fun q => B.iter prog w _ _ ⟨hp, g, d, tk, os⟩ _ h1 q
    wp_walk using q1
    try refine wpAny_stack_any fun st => wpAny_pure ?_
    try split
    all_goals first
      | exact ⟨_, rfl, h⟩
      | (rename_i c _ _ _ _ _
         cases (c == Value.type "enumerate")
         · wp_walk using q1
           exact ⟨_, rfl, h⟩
         · wp_walk using q1
           exact ⟨_, rfl, h⟩)
      | (wp_walk using q1
         exact ⟨_, rfl, h⟩)
section
variable {prog : Program} {w : World} {A : Around} {E : Value → Shared → Prop} {s : Shared}
theorem en1_begins {v : Value} {o : Obj} {H : Heap → Prop} {Q : Value → Shared → Prop} (B : Begins v o H) (h1 : H s.heap)
    (h : ∀ h', IsEnum h' (s.heap.objs.size + 1) s.heap.objs.size 0 .none → h'.get? s.heap.objs.size = some o → h'.objs.size = s.heap.objs.size + 2 →
      (∀ b o, s.heap.get? b = some o → h'.get? b = some o) → Q (.ref (s.heap.objs.size + 1)) { s with heap := h' }) :
    wpAny (model prog w) A (call (.type "enumerate") [v]) Q E s := by
  refine callType_new F.called_enumerate (by decide) (F.typeCall_enumerate_1 _) (F.newCall_enumerate_1 _) (fun obj => F.args_object_init_2 obj _) F.entry_enumerate_new (meets_en1 B) ⟨h1, ?_⟩
  have hz : (s.heap.push o).objs.size = s.heap.objs.size + 1 := Heap.size_push ..
  show _ ∧ _
  rw [hz]
  have he : IsEnum ((s.heap.push o).push { cls := .type "enumerate", data := .fields #[.none, .bool false, .ref s.heap.objs.size, rawInt 0, .none, .none] }) (s.heap.objs.size + 1) s.heap.objs.size 0 .none := by
    have := Heap.get?_push_size (s.heap.push o) (o := { cls := .type "enumerate", data := .fields #[.none, .bool false, .ref s.heap.objs.size, rawInt 0, .none, .none] }) rfl
    rw [hz] at this; exact this
  exact ⟨⟨_, he, rfl⟩, h _ he (Heap.get?_push_of_some _ (Heap.get?_push_size _ B.free)) (by rw [Heap.size_push, hz]) fun b o x => Heap.get?_push_of_some _ (Heap.get?_push_of_some _ x)⟩
end
section
variable {M : Model} {A : Around} {E : Value → Shared → Prop} {s : Shared} {env : Env}
theorem callWith_tyKw {pos : Pos} {T : String} {e : Expr} {rest : List Expr} {kws : List Keyword} {Q : Value → Shared → Prop}
    (h : wpAny M A (spliced (backTo pos (starEach (e :: rest) env))) (fun vs s₁ => wpAny M A (evalAll ((backToKw pos (keywordEach kws env)).map (·.2)))
      (fun kvs s₂ => wpAny M A (call (.type T) vs (((backToKw pos (keywordEach kws env)).filterMap (·.1)).zip kvs)) Q E s₂) E s₁) E s)
    (he : backTo pos (starEach (e :: rest) env) = (false, eval e env) :: backTo pos (starEach rest env))
    (hplain : (backTo pos (starEach (e :: rest) env)).any (·.1) = false)
    (hall : (backToKw pos (keywordEach kws env)).all (·.1.isSome) = true)
    (hkw : (backToKw pos (keywordEach kws env)).any (·.1.isNone) = false) :
    wpAny M A (callWith pos (.type T) [] (backTo pos (starEach (e :: rest) env)) (backToKw pos (keywordEach kws env))) Q E s := by
  unfold callWith
  have h' : wpAny M A (evalArgs (.type T) true (backTo pos (starEach (e :: rest) env)) (backToKw pos (keywordEach kws env))) (fun a s₁ => wpAny M A (call (.type T) ([] ++ a.pos) a.kw) Q E s₁) E s := by
    rw [he] at h ⊢
    exact evalArgs_kwB hall h
  refine wpAny_bind (wpAny_holding (wpAny_mono h' (fun a s₁ h₁ => wpAny_bind (wpAny_standAt ?_)) fun _ _ x => x))
  simp only [hplain, hkw, Bool.or_false]
  refine wpAny_bind (wpAny_pure ?_)
  exact wpAny_bind (wpAny_mono h₁ (fun r s₂ hr => wpAny_bind (wpAny_holding (wpAny_point (wpAny_pure hr)))) fun _ _ x => x)
end

/-! ### iterators -/
inductive RJ (K : Frag) (H : Hp) (M : List Addr) (B : Addr → Prop) : ItV → It → Prop
  | seqL {v : PV} {a : Addr} : Rp K H M B v (.ref a) → isTup v = false → RJ K H M B (.seq v) (Itl K a)
  | seqT {v : PV} {a : Addr} : Rp K H M B v (.ref a) → isTup v = true → RJ K H M B (.seq v) (Itt K a)
  | rng (lo : Int) (n : Nat) : RJ K H M B (.rng lo n) (Itr lo n)
  | enu {v : PV} {a : Addr} : Rp K H M B v (.ref a) → RJ K H M B (.enu v) (ItEn K (isTup v) a)
  | zip {st : Bool} {v w : PV} {a b : Addr} : Rp K H M B v (.ref a) → Rp K H M B w (.ref b) → RJ K H M B (.zip st v w) (ItZp K st (isTup v) (isTup w) a b)
abbrev rI : Rel ItV It := fun K H M B v x => RJ K H M B v x
theorem RJ.map {K : Frag} {H H' : Hp} {M M' : List Addr} {B B' : Addr → Prop} (c : ∀ {v : PV} {x : V}, Rp K H M B v x → Rp K H' M' B' v x) {J : ItV} {j : It} (h : RJ K H M B J j) : RJ K H' M' B' J j := by
  cases h with
  | seqL r t => exact .seqL (c r) t
  | seqT r t => exact .seqT (c r) t
  | rng => exact .rng _ _
  | enu r => exact .enu (c r)
  | zip r s => exact .zip (c r) (c s)
theorem sq_of {K : Frag} {H : Hp} {M : List Addr} {B : Addr → Prop} {bs : Bs} {S : Sto} {v : PV} {a : Addr} {xs : List PV} (h : StR K H M B bs S) (r : Rp K H M B v (.ref a)) (e : seqOf S v = some xs) : ∃ vs, Sq (isTup v) K H a vs ∧ RpL K H M B xs vs := by
  by_cases ht : isTup v = true
  · have hv := seqOf_tup ht e
    subst hv
    obtain ⟨a', vs, h1, h2, h3⟩ := ref_of r
    cases h1
    exact ⟨vs, h2, h3⟩
  · obtain ⟨a', vs, h1, h2, h3⟩ := seqL_rep h r (by simpa using ht) e
    cases h1
    have e' : isTup v = false := by simpa using ht
    exact ⟨vs, by rw [e']; exact h2, h3⟩
theorem ref_seq {K : Frag} {H : Hp} {M : List Addr} {B : Addr → Prop} {bs : Bs} {S : Sto} {v : PV} {x : V} {xs : List PV} (h : StR K H M B bs S) (r : Rp K H M B v x) (e : seqOf S v = some xs) : ∃ a, x = .ref a := by
  obtain ⟨a, _, h1, _⟩ := seqOf_rep h r e
  exact ⟨a, h1⟩
section
variable {X : Cx} {bs : Bs} {tg e e2 : Expr} {f f2 : Dn PV} {x : Str} {p pos tpos : Pos} {elts : List Expr} {kk : Nat}
abbrev GI (X : Cx) (bs : Bs) (tg e : Expr) (f : Dn ItV) : Prop := PI X tg e (RG X.K bs rI f)
theorem gi_seq (he : GE X bs e f) : GI X bs tg e (seqI f .seq) := by
  refine ⟨fun pins s σ H R I ⟨M, B, en, S, hR, h⟩ => ?_⟩
  let P : V → Hp → Prop := fun x H1 => (∃ a xs, x = .ref a ∧ SqL X.K H1 a xs ∧ R (Itl X.K a) H1) ∨ (∃ a xs, x = .ref a ∧ SqT X.K H1 a xs ∧ R (Itt X.K a) H1)
  have h1 : At X.K bs rE f M B en S H P := h.bnd hR fun v y H1 M1 S1 f1 hR1 r1 h1 => by
    obtain ⟨J, S', e, q⟩ := h1
    dsimp only [Dn.lft] at e
    cases hs : seqOf S1 v with
    | none => rw [hs] at e; cases e
    | some xs =>
      rw [hs] at e; cases e
      obtain ⟨a, rfl⟩ := ref_seq hR1.st r1 hs
      obtain ⟨vs, h2, h3⟩ := sq_of hR1.st r1 hs
      cases ht : isTup v with
      | true => rw [ht] at h2; exact .inr ⟨a, vs, rfl, h2, q H1 M1 _ Fut.refl hR1.st (.seqT r1 ht)⟩
      | false => rw [ht] at h2; exact .inl ⟨a, vs, rfl, h2, q H1 M1 _ Fut.refl hR1.st (.seqL r1 ht)⟩
  refine thn (he.run pins s σ H _ I ⟨M, B, en, S, hR, h1⟩) fun v s1 ⟨x, H1, I1, r1, q1⟩ => ?_
  rcases q1 with ⟨a, xs, rfl, hq, q⟩ | ⟨a, xs, rfl, hq, q⟩
  · cases r1
    obtain ⟨its, rv, p, hz⟩ := I1.list hq
    exact wpAny_pyIter_list p.isList (pi_one (tk := s1.toks) I1 _ (turn_list a _) ⟨_, Heap.get?_push_size _ rfl, rfl, rfl⟩ q)
  · cases r1
    obtain ⟨its, rv, p, hz⟩ := I1.tuple hq
    exact wpAny_pyIter_tuple (show s1.heap.IsTuple a its.toArray from p) (pi_one (tk := s1.toks) I1 _ (turn_tuple a _) ⟨_, Heap.get?_push_size _ rfl, rfl, rfl⟩ q)
theorem gi_rng (hg : Gl X "range") (hm : X.mg "range" = none) (he : GE X bs e f) (hs : starEach [e] X.env = (false, eval e X.env) :: starEach [] X.env) : GI X bs tg (.Call (.Name "range" p) [e] [] pos) (rngI f) :=
  (pi_range1 hg hm (pa_cons he pa_nil hs) hs).imp fun σ H R ⟨M, B, en, S, hR, h⟩ => ⟨M, B, en, S, hR, h.bnd hR fun v y H1 M1 S1 f1 hR1 r1 h1 => by
    obtain ⟨J, S', e, q⟩ := h1
    dsimp only [Dn.lft] at e
    split at e
    · rename_i j
      split at e
      · rename_i hz
        cases e
        cases r1
        simp only [rngOk, Bool.and_eq_true, decide_eq_true_eq] at hz
        exact ⟨j, rfl, hz.1.2, hz.2, q H1 M1 _ Fut.refl hR1.st (.rng _ _)⟩
      · cases e
    · cases e⟩
theorem gi_rng2 (hg : Gl X "range") (hm : X.mg "range" = none) (he : GE X bs e f) (he2 : GE X bs e2 f2) (hs : starEach [e, e2] X.env = (false, eval e X.env) :: starEach [e2] X.env) (hs2 : starEach [e2] X.env = (false, eval e2 X.env) :: starEach [] X.env) :
    GI X bs tg (.Call (.Name "range" p) [e, e2] [] pos) (rng2I f f2) :=
  (pi_range2 hg hm (pa_cons he (pa_cons he2 pa_nil hs2) hs) (by rw [hs, hs2]; rfl) hs2).imp fun σ H R ⟨M, B, en, S, hR, h⟩ => ⟨M, B, en, S, hR, h.bnd hR fun v y H1 M1 S1 f1 hR1 r1 h1 => ⟨M1, B, en, S1, hR1, h1.bnd hR1 fun w z H2 M2 S2 f2 hR2 r2 h2 => by
    obtain ⟨J, S', e, q⟩ := h2
    dsimp only [Dn.lft] at e
    split at e
    · rename_i i j
      split at e
      · rename_i hz
        cases e
        cases r1
        cases r2
        simp only [rngOk, Bool.and_eq_true, decide_eq_true_eq] at hz
        exact ⟨i, j, rfl, ⟨hz.1.1.1, hz.1.1.2, hz.1.2, hz.2⟩, q H2 M2 _ Fut.refl hR2.st (.rng _ _)⟩
      · cases e
    · cases e⟩⟩
theorem gi_enu (hg : Gl X "enumerate") (hm : X.mg "enumerate" = none) (he : GE X bs e f) (hs : starEach [e] X.env = (false, eval e X.env) :: starEach [] X.env) : GI X bs (.Tuple elts kk tpos) (.Call (.Name "enumerate" p) [e] [] pos) (seqI f .enu) := by
  refine ⟨fun pins s σ H R I ⟨M, B, en, S, hR, h⟩ => ?_⟩
  let P : V → Hp → Prop := fun x H1 => ∃ t a xs, x = .ref a ∧ Sq t X.K H1 a xs ∧ R (ItEn X.K t a) H1
  have h1 : At X.K bs rE f M B en S H P := h.bnd hR fun v y H1 M1 S1 f1 hR1 r1 h1 => by
    obtain ⟨J, S', e, q⟩ := h1
    dsimp only [Dn.lft] at e
    cases hs : seqOf S1 v with
    | none => rw [hs] at e; cases e
    | some xs =>
      rw [hs] at e; cases e
      obtain ⟨a, rfl⟩ := ref_seq hR1.st r1 hs
      obtain ⟨vs, h2, h3⟩ := sq_of hR1.st r1 hs
      exact ⟨isTup v, a, vs, rfl, h2, q H1 M1 _ Fut.refl hR1.st (.enu r1)⟩
  have hp : PA X [e] (tCons (RG X.K bs rE f) tNil) := pa_cons he pa_nil hs
  refine Call_ (ld_blt I hg hm boot_enumerate (PyProof.Rows.callWith_type1 (thn (hp.run pos pins s σ H (fun vs H1 => ∃ x, vs = [x] ∧ P x H1) I ⟨M, B, en, S, hR, let ⟨v, S', e, q⟩ := h1; ⟨v, S', e, fun H' M' y f' st r => ⟨y, rfl, q H' M' y f' st r⟩⟩⟩) fun us s1 ⟨vs, H1, I1, r1, q1⟩ => ?_) hs rfl))
  obtain ⟨x, rfl, t, a, xs, rfl, hq, q⟩ := q1
  cases r1 with
  | cons r rr =>
    cases rr
    cases r
    obtain ⟨its, rv, p'⟩ := sq_at I1 hq
    have la : a < s1.heap.objs.size := sqAt_lt p'
    refine en1_begins (begins_sq (t := t) its.toArray) p' fun h' he' hit hsz hk => wpAny_pyIter_enum he' ?_
    have I2 : Inv X pins σ H1 { s1 with heap := h' } := I1.kept (t' := s1.toks) hk
    refine ⟨s1.heap.objs.size + 1, [s1.heap.objs.size + 1, s1.heap.objs.size], _, _, H1, rfl, I2, turn_En (t := t) a (s1.heap.objs.size + 1) s1.heap.objs.size, ⟨⟨.none, he'⟩, itAt_zero hit, Nat.succ_ne_self _, Nat.ne_of_lt la, Nat.ne_of_lt (Nat.lt_succ_of_lt la)⟩, fun b hb => ?_, q⟩
    have hle : s1.heap.objs.size ≤ b := by
      rcases List.mem_cons.mp hb with z | z
      · rw [z]; exact Nat.le_add_right _ _
      · rw [List.mem_singleton.mp z]; exact Nat.le_refl _
    exact I1.fpOk hle (I1.hok.fresh hle)
theorem zip_core {st : Bool} {σ : L2.St} {H : Hp} {R : It → Hp → Prop} (h : RG X.K bs rI (zipI st f f2) σ H R) :
    RG X.K bs rE f σ H fun x H1 => RG X.K bs rE f2 σ H1 fun y H2 => ∃ t1 t2 a b xs ys, x = .ref a ∧ y = .ref b ∧ Sq t1 X.K H2 a xs ∧ Sq t2 X.K H2 b ys ∧ R (ItZp X.K st t1 t2 a b) H2 := by
  obtain ⟨M, B, en, S, hR, h⟩ := h
  refine ⟨M, B, en, S, hR, h.bnd hR fun v y H1 M1 S1 f1 hR1 r1 h1 => ⟨M1, B, en, S1, hR1, h1.bnd hR1 fun w z H2 M2 S2 f2 hR2 r2 h2 => ?_⟩⟩
  obtain ⟨J, S', e, q⟩ := h2
  dsimp only [Dn.lft] at e
  cases hs : seqOf S2 v with
  | none => rw [hs] at e; cases e
  | some xs =>
    cases hs2 : seqOf S2 w with
    | none => rw [hs, hs2] at e; cases e
    | some ys =>
      rw [hs, hs2] at e; cases e
      have r1' := r1.fut hR1.st.trk f2
      obtain ⟨a, rfl⟩ := ref_seq hR2.st r1' hs
      obtain ⟨b, rfl⟩ := ref_seq hR2.st r2 hs2
      obtain ⟨vs, h2, _⟩ := sq_of hR2.st r1' hs
      obtain ⟨ws, h3, _⟩ := sq_of hR2.st r2 hs2
      exact ⟨isTup v, isTup w, a, b, vs, ws, rfl, rfl, h2, h3, q H2 M2 _ Fut.refl hR2.st (.zip r1' r2)⟩
theorem zip_fin {st t1 t2 : Bool} {pins : List (Addr × Obj)} {σ : L2.St} {H1 : Hp} {s1 : Shared} {R : It → Hp → Prop} {a b : Addr} {h' : Heap} (I1 : Inv X pins σ H1 s1) (la : a < s1.heap.objs.size) (lb : b < s1.heap.objs.size)
    (hz : zipIs st h' (s1.heap.objs.size + 4) (s1.heap.objs.size + 2) (s1.heap.objs.size + 3) .none) (hTI : IsTupOf2 h' (s1.heap.objs.size + 2) (.ref s1.heap.objs.size) (.ref (s1.heap.objs.size + 1)))
    (hTO : IsTupOf2 h' (s1.heap.objs.size + 3) .none .none) (g1 : h'.get? s1.heap.objs.size = some (itObj t1 a)) (g2 : h'.get? (s1.heap.objs.size + 1) = some (itObj t2 b)) (hk : ∀ c o, s1.heap.get? c = some o → h'.get? c = some o)
    (q : R (ItZp X.K st t1 t2 a b) H1) : PIE X pins σ (.Tuple elts kk tpos) R (.ref (s1.heap.objs.size + 4)) { s1 with heap := h' } := by
  have I2 : Inv X pins σ H1 { s1 with heap := h' } := I1.kept (t' := s1.toks) hk
  refine ⟨s1.heap.objs.size + 4, [s1.heap.objs.size + 4, s1.heap.objs.size + 2, s1.heap.objs.size + 3, s1.heap.objs.size, s1.heap.objs.size + 1], _, _, H1, rfl, I2, turn_Zp (st := st) (t1 := t1) (t2 := t2) (zapart la lb), ⟨hz, hTI, ⟨_, _, hTO⟩, itAt_zero g1, itAt_zero g2⟩, fun c hcm => ?_, q⟩
  have e' : c = s1.heap.objs.size + 4 ∨ c = s1.heap.objs.size + 2 ∨ c = s1.heap.objs.size + 3 ∨ c = s1.heap.objs.size ∨ c = s1.heap.objs.size + 1 := by simpa using hcm
  have hle : s1.heap.objs.size ≤ c := by
    rcases e' with z | z | z | z | z
    · rw [z]; exact Nat.le_add_right _ _
    · rw [z]; exact Nat.le_add_right _ _
    · rw [z]; exact Nat.le_add_right _ _
    · rw [z]; exact Nat.le_refl _
    · rw [z]; exact Nat.le_add_right _ _
  exact I1.fpOk hle (I1.hok.fresh hle)
theorem gi_zip (hg : Gl X "zip") (hm : X.mg "zip" = none) (he : GE X bs e f) (he2 : GE X bs e2 f2) (hs : starEach [e, e2] X.env = (false, eval e X.env) :: starEach [e2] X.env) (hs2 : starEach [e2] X.env = (false, eval e2 X.env) :: starEach [] X.env) :
    GI X bs (.Tuple elts kk tpos) (.Call (.Name "zip" p) [e, e2] [] pos) (zipI false f f2) := by
  refine ⟨fun pins s σ H R I h => ?_⟩
  have hp : PA X [e, e2] (tCons (RG X.K bs rE f) (tCons (RG X.K bs rE f2) tNil)) := pa_cons he (pa_cons he2 pa_nil hs2) hs
  refine Call_ (ld_blt I hg hm PyProof.Rows.boot_zip (PyProof.Rows.callWith_type1 (thn (hp.run pos pins s σ H (fun vs H2 => ∃ t1 t2 a b xs ys, vs = [.ref a, .ref b] ∧ Sq t1 X.K H2 a xs ∧ Sq t2 X.K H2 b ys ∧ R (ItZp X.K false t1 t2 a b) H2) I ?_) fun us s1 ⟨vs, H1, I1, r1, q1⟩ => ?_) hs (by rw [hs2]; rfl)))
  · obtain ⟨M, B, en, S, hR, v, S', ev, q⟩ := zip_core h
    refine ⟨M, B, en, S, hR, v, S', ev, fun H' M' x f' st r => ?_⟩
    obtain ⟨M, B, en, S, hR, v, S', ev, q⟩ := q H' M' x f' st r
    refine ⟨M, B, en, S, hR, v, S', ev, fun H' M' y f' st r => ?_⟩
    obtain ⟨t1, t2, a, b, xs, ys, rfl, rfl, z⟩ := q H' M' y f' st r
    exact ⟨t1, t2, a, b, xs, ys, rfl, z⟩
  · obtain ⟨t1, t2, a, b, xs, ys, rfl, h1, h2, q⟩ := q1
    cases r1 with
    | cons r rr =>
      cases rr with
      | cons r' rr =>
        cases rr
        cases r
        cases r'
        obtain ⟨its, rv, p1⟩ := sq_at I1 h1
        obtain ⟨its2, rv2, p2⟩ := sq_at I1 h2
        exact zip_begins2 (begins_sq (t := t1) its.toArray) (begins_sq (t := t2) its2.toArray) p1 p2 fun h' hz hTI hTO g1 g2 hsz hk => wpAny_pyIter_zip hz (zip_fin (st := false) I1 (sqAt_lt p1) (sqAt_lt p2) hz hTI hTO g1 g2 hk q)
theorem gi_zipS {k : Nat} {kp vp : Pos} (hg : Gl X "zip") (hm : X.mg "zip" = none) (he : GE X bs e f) (he2 : GE X bs e2 f2) (hs : starEach [e, e2] X.env = (false, eval e X.env) :: starEach [e2] X.env) (hs2 : starEach [e2] X.env = (false, eval e2 X.env) :: starEach [] X.env) :
    GI X bs (.Tuple elts kk tpos) (.Call (.Name "zip" p) [e, e2] [⟨some "strict", .Constant (.bool true) k vp, kp⟩] pos) (zipI true f f2) := by
  refine ⟨fun pins s σ H R I h => ?_⟩
  have hp : PA X [e, e2] (tCons (RG X.K bs rE f) (tCons (RG X.K bs rE f2) tNil)) := pa_cons he (pa_cons he2 pa_nil hs2) hs
  have hk : PK X [⟨some "strict", .Constant (.bool true) k vp, kp⟩] (tCons (tC (.bl true)) tNil) := pk_cons pe_bl pk_nil
  refine wpAny_Call_Name_kw (ld_blt I hg hm PyProof.Rows.boot_zip ?_)
  refine callWith_tyKw (thn (hp.run pos pins s σ H (fun vs H2 => ∃ t1 t2 a b xs ys, vs = [.ref a, .ref b] ∧ Sq t1 X.K H2 a xs ∧ Sq t2 X.K H2 b ys ∧ R (ItZp X.K true t1 t2 a b) H2) I ?_) fun us s1 ⟨vs, H1, I1, r1, q1⟩ =>
    thn (hk.run pos pins s1 σ H1 (fun zs H2 => H2 = H1 ∧ zs = [.bl true]) I1 ⟨rfl, rfl⟩) fun ws s2 ⟨zs, H2, I2, r2, e3, e4⟩ => ?_) (by rw [hs, hs2]; rfl) (by rw [hs, hs2]; rfl) rfl rfl
  · obtain ⟨M, B, en, S, hR, v, S', ev, q⟩ := zip_core h
    refine ⟨M, B, en, S, hR, v, S', ev, fun H' M' x f' st r => ?_⟩
    obtain ⟨M, B, en, S, hR, v, S', ev, q⟩ := q H' M' x f' st r
    refine ⟨M, B, en, S, hR, v, S', ev, fun H' M' y f' st r => ?_⟩
    obtain ⟨t1, t2, a, b, xs, ys, rfl, rfl, z⟩ := q H' M' y f' st r
    exact ⟨t1, t2, a, b, xs, ys, rfl, z⟩
  · subst e3
    subst e4
    obtain ⟨t1, t2, a, b, xs, ys, rfl, h1, h2, q⟩ := q1
    obtain ⟨w1, rfl, e1⟩ := vals1 r2
    obtain rfl : w1 = Value.bool true := e1
    cases r1 with
    | cons r rr =>
      cases rr with
      | cons r' rr =>
        cases rr
        cases r
        cases r'
        obtain ⟨its, rv, p1⟩ := sq_at I2 h1
        obtain ⟨its2, rv2, p2⟩ := sq_at I2 h2
        exact zipS_begins (begins_sq (t := t1) its.toArray) (begins_sq (t := t2) its2.toArray) p1 p2 fun h' hz hTI hTO g1 g2 hsz hk => pyIter_zipS hz (zip_fin (st := true) I2 (sqAt_lt p1) (sqAt_lt p2) hz hTI hTO g1 g2 hk q)
end
end Ev
namespace Ev
open PySem PySem.Spec PyProof.Rows L2

/-! ### slots -/
theorem wipe_get (σ : L2.St) (j : Nat) : ∀ vs : List Nat, (wipe σ vs)[j]? = if j ∈ vs then (σ[j]?).map (fun _ => none) else σ[j]?
  | [] => by simp [wipe]
  | v :: vs => by
    unfold wipe
    by_cases hv : v = j
    · subst hv
      by_cases hl : v < (wipe σ vs).length
      · rw [List.getElem?_set_self hl]
        rw [wipe_length] at hl
        simp [hl]
      · rw [List.getElem?_eq_none (by simpa using hl)]
        rw [wipe_length] at hl
        simp [List.getElem?_eq_none (Nat.le_of_not_lt hl)]
    · rw [List.getElem?_set_ne hv, wipe_get σ j vs]
      simp [Ne.symm hv]
theorem wipeE_length (en : En) : ∀ vs : List Nat, (wipeE en vs).length = en.length
  | [] => rfl
  | v :: vs => by unfold wipeE; rw [List.length_set, wipeE_length en vs]
theorem wipeE_get (en : En) (j : Nat) : ∀ vs : List Nat, (wipeE en vs)[j]? = if j ∈ vs then (en[j]?).map (fun _ => none) else en[j]?
  | [] => by simp [wipeE]
  | v :: vs => by
    unfold wipeE
    by_cases hv : v = j
    · subst hv
      by_cases hl : v < (wipeE en vs).length
      · rw [List.getElem?_set_self hl]
        rw [wipeE_length] at hl
        simp [hl]
      · rw [List.getElem?_eq_none (by simpa using hl)]
        rw [wipeE_length] at hl
        simp [List.getElem?_eq_none (Nat.le_of_not_lt hl)]
    · rw [List.getElem?_set_ne hv, wipeE_get en j vs]
      simp [Ne.symm hv]
theorem wipe_set {σ : L2.St} {i : Nat} {x : Option V} {vs : List Nat} (hi : i ∈ vs) : wipe (σ.set i x) vs = wipe σ vs := by
  apply List.ext_getElem?
  intro j
  rw [wipe_get, wipe_get]
  by_cases hj : j ∈ vs
  · rw [if_pos hj, if_pos hj]
    by_cases hij : i = j
    · subst hij
      by_cases hl : i < σ.length
      · rw [List.getElem?_set_self hl, List.getElem?_eq_getElem hl]; rfl
      · rw [List.getElem?_eq_none (by simpa using hl), List.getElem?_eq_none (Nat.le_of_not_lt hl)]
    · rw [List.getElem?_set_ne hij]
  · have hne : i ≠ j := by rintro rfl; exact hj hi
    rw [if_neg hj, if_neg hj, List.getElem?_set_ne hne]
theorem wipe_wipe (σ : L2.St) (vs : List Nat) : wipe (wipe σ vs) vs = wipe σ vs := by
  apply List.ext_getElem?
  intro j
  rw [wipe_get, wipe_get]
  by_cases hj : j ∈ vs
  · rw [if_pos hj, if_pos hj]; cases σ[j]? <;> rfl
  · rw [if_neg hj, if_neg hj, ]
section
variable {K : Frag} {M : List Addr} {B : Addr → Prop} {bs : Bs} {en : En} {S : Sto} {σ : L2.St} {H : Hp}
theorem Rs.wipe (h : Rs K M B bs en S σ H) (vs : List Nat) : Rs K M B bs (wipeE en vs) S (L2.wipe σ vs) H :=
  ⟨h.st, by rw [wipeE_length, wipe_length]; exact h.len, fun i v e => by
    rw [wipeE_get] at e
    by_cases hi : i ∈ vs
    · rw [if_pos hi] at e
      cases q : en[i]? with
      | none => rw [q] at e; cases e
      | some w => rw [q] at e; cases e
    · rw [if_neg hi] at e
      obtain ⟨x, e1, r⟩ := h.v i v e
      exact ⟨x, by rw [wipe_get, if_neg hi]; exact e1, r⟩⟩
theorem Rs.set (h : Rs K M B bs en S σ H) (i : Nat) {v : PV} {x : V} (r : Rp K H M B v x) : Rs K M B bs (en.set i (some v)) S (σ.set i (some x)) H :=
  ⟨h.st, by rw [List.length_set, List.length_set]; exact h.len, fun j w e => by
    by_cases hj : i = j
    · subst hj
      by_cases hl : i < en.length
      · rw [List.getElem?_set_self hl] at e
        cases e
        exact ⟨x, List.getElem?_set_self (by rw [← h.len]; exact hl), r⟩
      · rw [List.getElem?_eq_none (by simpa using hl)] at e; cases e
    · rw [List.getElem?_set_ne hj] at e
      obtain ⟨y, e1, r1⟩ := h.v j w e
      exact ⟨y, by rw [List.getElem?_set_ne hj]; exact e1, r1⟩⟩

/-! ### targets -/
def gL : List Nat → TGs
  | [] => gNil
  | i :: is => gCons (gName i) (gL is)
def gOf (K : Frag) (one : Bool) (tg : List Nat) : TG := match one with
  | true => gName (tg.headD 0)
  | false => gTup K tg.length (gL tg)
theorem gL_core : ∀ {tg : List Nat} {ws : List PV} {vs : List V} {en : En} {σ : L2.St} {en2 : En} {Q : L2.St → Hp → Prop}, Rs K M B bs en S σ H → RpL K H M B ws vs → setAll tg ws en = some en2 →
    (∀ σ2, Rs K M B bs en2 S σ2 H → (∀ us : List Nat, (∀ i ∈ tg, i ∈ us) → L2.wipe σ2 us = L2.wipe σ us) → Q σ2 H) → gL tg vs σ H Q
  | [], _, _, _, _, _, _, hR, .nil, e, q => by
    cases e
    exact ⟨rfl, q _ hR fun _ _ => rfl⟩
  | i :: is, _, _, en, σ, _, _, hR, .cons (v := x) (vs := xs) r rr, e, q => by
    refine ⟨x, xs, rfl, gL_core (hR.set i r) rr e fun σ2 h2 hw => q σ2 h2 fun us hus => ?_⟩
    rw [hw us fun j hj => hus j (List.mem_cons_of_mem _ hj), wipe_set (hus i (List.mem_cons_self ..))]
  | [], _, _, _, _, _, _, _, .cons _ _, e, _ => by cases e
  | _ :: _, _, _, _, _, _, _, _, .nil, e, _ => by cases e
/-- what an iterator gives -/
def RpI (K : Frag) (H : Hp) (M : List Addr) (B : Addr → Prop) (v : PV) (x : V) : Prop := Rp K H M B v x ∨ ∃ ws a vs, v = .tup ws ∧ x = .ref a ∧ SqT K H a vs ∧ RpL K H M B ws vs
theorem tg_core {tg : List Nat} {one : Bool} {v : PV} {x : V} {en2 : En} {Q : L2.St → Hp → Prop} (hR : Rs K M B bs en S σ H) (r : RpI K H M B v x) (r1 : one = true → Rp K H M B v x) (e : tgF tg one v en = some en2)
    (q : ∀ σ2, Rs K M B bs en2 S σ2 H → (∀ us : List Nat, (∀ i ∈ tg, i ∈ us) → L2.wipe σ2 us = L2.wipe σ us) → Q σ2 H) : gOf K one tg x σ H Q := by
  unfold tgF at e
  cases one with
  | true =>
    dsimp only at e
    split at e
    · rename_i i
      cases e
      exact q _ (hR.set i (r1 rfl)) fun us hus => wipe_set (hus i (List.mem_singleton.mpr rfl))
    · cases e
  | false =>
    dsimp only at e
    split at e
    · rename_i ws
      have hw : ∃ a vs, x = .ref a ∧ SqT K H a vs ∧ RpL K H M B ws vs := by
        rcases r with r | ⟨ws', a, vs, e1, e2, e3, e4⟩
        · exact ref_of r
        · cases e1; exact ⟨a, vs, e2, e3, e4⟩
      obtain ⟨a, vs, rfl, h1, h2⟩ := hw
      have hl : ∀ {tg : List Nat} {ws : List PV} {en en2 : En}, setAll tg ws en = some en2 → ws.length = tg.length := by
        intro tg
        induction tg with
        | nil => intro ws en en2 e; cases ws with | nil => rfl | cons _ _ => cases e
        | cons i is ih => intro ws en en2 e; cases ws with
          | nil => cases e
          | cons w ws => simp [ih e]
      exact ⟨a, vs, rfl, h1, by rw [h2.length]; exact hl e, gL_core hR h2 e q⟩
    · cases e
/-- a turn -/
theorem item_ok {J : ItV} {j : It} {i : Nat} {v : PV} (st : StR K H M B bs S) (r : RJ K H M B J j) (e : J.item S i = some v) :
    j.go i H ∧ ∀ x H', j.yld i H x H' → Fut M H M H' ∧ StR K H' M B bs S ∧ RpI K H' M B v x ∧ (∀ one, J.okT one = true → one = true → Rp K H' M B v x) := by
  have fresh : ∀ {T : Addr} {o : HO}, H T = none → Fut M H M (upd H T o) ∧ StR K (upd H T o) M B bs S := fun {T o} n => by
    have := Fut.of (Stp.new (M := M) (o := o) n)
    rw [List.append_nil] at this
    exact ⟨this, st.new n⟩
  cases r with
  | @seqL w a rp t =>
    simp only [ItV.item] at e
    cases hs : seqOf S w with
    | none => rw [hs] at e; cases e
    | some xs =>
      rw [hs, Option.bind_some] at e
      obtain ⟨vs, h2, h3⟩ := sq_of st rp hs
      rw [t] at h2
      obtain ⟨y, hy, ry⟩ := h3.get e
      refine ⟨⟨vs, y, h2, hy⟩, fun x H' ⟨e1, e2⟩ => ?_⟩
      subst e1
      have := e2 vs h2
      rw [hy] at this; cases this
      exact ⟨Fut.refl, st, .inl ry, fun _ _ _ => ry⟩
  | @seqT w a rp t =>
    simp only [ItV.item] at e
    cases hs : seqOf S w with
    | none => rw [hs] at e; cases e
    | some xs =>
      rw [hs, Option.bind_some] at e
      obtain ⟨vs, h2, h3⟩ := sq_of st rp hs
      rw [t] at h2
      obtain ⟨y, hy, ry⟩ := h3.get e
      refine ⟨⟨vs, y, h2, hy⟩, fun x H' ⟨e1, e2⟩ => ?_⟩
      subst e1
      have := e2 vs h2
      rw [hy] at this; cases this
      exact ⟨Fut.refl, st, .inl ry, fun _ _ _ => ry⟩
  | rng lo n =>
    simp only [ItV.item] at e
    split at e
    · rename_i hn
      cases e
      refine ⟨hn, fun x H' ⟨e1, e2⟩ => ?_⟩
      subst e1; subst e2
      exact ⟨Fut.refl, st, .inl (.int _), fun _ _ _ => .int _⟩
    · cases e
  | @enu w a rp =>
    simp only [ItV.item] at e
    cases hs : seqOf S w with
    | none => rw [hs] at e; cases e
    | some xs =>
      rw [hs, Option.bind_some] at e
      cases hx : xs[i]? with
      | none => rw [hx] at e; cases e
      | some z =>
        rw [hx] at e; cases e
        obtain ⟨vs, h2, h3⟩ := sq_of st rp hs
        obtain ⟨y, hy, ry⟩ := h3.get hx
        refine ⟨⟨vs, y, h2, hy⟩, fun x H' h => ?_⟩
        obtain ⟨T, y', rfl, hn, rfl, hq⟩ := h
        have := hq vs h2
        rw [hy] at this; cases this
        obtain ⟨f1, s1⟩ := fresh (o := .tup [.int (i : Nat), y]) hn
        exact ⟨f1, s1, .inr ⟨_, T, _, rfl, rfl, .inl (.inl upd_same), .cons (.int _) (.cons (ry.fut st.trk f1) .nil)⟩, fun one h1 h2 => by subst h2; cases h1⟩
  | @zip sb w w2 a b rp rp2 =>
    simp only [ItV.item] at e
    split at e
    · rename_i z1 z2 hz1 hz2
      cases e
      cases hs : seqOf S w with
      | none => rw [hs] at hz1; cases hz1
      | some xs =>
        cases hs2 : seqOf S w2 with
        | none => rw [hs2] at hz2; cases hz2
        | some ys =>
          rw [hs, Option.bind_some] at hz1
          rw [hs2, Option.bind_some] at hz2
          obtain ⟨vs, h2, h3⟩ := sq_of st rp hs
          obtain ⟨us, k2, k3⟩ := sq_of st rp2 hs2
          obtain ⟨y, hy, ry⟩ := h3.get hz1
          obtain ⟨y2, hy2, ry2⟩ := k3.get hz2
          refine ⟨⟨vs, us, y, y2, h2, k2, hy, hy2⟩, fun x H' h => ?_⟩
          obtain ⟨T, y', y2', rfl, hn, rfl, hq, hq2⟩ := h
          have := hq vs h2
          rw [hy] at this; cases this
          have := hq2 us k2
          rw [hy2] at this; cases this
          obtain ⟨f1, s1⟩ := fresh (o := .tup [y, y2]) hn
          exact ⟨f1, s1, .inr ⟨_, T, _, rfl, rfl, .inl (.inl upd_same), .cons (ry.fut st.trk f1) (.cons (ry2.fut st.trk f1) .nil)⟩, fun one h1 h2 => by subst h2; cases h1⟩
    · cases e
theorem stop_ok {J : ItV} {j : It} {i : Nat} (st : StR K H M B bs S) (r : RJ K H M B J j) (e : J.len S = some i) : j.stop i H := by
  cases r with
  | @seqL w a rp t =>
    simp only [ItV.len] at e
    cases hs : seqOf S w with
    | none => rw [hs] at e; cases e
    | some xs =>
      rw [hs] at e; cases e
      obtain ⟨vs, h2, h3⟩ := sq_of st rp hs
      rw [t] at h2
      exact ⟨vs, h2, Nat.le_of_eq h3.length⟩
  | @seqT w a rp t =>
    simp only [ItV.len] at e
    cases hs : seqOf S w with
    | none => rw [hs] at e; cases e
    | some xs =>
      rw [hs] at e; cases e
      obtain ⟨vs, h2, h3⟩ := sq_of st rp hs
      rw [t] at h2
      exact ⟨vs, h2, Nat.le_of_eq h3.length⟩
  | rng lo n =>
    simp only [ItV.len] at e
    cases e
    exact Nat.le_refl _
  | @enu w a rp =>
    simp only [ItV.len] at e
    cases hs : seqOf S w with
    | none => rw [hs] at e; cases e
    | some xs =>
      rw [hs] at e; cases e
      obtain ⟨vs, h2, h3⟩ := sq_of st rp hs
      exact ⟨vs, h2, h3.length⟩
  | @zip sb w w2 a b rp rp2 =>
    simp only [ItV.len] at e
    split at e
    · rename_i xs ys hs hs2
      obtain ⟨vs, h2, h3⟩ := sq_of st rp hs
      obtain ⟨us, k2, k3⟩ := sq_of st rp2 hs2
      have l1 := h3.length
      have l2 := k3.length
      cases sb with
      | true =>
        simp only [if_true] at e
        split at e
        · rename_i hl
          cases e
          exact ⟨vs, us, h2, k2, by omega, by omega, by omega, by omega⟩
        · cases e
      | false =>
        simp only [Bool.false_eq_true, if_false] at e
        cases e
        exact ⟨vs, us, h2, k2, by omega, by omega, by show _ ∨ _; omega⟩
    · cases e
/-- a block's names, ahead of the new list -/
theorem Rp.inBlk {D : Addr} {M1 : List Addr} {H1 : Hp} (st : StR K H M B bs S) (hD : H D = none) (f : Fut M H M1 H1) {v : PV} {x : V} (r : Rp K H M B v x) : Rp K H1 M1 (Brd B D) v x :=
  Rp.fut st.trk f (r.bar fun a hb ha => hb.elim id fun z => absurd (z ▸ hD) ha)
theorem Rs.inBlk {D : Addr} {M1 : List Addr} {H1 : Hp} {S1 : Sto} (h : Rs K M B bs en S σ H) (hD : H D = none) (f : Fut M H M1 H1) (st : StR K H1 M1 (Brd B D) bs S1) : Rs K M1 (Brd B D) bs en S1 σ H1 :=
  ⟨st, h.len, fun i v e => let ⟨x, e1, r⟩ := h.v i v e; ⟨x, e1, r.inBlk h.st hD f⟩⟩
end

/-! ### a comprehension -/
theorem upd_self {H : Hp} {a : Addr} {o : HO} (h : H a = some o) : upd H a o = H := by
  funext b
  by_cases hb : b = a
  · subst hb; rw [upd_same, h]
  · rw [upd_ne hb]
theorem lc_core2 {K : Frag} {bs : Bs} {m one : Bool} {tg vs : List Nat} {fi : Dn ItV} {ft : Dn Bool} {fe : Dn PV} {σ : L2.St} {H : Hp} {Q : VK} (hv : ∀ i ∈ tg, i ∈ vs) (h : RG K bs rE (lcD m fi tg one vs ft fe) σ H Q) :
    tLc (RG K bs rI fi) (gOf K one tg) (RG K bs rQ ft) (RG K bs rE fe) vs σ H Q := by
  obtain ⟨M0, B, en, S0, hR0, h⟩ := h
  refine ⟨M0, B, en, S0, hR0, h.bnd hR0 fun J j H M S f0 hR rj h1 => ?_⟩
  clear hR0 h f0 M0 S0
  intro D hD
  obtain ⟨v, S', e, q⟩ := h1
  dsimp only at e
  split at e
  · rename_i hok
    cases hn : J.len S with
    | none => rw [hn] at e; cases e
    | some n =>
      rw [hn, Option.bind_some] at e
      cases hp : lcL J tg one ft fe (wipeE en vs) n 0 [] S with
      | none => rw [hp] at e; cases e
      | some p =>
        rw [hp, Option.map_some] at e
        have e := Option.some.inj e
        have hDM := hR.st.mfree hD
        have hDB := hR.st.bfree hD
        refine ⟨fun i k H2 => ∃ M1 S1 acc accv, Fut M H M1 H2 ∧ StR K H2 M1 (Brd B D) bs S1 ∧ H2 D = some (.lst accv) ∧ RpL K H2 M1 (Brd B D) acc accv ∧ lcL J tg one ft fe (wipeE en vs) k i acc S1 = some p,
          ⟨n, M, S, [], [], (Fut.lay Fut.refl hD hDM).1, hR.st.bar1 hD rfl, upd_same, .nil, hp⟩, ?_⟩
        rintro i k H2 ⟨M1, S1, acc, accv, f1, st1, hL, ra, hl⟩
        have hDM1 : D ∉ M1 := fun z => st1.mb D z (.inr rfl)
        have rj1 : RJ K H2 M1 (Brd B D) J j := rj.map fun r => r.inBlk hR.st hD f1
        have hR1 : Rs K M1 (Brd B D) bs (wipeE en vs) S1 (wipe σ vs) H2 := (hR.wipe vs).inBlk hD f1 st1
        cases k with
        | zero =>
          simp only [lcL] at hl
          split at hl
          · rename_i hs
            cases hl
            refine .inl ⟨stop_ok st1 rj1 hs, ?_⟩
            have := fin_lst (Q := Q) hL rfl hDM1 hDB st1 ra e f1 hD q
            rwa [upd_self hL] at this
          · cases hl
        | succ k =>
          simp only [lcL] at hl
          cases hi : J.item S1 i with
          | none => rw [hi] at hl; cases hl
          | some w =>
            rw [hi, Option.bind_some] at hl
            obtain ⟨go, yld⟩ := item_ok st1 rj1 hi
            refine .inr ⟨go, fun H3 => ∃ M1 S1 acc accv, Fut M H M1 H3 ∧ StR K H3 M1 (Brd B D) bs S1 ∧ H3 D = some (.lst accv) ∧ RpL K H3 M1 (Brd B D) acc accv ∧ lcL J tg one ft fe (wipeE en vs) k (i + 1) acc S1 = some p,
              fun H' hx => ⟨k, Nat.lt_succ_self _, hx⟩, fun x H3 hy => ?_⟩
            obtain ⟨f2, st2, rI, rP⟩ := yld x H3 hy
            cases ht : tgF tg one w (wipeE en vs) with
            | none => rw [ht] at hl; cases hl
            | some en2 =>
              rw [ht, Option.bind_some] at hl
              have hR2 := hR1.later f2 st2
              have hL2 : H3 D = some (.lst accv) := (f2.keep hL hDM1).1
              refine tg_core hR2 rI (rP one hok) ht fun σ2 hR3 hw => ⟨by rw [hw vs hv, wipe_wipe], ?_⟩
              cases hb : ft en2 S1 with
              | none => rw [hb] at hl; cases hl
              | some pb =>
                rw [hb, Option.bind_some] at hl
                obtain ⟨b, S4⟩ := pb
                refine ⟨M1, Brd B D, en2, S1, hR3, b, S4, hb, fun H4 M4 c f4 st4 ec => ?_⟩
                obtain rfl : b = c := ec
                have hL4 := (f4.keep hL2 hDM1).1
                have hDM4 := (f4.keep hL2 hDM1).2
                cases b with
                | false =>
                  dsimp only at hl
                  rw [if_neg Bool.false_ne_true]
                  exact ⟨M4, S4, acc, accv, f1.trans (f2.trans f4), st4, hL4, ra.fut st1.trk (f2.trans f4), hl⟩
                | true =>
                  dsimp only at hl
                  rw [if_pos rfl]
                  cases he : fe en2 S4 with
                  | none => rw [he] at hl; cases hl
                  | some pe =>
                    rw [he, Option.bind_some] at hl
                    obtain ⟨ev, S5⟩ := pe
                    dsimp only at hl
                    split at hl
                    · rename_i hz
                      refine ⟨M4, Brd B D, en2, S4, hR3.later f4 st4, ev, S5, he, fun H5 M5 y f5 st5 ry => ?_⟩
                      have hL5 := (f5.keep hL4 hDM4).1
                      have hDM5 := (f5.keep hL4 hDM4).2
                      have ra5 : RpL K H5 M5 (Brd B D) acc accv := ra.fut st1.trk (f2.trans (f4.trans f5))
                      refine ⟨accv, hL5, by rw [ra5.length]; exact hz, M5, S5, acc ++ [ev], accv ++ [y], ?_, st5.poke hL5 rfl hDM5, upd_same, (ra5.append (.cons ry .nil)).poke hL5 rfl, hl⟩
                      exact (Fut.lay (f1.trans (f2.trans (f4.trans f5))) hD hDM5).1
                    · cases hl
  · cases e
end Ev
namespace Ev
open PySem PySem.Spec PyProof.Rows L2

/-! ### statements -/
def EndsOk (K : Frag) (bs : Bs) (M : List Addr) (B : Addr → Prop) (H : Hp) (D : Ends) : SR → Prop
  | .nx en S => ∀ (H' : Hp) (M' : List Addr) (σ' : L2.St), Fut M H M' H' → Rs K M' B bs en S σ' H' → D.nx σ' H'
  | .rt v S => ∀ (H' : Hp) (M' : List Addr) (x : V), Fut M H M' H' → StR K H' M' B bs S → Rp K H' M' B v x → D.rt x H'
  | .bk en S => ∀ (H' : Hp) (M' : List Addr) (σ' : L2.St), Fut M H M' H' → Rs K M' B bs en S σ' H' → D.bk σ' H'
  | .ct en S => ∀ (H' : Hp) (M' : List Addr) (σ' : L2.St), Fut M H M' H' → Rs K M' B bs en S σ' H' → D.ct σ' H'
def AtS (K : Frag) (bs : Bs) (m : DS) (M : List Addr) (B : Addr → Prop) (en : En) (S : Sto) (H : Hp) (D : Ends) : Prop := ∃ r, m en S = some r ∧ EndsOk K bs M B H D r
def RS (K : Frag) (bs : Bs) (m : DS) : TS := fun D σ H => ∃ M B en S, Rs K M B bs en S σ H ∧ AtS K bs m M B en S H D
section
variable {K : Frag} {bs : Bs} {M M1 : List Addr} {B : Addr → Prop} {en : En} {S : Sto} {σ : L2.St} {H H1 : Hp} {D : Ends}
theorem EndsOk.fut {r : SR} (h : EndsOk K bs M B H D r) (f : Fut M H M1 H1) : EndsOk K bs M1 B H1 D r := by
  cases r with
  | nx en S => exact fun H' M' σ' f' r' => h H' M' σ' (f.trans f') r'
  | rt v S => exact fun H' M' x f' s r' => h H' M' x (f.trans f') s r'
  | bk en S => exact fun H' M' σ' f' r' => h H' M' σ' (f.trans f') r'
  | ct en S => exact fun H' M' σ' f' r' => h H' M' σ' (f.trans f') r'
theorem AtS.ex {α β : Type} {rel : Rel α β} {m : Dn α} {k : α → DS} {R : β → Hp → Prop} (hR : Rs K M B bs en S σ H) (h : AtS K bs (exD m k) M B en S H D)
    (c : ∀ (a : α) (x : β) (H1 : Hp) (M1 : List Addr) (S1 : Sto), Fut M H M1 H1 → Rs K M1 B bs en S1 σ H1 → rel K H1 M1 B a x → AtS K bs (k a) M1 B en S1 H1 D → R x H1) : At K bs rel m M B en S H R := by
  obtain ⟨r, e, q⟩ := h
  unfold exD at e
  cases h1 : m en S with
  | none => rw [h1] at e; cases e
  | some p =>
    rw [h1] at e
    exact ⟨p.1, p.2, h1, fun H1 M1 x f st rr => c p.1 x H1 M1 p.2 f (hR.later f st) rr ⟨r, e, q.fut f⟩⟩
end
section
variable {X : Cx} {bs : Bs} {e o i c tg iter : Expr} {es : List Expr} {f fo fi : Dn PV} {fc : Dn Bool} {fs : Dn (List PV)} {pos : Pos} {st : Stmt} {sts : List Stmt} {m ma mb : DS} {one : Bool} {tl : List Nat}
abbrev GS (X : Cx) (bs : Bs) (st : Stmt) (m : DS) : Prop := PS X st (RS X.K bs m)
abbrev GSs (X : Cx) (bs : Bs) (st : List Stmt) (m : DS) : Prop := PSs X st (RS X.K bs m)
theorem gss_nil : GSs X bs [] (fun en S => some (.nx en S)) := pss_nil.imp fun D σ H ⟨M, B, en, S, hR, r, e, q⟩ => by
  cases e
  exact q H M σ Fut.refl hR
theorem gss_cons (h1 : GS X bs st ma) (h2 : GSs X bs sts mb) : GSs X bs (st :: sts) (sqD ma mb) :=
  (pss_cons h1 h2).imp fun D σ H ⟨M, B, en, S, hR, r, e, q⟩ => by
    unfold sqD at e
    cases h : ma en S with
    | none => rw [h] at e; cases e
    | some r1 =>
      rw [h, Option.bind_some] at e
      refine ⟨M, B, en, S, hR, r1, h, ?_⟩
      cases r1 with
      | nx en1 S1 => exact fun H' M' σ' f r' => ⟨M', B, en1, S1, r', r, e, q.fut f⟩
      | rt v S1 => cases e; exact q
      | bk en1 S1 => cases e; exact q
      | ct en1 S1 => cases e; exact q
theorem gs_nop : GS X bs (.Pass pos) (fun en S => some (.nx en S)) := ps_pass.imp fun D σ H ⟨M, B, en, S, hR, r, e, q⟩ => by
  cases e
  exact q H M σ Fut.refl hR
theorem gs_brk : GS X bs (.Break pos) (fun en S => some (.bk en S)) := ps_break.imp fun D σ H ⟨M, B, en, S, hR, r, e, q⟩ => by
  cases e
  exact q H M σ Fut.refl hR
theorem gs_cnt : GS X bs (.Continue pos) (fun en S => some (.ct en S)) := ps_continue.imp fun D σ H ⟨M, B, en, S, hR, r, e, q⟩ => by
  cases e
  exact q H M σ Fut.refl hR
theorem asg_core {D : Ends} {σ : L2.St} {H : Hp} (h : RS X.K bs (exD f fun v en S => (tgF tl one v en).map fun en2 => .nx en2 S) D σ H) : tAsg (RG X.K bs rE f) (gOf X.K one tl) D σ H := by
  obtain ⟨M, B, en, S, hR, h⟩ := h
  refine ⟨M, B, en, S, hR, h.ex hR fun v x H1 M1 S1 f1 hR1 r1 ⟨r, e, q⟩ => ?_⟩
  dsimp only at e
  cases ht : tgF tl one v en with
  | none => rw [ht] at e; cases e
  | some en2 =>
    rw [ht] at e; cases e
    exact tg_core hR1 (.inl r1) (fun _ => r1) ht fun σ2 hR2 _ => q H1 M1 σ2 Fut.refl hR2
theorem gs_asg (he : GE X bs e f) (hg : PG X tg (gOf X.K one tl)) (hs : swapsWithSole [tg] e pos.line X.env = pure false) (hw : swappedStores [tg] e X.env = pure none) (h1 : (assignEach [tg] X.env).map (·.2) = [assign tg X.env]) :
    GS X bs (.Assign [tg] e pos) (exD f fun v en S => (tgF tl one v en).map fun en2 => .nx en2 S) := (ps_asg he hg hs hw h1).imp fun D σ H h => asg_core h
theorem gs_par2 {i j : Nat} {x y : Str} {a b : Expr} {px py pt : Pos} {kt k2 : Nat} {pt2 : Pos} (hc : X.calm = true) (hN : X.N.Nodup) (hi : X.N[i]? = some x) (hj : X.N[j]? = some y) (hij : i ≠ j)
    (hx : X.env.scope.names.lookup x = some .local) (hy : X.env.scope.names.lookup y = some .local) (ha : GA X bs [a, b] fs)
    (hw : swappedStores [.Tuple [.Name x px, .Name y py] kt pt] (.Tuple [a, b] k2 pt2) X.env = pure (some [x, y])) :
    GS X bs (.Assign [.Tuple [.Name x px, .Name y py] kt pt] (.Tuple [a, b] k2 pt2) pos) (exD fs fun vs en S => (setAll [i, j] vs en).map fun en2 => .nx en2 S) :=
  (ps_par hc hN hi hj hij hx hy ha hw).imp fun D σ H ⟨M, B, en, S, hR, h⟩ => ⟨M, B, en, S, hR, h.ex (rel := rA) hR fun vs xs H1 M1 S1 f1 hR1 r1 ⟨r, e, q⟩ => by
    dsimp only at e
    cases r1 with
    | nil => cases e
    | cons r1 rr =>
      cases rr with
      | nil => cases e
      | cons r2 rr =>
        cases rr with
        | cons _ _ => cases e
        | nil =>
          cases e
          exact ⟨_, _, rfl, q H1 M1 _ Fut.refl ((hR1.set i r1).set j r2)⟩⟩
theorem gs_par3 {i j l : Nat} {x y z : Str} {a b c : Expr} {px py pz pt : Pos} {kt k2 : Nat} {pt2 : Pos} (hc : X.calm = true) (hN : X.N.Nodup) (hi : X.N[i]? = some x) (hj : X.N[j]? = some y) (hl : X.N[l]? = some z) (hij : i ≠ j) (hil : i ≠ l) (hjl : j ≠ l)
    (hx : X.env.scope.names.lookup x = some .local) (hy : X.env.scope.names.lookup y = some .local) (hz : X.env.scope.names.lookup z = some .local) (ha : GA X bs [a, b, c] fs)
    (hw : swappedStores [.Tuple [.Name x px, .Name y py, .Name z pz] kt pt] (.Tuple [a, b, c] k2 pt2) X.env = pure (some [x, y, z])) :
    GS X bs (.Assign [.Tuple [.Name x px, .Name y py, .Name z pz] kt pt] (.Tuple [a, b, c] k2 pt2) pos) (exD fs fun vs en S => (setAll [i, j, l] vs en).map fun en2 => .nx en2 S) :=
  (ps_par3 hc hN hi hj hl hij hil hjl hx hy hz ha hw).imp fun D σ H ⟨M, B, en, S, hR, h⟩ => ⟨M, B, en, S, hR, h.ex (rel := rA) hR fun vs xs H1 M1 S1 f1 hR1 r1 ⟨r, e, q⟩ => by
    dsimp only at e
    cases r1 with
    | nil => cases e
    | cons r1 rr =>
      cases rr with
      | nil => cases e
      | cons r2 rr =>
        cases rr with
        | nil => cases e
        | cons r3 rr =>
          cases rr with
          | cons _ _ => cases e
          | nil =>
            cases e
            exact ⟨_, _, _, rfl, q H1 M1 _ Fut.refl (((hR1.set i r1).set j r2).set l r3)⟩⟩
theorem gs_sub {p2 : Pos} (hu : X.A.units + 1 < cLine) (he : GE X bs e f) (ho : GE X bs o fo) (hi : GE X bs i fi) (hs : swapsWithSole [.Subscript o i p2] e pos.line X.env = pure false) (hw : swappedStores [.Subscript o i p2] e X.env = pure none)
    (h1 : (assignEach [.Subscript o i p2] X.env).map (·.2) = [assign (.Subscript o i p2) X.env])
    (ha : ∀ v, assign (.Subscript o i p2) X.env v = (do
      let ov ← holding [v] (eval o X.env)
      let iv ← holding [v, ov] (eval i X.env)
      standAt p2
      holding [v, ov, iv] (setItem ov iv v)
      release [v, ov, iv] [])) :
    GS X bs (.Assign [.Subscript o i p2] e pos) (exD f fun v => exD fo fun x => exD fi fun y en S => (pSet bs.top x y v S).map fun S2 => .nx en S2) :=
  (ps_asg he (pg_sub ho hi (set_pv (bs := bs) hu) ha) hs hw h1).imp fun D σ H ⟨M, B, en, S, hR, h⟩ => ⟨M, B, en, S, hR, h.ex hR fun v x H1 M1 S1 f1 hR1 r1 h1 => ⟨M1, B, en, S1, hR1, h1.ex hR1 fun w y H2 M2 S2 f2 hR2 r2 h2 => ⟨M2, B, en, S2, hR2, h2.ex hR2 fun u z H3 M3 S3 f3 hR3 r3 ⟨r, e, q⟩ => by
    dsimp only at e
    cases hp : pSet bs.top w u v S3 with
    | none => rw [hp] at e; cases e
    | some S4 =>
      rw [hp] at e; cases e
      exact ⟨M3, B, S3, w, u, v, S4, hR3.st, r2.fut hR2.st.trk f3, r3, r1.fut hR1.st.trk (f2.trans f3), hp, fun H' N s st => q H' _ σ (Fut.of s) (hR3.later (Fut.of s) st)⟩⟩⟩⟩
theorem gs_exp (he : GE X bs e f) (hs : swapsWith e none pos.line X.env = pure false) : GS X bs (.Expr e pos) (exD f fun _ en S => some (.nx en S)) :=
  (ps_expr he hs).imp fun D σ H ⟨M, B, en, S, hR, h⟩ => ⟨M, B, en, S, hR, h.ex hR fun v x H1 M1 S1 f1 hR1 r1 ⟨r, e, q⟩ => by
    cases e
    exact q H1 M1 σ Fut.refl hR1⟩
theorem gs_ret (he : GE X bs e f) : GS X bs (.Return (some e) pos) (exD f fun v _ S => some (.rt v S)) :=
  (ps_ret he).imp fun D σ H ⟨M, B, en, S, hR, h⟩ => ⟨M, B, en, S, hR, h.ex hR fun v x H1 M1 S1 f1 hR1 r1 ⟨r, e, q⟩ => by
    cases e
    exact q H1 M1 x Fut.refl hR1.st r1⟩
theorem gs_retN : GS X bs (.Return none pos) (fun _ S => some (.rt .non S)) :=
  ps_retN.imp fun D σ H ⟨M, B, en, S, hR, r, e, q⟩ => by
    cases e
    exact q H M _ Fut.refl hR.st .non
theorem gs_if {sb : List Stmt} (hc : GT X bs c fc) (ha : GSs X bs sts ma) (hb : GSs X bs sb mb) : GS X bs (.If c sts sb pos) (exD fc fun k => if k then ma else mb) :=
  (ps_if hc ha hb).imp fun D σ H ⟨M, B, en, S, hR, h⟩ => ⟨M, B, en, S, hR, h.ex (rel := rQ) hR fun k x H1 M1 S1 f1 hR1 r1 h1 => by
    cases r1
    cases k with
    | true => exact ⟨M1, B, en, S1, hR1, h1⟩
    | false => exact ⟨M1, B, en, S1, hR1, h1⟩⟩
theorem gs_whl {W : Nat} (hp : PassesOwn (model X.prog X.w) X.A X.env X.xe) (hc : GT X bs c fc) (hb : GSs X bs sts mb) : GS X bs (.While c sts [] pos) (whlL fc mb W) :=
  (ps_while hp hc hb).imp fun D σ H ⟨M, B, en, S, hR, r, e, q⟩ => by
    refine ⟨fun k σ H2 => ∃ M1 en1 S1, Fut M H M1 H2 ∧ Rs X.K M1 B bs en1 S1 σ H2 ∧ whlL fc mb k en1 S1 = some r, ⟨W, M, en, S, Fut.refl, hR, e⟩, ?_⟩
    rintro k σ2 H2 ⟨M1, en1, S1, f1, hR1, hl⟩
    cases k with
    | zero => simp [whlL] at hl
    | succ k =>
      simp only [whlL] at hl
      cases hb : fc en1 S1 with
      | none => rw [hb] at hl; cases hl
      | some p =>
        rw [hb, Option.bind_some] at hl
        obtain ⟨b, S2⟩ := p
        refine ⟨M1, B, en1, S1, hR1, b, S2, hb, fun H3 M3 c f3 st3 ec => ?_⟩
        obtain rfl : b = c := ec
        have hR3 := hR1.later f3 st3
        cases b with
        | false =>
          cases hl
          rw [if_neg Bool.false_ne_true]
          exact q H3 M3 σ2 (f1.trans f3) hR3
        | true =>
          dsimp only at hl
          rw [if_pos rfl]
          cases hm : mb en1 S2 with
          | none => rw [hm] at hl; cases hl
          | some r1 =>
            rw [hm, Option.bind_some] at hl
            refine ⟨fun σ' H' => ∃ M1 en1 S1, Fut M H M1 H' ∧ Rs X.K M1 B bs en1 S1 σ' H' ∧ whlL fc mb k en1 S1 = some r, fun σ' H' hx => ⟨k, Nat.lt_succ_self _, hx⟩, M3, B, en1, S2, hR3, r1, hm, ?_⟩
            cases r1 with
            | nx en4 S4 => exact fun H' M' σ' f r' => ⟨M', en4, S4, f1.trans (f3.trans f), r', hl⟩
            | ct en4 S4 => exact fun H' M' σ' f r' => ⟨M', en4, S4, f1.trans (f3.trans f), r', hl⟩
            | bk en4 S4 =>
              cases hl
              exact fun H' M' σ' f r' => q H' M' σ' (f1.trans (f3.trans f)) r'
            | rt v S4 =>
              cases hl
              exact fun H' M' x f s r' => q H' M' x (f1.trans (f3.trans f)) s r'
theorem gs_for {fj : Dn ItV} (hp : PassesOwn (model X.prog X.w) X.A X.env X.xe) (hc : X.calm = true) (hi : GI X bs tg iter fj) (hg : PG X tg (gOf X.K one tl)) (hb : GSs X bs sts mb) (hs : ∀ x, foldedSetIterable iter X.env x = pure x) :
    GS X bs (.For tg iter sts [] pos) (exD fj fun J en S => if J.okT one then (J.len S).bind fun n => forL J tl one mb n 0 en S else none) :=
  (ps_for hp hc hi hg hb hs).imp fun D σ H ⟨M, B, en, S, hR, h⟩ => ⟨M, B, en, S, hR, h.ex (rel := rI) hR fun J j H M S f0 hR rj ⟨r, e, q⟩ => by
    dsimp only at e
    split at e
    · rename_i hok
      cases hn : J.len S with
      | none => rw [hn] at e; cases e
      | some n =>
        rw [hn, Option.bind_some] at e
        refine ⟨fun i k σ H2 => ∃ M1 en1 S1, Fut M H M1 H2 ∧ Rs X.K M1 B bs en1 S1 σ H2 ∧ forL J tl one mb k i en1 S1 = some r, ⟨n, M, en, S, Fut.refl, hR, e⟩, ?_⟩
        rintro i k σ2 H2 ⟨M1, en1, S1, f1, hR1, hl⟩
        have rj1 : RJ X.K H2 M1 B J j := rj.map fun r => r.fut hR.st.trk f1
        cases k with
        | zero =>
          simp only [forL] at hl
          split at hl
          · rename_i hs
            cases hl
            exact .inl ⟨stop_ok hR1.st rj1 hs, q H2 M1 σ2 f1 hR1⟩
          · cases hl
        | succ k =>
          simp only [forL] at hl
          cases hi : J.item S1 i with
          | none => rw [hi] at hl; cases hl
          | some w =>
            rw [hi, Option.bind_some] at hl
            obtain ⟨go, yld⟩ := item_ok hR1.st rj1 hi
            refine .inr ⟨go, fun σ' H3 => ∃ M1 en1 S1, Fut M H M1 H3 ∧ Rs X.K M1 B bs en1 S1 σ' H3 ∧ forL J tl one mb k (i + 1) en1 S1 = some r, fun σ' H' hx => ⟨k, Nat.lt_succ_self _, hx⟩, fun x H3 hy => ?_⟩
            obtain ⟨f2, st2, rI, rP⟩ := yld x H3 hy
            cases ht : tgF tl one w en1 with
            | none => rw [ht] at hl; cases hl
            | some en2 =>
              rw [ht, Option.bind_some] at hl
              refine tg_core (hR1.later f2 st2) rI (rP one hok) ht fun σ3 hR3 _ => ?_
              cases hm : mb en2 S1 with
              | none => rw [hm] at hl; cases hl
              | some r1 =>
                rw [hm, Option.bind_some] at hl
                refine ⟨M1, B, en2, S1, hR3, r1, hm, ?_⟩
                cases r1 with
                | nx en4 S4 => exact fun H' M' σ' f r' => ⟨M', en4, S4, f1.trans (f2.trans f), r', hl⟩
                | ct en4 S4 => exact fun H' M' σ' f r' => ⟨M', en4, S4, f1.trans (f2.trans f), r', hl⟩
                | bk en4 S4 =>
                  cases hl
                  exact fun H' M' σ' f r' => q H' M' σ' (f1.trans (f2.trans f)) r'
                | rt v S4 =>
                  cases hl
                  exact fun H' M' x f s r' => q H' M' x (f1.trans (f2.trans f)) s r'
    · cases e⟩
/-! targets of the text -/
theorem pg_one {i : Nat} {x : Str} (h : PG X (.Name x pos) (gName i)) : PG X (.Name x pos) (gOf X.K true [i]) := h
end
end Ev
namespace Ev
open PySem PySem.Spec PyProof.Rows L2

/-! ### from the text to the small language -/
structure CC where
  sc : Scope
  fn : Str → Bool
  N : List Str
  df : List (Str × Nat)
  mu : List Nat
  all : Bool
def isVis (c : CC) (x : Str) : Bool := match c.sc.names.lookup x with
  | some .local => true | some .cell => true | some .free => true | _ => false
def isLoc (c : CC) (x : Str) : Bool := match c.sc.names.lookup x with
  | some .local => true | some .cell => c.fn x | _ => false
def isLcl (c : CC) (x : Str) : Bool := match c.sc.names.lookup x with
  | some .local => true | _ => false
def isGl (c : CC) (x : Str) : Bool := match c.sc.names.lookup x with
  | some .globalImplicit => true | _ => false
def okName (x : Str) : Bool := !(x == ("__debug__" : Str)) && !(x == ("__classdict__" : Str))
def slot (c : CC) (x : Str) : Option Nat := c.N.findIdx? fun y => decide (y = x)
def cK : Const → Option PV
  | .none => some .non | .bool b => some (.bl b) | .int i => some (.int i) | .str x => some (.str x) | _ => none
def notStar : Expr → Bool
  | .Starred .. => false
  | _ => true
def notIf : Expr → Bool
  | .IfExp .. => false
  | _ => true
def notSet : Expr → Bool
  | .Set .. => false
  | _ => true
def notSlice : Expr → Bool
  | .Slice .. => false
  | _ => true
def notCall : Expr → Bool
  | .Call .. => false
  | _ => true
def notComp : Expr → Bool
  | .ListComp .. => false
  | .SetComp .. => false
  | .DictComp .. => false
  | _ => true
/-- one whose test is its value's truth -/
def plainT : Expr → Bool
  | .UnaryOp .Not _ _ => false
  | .BoolOp .. => false
  | .IfExp .. => false
  | .Compare .. => false
  | _ => true
def bltNames : List Str := ["len", "int", "abs", "max", "sum", "all", "tuple", "list", "repr", "sorted", "isinstance", "bool", "str", "dict", "range", "enumerate", "zip"]
def bnOf (m : Bool) (x : Str) : Option Bn :=
  if x = "len" then some .len else if x = "int" then some .int else if x = "abs" then some .abs else if x = "max" then some .max else if x = "sum" then some .sum else if x = "all" then some .all
  else if x = "tuple" then some .tup else if x = "list" then some (.lst m) else if x = "repr" then some .rep else if x = "sorted" then some (.srt false m) else none
def tyOf (x : Str) : Option String :=
  if x = "int" then some "int" else if x = "bool" then some "bool" else if x = "str" then some "str" else if x = "tuple" then some "tuple" else if x = "list" then some "list" else if x = "dict" then some "dict" else none
def mtOf (x : Str) : Option Mt := if x = "append" then some .app else if x = "pop" then some .pop else if x = "index" then some .idx else none
section
variable (f : Expr → Option ME)
def cBl (op : BoolOp) : List Expr → Option ME
  | [] => none
  | [a] => if notIf a then f a else none
  | a :: b :: r => if notIf a then (f a).bind fun x => (cBl op (b :: r)).map fun y => match op with
    | .And => .and x y
    | .Or => .or x y
    else none
def cAl : List Expr → Option MA
  | [] => some .nil
  | .Starred e _ :: r => (f e).bind fun x => (cAl r).map fun y => .star x y
  | e :: r => (f e).bind fun x => (cAl r).map fun y => .cons x y
def cOp : Option Expr → Option MO
  | none => some .no
  | some e => (f e).map .so
def cIfs : List Expr → Option MO
  | [] => some .no
  | [q] => if notIf q then (f q).map .so else none
  | _ => none
/-- the keys of a display: texts -/
def cKeys : List (Option Expr) → Option (List Str)
  | [] => some []
  | some (.Constant (.str k) _ _) :: r => (cKeys r).map (k :: ·)
  | _ => none
def isTupE : Expr → Bool
  | .Tuple .. => true
  | _ => false
def cSeq (e : Expr) : Option MI := if notSet e then (f e).map .seq else none
def cI (c : CC) (tg : Expr) (e : Expr) : Option MI := match e with
  | .Call (.Name x p) [a] [] q =>
    if notStar a && isGl c x && decide (x = "range") then (f a).map .rng
    else if notStar a && isGl c x && isTupE tg && decide (x = "enumerate") then (f a).map .enu
    else cSeq f (.Call (.Name x p) [a] [] q)
  | .Call (.Name x p) [a, b] [] q =>
    if notStar a && notStar b && isGl c x && decide (x = "range") then (f a).bind fun u => (f b).map fun v => .rng2 u v
    else if notStar a && notStar b && isGl c x && isTupE tg && decide (x = "zip") then (f a).bind fun u => (f b).map fun v => .zip false u v
    else cSeq f (.Call (.Name x p) [a, b] [] q)
  | .Call (.Name x p) [a, b] [⟨some kw, .Constant (.bool true) k vp, kp⟩] q =>
    if notStar a && notStar b && isGl c x && isTupE tg && decide (x = "zip") && decide (kw = "strict") then (f a).bind fun u => (f b).map fun v => .zip true u v
    else none
  | e => cSeq f e
/-- the slots of a target, and whether it is one name -/
def cNm (c : CC) : Expr → Option Nat
  | .Name x _ => if isLoc c x then slot c x else none
  | _ => none
def cNms (c : CC) : List Expr → Option (List Nat)
  | [] => some []
  | e :: r => (cNm c e).bind fun i => (cNms c r).map fun is => i :: is
def cT (c : CC) : Expr → Option (List Nat × Bool)
  | .Tuple es _ _ => (cNms c es).map fun is => (is, false)
  | e => (cNm c e).map fun i => ([i], true)
def ownOf (c : CC) (scope : Scope) : List (Str × Nat) := scope.names.filterMap fun y => match y.2 with
  | .local => (slot c y.1).map fun i => (y.1, i)
  | .cell => (slot c y.1).map fun i => (y.1, i)
  | _ => none
def ownV (c : CC) (scope : Scope) : List Nat := (ownOf c scope).map (·.2)
def blkCC (c : CC) (scope : Scope) : CC := { c with sc := relS scope c.sc, fn := fun x => scope.names.lookup x == some .cell }
end
def cCall (f : Expr → Option ME) (c : CC) (m : Bool) (x : Str) (args : List Expr) : Option ME := match args with
  | [] => none
  | e :: es => if isGl c x && (e :: es).all notStar && okName x then match c.df.lookup x with
      | some g => (cAl f (e :: es)).map (.cal g)
      | none => (bnOf m x).bind fun b => (cAl f (e :: es)).map (.blt b)
    else none
def cE : Nat → CC → Bool → Expr → Option ME
  | 0, _, _, _ => none
  | n + 1, c, m, e => match e with
    | .Name x _ => if isVis c x && okName x then (slot c x).map .var else none
    | .Constant k _ _ => (cK k).map .con
    | .BinOp a op b _ => (cE n c (c.all) a).bind fun x => (cE n c (c.all) b).map fun y => .bin op m x y
    | .UnaryOp .USub a _ => (cE n c c.all a).map .neg
    | .UnaryOp .Not a _ => if notIf a then (cE n c c.all a).map .not else none
    | .BoolOp op es _ => cBl (cE n c c.all) op es
    | .Compare a [op] [b] _ => if notSet b then (cE n c c.all a).bind fun x => (cE n c c.all b).map fun y => .cmp op x y else none
    | .Compare a [op, op'] [b, d] _ => if notSet d then (cE n c c.all a).bind fun x => (cE n c c.all b).bind fun y => (cE n c c.all d).map fun z => .chn op op' x y z else none
    | .IfExp t a b _ => if notIf t then (cE n c c.all t).bind fun x => (cE n c m a).bind fun y => (cE n c m b).map fun z => .ite x y z else none
    | .Tuple es _ _ => (cAl (cE n c c.all) es).map .tup
    | .List es _ => (cAl (cE n c c.all) es).map (.lst m)
    | .Dict [] [] _ => some (.emp m)
    | .Dict (k :: ks) vs _ => if (k :: ks).length = vs.length ∧ (k :: ks).length ≤ 15 ∧ vs.all notStar = true then (cKeys (k :: ks)).bind fun ks' => (cAl (cE n c c.all) vs).map (.dct m ks') else none
    | .Subscript a (.Slice none none (some (.UnaryOp .USub (.Constant (.int 1) _ _) _)) _) _ => (cE n c c.all a).map (.rev m)
    | .Subscript a (.Slice lo hi none _) _ => (cE n c c.all a).bind fun x => (cOp (cE n c c.all) lo).bind fun l => (cOp (cE n c c.all) hi).map fun h => .slc m x l h
    | .Subscript a b _ => if notSlice b then (cE n c c.all a).bind fun x => (cE n c c.all b).map fun y => .idx x y else none
    | .Call (.Name x _) [a, .Name y p2] [] _ =>
      if decide (x = "isinstance") && isGl c x && (c.df.lookup x).isNone then (if isGl c y && notStar a then (tyOf y).bind fun T => (cE n c c.all a).map (.isi T) else none)
      else cCall (cE n c c.all) c m x [a, .Name y p2]
    | .Call (.Name x _) [.Call (.Name y p2) [a] [] q2] [] _ =>
      if decide (x = "list") && decide (y = "range") && isGl c x && isGl c y && notStar a then (cE n c c.all a).map (.lrg m)
      else cCall (cE n c c.all) c m x [.Call (.Name y p2) [a] [] q2]
    | .Call (.Name x _) es [] _ => cCall (cE n c c.all) c m x es
    | .Call (.Name x _) (e :: es) [⟨some kw, .Constant (.bool r) _ _, _⟩] _ => if decide (x = "sorted") && decide (kw = "reverse") && isGl c x && (e :: es).all notStar then (cAl (cE n c c.all) (e :: es)).map (.blt (.srt r m)) else none
    | .Call (.Attribute o nm apos) es [] pos => if notCall o && es.all notStar && decide (es.length < 20) && (apos.endLine == pos.line) then (mtOf nm).bind fun k => (cE n c c.all o).bind fun x => (cAl (cE n c c.all) es).map fun y => .met k x y else none
    | .ListComp elt [⟨tg, iter, ifs, 0⟩] scope _ =>
      if blkC c.N c.sc scope (ownOf c scope) && notSet iter then (cI (cE n c c.all) c tg iter).bind fun it => (cT (blkCC c scope) tg).bind fun t =>
        if t.1.all (fun i => decide (i ∈ ownV c scope)) then
          (cIfs (cE n (blkCC c scope) c.all) ifs).bind fun q => (cE n (blkCC c scope) c.all elt).map fun x => .lc m it t.1 t.2 (ownV c scope) q x
        else none
      else none
    | _ => none
/-! statements -/
def muT (c : CC) (t : List Nat × Bool) : Bool := c.all || (t.2 && t.1.any fun i => decide (i ∈ c.mu))
/-- the parts of a tuple to be stored in parallel -/
def cPar (n : Nat) (c : CC) : List Nat → List Expr → Option MA
  | [], [] => some .nil
  | i :: is, e :: es => if notStar e then (cE n c (c.all || decide (i ∈ c.mu)) e).bind fun x => (cPar n c is es).map fun y => .cons x y else none
  | _, _ => none
def lclName (c : CC) (l : Nat) : Expr → Bool
  | .Name x p => isLcl c x && (p.line == l)
  | _ => false
def swN (c : CC) (ts vs : List Expr) : Bool := ts.any fun t => match t with
  | .Name x _ => !isLcl c x
  | _ => true
def cSs (f : Stmt → Option MS) : List Stmt → Option MS
  | [] => some .nop
  | s :: r => (f s).bind fun x => (cSs f r).map fun y => .seq x y
def cS : Nat → CC → Stmt → Option MS
  | 0, _, _ => none
  | n + 1, c, s => match s with
    | .Assign [.Tuple [.Name x px, .Name y py] kt pt] (.Tuple [a, b] _ _) _ =>
      if isLcl c x && isLcl c y && (py.line == px.line) then
        (if (decide (x ≠ y)) && !([a, b].all (foldedForSure 8)) && !([a, b].all (constantsAlone 8)) && decide (c.N.Nodup) then
          (slot c x).bind fun i => (slot c y).bind fun j => (cPar n c [i, j] [a, b]).map fun as => .par [i, j] as
        else none)
      else (cT c (.Tuple [.Name x px, .Name y py] kt pt)).bind fun t => if !(isLcl c x && isLcl c y) then (cPar n c t.1 [a, b]).map fun as => .asg t.1 t.2 (.tup as) else none
    | .Assign [.Tuple [.Name x px, .Name y py, .Name z pz] kt pt] (.Tuple [a, b, d] _ _) _ =>
      if isLcl c x && isLcl c y && isLcl c z && (py.line == px.line) && (pz.line == px.line) then
        (if (decide (x ≠ y)) && (decide (x ≠ z)) && (decide (y ≠ z)) && !([a, b, d].all (foldedForSure 8)) && !([a, b, d].all (constantsAlone 8)) && decide (c.N.Nodup) then
          (slot c x).bind fun i => (slot c y).bind fun j => (slot c z).bind fun l => (cPar n c [i, j, l] [a, b, d]).map fun as => .par [i, j, l] as
        else none)
      else (cT c (.Tuple [.Name x px, .Name y py, .Name z pz] kt pt)).bind fun t => if !(isLcl c x && isLcl c y && isLcl c z) then (cPar n c t.1 [a, b, d]).map fun as => .asg t.1 t.2 (.tup as) else none
    | .Assign [.Subscript o i _] e _ => if notComp e && notSlice i then (cE n c c.all e).bind fun x => (cE n c c.all o).bind fun y => (cE n c c.all i).map fun z => .sub y z x else none
    | .Assign [.Name x px] (.ListComp elt gs scope pos) spos =>
      (cT c (.Name x px)).bind fun t => (cE n c (muT c t) (.ListComp elt gs scope pos)).bind fun y =>
        if isLcl c x then (if (px.line == pos.line) && !(scope.names.any fun (n, k) => n == x && (k == .local || k == .cell)) then some (.asg t.1 t.2 y) else none) else some (.asg t.1 t.2 y)
    | .Assign [tg] e _ => if notComp e && (!isTupE e || !isTupE tg) then (cT c tg).bind fun t => (cE n c (muT c t) e).map fun x => .asg t.1 t.2 x else none
    | .Expr e _ => if notComp e then (cE n c c.all e).map .exp else none
    | .Return (some e) _ => (cE n c c.all e).map .ret
    | .Return none _ => some .retN
    | .If t a b _ => if notIf t then (cE n c c.all t).bind fun x => (cSs (cS n c) a).bind fun y => (cSs (cS n c) b).map fun z => .ifS x y z else none
    | .For tg iter b [] _ => if notSet iter then (cI (cE n c c.all) c tg iter).bind fun it => (cT c tg).bind fun t => (cSs (cS n c) b).map fun y => .forS it t.1 t.2 y else none
    | .While t b [] _ => if notIf t then (cE n c c.all t).bind fun x => (cSs (cS n c) b).map fun y => .whl x y else none
    | .Break _ => some .brk
    | .Continue _ => some .cnt
    | .Pass _ => some .nop
    | _ => none
end Ev
namespace Ev
open PySem PySem.Spec PyProof.Rows L2

/-- a callee by values, wherever it is called from -/
def CallW (P : Program) (w : World) (K : Frag) (mg : Str → Option Value) (base : Heap) (A : Around) (f : Value) (fl : FL) : Prop :=
  ∀ (X : Cx) (bs : Bs), X.prog = P → X.w = w → X.K = K → X.mg = mg → X.base = base → X.A = A → CallR X f (RRL X.K bs fl)
structure CCok (c : CC) (X : Cx) (R : Orc) : Prop where
  sc : X.env.scope = c.sc
  fn : X.fn = c.fn
  N : X.N = c.N
  nd : X.N.Nodup
  calm : X.calm = true
  rm : Rm X
  gd : X.A.guards = some []
  blt : ∀ x ∈ bltNames, X.mg x = none
  df : ∀ x f, c.df.lookup x = some f → ∃ a, X.mg x = some (.ref a) ∧ PySem.W.keepIn X.K (.ref a) = true ∧ CallW X.prog X.w X.K X.mg X.base X.A (.ref a) (R f)
section
variable {c : CC} {X : Cx} {R : Orc} {bs : Bs} {x : Str} {i : Nat}
theorem CCok.hu (ok : CCok c X R) : X.A.units + 1 < cLine := Nat.lt_of_le_of_lt (Nat.add_le_add_left (by decide : 1 ≤ 65) _) ok.rm
theorem slot_ok (ok : CCok c X R) (h : slot c x = some i) : X.N[i]? = some x := by
  rw [ok.N]
  obtain ⟨y, h1, h2, _⟩ := findIdx_some h
  rw [h1, of_decide_eq_true h2]
theorem vis_ok (ok : CCok c X R) (h : isVis c x = true) : Vis X.env.scope x := by
  unfold isVis at h
  rw [← ok.sc] at h
  split at h
  · rename_i q; exact .inl q
  · rename_i q; exact .inr (.inl q)
  · rename_i q; exact .inr (.inr q)
  · cases h
theorem loc_ok (ok : CCok c X R) (h : isLoc c x = true) : Loc X.env.scope x ∧ (X.fn x = true ∨ X.env.scope.names.lookup x = some .local) := by
  unfold isLoc at h
  rw [← ok.sc, ← ok.fn] at h
  split at h
  · rename_i q; exact ⟨.inl q, .inr q⟩
  · rename_i q; exact ⟨.inr q, .inl h⟩
  · cases h
theorem lcl_ok (ok : CCok c X R) (h : isLcl c x = true) : X.env.scope.names.lookup x = some .local := by
  unfold isLcl at h
  rw [← ok.sc] at h
  split at h
  · rename_i q; exact q
  · cases h
theorem lcl_no (ok : CCok c X R) (h : isLcl c x = false) : X.env.kindOf x ≠ some .local := by
  unfold isLcl at h
  rw [← ok.sc] at h
  intro z
  have z : X.env.scope.names.lookup x = some .local := z
  rw [z] at h
  cases h
theorem gl_ok (ok : CCok c X R) (h : isGl c x = true) : Gl X x := by
  unfold isGl at h
  rw [← ok.sc] at h
  split at h
  · rename_i q; exact q
  · cases h
theorem name_ok (h : okName x = true) : (x == ("__debug__" : Str)) = false ∧ (x == ("__classdict__" : Str)) = false := by
  unfold okName at h
  simp only [Bool.and_eq_true, Bool.not_eq_true'] at h
  exact h
end
section
variable {env : Env} {e : Expr} {es : List Expr} {pos : Pos}
theorem star_ok (h : notStar e = true) : starEach (e :: es) env = (false, eval e env) :: starEach es env := by
  cases e <;> first | rfl | cases h
theorem stars_ok : ∀ {es : List Expr}, es.all notStar = true → (backTo pos (starEach es env)).any (·.1) = false
  | [], _ => rfl
  | e :: r, h => by
    rw [List.all_cons, Bool.and_eq_true] at h
    rw [star_ok h.1]
    show (false || (backTo pos (starEach r env)).any (·.1)) = false
    rw [stars_ok h.2]; rfl
theorem few_ok (h : es.all notStar = true) (hl : es.length < 20) : ((backTo pos (starEach es env)).all (fun x => !x.1) && (backToKw pos (keywordEach [] env)).all (fun x => x.1.isSome)
      && decide (es.length + ([] : List Keyword).length + (if ([] : List Keyword).isEmpty then 0 else 1) < 30)) = true := by
  have h1 : (backTo pos (starEach es env)).all (fun x => !x.1) = true := by
    have := stars_ok (env := env) (pos := pos) h
    rw [List.any_eq_false] at this
    rw [List.all_eq_true]
    intro y hy
    simpa using this y hy
  rw [h1]
  simp only [Bool.true_and, Bool.and_eq_true, decide_eq_true_eq]
  refine ⟨rfl, ?_⟩
  show es.length + 0 + 0 < 30
  omega
theorem plainIx_ok (h : notSlice e = true) : PlainIx e := by
  intro o i
  cases e <;> first | rfl | cases h
theorem plainT_ok (h : plainT e = true) : ∀ whole, isTrue e env whole = (do let v ← whole; standAt e.pos; holding [v] (PySem.truthy v)) := by
  intro w
  cases e with
  | UnaryOp op a p => cases op <;> first | rfl | cases h
  | BoolOp => cases h
  | IfExp => cases h
  | Compare => cases h
  | _ => rfl
theorem base_ok {o : Expr} {nm : Str} {w : Sem Value} (h : notCall o = true) : attributeBase o nm env w = w := by
  cases o <;> first | rfl | cases h
theorem folded_ok (h : notSet e = true) : ∀ x, foldedSetIterable e env x = pure x := by
  intro x
  cases e <;> first | rfl | cases h
theorem behind_ok {op : CmpOp} (h : notSet e = true) : behindInMarks op e = false := by
  cases e <;> first | rfl | cases h
theorem last_ok {op op' : CmpOp} {a : Expr} (h : notSet e = true) : lastMarks [op, op'] [a, e] = false := by
  show behindInMarks op' e = false
  exact behind_ok h
theorem swaps_ok {t : Option Expr} {l : Nat} (h : notComp e = true) : swapsWith e t l env = pure false := by
  cases e <;> first | rfl | cases h
end

section
variable {c : CC} {X : Cx} {R : Orc} {bs : Bs} {f : Expr → Option ME} {m : Bool} {x : Str} {e : Expr} {es : List Expr} {pos p : Pos}
abbrev FOk (X : Cx) (bs : Bs) (R : Orc) (f : Expr → Option ME) : Prop := ∀ e y, f e = some y → GE X bs e (y.dn R bs.top).e ∧ (notIf e = true → GT X bs e (y.dn R bs.top).t)
theorem cBl_ok (hf : FOk X bs R f) {op : BoolOp} : ∀ {es : List Expr} {y : ME}, cBl f op es = some y → GE X bs (.BoolOp op es pos) (y.dn R bs.top).e ∧ GW X bs (.BoolOp op es pos) (y.dn R bs.top).t
  | [], _, h => by cases h
  | [a], y, h => by
    rw [cBl] at h
    split at h
    · rename_i hn
      obtain ⟨h1, h2⟩ := hf a y h
      exact ⟨pe_one h1, by cases op with | And => exact pw_and1 (h2 hn) | Or => exact pw_or1 (h2 hn)⟩
    · cases h
  | a :: b :: r, y, h => by
    rw [cBl] at h
    split at h
    · rename_i hn
      cases ha : f a with
      | none => rw [ha] at h; cases h
      | some u =>
        rw [ha, Option.bind_some] at h
        cases hb : cBl f op (b :: r) with
        | none => rw [hb] at h; cases h
        | some v =>
          rw [hb, Option.map_some] at h
          obtain ⟨h1, h2⟩ := hf a u ha
          obtain ⟨k1, k2⟩ := cBl_ok hf hb
          cases op with
          | And => cases h; exact ⟨ge_and h1 k1, gw_and (h2 hn) k2⟩
          | Or => cases h; exact ⟨ge_or h1 k1, gw_or (h2 hn) k2⟩
    · cases h
theorem cAl_ok (hf : FOk X bs R f) : ∀ {es : List Expr} {y : MA}, cAl f es = some y → GA X bs es (y.dn R bs.top)
  | [], y, h => by cases h; exact ga_nil
  | e :: r, y, h => by
    by_cases hs : ∃ a p, e = .Starred a p
    · obtain ⟨a, p, rfl⟩ := hs
      rw [cAl] at h
      cases ha : f a with
      | none => rw [ha] at h; cases h
      | some u =>
        rw [ha, Option.bind_some] at h
        cases hb : cAl f r with
        | none => rw [hb] at h; cases h
        | some v =>
          rw [hb, Option.map_some] at h
          cases h
          exact ga_star (hf a u ha).1 (cAl_ok hf hb)
    · rw [cAl] at h
      · cases ha : f e with
        | none => rw [ha] at h; cases h
        | some u =>
          rw [ha, Option.bind_some] at h
          cases hb : cAl f r with
          | none => rw [hb] at h; cases h
          | some v =>
            rw [hb, Option.map_some] at h
            cases h
            refine ga_cons (hf e u ha).1 (cAl_ok hf hb) (star_ok ?_)
            cases e <;> first | rfl | exact absurd ⟨_, _, rfl⟩ hs
      · intro a p q; exact hs ⟨a, p, q⟩
theorem cOp_ok (hf : FOk X bs R f) {o : Option Expr} {y : MO} (h : cOp f o = some y) : GO X bs o (y.dn R bs.top).1 := by
  cases o with
  | none => cases h; exact go_no
  | some e =>
    rw [cOp] at h
    cases ha : f e with
    | none => rw [ha] at h; cases h
    | some u => rw [ha] at h; cases h; exact go_so (hf e u ha).1
theorem bn_ok (ok : CCok c X R) {b : Bn} (h : bnOf m x = some b) : x ∈ bltNames ∧ x ≠ "__name__" ∧ ((∃ id, bootBuiltins x = some (.builtin id) ∧ CallR X (.builtin id) (RRL X.K bs (bltF b))) ∨ ∃ T, bootBuiltins x = some (.type T) ∧ CallR X (.type T) (RRL X.K bs (bltF b))) := by
  unfold bnOf at h
  split at h
  · rename_i q; subst q; cases h; exact ⟨by decide, by decide, .inl ⟨_, rfl, cr_len⟩⟩
  split at h
  · rename_i q; subst q; cases h; exact ⟨by decide, by decide, .inr ⟨_, rfl, cr_int⟩⟩
  split at h
  · rename_i q; subst q; cases h; exact ⟨by decide, by decide, .inl ⟨_, rfl, cr_abs⟩⟩
  split at h
  · rename_i q; subst q; cases h; exact ⟨by decide, by decide, .inl ⟨_, rfl, cr_max2 ok.calm⟩⟩
  split at h
  · rename_i q; subst q; cases h; exact ⟨by decide, by decide, .inl ⟨_, rfl, cr_sumP ok.calm⟩⟩
  split at h
  · rename_i q; subst q; cases h; exact ⟨by decide, by decide, .inl ⟨_, rfl, cr_allP ok.calm⟩⟩
  split at h
  · rename_i q; subst q; cases h; exact ⟨by decide, by decide, .inr ⟨_, rfl, cr_tuple⟩⟩
  split at h
  · rename_i q; subst q; cases h; exact ⟨by decide, by decide, .inr ⟨_, rfl, cr_list⟩⟩
  split at h
  · rename_i q; subst q; cases h; exact ⟨by decide, by decide, .inl ⟨_, rfl, cr_repr ok.rm ok.gd⟩⟩
  split at h
  · rename_i q; subst q; cases h; exact ⟨by decide, by decide, .inl ⟨_, rfl, cr_sortedP ok.rm⟩⟩
  · cases h
theorem ty_ok {T : String} (h : tyOf x = some T) : x ∈ bltNames ∧ x ≠ "__name__" ∧ (x == ("__debug__" : Str)) = false ∧ bootBuiltins x = some (.type T) := by
  unfold tyOf at h
  split at h
  · rename_i q; subst q; cases h; exact ⟨by decide, by decide, by decide, rfl⟩
  split at h
  · rename_i q; subst q; cases h; exact ⟨by decide, by decide, by decide, rfl⟩
  split at h
  · rename_i q; subst q; cases h; exact ⟨by decide, by decide, by decide, rfl⟩
  split at h
  · rename_i q; subst q; cases h; exact ⟨by decide, by decide, by decide, rfl⟩
  split at h
  · rename_i q; subst q; cases h; exact ⟨by decide, by decide, by decide, rfl⟩
  split at h
  · rename_i q; subst q; cases h; exact ⟨by decide, by decide, by decide, rfl⟩
  · cases h
theorem mt_ok {k : Mt} (h : mtOf x = some k) : x = mtName k := by
  unfold mtOf at h
  split at h
  · rename_i q; cases h; exact q
  split at h
  · rename_i q; cases h; exact q
  split at h
  · rename_i q; cases h; exact q
  · cases h
theorem cCall_ok (ok : CCok c X R) (hf : FOk X bs R f) {y : ME} (h : cCall f c m x es = some y) : GE X bs (.Call (.Name x p) es [] pos) (y.dn R bs.top).e ∧ (y.dn R bs.top).t = tst (y.dn R bs.top).e := by
  cases es with
  | nil => cases h
  | cons e es =>
    rw [cCall] at h
    split at h
    · rename_i hc
      simp only [Bool.and_eq_true] at hc
      obtain ⟨⟨h1, h2⟩, h3⟩ := hc
      have h2' := h2
      rw [List.all_cons, Bool.and_eq_true] at h2'
      split at h
      · rename_i g hg
        cases ha : cAl f (e :: es) with
        | none => rw [ha] at h; cases h
        | some as =>
          rw [ha] at h; cases h
          obtain ⟨ad, k1, k2, k3⟩ := ok.df x g hg
          exact ⟨ge_callD (k3 X bs rfl rfl rfl rfl rfl rfl) (gl_ok ok h1) k1 k2 (cAl_ok hf ha) (name_ok h3).1 (star_ok h2'.1) (stars_ok h2'.2), rfl⟩
      · cases hb : bnOf m x with
        | none => rw [hb] at h; cases h
        | some b =>
          rw [hb, Option.bind_some] at h
          cases ha : cAl f (e :: es) with
          | none => rw [ha] at h; cases h
          | some as =>
            rw [ha] at h; cases h
            obtain ⟨k1, k2, k3⟩ := bn_ok (bs := bs) ok hb
            rcases k3 with ⟨id, k4, k5⟩ | ⟨T, k4, k5⟩
            · exact ⟨ge_callB k5 (gl_ok ok h1) (ok.blt x k1) k4 (cAl_ok hf ha) k2 (name_ok h3).1 (star_ok h2'.1) (stars_ok h2'.2), rfl⟩
            · exact ⟨ge_callTy k5 (gl_ok ok h1) (ok.blt x k1) k4 (cAl_ok hf ha) k2 (name_ok h3).1 (star_ok h2'.1) (stars_ok h2'.2), rfl⟩
    · cases h
theorem cSeq_ok (hf : FOk X bs R f) {tg : Expr} {y : MI} (h : cSeq f e = some y) : GI X bs tg e (y.dn R bs.top) := by
  unfold cSeq at h
  split at h
  · cases ha : f e with
    | none => rw [ha] at h; cases h
    | some u => rw [ha] at h; cases h; exact gi_seq (hf e u ha).1
  · cases h
theorem tupE_ok {tg : Expr} (h : isTupE tg = true) : ∃ es k p, tg = .Tuple es k p := by
  cases tg <;> first | exact ⟨_, _, _, rfl⟩ | cases h
theorem cI_ok (ok : CCok c X R) (hf : FOk X bs R f) {tg : Expr} {y : MI} (h : cI f c tg e = some y) : GI X bs tg e (y.dn R bs.top) := by
  unfold cI at h
  split at h
  · split at h
    · rename_i hc
      simp only [Bool.and_eq_true, decide_eq_true_eq] at hc
      obtain ⟨⟨h1, h2⟩, rfl⟩ := hc
      rename_i a q
      cases ha : f a with
      | none => rw [ha] at h; cases h
      | some u => rw [ha] at h; cases h; exact gi_rng (gl_ok ok h2) (ok.blt _ (by decide)) (hf a u ha).1 (star_ok h1)
    · split at h
      · rename_i hc
        simp only [Bool.and_eq_true, decide_eq_true_eq] at hc
        obtain ⟨⟨⟨h1, h2⟩, h3⟩, rfl⟩ := hc
        obtain ⟨es, k, p, rfl⟩ := tupE_ok h3
        rename_i a q _
        cases ha : f a with
        | none => rw [ha] at h; cases h
        | some u => rw [ha] at h; cases h; exact gi_enu (gl_ok ok h2) (ok.blt _ (by decide)) (hf a u ha).1 (star_ok h1)
      · exact cSeq_ok hf h
  · split at h
    · rename_i hc
      simp only [Bool.and_eq_true, decide_eq_true_eq] at hc
      obtain ⟨⟨⟨h1, h1'⟩, h2⟩, rfl⟩ := hc
      rename_i a b q
      cases ha : f a with
      | none => rw [ha] at h; cases h
      | some u =>
        rw [ha, Option.bind_some] at h
        cases hb : f b with
        | none => rw [hb] at h; cases h
        | some v => rw [hb] at h; cases h; exact gi_rng2 (gl_ok ok h2) (ok.blt _ (by decide)) (hf a u ha).1 (hf b v hb).1 (star_ok h1) (star_ok h1')
    · split at h
      · rename_i hc
        simp only [Bool.and_eq_true, decide_eq_true_eq] at hc
        obtain ⟨⟨⟨⟨h1, h1'⟩, h2⟩, h3⟩, rfl⟩ := hc
        obtain ⟨es, k, p, rfl⟩ := tupE_ok h3
        rename_i a b q _
        cases ha : f a with
        | none => rw [ha] at h; cases h
        | some u =>
          rw [ha, Option.bind_some] at h
          cases hb : f b with
          | none => rw [hb] at h; cases h
          | some v => rw [hb] at h; cases h; exact gi_zip (gl_ok ok h2) (ok.blt _ (by decide)) (hf a u ha).1 (hf b v hb).1 (star_ok h1) (star_ok h1')
      · exact cSeq_ok hf h
  · split at h
    · rename_i hc
      simp only [Bool.and_eq_true, decide_eq_true_eq] at hc
      obtain ⟨⟨⟨⟨⟨h1, h1'⟩, h2⟩, h3⟩, rfl⟩, rfl⟩ := hc
      obtain ⟨es, k, p, rfl⟩ := tupE_ok h3
      rename_i a b kk vp kp q
      cases ha : f a with
      | none => rw [ha] at h; cases h
      | some u =>
        rw [ha, Option.bind_some] at h
        cases hb : f b with
        | none => rw [hb] at h; cases h
        | some v => rw [hb] at h; cases h; exact gi_zipS (gl_ok ok h2) (ok.blt _ (by decide)) (hf a u ha).1 (hf b v hb).1 (star_ok h1) (star_ok h1')
    · cases h
  · exact cSeq_ok hf h
/-! targets -/
theorem cNm_ok (ok : CCok c X R) {i : Nat} (h : cNm c e = some i) : PG X e (gName i) := by
  unfold cNm at h
  split at h
  · split at h
    · rename_i hl
      obtain ⟨k1, k2⟩ := loc_ok ok hl
      exact pg_name ok.nd (slot_ok ok h) k1 k2
    · cases h
  · cases h
theorem cNms_ok (ok : CCok c X R) : ∀ {es : List Expr} {is : List Nat}, cNms c es = some is → PGs X es (gL is) ∧ (assignEach es X.env).length = is.length ∧ (assignEach es X.env).findIdx? (·.1) = none
  | [], is, h => by cases h; exact ⟨pgs_nil, rfl, rfl⟩
  | e :: r, is, h => by
    rw [cNms] at h
    cases ha : cNm c e with
    | none => rw [ha] at h; cases h
    | some i =>
      rw [ha, Option.bind_some] at h
      cases hb : cNms c r with
      | none => rw [hb] at h; cases h
      | some js =>
        rw [hb, Option.map_some] at h; cases h
        obtain ⟨k1, k2, k3⟩ := cNms_ok ok hb
        have hn : ∃ y q, e = .Name y q := by
          unfold cNm at ha
          split at ha
          · exact ⟨_, _, rfl⟩
          · cases ha
        have hp := cNm_ok ok ha
        obtain ⟨y, q, rfl⟩ := hn
        refine ⟨pgs_cons hp k1 rfl, ?_, ?_⟩
        · show (assignEach r X.env).length + 1 = js.length + 1
          rw [k2]
        · show ((false, assign (.Name y q) X.env) :: assignEach r X.env).findIdx? (·.1) = none
          rw [List.findIdx?_cons]
          simp only [Bool.false_eq_true, if_false, k3, Option.map_none]
theorem cT_ok (ok : CCok c X R) {t : List Nat × Bool} (h : cT c e = some t) : PG X e (gOf X.K t.2 t.1) ∧ (assignEach [e] X.env).map (·.2) = [assign e X.env] ∧ (t.2 = true → ∃ y q, e = .Name y q) := by
  unfold cT at h
  split at h
  · rename_i es k q
    cases hb : cNms c es with
    | none => rw [hb] at h; cases h
    | some js =>
      rw [hb] at h; cases h
      obtain ⟨k1, k2, k3⟩ := cNms_ok ok hb
      exact ⟨pg_tup ok.calm k1 k2 k3, rfl, fun z => by cases z⟩
  · cases hb : cNm c e with
    | none => rw [hb] at h; cases h
    | some i =>
      rw [hb] at h; cases h
      have hn : ∃ y q, e = .Name y q := by
        unfold cNm at hb
        split at hb
        · exact ⟨_, _, rfl⟩
        · cases hb
      have hp := cNm_ok ok hb
      refine ⟨hp, ?_, fun _ => hn⟩
      obtain ⟨y, q, rfl⟩ := hn
      rfl
end
end Ev
namespace Ev
open PySem PySem.Spec PyProof.Rows L2

/-! ### dict displays -/
theorem Fut.before {M M' : List Addr} {H H' : Hp} {p : Addr} {o : HO} (f : Fut M (upd H p o) M' H') (hn : H p = none) : Fut M H M' H' := by
  obtain ⟨N, rfl, s⟩ := f
  refine ⟨N, rfl, fun a u e n => s.keep a u (by rw [upd_ne (ne_of_none e hn)]; exact e) n, fun a e => s.dom a ?_, fun a ha => ?_⟩
  · by_cases z : a = p
    · subst z; exact absurd hn e
    · rw [upd_ne z]; exact e
  · have := s.fresh a ha
    by_cases z : a = p
    · subst z; exact hn
    · rwa [upd_ne z] at this
def PD (X : Cx) (bs : Bs) (pos : Pos) (keys : List (Option Expr)) (values : List Expr) (ks : List Str) (fs : Dn (List PV)) : Prop :=
  ∃ trs, PPs X pos keys values trs ∧ ∀ σ H (Q : List (V × V) → Hp → Prop), RG X.K bs rA fs σ H (fun vs H1 => ∀ ps, ps = (ks.zip vs).map (fun kv => (V.str kv.1, kv.2)) → Q ps H1) → tPairs trs σ H Q
theorem pd_ok {c : CC} {X : Cx} {R : Orc} {bs : Bs} {f : Expr → Option ME} {pos : Pos} (hf : FOk X bs R f) : ∀ {keys : List (Option Expr)} {values : List Expr} {ks : List Str} {y : MA}, keys.length = values.length → values.all notStar = true → cKeys keys = some ks → cAl f values = some y →
    PD X bs pos keys values ks (y.dn R bs.top) ∧ keys.all (·.isSome) = true ∧ ks.length = keys.length
  | [], [], ks, y, _, _, h1, h2 => by
    cases h1; cases h2
    exact ⟨⟨[], pps_nil, fun σ H Q ⟨M, B, en, S, hR, h⟩ => h.ret hR.st .nil _ rfl⟩, rfl, rfl⟩
  | k :: keys, v :: values, ks, y, hl, hst, h1, h2 => by
    rw [List.all_cons, Bool.and_eq_true] at hst
    have h2' : ∃ u w, f v = some u ∧ cAl f values = some w ∧ y = .cons u w := by
      cases v with
      | Starred => cases hst.1
      | _ =>
        simp only [cAl] at h2
        cases ha : f _ with
        | none => rw [ha] at h2; cases h2
        | some u =>
          rw [ha, Option.bind_some] at h2
          cases hb : cAl f values with
          | none => rw [hb] at h2; cases h2
          | some w => rw [hb] at h2; cases h2; exact ⟨u, w, rfl, rfl, rfl⟩
    obtain ⟨u, w, ha, hb, rfl⟩ := h2'
    unfold cKeys at h1
    split at h1
    · rename_i e; cases e
    · rename_i k0 j0 q0 r0 e
      cases e
      cases hk : cKeys keys with
      | none => rw [hk] at h1; cases h1
      | some ks' =>
        rw [hk] at h1; cases h1
        obtain ⟨⟨trs, t1, t2⟩, a1, a2⟩ := pd_ok (c := c) (pos := pos) hf (by simpa using hl) hst.2 hk hb
        refine ⟨⟨(tC (.str k0), RG X.K bs rE (u.dn R bs.top).e) :: trs, pps_cons pe_str (hf v u ha).1 t1, fun σ H Q ⟨M, B, en, S, hR, h⟩ => ?_⟩, by simpa using a1, by simp [a2]⟩
        show RG X.K bs rE (u.dn R bs.top).e σ H fun y H2 => tPairs trs σ H2 fun ps H3 => Q ((V.str k0, y) :: ps) H3
        refine ⟨M, B, en, S, hR, At.bnd hR h fun v x H1 M1 S1 f1 hR1 r1 h1 => t2 σ H1 _ ⟨M1, B, en, S1, hR1, h1.bnd (rel1 := rA) hR1 fun vs xs H2 M2 S2 f2 hR2 r2 h2 => ?_⟩⟩
        rintro ps rfl
        exact h2.ret (rel := rA) hR2.st (.cons (r1.fut hR1.st.trk f2) r2) _ rfl
    · cases h1
theorem kvs_rep {K : Frag} {H : Hp} {M : List Addr} {B : Addr → Prop} : ∀ {ks : List Str} {vs : List PV} {xs : List V}, RpL K H M B vs xs → KvR K H M B (kvsOf ks vs) ((ks.zip xs).map fun kv => (Sum.inr kv.1, kv.2))
  | [], _, _, r => by
    cases r <;> exact .nil
  | k :: ks, _, _, .nil => .nil
  | k :: ks, _, _, .cons h r => .cons ⟨rfl, h⟩ (kvs_rep r)
theorem merge_rep {K : Frag} {H : Hp} {M : List Addr} {B : Addr → Prop} : ∀ {a a' : List (Key × PV)} {b b' : List (Key × V)}, KvR K H M B a b → KvR K H M B a' b' → KvR K H M B (a'.foldl (fun acc kv => putP acc kv.1 kv.2) a) (mergeK b b')
  | a, _, b, _, h, .nil => h
  | a, p :: a', b, q :: b', h, .cons e r => by
    show KvR K H M B (a'.foldl _ (putP a p.1 p.2)) (mergeK (putK b q.1 q.2) b')
    rw [← e.1]
    exact merge_rep (h.put p.1 e.2) r
theorem ge_dct {X : Cx} {bs : Bs} {pos : Pos} {keys : List (Option Expr)} {values : List Expr} {ks : List Str} {fs : Dn (List PV)} {m : Bool} (h : PD X bs pos keys values ks fs) (hall : keys.all (·.isSome) = true) (hl : keys.length = values.length) (h0 : keys ≠ [])
    (h15 : keys.length ≤ 15) (hk : ks.length = keys.length) : GE X bs (.Dict keys values pos) (dctD m ks fs) := by
  obtain ⟨trs, t1, t2⟩ := h
  refine (pe_disp t1 hall hl h0 h15).imp fun σ H Q ⟨M, B, en, S, hR, v, S', e, q⟩ p hp => t2 σ _ _ ?_
  unfold dctD Dn.bnd at e
  cases hf : fs en S with
  | none => rw [hf] at e; cases e
  | some r =>
    rw [hf] at e
    dsimp only [Dn.lft] at e
    split at e
    · rename_i hlen
      have hpM := hR.st.mfree hp
      have hpB := hR.st.bfree hp
      have hR' : Rs X.K M (Brd B p) bs en S σ (upd H p (.dK [])) := ⟨hR.st.bar1 hp rfl, hR.len, fun i w ew => let ⟨x, e1, r1⟩ := hR.v i w ew; ⟨x, e1, r1.bar1 hR.st hp⟩⟩
      refine ⟨M, Brd B p, en, S, hR', r.1, r.2, hf, fun H' M' xs f st rl => ?_⟩
      rintro ps rfl
      have hp' := f.keep (a := p) upd_same hpM
      refine ⟨hp'.1, (ks.zip xs).map fun kv => (Sum.inr kv.1, kv.2), ?_, ?_, ?_⟩
      · rw [List.map_map]; rfl
      · rw [List.length_map, List.length_zip, hk]; omega
      · exact fin_dct (Q := Q) hp'.1 rfl hp'.2 hpB st (merge_rep .nil (kvs_rep rl)) e (f.before hp) hp q
    · cases e

/-! ### comprehensions -/
section
variable {c : CC} {X : Cx} {R : Orc} {bs : Bs}
theorem blk_ok {scope : Scope} (ok : CCok c X R) (s : Shared) (H : Hp) (C : Addr) (cl : List (Str × Addr)) (fp : List Addr) : CCok (blkCC c scope) (X.blk s H scope (compEnvC scope cl C X.env) fp) R where
  sc := by show relS scope X.env.scope = relS scope c.sc; rw [ok.sc]
  fn := rfl
  N := ok.N
  nd := ok.nd
  calm := ok.calm
  rm := ok.rm
  gd := ok.gd
  blt := ok.blt
  df := ok.df
theorem own_ok (ok : CCok c X R) {scope : Scope} (h : blkC c.N c.sc scope (ownOf c scope) = true) : BlkOk X.N X.env.scope scope (ownOf c scope) := by
  rw [ok.N, ok.sc]; exact blkOk_by h
theorem ge_lc {elt tg iter : Expr} {ifs : List Expr} {scope : Scope} {pos : Pos} {m one : Bool} {tl : List Nat} {fi : Dn ItV} {ft : Dn Bool} {fe : Dn PV} (ok : CCok c X R) (hb : blkC c.N c.sc scope (ownOf c scope) = true) (hi : GI X bs tg iter fi)
    (hg : ∀ (s : Shared) (H : Hp) (C : Addr) (cl : List (Str × Addr)) (fp : List Addr), PG (X.blk s H scope (compEnvC scope cl C X.env) fp) tg (gOf X.K one tl))
    (ht : ∀ (s : Shared) (H : Hp) (C : Addr) (cl : List (Str × Addr)) (fp : List Addr), PTs (X.blk s H scope (compEnvC scope cl C X.env) fp) ifs (RG X.K bs rQ ft))
    (he : ∀ (s : Shared) (H : Hp) (C : Addr) (cl : List (Str × Addr)) (fp : List Addr), PE (X.blk s H scope (compEnvC scope cl C X.env) fp) elt (RG X.K bs rE fe)) (hs : notSet iter = true) (hv : ∀ i ∈ tl, i ∈ ownV c scope) :
    GE X bs (.ListComp elt [⟨tg, iter, ifs, 0⟩] scope pos) (lcD m fi tl one (ownV c scope) ft fe) :=
  (pe_lc ok.calm ok.nd hi (own_ok ok hb) hg ht he (folded_ok hs)).imp fun σ H Q h => lc_core2 hv h
theorem gs_setLc {i : Nat} {y : Str} {py spos : Pos} {elt tg iter : Expr} {ifs : List Expr} {scope : Scope} {pos : Pos} {m one : Bool} {tl : List Nat} {fi : Dn ItV} {ft : Dn Bool} {fe : Dn PV} (ok : CCok c X R) (hy : X.N[i]? = some y) (hyl : X.env.scope.names.lookup y = some .local)
    (hsw : swapsWith (.ListComp elt [⟨tg, iter, ifs, 0⟩] scope pos) (some (.Name y py)) spos.line X.env = pure true) (hb : blkC c.N c.sc scope (ownOf c scope) = true) (hi : GI X bs tg iter fi)
    (hg : ∀ (s : Shared) (H : Hp) (C : Addr) (cl : List (Str × Addr)) (fp : List Addr), PG (X.blk s H scope (compEnvC scope cl C X.env) fp) tg (gOf X.K one tl))
    (ht : ∀ (s : Shared) (H : Hp) (C : Addr) (cl : List (Str × Addr)) (fp : List Addr), PTs (X.blk s H scope (compEnvC scope cl C X.env) fp) ifs (RG X.K bs rQ ft))
    (he : ∀ (s : Shared) (H : Hp) (C : Addr) (cl : List (Str × Addr)) (fp : List Addr), PE (X.blk s H scope (compEnvC scope cl C X.env) fp) elt (RG X.K bs rE fe)) (hs : notSet iter = true) (hv : ∀ i ∈ tl, i ∈ ownV c scope) :
    GS X bs (.Assign [.Name y py] (.ListComp elt [⟨tg, iter, ifs, 0⟩] scope pos) spos) (exD (lcD m fi tl one (ownV c scope) ft fe) fun v en S => (tgF [i] true v en).map fun en2 => .nx en2 S) :=
  (ps_setLc ok.calm ok.nd hy hyl hsw hi (own_ok ok hb) hg ht he (folded_ok hs)).imp fun D σ H h => by
    obtain ⟨M, B, en, S, hR, v, S', e, q⟩ := asg_core (one := true) (tl := [i]) h
    exact lc_core2 hv ⟨M, B, en, S, hR, v, S', e, q⟩
/-- what a comprehension's text gives -/
theorem lc_parts {n : Nat} {m : Bool} {elt tg iter : Expr} {ifs : List Expr} {scope : Scope} {pos : Pos} {y : ME} (IH : ∀ c m e y, cE n c m e = some y → ∀ X bs, CCok c X R → GE X bs e (y.dn R bs.top).e ∧ (notIf e = true → GT X bs e (y.dn R bs.top).t)) (ok : CCok c X R)
    (h : cE (n + 1) c m (.ListComp elt [⟨tg, iter, ifs, 0⟩] scope pos) = some y) :
    ∃ (it : MI) (tl : List Nat) (one : Bool) (q : MO) (x : ME), y = .lc m it tl one (ownV c scope) q x ∧ blkC c.N c.sc scope (ownOf c scope) = true ∧ GI X bs tg iter (it.dn R bs.top) ∧
      (∀ (s : Shared) (H : Hp) (C : Addr) (cl : List (Str × Addr)) (fp : List Addr), PG (X.blk s H scope (compEnvC scope cl C X.env) fp) tg (gOf X.K one tl)) ∧
      (∀ (s : Shared) (H : Hp) (C : Addr) (cl : List (Str × Addr)) (fp : List Addr), PTs (X.blk s H scope (compEnvC scope cl C X.env) fp) ifs (RG X.K bs rQ (q.dn R bs.top).2)) ∧
      (∀ (s : Shared) (H : Hp) (C : Addr) (cl : List (Str × Addr)) (fp : List Addr), PE (X.blk s H scope (compEnvC scope cl C X.env) fp) elt (RG X.K bs rE (x.dn R bs.top).e)) ∧ notSet iter = true ∧ (∀ i ∈ tl, i ∈ ownV c scope) := by
  simp only [cE] at h
  split at h
  · rename_i hc
    simp only [Bool.and_eq_true] at hc
    cases hit : cI (cE n c c.all) c tg iter with
    | none => rw [hit] at h; cases h
    | some it =>
      rw [hit, Option.bind_some] at h
      cases ht : cT (blkCC c scope) tg with
      | none => rw [ht] at h; cases h
      | some t =>
        rw [ht, Option.bind_some] at h
        split at h
        · rename_i hv
          have hv' : ∀ i ∈ t.1, i ∈ ownV c scope := by simpa [List.all_eq_true] using hv
          cases hq : cIfs (cE n (blkCC c scope) c.all) ifs with
          | none => rw [hq] at h; cases h
          | some q =>
            rw [hq, Option.bind_some] at h
            cases hx : cE n (blkCC c scope) c.all elt with
            | none => rw [hx] at h; cases h
            | some x =>
              rw [hx] at h; cases h
              refine ⟨it, t.1, t.2, q, x, rfl, hc.1, cI_ok ok (fun e y h => IH c _ e y h X bs ok) hit, fun s H C cl fp => (cT_ok (blk_ok ok s H C cl fp) ht).1, fun s H C cl fp => ?_, fun s H C cl fp => (IH _ _ _ _ hx _ bs (blk_ok ok s H C cl fp)).1, hc.2, hv'⟩
              unfold cIfs at hq
              split at hq
              · cases hq
                exact ⟨fun pins s' σ H' Q I ⟨M, B, en, S, hR, v, S', e, z⟩ => pts_nil.run pins s' σ H' Q I (by cases e; exact z H' M true Fut.refl hR.st rfl)⟩
              · split at hq
                · rename_i q0 hn
                  cases hu : cE n (blkCC c scope) c.all q0 with
                  | none => rw [hu] at hq; cases hq
                  | some u =>
                    rw [hu] at hq; cases hq
                    exact pts_one ((IH _ _ _ _ hu _ bs (blk_ok ok s H C cl fp)).2 hn)
                · cases hq
              · cases hq
        · cases h
  · cases h
end
end Ev
namespace Ev
open PySem PySem.Spec PyProof.Rows L2
section
variable {R : Orc}
theorem b1 {α β : Type} {o : Option α} {f : α → Option β} {y : β} (h : o.bind f = some y) : ∃ a, o = some a ∧ f a = some y := Option.bind_eq_some_iff.mp h
theorem m1 {α β : Type} {o : Option α} {f : α → β} {y : β} (h : o.map f = some y) : ∃ a, o = some a ∧ f a = y := Option.map_eq_some_iff.mp h
theorem gp {X : Cx} {bs : Bs} {e : Expr} {f : Dn PV} (hp : plainT e = true) (h : GE X bs e f) : GE X bs e f ∧ (notIf e = true → GT X bs e (tst f)) := ⟨h, fun _ => gt_of (plainT_ok hp) h⟩
set_option maxHeartbeats 40000000 in
theorem cE_ok : ∀ (n : Nat) (c : CC) (m : Bool) (e : Expr) (y : ME), cE n c m e = some y → ∀ (X : Cx) (bs : Bs), CCok c X R → GE X bs e (y.dn R bs.top).e ∧ (notIf e = true → GT X bs e (y.dn R bs.top).t)
  | 0, _, _, _, _, h => by cases h
  | n + 1, c, m, e, y, h => fun X bs ok => by
    have IH := cE_ok n
    have hf : FOk X bs R (cE n c c.all) := fun e y h => IH c _ e y h X bs ok
    by_cases hl : ∃ elt tg iter ifs scope pos, e = .ListComp elt [⟨tg, iter, ifs, 0⟩] scope pos
    · obtain ⟨elt, tg, iter, ifs, scope, pos, rfl⟩ := hl
      obtain ⟨it, tl, one, q, x, rfl, h1, h2, h3, h4, h5, h6, h7⟩ := lc_parts (bs := bs) IH ok h
      exact gp rfl (ge_lc (m := m) ok h1 h2 h3 h4 h5 h6 h7)
    unfold cE at h
    split at h
    · -- a name
      split at h
      · rename_i hc
        simp only [Bool.and_eq_true] at hc
        obtain ⟨i, h1, rfl⟩ := m1 h
        exact gp rfl (ge_var (slot_ok ok h1) (vis_ok ok hc.1) (name_ok hc.2).1 (name_ok hc.2).2)
      · cases h
    · -- a constant
      obtain ⟨k, h1, rfl⟩ := m1 h
      refine gp rfl ?_
      unfold cK at h1
      split at h1
      · cases h1; exact ge_con (t := tC .non) pe_non fun _ _ _ => .non
      · rename_i b; cases h1; exact ge_con (t := tC (.bl b)) pe_bl fun _ _ _ => .bl _
      · rename_i b; cases h1; exact ge_con (t := tC (.int b)) pe_int fun _ _ _ => .int _
      · rename_i b; cases h1; exact ge_con (t := tC (.str b)) pe_str fun _ _ _ => .str _
      · cases h1
    · obtain ⟨u, h1, h⟩ := b1 h
      obtain ⟨v, h2, rfl⟩ := m1 h
      exact gp rfl (ge_op (hf _ _ h1).1 (hf _ _ h2).1 (op_F _))
    · obtain ⟨u, h1, rfl⟩ := m1 h
      exact gp rfl (ge_neg (hf _ _ h1).1)
    · split at h
      · rename_i hn
        obtain ⟨u, h1, rfl⟩ := m1 h
        exact ⟨ge_not (hf _ _ h1).1, fun _ => gt_not ((hf _ _ h1).2 hn)⟩
      · cases h
    · obtain ⟨k1, k2⟩ := cBl_ok (pos := _) hf h
      exact ⟨k1, fun _ => k2.pt⟩
    · split at h
      · rename_i hn
        obtain ⟨u, h1, h⟩ := b1 h
        obtain ⟨v, h2, rfl⟩ := m1 h
        exact ⟨ge_cmp ok.rm (hf _ _ h1).1 (hf _ _ h2).1 (behind_ok hn), fun _ => gt_cmp ok.rm (hf _ _ h1).1 (hf _ _ h2).1 (behind_ok hn)⟩
      · cases h
    · split at h
      · rename_i hn
        obtain ⟨u, h1, h⟩ := b1 h
        obtain ⟨v, h2, h⟩ := b1 h
        obtain ⟨w, h3, rfl⟩ := m1 h
        exact ⟨ge_chn ok.rm (hf _ _ h1).1 (hf _ _ h2).1 (hf _ _ h3).1 (last_ok hn), fun _ => gt_chn ok.rm (hf _ _ h1).1 (hf _ _ h2).1 (hf _ _ h3).1 (last_ok hn)⟩
      · cases h
    · split at h
      · rename_i hn
        obtain ⟨u, h1, h⟩ := b1 h
        obtain ⟨v, h2, h⟩ := b1 h
        obtain ⟨w, h3, rfl⟩ := m1 h
        exact ⟨ge_ite ((hf _ _ h1).2 hn) (IH _ _ _ _ h2 X bs ok).1 (IH _ _ _ _ h3 X bs ok).1, fun z => by cases z⟩
      · cases h
    · obtain ⟨as, h1, rfl⟩ := m1 h
      exact gp rfl (ge_tup (cAl_ok hf h1))
    · obtain ⟨as, h1, rfl⟩ := m1 h
      exact gp rfl (ge_lst (cAl_ok hf h1))
    · cases h
      exact gp rfl ge_emp
    · split at h
      · rename_i hc
        obtain ⟨c1, c2, c3⟩ := hc
        obtain ⟨ks, h1, h⟩ := b1 h
        obtain ⟨as, h2, rfl⟩ := m1 h
        obtain ⟨k1, k2, k3⟩ := pd_ok (c := c) (pos := _) hf c1 c3 h1 h2
        exact gp rfl (ge_dct k1 k2 c1 (by simp) c2 k3)
      · cases h
    · obtain ⟨u, h1, rfl⟩ := m1 h
      exact gp rfl (ge_rev (hf _ _ h1).1)
    · obtain ⟨u, h1, h⟩ := b1 h
      obtain ⟨v, h2, h⟩ := b1 h
      obtain ⟨w, h3, rfl⟩ := m1 h
      exact gp rfl (ge_slc (hf _ _ h1).1 (cOp_ok hf h2) (cOp_ok hf h3))
    · split at h
      · rename_i hn
        obtain ⟨u, h1, h⟩ := b1 h
        obtain ⟨v, h2, rfl⟩ := m1 h
        exact gp rfl (ge_idx ok.hu (hf _ _ h1).1 (hf _ _ h2).1 (plainIx_ok hn))
      · cases h
    · split at h
      · rename_i hc
        simp only [Bool.and_eq_true, decide_eq_true_eq] at hc
        obtain ⟨⟨rfl, c2⟩, c3⟩ := hc
        split at h
        · rename_i hc'
          simp only [Bool.and_eq_true] at hc'
          obtain ⟨T, h1, h⟩ := b1 h
          obtain ⟨u, h2, rfl⟩ := m1 h
          obtain ⟨t1, t2, t3, t4⟩ := ty_ok h1
          exact gp rfl (ge_isi (gl_ok ok c2) (ok.blt _ (by decide)) (gl_ok ok hc'.1) (ok.blt _ t1) t4 t2 t3 (hf _ _ h2).1 (star_ok hc'.2))
        · cases h
      · obtain ⟨k1, k2⟩ := cCall_ok (pos := _) (p := _) ok hf h
        exact ⟨k1, fun _ => by rw [k2]; exact gt_of (plainT_ok rfl) k1⟩
    · split at h
      · rename_i hc
        simp only [Bool.and_eq_true, decide_eq_true_eq] at hc
        obtain ⟨⟨⟨⟨rfl, rfl⟩, c3⟩, c4⟩, c5⟩ := hc
        obtain ⟨u, h1, rfl⟩ := m1 h
        exact gp rfl (ge_lrg ok.calm (gl_ok ok c3) (ok.blt _ (by decide)) (gl_ok ok c4) (ok.blt _ (by decide)) (hf _ _ h1).1 (star_ok c5))
      · obtain ⟨k1, k2⟩ := cCall_ok (pos := _) (p := _) ok hf h
        exact ⟨k1, fun _ => by rw [k2]; exact gt_of (plainT_ok rfl) k1⟩
    · obtain ⟨k1, k2⟩ := cCall_ok (pos := _) (p := _) ok hf h
      exact ⟨k1, fun _ => by rw [k2]; exact gt_of (plainT_ok rfl) k1⟩
    · split at h
      · rename_i hc
        simp only [Bool.and_eq_true, decide_eq_true_eq] at hc
        obtain ⟨⟨⟨rfl, rfl⟩, c3⟩, c4⟩ := hc
        obtain ⟨as, h1, rfl⟩ := m1 h
        have c4' := c4
        rw [List.all_cons, Bool.and_eq_true] at c4'
        exact gp rfl (ge_srv ok.rm (gl_ok ok c3) (ok.blt _ (by decide)) (cAl_ok hf h1) (by rw [star_ok c4'.1]; rfl) (stars_ok c4))
      · cases h
    · rename_i o nm apos es pos
      split at h
      · rename_i hc
        simp only [Bool.and_eq_true, decide_eq_true_eq] at hc
        obtain ⟨⟨⟨c1, c2⟩, c3⟩, c4⟩ := hc
        obtain ⟨k, h1, h⟩ := b1 h
        obtain ⟨u, h2, h⟩ := b1 h
        obtain ⟨as, h3, rfl⟩ := m1 h
        have hk := mt_ok h1
        subst hk
        cases es with
        | nil =>
          cases h3
          exact gp rfl (ge_met0 (hf _ _ h2).1 (base_ok c1) c4)
        | cons e es =>
          have c2' := c2
          rw [List.all_cons, Bool.and_eq_true] at c2'
          exact gp rfl (ge_met (hf _ _ h2).1 (cAl_ok hf h3) (base_ok c1) (few_ok c2 c3) c4 (star_ok c2'.1) (stars_ok c2'.2))
      · cases h
    · exact absurd ⟨_, _, _, _, _, _, rfl⟩ hl
    · cases h
end
end Ev
namespace Ev
open PySem PySem.Spec PyProof.Rows L2

/-! ### stores of a tuple's parts -/
section
variable {env : Env} {x y z : Str} {px py pz pt pt2 : Pos} {kt k2 : Nat} {a b d : Expr}
theorem swapsS_ok {tg e : Expr} {l : Nat} (h : notComp e = true) : swapsWithSole [tg] e l env = pure false := swaps_ok h
theorem swapsS_of {tg e : Expr} {l : Nat} (h : swapsWith e (some tg) l env = pure false) : swapsWithSole [tg] e l env = pure false := h
theorem asub_ok {o i : Expr} {p : Pos} (h : notSlice i = true) : ∀ v, assign (.Subscript o i p) env v = (do
      let ov ← holding [v] (eval o env)
      let iv ← holding [v, ov] (eval i env)
      standAt p
      holding [v, ov, iv] (setItem ov iv v)
      release [v, ov, iv] []) := by
  intro v
  cases i <;> first | rfl | cases h
theorem bk_ok (hk : env.scope.kind = .function) : env.blockKind = .function := by unfold Env.blockKind; rw [hk]; rfl
theorem sw2 (hk : env.scope.kind = .function) (hx : env.kindOf x = some .local) (hy : env.kindOf y = some .local) (hl : (py.line == px.line) = true) (hne : x ≠ y) (na : notStar a = true) (nb : notStar b = true)
    (h1 : ([a, b].all (foldedForSure 8)) = false) (h2 : ([a, b].all (constantsAlone 8)) = false) : swappedStores [.Tuple [.Name x px, .Name y py] kt pt] (.Tuple [a, b] k2 pt2) env = pure (some [x, y]) := by
  have hb := bk_ok hk
  have hyx : (y == x) = false := by simpa using Ne.symm hne
  have hxy : (x == y) = false := by simpa using hne
  unfold swappedStores
  simp only [List.length_cons, List.length_nil, hb, List.any_cons, List.any_nil, List.filterMap_cons, List.filterMap_nil, hx, hy, Expr.pos, List.head?_cons, Option.map_some, Option.getD_some, hl, h1, h2]
  simp [List.eraseDups, List.eraseDupsBy, List.eraseDupsBy.loop, hyx, hxy]
  rintro (h | h)
  · cases a <;> first | (cases na; done) | (cases h; done)
  · cases b <;> first | (cases nb; done) | (cases h; done)
theorem sw3 (hk : env.scope.kind = .function) (hx : env.kindOf x = some .local) (hy : env.kindOf y = some .local) (hz : env.kindOf z = some .local) (hl : (py.line == px.line) = true) (hl2 : (pz.line == px.line) = true) (hne : x ≠ y) (hne2 : x ≠ z) (hne3 : y ≠ z)
    (na : notStar a = true) (nb : notStar b = true) (nd : notStar d = true) (h1 : ([a, b, d].all (foldedForSure 8)) = false) (h2 : ([a, b, d].all (constantsAlone 8)) = false) :
    swappedStores [.Tuple [.Name x px, .Name y py, .Name z pz] kt pt] (.Tuple [a, b, d] k2 pt2) env = pure (some [x, y, z]) := by
  have hb := bk_ok hk
  have e1 : (y == x) = false := by simpa using Ne.symm hne
  have e2 : (x == y) = false := by simpa using hne
  have e3 : (z == x) = false := by simpa using Ne.symm hne2
  have e4 : (x == z) = false := by simpa using hne2
  have e5 : (z == y) = false := by simpa using Ne.symm hne3
  have e6 : (y == z) = false := by simpa using hne3
  unfold swappedStores
  simp only [List.length_cons, List.length_nil, hb, List.any_cons, List.any_nil, List.filterMap_cons, List.filterMap_nil, hx, hy, hz, Expr.pos, List.head?_cons, Option.map_some, Option.getD_some, hl, hl2, h1, h2]
  simp [List.eraseDups, List.eraseDupsBy, List.eraseDupsBy.loop, e1, e2, e3, e4, e5, e6]
  rintro (h | h | h)
  · cases a <;> first | (cases na; done) | (cases h; done)
  · cases b <;> first | (cases nb; done) | (cases h; done)
  · cases d <;> first | (cases nd; done) | (cases h; done)
theorem swn2 (h : env.kindOf x ≠ some .local ∨ env.kindOf y ≠ some .local) : swappedStores [.Tuple [.Name x px, .Name y py] kt pt] (.Tuple [a, b] k2 pt2) env = pure none := by
  have key : ∀ {u : Str}, env.kindOf u ≠ some .local → (env.kindOf u == some NameKind.local) = false := fun {u} h => by simpa using h
  unfold swappedStores
  simp only [List.length_cons, List.length_nil, List.any_cons, List.any_nil, List.filterMap_cons, List.filterMap_nil, Expr.pos, List.head?_cons, Option.map_some, Option.getD_some]
  rcases h with h | h
  · simp only [key h, Bool.false_and, Bool.false_eq_true, if_false]
    split
    · rfl
    · simp
      rintro - - hl
      exfalso
      (repeat' split at hl) <;> simp at hl
  · simp only [key h, Bool.false_and, Bool.false_eq_true, if_false]
    split
    · rfl
    · simp
      rintro - - hl
      exfalso
      (repeat' split at hl) <;> simp at hl
theorem swn3 (h : env.kindOf x ≠ some .local ∨ env.kindOf y ≠ some .local ∨ env.kindOf z ≠ some .local) : swappedStores [.Tuple [.Name x px, .Name y py, .Name z pz] kt pt] (.Tuple [a, b, d] k2 pt2) env = pure none := by
  have key : ∀ {u : Str}, env.kindOf u ≠ some .local → (env.kindOf u == some NameKind.local) = false := fun {u} h => by simpa using h
  unfold swappedStores
  simp only [List.length_cons, List.length_nil, List.any_cons, List.any_nil, List.filterMap_cons, List.filterMap_nil, Expr.pos, List.head?_cons, Option.map_some, Option.getD_some]
  rcases h with h | h | h
  · simp only [key h, Bool.false_and, Bool.false_eq_true, if_false]
    split
    · rfl
    · simp
      rintro - - - hl
      exfalso
      (repeat' split at hl) <;> simp at hl
  · simp only [key h, Bool.false_and, Bool.false_eq_true, if_false]
    split
    · rfl
    · simp
      rintro - - - hl
      exfalso
      (repeat' split at hl) <;> simp at hl
  · simp only [key h, Bool.false_and, Bool.false_eq_true, if_false]
    split
    · rfl
    · simp
      rintro - - - hl
      exfalso
      (repeat' split at hl) <;> simp at hl
theorem swn_e {tg e : Expr} (h : isTupE e = false ∨ isTupE tg = false) (hl : ∃ y q, tg = .Name y q ∨ (∃ es k, tg = .Tuple es k q) ∨ ∃ o i, tg = .Subscript o i q) : swappedStores [tg] e env = pure none := by
  obtain ⟨u, q, hl⟩ := hl
  unfold swappedStores
  rcases hl with rfl | ⟨es, k, rfl⟩ | ⟨o, i, rfl⟩
  · rfl
  · rcases h with h | h
    · cases e <;> first | rfl | cases h
    · cases h
  · rfl
end

/-! ### statements -/
structure SOk (c : CC) (X : Cx) (R : Orc) : Prop where
  c : CCok c X R
  kind : X.env.scope.kind = .function
  po : PassesOwn (model X.prog X.w) X.A X.env X.xe
section
variable {R : Orc} {W : Nat} {c : CC} {X : Cx} {bs : Bs}
theorem cPar_ok (n : Nat) (ok : CCok c X R) : ∀ {is : List Nat} {es : List Expr} {y : MA}, cPar n c is es = some y → GA X bs es (y.dn R bs.top) ∧ is.length = es.length ∧ es.all notStar = true
  | [], [], y, h => by cases h; exact ⟨ga_nil, rfl, rfl⟩
  | i :: is, e :: es, y, h => by
    rw [cPar] at h
    split at h
    · rename_i hn
      obtain ⟨u, h1, h⟩ := b1 h
      obtain ⟨v, h2, rfl⟩ := m1 h
      obtain ⟨k1, k2, k3⟩ := cPar_ok n ok h2
      exact ⟨ga_cons (cE_ok n _ _ _ _ h1 X bs ok).1 k1 (star_ok hn), by simp [k2], by simp [hn, k3]⟩
    · cases h
  | [], _ :: _, _, h => by cases h
  | _ :: _, [], _, h => by cases h
theorem cSs_ok {f : Stmt → Option MS} (hf : ∀ s y, f s = some y → GS X bs s (y.dn R W bs.top)) : ∀ {ss : List Stmt} {y : MS}, cSs f ss = some y → GSs X bs ss (y.dn R W bs.top)
  | [], y, h => by cases h; exact gss_nil
  | s :: r, y, h => by
    rw [cSs] at h
    obtain ⟨u, h1, h⟩ := b1 h
    obtain ⟨v, h2, rfl⟩ := m1 h
    exact gss_cons (hf s u h1) (cSs_ok hf h2)
theorem slots_ne (ok : CCok c X R) {x y : Str} {i j : Nat} (h1 : slot c x = some i) (h2 : slot c y = some j) (h : x ≠ y) : i ≠ j := fun z => by
  subst z
  have e1 := slot_ok ok h1
  have e2 := slot_ok ok h2
  rw [e1] at e2; cases e2
  exact h rfl
theorem nmT {x : Str} {p : Pos} {t : List Nat × Bool} (h : cT c (.Name x p) = some t) : ∃ i, t = ([i], true) ∧ slot c x = some i := by
  unfold cT at h
  split at h
  · rename_i e; cases e
  · obtain ⟨i, h1, rfl⟩ := m1 h
    unfold cNm at h1
    split at h1
    · rename_i e; cases e
      split at h1
      · exact ⟨i, rfl, h1⟩
      · cases h1
    · rename_i q; exact absurd rfl (q _ _)
set_option maxHeartbeats 40000000 in
theorem cS_ok : ∀ (n : Nat) (s : Stmt) (y : MS), cS n c s = some y → ∀ (X : Cx) (bs : Bs), SOk c X R → GS X bs s (y.dn R W bs.top)
  | 0, _, _, h => by cases h
  | n + 1, s, y, h => fun X bs so => by
    have ok := so.c
    have hf : FOk X bs R (cE n c c.all) := fun e y h => cE_ok n c _ e y h X bs ok
    have hs : ∀ s y, cS n c s = some y → GS X bs s (y.dn R W bs.top) := fun s y h => cS_ok n s y h X bs so
    unfold cS at h
    split at h
    · -- two names, two values
      rename_i x px y0 py kt pt a b _ _ _
      split at h
      · rename_i hc
        simp only [Bool.and_eq_true] at hc
        obtain ⟨⟨c1, c2⟩, c3⟩ := hc
        split at h
        · rename_i hd
          simp only [Bool.and_eq_true, decide_eq_true_eq, Bool.not_eq_true'] at hd
          obtain ⟨⟨⟨d1, d2⟩, d3⟩, d4⟩ := hd
          obtain ⟨i, h1, h⟩ := b1 h
          obtain ⟨j, h2, h⟩ := b1 h
          obtain ⟨as, h3, rfl⟩ := m1 h
          obtain ⟨k1, k2, k3⟩ := cPar_ok (bs := bs) n ok h3
          simp only [List.all_cons, List.all_nil, Bool.and_eq_true] at k3
          exact gs_par2 ok.calm ok.nd (slot_ok ok h1) (slot_ok ok h2) (slots_ne ok h1 h2 d1) (lcl_ok ok c1) (lcl_ok ok c2) k1 (sw2 so.kind (lcl_ok ok c1) (lcl_ok ok c2) c3 d1 k3.1 k3.2.1 d2 d3)
        · cases h
      · obtain ⟨t, h1, h⟩ := b1 h
        split at h
        · rename_i hn
          obtain ⟨as, h2, rfl⟩ := m1 h
          obtain ⟨k1, k2, k3⟩ := cPar_ok (bs := bs) n ok h2
          obtain ⟨t1, t2, _⟩ := cT_ok ok h1
          refine gs_asg (ge_tup k1) t1 (swapsS_ok rfl) (swn2 ?_) t2
          by_cases q : isLcl c x = true
          · refine .inr (lcl_no ok ?_)
            cases q2 : isLcl c y0 with
            | false => rfl
            | true => rw [q, q2] at hn; cases hn
          · exact .inl (lcl_no ok (by simpa using q))
        · cases h
    · -- three
      rename_i x px y0 py z0 pz kt pt a b d _ _ _
      split at h
      · rename_i hc
        simp only [Bool.and_eq_true] at hc
        obtain ⟨⟨⟨⟨c1, c2⟩, c3⟩, c4⟩, c5⟩ := hc
        split at h
        · rename_i hd
          simp only [Bool.and_eq_true, decide_eq_true_eq, Bool.not_eq_true'] at hd
          obtain ⟨⟨⟨⟨⟨d1, d2⟩, d3⟩, d4⟩, d5⟩, d6⟩ := hd
          obtain ⟨i, h1, h⟩ := b1 h
          obtain ⟨j, h2, h⟩ := b1 h
          obtain ⟨l, h2', h⟩ := b1 h
          obtain ⟨as, h3, rfl⟩ := m1 h
          obtain ⟨k1, k2, k3⟩ := cPar_ok (bs := bs) n ok h3
          simp only [List.all_cons, List.all_nil, Bool.and_eq_true] at k3
          exact gs_par3 ok.calm ok.nd (slot_ok ok h1) (slot_ok ok h2) (slot_ok ok h2') (slots_ne ok h1 h2 d1) (slots_ne ok h1 h2' d2) (slots_ne ok h2 h2' d3) (lcl_ok ok c1) (lcl_ok ok c2) (lcl_ok ok c3) k1
            (sw3 so.kind (lcl_ok ok c1) (lcl_ok ok c2) (lcl_ok ok c3) c4 c5 d1 d2 d3 k3.1 k3.2.1 k3.2.2.1 d4 d5)
        · cases h
      · obtain ⟨t, h1, h⟩ := b1 h
        split at h
        · rename_i hn
          obtain ⟨as, h2, rfl⟩ := m1 h
          obtain ⟨k1, k2, k3⟩ := cPar_ok (bs := bs) n ok h2
          obtain ⟨t1, t2, _⟩ := cT_ok ok h1
          refine gs_asg (ge_tup k1) t1 (swapsS_ok rfl) (swn3 ?_) t2
          cases q1 : isLcl c x with
          | false => exact .inl (lcl_no ok q1)
          | true =>
            cases q2 : isLcl c y0 with
            | false => exact .inr (.inl (lcl_no ok q2))
            | true =>
              cases q3 : isLcl c z0 with
              | false => exact .inr (.inr (lcl_no ok q3))
              | true => rw [q1, q2, q3] at hn; cases hn
        · cases h
    · split at h
      · rename_i hc
        simp only [Bool.and_eq_true] at hc
        obtain ⟨u, h1, h⟩ := b1 h
        obtain ⟨v, h2, h⟩ := b1 h
        obtain ⟨w, h3, rfl⟩ := m1 h
        exact gs_sub ok.hu (hf _ _ h1).1 (hf _ _ h2).1 (hf _ _ h3).1 (swapsS_ok hc.1) (swn_e (.inr rfl) ⟨"", _, .inr (.inr ⟨_, _, rfl⟩)⟩) rfl (asub_ok hc.2)
      · cases h
    · -- a comprehension's list under a name
      rename_i x px elt gs scope pos spos
      obtain ⟨t, h1, h⟩ := b1 h
      obtain ⟨y1, h2, h⟩ := b1 h
      obtain ⟨i, rfl, h3⟩ := nmT h1
      obtain ⟨t1, t2, _⟩ := cT_ok ok h1
      split at h
      · rename_i hl
        split at h
        · rename_i hc
          simp only [Bool.and_eq_true, Bool.not_eq_true'] at hc
          cases h
          have hsw := sw_true (elt := elt) (gs := gs) (scope := scope) (pos := pos) (py := px) (y := x) (l := spos.line) (env := X.env) so.kind (lcl_ok ok hl) hc.1 hc.2
          cases n with
          | zero => cases h2
          | succ n =>
            by_cases hg : ∃ tg iter ifs, gs = [⟨tg, iter, ifs, 0⟩]
            · obtain ⟨tg, iter, ifs, rfl⟩ := hg
              obtain ⟨it, tl, one, q, x1, rfl, g1, g2, g3, g4, g5, g6, g7⟩ := lc_parts (bs := bs) (cE_ok n) ok h2
              exact gs_setLc (m := muT c ([i], true)) ok (slot_ok ok h3) (lcl_ok ok hl) hsw g1 g2 g3 g4 g5 g6 g7
            · exfalso
              unfold cE at h2
              split at h2 <;> first | (rename_i e; cases e; exact hg ⟨_, _, _, rfl⟩) | (rename_i e; cases e) | cases h2
        · cases h
      · rename_i hl
        cases h
        refine gs_asg (cE_ok n _ _ _ _ h2 X bs ok).1 t1 ?_ (swn_e (.inl rfl) ⟨_, _, .inl rfl⟩) t2
        have kx : (X.env.kindOf x == some NameKind.local) = false := by simpa using lcl_no ok (by simpa using hl)
        refine swapsS_of ?_
        unfold swapsWith
        simp only [kx, Bool.and_false, Bool.false_and]
    · rename_i tg e spos _ _ _ _
      split at h
      · rename_i hc
        simp only [Bool.and_eq_true, Bool.or_eq_true, Bool.not_eq_true'] at hc
        obtain ⟨t, h1, h⟩ := b1 h
        obtain ⟨u, h2, rfl⟩ := m1 h
        obtain ⟨t1, t2, _⟩ := cT_ok ok h1
        have hk : ∃ y q, tg = .Name y q ∨ (∃ es k, tg = .Tuple es k q) ∨ ∃ o i, tg = .Subscript o i q := by
          unfold cT at h1
          split at h1
          · exact ⟨"", _, .inr (.inl ⟨_, _, rfl⟩)⟩
          · obtain ⟨i, h3, _⟩ := m1 h1
            unfold cNm at h3
            split at h3
            · exact ⟨_, _, .inl rfl⟩
            · cases h3
        exact gs_asg (cE_ok n _ _ _ _ h2 X bs ok).1 t1 (swaps_ok hc.1) (swn_e hc.2 hk) t2
      · cases h
    · split at h
      · rename_i hc
        obtain ⟨u, h1, rfl⟩ := m1 h
        exact gs_exp (hf _ _ h1).1 (swaps_ok hc)
      · cases h
    · obtain ⟨u, h1, rfl⟩ := m1 h
      exact gs_ret (hf _ _ h1).1
    · cases h
      exact gs_retN
    · split at h
      · rename_i hc
        obtain ⟨u, h1, h⟩ := b1 h
        obtain ⟨v, h2, h⟩ := b1 h
        obtain ⟨w, h3, rfl⟩ := m1 h
        exact gs_if ((hf _ _ h1).2 hc) (cSs_ok hs h2) (cSs_ok hs h3)
      · cases h
    · split at h
      · rename_i hc
        obtain ⟨u, h1, h⟩ := b1 h
        obtain ⟨t, h2, h⟩ := b1 h
        obtain ⟨w, h3, rfl⟩ := m1 h
        exact gs_for so.po ok.calm (cI_ok ok hf h1) (cT_ok ok h2).1 (cSs_ok hs h3) (folded_ok hc)
      · cases h
    · split at h
      · rename_i hc
        obtain ⟨u, h1, h⟩ := b1 h
        obtain ⟨w, h3, rfl⟩ := m1 h
        exact gs_whl so.po ((hf _ _ h1).2 hc) (cSs_ok hs h3)
      · cases h
    · cases h; exact gs_brk
    · cases h; exact gs_cnt
    · cases h; exact gs_nop
    · cases h
end
end Ev
namespace Ev
open PySem PySem.Spec PyProof.Rows L2

/-! ### functions by values -/
structure Df where
  ps : Nat
  nN : Nat
  b : MS
  keep : Bool
def frz (S : Sto) (n : Nat) (v : PV) : Option PV := if ltB n v then some v else match v with
  | .ref r => match S[r]? with
    | some (.lst xs) => if xs.all (ltB n) then some (.lst xs) else none
    | some (.dct []) => some .edct
    | _ => none
  | _ => none
def fin (keep : Bool) (n : Nat) (v : PV) (S : Sto) : Option (PV × Sto) := if keep then some (v, S) else (frz S n v).map fun w => (w, S.take n)
def enOf (d : Df) (args : List PV) : En := args.map some ++ List.replicate (d.nN - args.length) none
def runF (d : Df) (R : Orc) (W : Nat) (args : List PV) (S : Sto) : Option (PV × Sto) :=
  if args.length = d.ps then match d.b.dn R W S.length (enOf d args) S with
    | some (.rt v S1) => fin d.keep S.length v S1
    | some (.nx _ S1) => fin d.keep S.length .non S1
    | _ => none
  else none
def run (ds : List Df) (W : Nat) : Nat → Orc
  | 0 => fun _ _ _ => none
  | k + 1 => fun f args S => match ds[f]? with
    | some d => runF d (run ds W k) W args S
    | none => none

section
variable {K : Frag} {H : Hp} {M N : List Addr} {B : Addr → Prop} {bs : Bs} {S : Sto}
mutual
theorem Rp.lt : ∀ {v : PV} {x : V}, Rp K H M B v x → ltB M.length v = true
  | .non, _, _ => by simp [ltB]
  | .bl _, _, _ => by simp [ltB]
  | .int _, _, _ => by simp [ltB]
  | .str _, _, _ => by simp [ltB]
  | .edct, _, _ => by simp [ltB]
  | .scr _, _, _ => by simp [ltB]
  | .ref r, _, h => by
    cases h with
    | ref e => simpa [ltB] using (List.getElem?_eq_some_iff.mp e).1
  | .tup xs, _, h => by
    cases h with
    | tup h1 h2 => rw [ltB_tup]; exact RpL.lt h2
  | .lst xs, _, h => by
    cases h with
    | lst h1 _ _ h2 => rw [ltB_lst]; exact RpL.lt h2
theorem RpL.lt : ∀ {v : List PV} {x : List V}, RpL K H M B v x → v.all (ltB M.length) = true
  | [], _, _ => rfl
  | v :: vs, _, h => by
    cases h with
    | cons h1 h2 =>
      rw [List.all_cons, Bool.and_eq_true]
      exact ⟨Rp.lt h1, RpL.lt h2⟩
end
mutual
theorem Rp.cut : ∀ {v : PV} {x : V}, Rp K H (M ++ N) B v x → ltB M.length v = true → Rp K H M B v x
  | .non, _, h, _ => by cases h; exact .non
  | .bl _, _, h, _ => by cases h; exact .bl _
  | .int _, _, h, _ => by cases h; exact .int _
  | .str _, _, h, _ => by cases h; exact .str _
  | .edct, _, h, _ => by
    cases h with
    | edct h1 h2 h3 => exact .edct h1 (fun z => h2 (List.mem_append_left _ z)) h3
  | .scr _, _, h, _ => by
    cases h with
    | scr h1 h2 h3 => exact .scr h1 (fun z => h2 (List.mem_append_left _ z)) h3
    | scrK h1 => exact .scrK h1
  | .ref r, _, h, l => by
    cases h with
    | ref e =>
      have hl : r < M.length := by simpa [ltB] using l
      rw [List.getElem?_append_left hl] at e
      exact .ref e
  | .tup xs, _, h, l => by
    cases h with
    | tup h1 h2 => rw [ltB_tup] at l; exact .tup h1 (RpL.cut h2 l)
  | .lst xs, _, h, l => by
    cases h with
    | lst h1 h2 h3 h4 => rw [ltB_lst] at l; exact .lst h1 (fun z => h2 (List.mem_append_left _ z)) h3 (RpL.cut h4 l)
theorem RpL.cut : ∀ {v : List PV} {x : List V}, RpL K H (M ++ N) B v x → v.all (ltB M.length) = true → RpL K H M B v x
  | [], _, h, _ => by cases h; exact .nil
  | v :: vs, _, h, l => by
    cases h with
    | cons h1 h2 =>
      rw [List.all_cons, Bool.and_eq_true] at l
      exact .cons (Rp.cut h1 l.1) (RpL.cut h2 l.2)
end
theorem KvR.lt : ∀ {a : List (Key × PV)} {b : List (Key × V)}, KvR K H M B a b → a.all (fun p => ltB M.length p.2) = true
  | _, _, .nil => rfl
  | _, _, .cons h r => by
    rw [List.all_cons, Bool.and_eq_true]
    exact ⟨h.2.lt, KvR.lt r⟩
theorem KvR.cut : ∀ {a : List (Key × PV)} {b : List (Key × V)}, KvR K H (M ++ N) B a b → a.all (fun p => ltB M.length p.2) = true → KvR K H M B a b
  | _, _, .nil, _ => .nil
  | _, _, .cons h r, l => by
    rw [List.all_cons, Bool.and_eq_true] at l
    exact .cons ⟨h.1, h.2.cut l.1⟩ (KvR.cut r l.2)
theorem RpO.lt {o : SObj} {u : HO} (h : RpO K H M B o u) : o.ltB M.length = true := by
  cases h with
  | lst h => exact h.lt
  | dct h => exact KvR.lt h
theorem RpO.cut {o : SObj} {u : HO} (h : RpO K H (M ++ N) B o u) (l : o.ltB M.length = true) : RpO K H M B o u := by
  cases h with
  | lst h => exact .lst (h.cut l)
  | dct h => exact .dct (KvR.cut h l)
/-- the bases within a callee -/
def Bs.call (bs : Bs) (n : Nat) (h : bs.top ≤ n) : Bs := ⟨n, fun b => bs.P b ∨ b = n, fun b hb => hb.elim (fun z => Nat.le_trans (bs.le b z) h) fun z => Nat.le_of_eq z⟩
theorem StR.enter (h : StR K H M B bs S) : StR K H M B (bs.call S.length h.le) S :=
  ⟨h.len, h.nd, h.ob, h.bd, h.mb, fun b r o hb hr e => by
    rcases hb with hb | rfl
    · exact h.wf b r o hb hr e
    · have hr' : r < M.length := by rw [h.len]; exact hr
      obtain ⟨u, _, x⟩ := h.ob r o M[r] e (List.getElem?_eq_getElem hr')
      rw [← h.len]; exact x.lt, Nat.le_refl _⟩
/-- behind a callee -/
theorem leave {keep : Bool} {v w : PV} {x : V} {S1 S2 : Sto} {H1 : Hp} (h : StR K H M B bs S) (e : fin keep S.length v S1 = some (w, S2)) (f : Stp M H N H1) (st : StR K H1 (M ++ N) B (bs.call S.length h.le) S1) (r : Rp K H1 (M ++ N) B v x) {Q : VK}
    (q : Post K M H B bs w S2 Q) : Q x H1 := by
  cases keep with
  | true =>
    simp only [fin, if_true, Option.some.injEq, Prod.mk.injEq] at e
    obtain ⟨rfl, rfl⟩ := e
    exact q H1 N x f ⟨st.len, st.nd, st.ob, st.bd, st.mb, fun b r o hb hr e => st.wf b r o (.inl hb) hr e, Nat.le_trans h.le st.le⟩ r
  | false =>
    simp only [fin, Bool.false_eq_true, if_false] at e
    obtain ⟨w', e1, e2⟩ := Option.map_eq_some_iff.mp e
    cases e2
    have f0 : Stp M H [] H1 := ⟨f.keep, f.dom, fun _ z => nomatch z⟩
    have hnd := List.nodup_append.mp st.nd
    have st0 : StR K H1 M B bs (S1.take S.length) := by
      refine ⟨?_, hnd.1, fun r o a e1 e2 => ?_, st.bd, fun a ha => st.mb a (List.mem_append_left _ ha), fun b r o hb hr e => ?_, ?_⟩
      · have := st.len
        have h1 := h.len
        rw [List.length_append] at this
        rw [List.length_take]; omega
      · have hr : r < S.length := by
          have := (List.getElem?_eq_some_iff.mp e1).1
          rw [List.length_take] at this; omega
        rw [List.getElem?_take_of_lt hr] at e1
        obtain ⟨u, hu, xo⟩ := st.ob r o a e1 (by rw [List.getElem?_append_left (by rw [h.len]; exact hr)]; exact e2)
        refine ⟨u, hu, xo.cut ?_⟩
        rw [h.len]
        exact st.wf S.length r o (.inr rfl) hr e1
      · have hr' : r < S.length := by
          have := (List.getElem?_eq_some_iff.mp e).1
          rw [List.length_take] at this; omega
        rw [List.getElem?_take_of_lt hr'] at e
        exact st.wf b r o (.inl hb) hr e
      · have : S.length ≤ S1.length := st.le
        rw [List.length_take]
        have := h.le
        omega
    refine q H1 [] x f0 (by rw [List.append_nil]; exact st0) ?_
    rw [List.append_nil]
    unfold frz at e1
    split at e1
    · rename_i hl
      cases e1
      exact r.cut (by rw [h.len]; exact hl)
    · rename_i hl
      split at e1
      · rename_i r0
        cases r with
        | ref er =>
          rename_i a
          have hr0 : ¬ r0 < M.length := by
            rw [h.len]; intro z; exact hl (by simpa [ltB] using z)
          have haN : a ∉ M := fun z => by
            rw [List.getElem?_append_right (by omega)] at er
            exact hnd.2.2 a z a (List.mem_of_getElem? er) rfl
          have haB := st.mb a (List.mem_of_getElem? er)
          split at e1
          · rename_i xs hx
            split at e1
            · rename_i hall
              cases e1
              obtain ⟨u, hu, xo⟩ := st.ob r0 _ a hx er
              cases xo with
              | lst xo => exact .lst hu haN haB (xo.cut (by rw [h.len]; exact hall))
            · cases e1
          · rename_i hx
            cases e1
            obtain ⟨u, hu, xo⟩ := st.ob r0 _ a hx er
            cases xo with
            | dct xo => cases xo; exact .edct hu haN haB
          · cases e1
      · cases e1
end
end Ev
namespace Ev
open PySem PySem.Spec PyProof.Rows L2

/-! ### the promise of a def, where no repr is under way -/
structure FnG (P : Program) (w : World) (K : Frag) (mg : Str → Option Value) (base : Heap) (k : Nat) (f : Addr) (fd : FuncData) (ps : List Str) (sp : List V → Hp → VK → Prop) : Prop where
  len : ∀ vs H Q, sp vs H Q → vs.length = ps.length
  run : ∀ (A : Around) (outer : List Env) (s : Shared) (H : Hp) (args : Args) (us : List Value) (vs : List V) (Q : VK), Room k A → A.guards = some [] → Env0 P w K mg base A outer s H → BindsTo s fd args (ps.zip us) → Vals vs us → sp vs H Q →
    codeAny (model P w) A (.call (.ref f) args) (CR CX0 outer P w H s Q E0) s
/-- what a def at an address is, by values -/
def spV (K : Frag) (n : Nat) (fl : FL) : List V → Hp → VK → Prop := fun vs H Q => vs.length = n ∧ ∃ bs, RRL K bs fl vs H Q
/-- one def of the text: its place in the table, its body in the small language -/
structure DefOk (K : Frag) (mg : Str → Option Value) (df : List (Str × Nat)) (x : Str) (d : Df) (f : Addr) (fd : FuncData) (ps : List Str) : Prop where
  mgf : mg x = some (.ref f)
  keep : PySem.W.keepIn K (.ref f) = true
  binds : Binds K fd ps []
  np : d.ps = ps.length
  ex : ∃ (st : Stmt) (cc : CC) (n : Nat), L2.Fun K x x st f fd ∧ FnScope cc.N ps (defScope st) ∧ cc.sc = defScope st ∧ (cc.fn = fun _ => true) ∧ cc.df = df ∧ cc.N.length = d.nN ∧ cSs (cS n cc) (defBody st) = some d.b
section
variable {P : Program} {w : World} {K : Frag} {mg : Str → Option Value} {base : Heap} {df : List (Str × Nat)} {ds : List Df} {W : Nat}
/-- the callees at a level -/
def Lv (P : Program) (w : World) (K : Frag) (mg : Str → Option Value) (base : Heap) (df : List (Str × Nat)) (ds : List Df) (W k : Nat) : Prop :=
  ∀ x g, df.lookup x = some g → ∃ f fd ps, mg x = some (.ref f) ∧ PySem.W.keepIn K (.ref f) = true ∧ Binds K fd ps [] ∧ FnG P w K mg base k f fd ps (spV K ps.length (run ds W k g)) ∧ ∃ d, ds[g]? = some d ∧ d.ps = ps.length
theorem run_len {k g : Nat} {as : List PV} {S : Sto} {r : PV × Sto} {d : Df} (hd : ds[g]? = some d) (h : run ds W k g as S = some r) : as.length = d.ps := by
  cases k with
  | zero => cases h
  | succ k =>
    simp only [run, hd] at h
    unfold runF at h
    split at h
    · assumption
    · cases h
theorem call_lv {k : Nat} {x : Str} {g : Nat} (L : Lv P w K mg base df ds W k) (h : df.lookup x = some g) {A : Around} (hr : Room k A) (hg : A.guards = some []) :
    ∃ a, mg x = some (.ref a) ∧ PySem.W.keepIn K (.ref a) = true ∧ CallW P w K mg base A (.ref a) (run ds W k g) := by
  obtain ⟨f, fd, ps, h1, h2, h3, h4, d, hd, hps⟩ := L x g h
  refine ⟨f, h1, h2, fun X bs e1 e2 e3 e4 e5 e6 => ?_⟩
  subst e1; subst e2; subst e3; subst e4; subst e5; subst e6
  intro pins s σ H xs us Q I r q
  have hl : xs.length = ps.length := by
    obtain ⟨M, B, S, as, v, S', hS, ra, e, _⟩ := id q
    rw [ra.length, run_len hd e, hps]
  have hl2 : (us ++ []).length = ps.length := by rw [List.append_nil, ← r.length]; exact hl
  have hb := h3 s us I.kIn hl2
  rw [List.append_nil] at hb
  refine wpAny_call (codeAny_mono (h4.run X.A X.stack s H ⟨us, []⟩ us xs Q hr hg I.env0 hb r ⟨hl, bs, q⟩) fun r s' hq => ?_)
  cases r with
  | error e => exact False.elim hq
  | ok fl =>
    cases fl with
    | ret u => exact I.after hq
    | next => exact False.elim hq
    | brk => exact False.elim hq
    | cont => exact False.elim hq
/-- a level more -/
theorem fn_lv {k : Nat} {x : Str} {g : Nat} {d : Df} {f : Addr} {fd : FuncData} {ps : List Str} (L : Lv P w K mg base df ds W k) (blt : ∀ x ∈ bltNames, mg x = none) (hd : ds[g]? = some d) (D : DefOk K mg df x d f fd ps) :
    FnG P w K mg base (k + 1) f fd ps (spV K ps.length (run ds W (k + 1) g)) := by
  obtain ⟨mgf, keep, binds, np, st, cc, n, F, Sc, c1, c2, c3, c4, hc⟩ := D
  obtain ⟨oc, od, kV, doc, pm, an, cdv, ct, osl, rfl, lk, hcd⟩ := F.ex
  refine ⟨fun vs H Q h => h.1, fun A outer s H args us vs Q hr hg e0 hb r ⟨hl, bs, q⟩ => ?_⟩
  have KX : K.In s.heap := e0.mod.kin.keeps fun b o e => (e0.bs b o e).1
  have lim : s.heap.NoLimit := e0.mod.nolimit.keeps fun b o e => (e0.bs b o e).1
  have par : ∀ y ∈ ps.zip us, (defScope st).names.lookup y.1 = some .local ∨ ((defScope st).names.lookup y.1 = some .cell ∧ ((cellsFrom (s.heap.objs.size + 1) (defScope st).names []).lookup y.1).isSome = true) := by
    rintro ⟨y, v⟩ hy
    have hyp := (List.of_mem_zip hy).1
    exact (Sc.par y hyp).imp id fun z => ⟨z, PySem.W.cellsFrom_some _ _ _ (.inl z)⟩
  refine codeAny_call_function hr.depth (KX _ _ lk) rfl Sc.co Sc.gen rfl (PySem.W.codeRec_of KX hcd) (hb _ _ _ _ (wpAny_newFunctionEnv_cells Sc.kind par fun env he s1 hs1 => ?_))
  subst he
  refine ⟨lim.keeps hs1.toInCall.keep, codeAny_func ?_⟩
  have I := inv_start (CX := CX0) (E := E0) Sc hr.hd e0 hl r hs1
  -- the body
  have hrd : Room k (A.deeper (envOfC x (defScope st) s.heap.objs.size f cdv)) := hr.deeper _
  have hgd : (A.deeper (envOfC x (defScope st) s.heap.objs.size f cdv)).guards = some [] := hg
  obtain ⟨M, B, S, as, v, S', hS, ra, e, post⟩ := q
  simp only [run, hd] at e
  unfold runF at e
  split at e
  · rename_i hal
    have X0 : SOk cc (cxOf CX0 P w K mg base cc.N x (defScope st) f cdv A outer s H E0).nox (run ds W k) := by
      refine ⟨⟨c1.symm, c2.symm, rfl, Sc.nd, rfl, ?_, hgd, blt, fun y g' hy => ?_⟩, Sc.kind, PassesOwn.never⟩
      · have := hrd.un
        show (A.deeper (envOfC x (defScope st) s.heap.objs.size f cdv)).units + 65 < cLine
        omega
      · rw [c3] at hy
        exact call_lv L hy hrd hgd
    have body : PSs (cxOf CX0 P w K mg base cc.N x (defScope st) f cdv A outer s H E0) (defBody st) (RS K (bs.call S.length hS.le) (d.b.dn (run ds W k) W S.length)) :=
      (cSs_ok (bs := bs.call S.length hS.le) (fun s' y' h' => cS_ok n s' y' h' _ _ X0) hc).nox
    have hRs : Rs K M B (bs.call S.length hS.le) (enOf d as) S (start cc.N vs) H := by
      have hva : vs.length = as.length := ra.length
      refine ⟨hS.enter, ?_, fun i pv ei => ?_⟩
      · unfold enOf L2.start
        rw [List.length_append, List.length_append, List.length_map, List.length_map, List.length_replicate, List.length_replicate, hva, c4]
      · unfold enOf at ei
        unfold L2.start
        by_cases hi : i < as.length
        · rw [List.getElem?_append_left (by simpa using hi), List.getElem?_map] at ei
          cases ea : as[i]? with
          | none => rw [ea] at ei; cases ei
          | some a =>
            rw [ea] at ei; cases ei
            obtain ⟨y, hy, ry⟩ := ra.get ea
            exact ⟨y, by rw [List.getElem?_append_left (by simpa [hva] using hi), List.getElem?_map, hy]; rfl, ry⟩
        · rw [List.getElem?_append_right (by simpa using hi), List.getElem?_replicate] at ei
          split at ei <;> cases ei
    have stp : ∀ {H' : Hp} {M' : List Addr}, Fut M H M' H' → ∃ N, M' = M ++ N ∧ Stp M H N H' := fun f => f
    have run1 : RS K (bs.call S.length hS.le) (d.b.dn (run ds W k) W S.length) { nx := fun _ H' => Q .non H', rt := Q } (start cc.N vs) H := by
      refine ⟨M, B, enOf d as, S, hRs, ?_⟩
      split at e
      · rename_i v1 S1 hb1
        refine ⟨_, hb1, fun H' M' y fu st' ry => ?_⟩
        obtain ⟨N, rfl, fs⟩ := fu
        exact leave hS e fs st' ry post
      · rename_i en1 S1 hb1
        refine ⟨_, hb1, fun H' M' σ' fu hr' => ?_⟩
        obtain ⟨N, rfl, fs⟩ := fu
        exact leave hS e fs hr'.st .non post
      · cases e
    refine wpAny_mono (body.run [] s1 (start cc.N vs) H _ I run1) (fun fl s' hs => ?_) fun e s' hs => hs
    have done : ∀ {σ' : L2.St} {H' : Hp} {y : V} {u : Value}, Inv (cxOf CX0 P w K mg base cc.N x (defScope st) f cdv A outer s H E0) [] σ' H' s' → RelV y u → Q y H' → CE outer P w H s Q u s' :=
      fun J ry qy => ⟨_, _, J.os, J.bare, J.base, J.hok, ry, qy⟩
    cases fl with
    | ret u => obtain ⟨y, σ', H', J, ry, qy⟩ := hs; exact done J ry qy
    | next => obtain ⟨σ', H', J, qy⟩ := hs; exact done (y := V.non) (u := Value.none) J rfl qy
    | brk => obtain ⟨_, _, _, z⟩ := hs; exact False.elim z
    | cont => obtain ⟨_, _, _, z⟩ := hs; exact False.elim z
  · cases e
/-- all levels -/
theorem lv_all (blt : ∀ x ∈ bltNames, mg x = none) (D : ∀ x g, df.lookup x = some g → ∃ d f fd ps, ds[g]? = some d ∧ DefOk K mg df x d f fd ps) : ∀ k, Lv P w K mg base df ds W k
  | 0 => fun x g h => by
    obtain ⟨d, f, fd, ps, hd, dk⟩ := D x g h
    exact ⟨f, fd, ps, dk.mgf, dk.keep, dk.binds, ⟨fun vs H Q h => h.1, fun A outer s H args us vs Q hr hg e0 hb r ⟨_, bs, M, B, S, as, v, S', _, _, e, _⟩ => by cases e⟩, d, hd, dk.np⟩
  | k + 1 => fun x g h => by
    obtain ⟨d, f, fd, ps, hd, dk⟩ := D x g h
    exact ⟨f, fd, ps, dk.mgf, dk.keep, dk.binds, fn_lv (lv_all blt D k) blt hd dk, d, hd, dk.np⟩
end
end Ev
namespace Ev
open PySem PySem.Spec PyProof.Rows L2

/-! ### the law's own call -/
section
variable {P : Program} {w : World} {K : Frag} {mg mb : Str → Option Value} {k : Nat} {fa a : Addr} {fd : FuncData} {x : Str} {fl : FL} {s : Shared} {vs : List Value} {ns : List Int}
/-- the script's abstract heap, and what is hidden by it -/
theorem law_at (KX : K.In s.heap) (hns : s.heap.Ns mainGlobals mg) (hb : s.heap.Ns builtinsNs mb) (hbb : ∀ y : Str, y ≠ "__name__" → mb y = bootBuiltins y) (hlim : s.heap.NoLimit) (hg : s.gens = #[])
    (ha : s.heap.get? a = some { cls := .type "list", data := .seq vs.toArray }) (hr : Room k callerA) (F : ∀ base : Heap, K.In base → base.Ns mainGlobals mg → FnG P w K mg base k fa fd [x] (spV K 1 fl))
    (hbind : ∀ (s : Shared) (u : Value), BindsTo s fd ⟨[u], []⟩ [(x, u)]) (hfl : ∃ S', fl [.scr ns] [] = some (.bl true, S'))
    (H : Hp) (only : Only H) (hS : SqL K H a (ns.map V.int)) (hok : HOk P w H s.heap) (one : ∀ b, H b ≠ none → b = a) (out : H a ≠ none → K.lookup a = none) :
    codeAny (model P w) callerA (.call (.ref fa) ⟨[.ref a], []⟩) (fun r s' => r = .ok (.ret (.bool true)) ∧ OldK s.heap s'.heap ∧ s'.os = s.os ∧ AllBare s'.gens) s := by
  -- no dict stands under the abstract heap
  have dk : ∀ {b : Addr} {o : Obj} {es : Array DictEntry} {ep : Nat}, s.heap.get? b = some o → o.data = .dict es ep → H b = none := by
    intro b o es ep e dd
    by_cases q : H b = none
    · exact q
    · have := one b q
      subst this
      rw [ha] at e
      cases e
      exact absurd (show Data.seq vs.toArray _ = Data.dict es ep from dd) (fun z => by cases z)
  have hide : ∀ {b : Addr} {m : Str → Option Value}, s.heap.Ns b m → (hidT s.heap H).Ns b m := by
    rintro b m ⟨o, es, ep, e, dd, r⟩
    exact ⟨o, es, ep, hidT_get e (dk e dd), dd, r⟩
  have KB : K.In (hidT s.heap H) := by
    intro b o e
    refine hidT_get (KX b o e) ?_
    by_cases q : H b = none
    · exact q
    · have hb := one b q
      rw [hb] at e q
      rw [out q] at e
      cases e
  have E : Env0 P w K mg (hidT s.heap H) callerA [] s H := by
    refine ⟨rfl, ⟨KB, hide hns, ⟨mb, hide hb, hbb⟩, ?_⟩, fun b o e => of_hidT e, Nat.le_of_eq (hidT_size _ _), trivial, fun b hb => ?_, hok, .of_eq hg⟩
    · obtain ⟨mc, h1, h2⟩ := hlim
      exact ⟨mc, hide h1, h2⟩
    · exact absurd (show b ∈ ([] : List Addr) from hb) List.not_mem_nil
  obtain ⟨S', hS'⟩ := hfl
  have want : spV K 1 fl [.ref a] H fun v _ => v = .bl true := by
    refine ⟨rfl, ⟨0, fun _ => False, fun _ z => z.elim⟩, [], fun _ => False, [], [.scr ns], .bl true, S', ?_, .cons ?_ .nil, hS', fun H' N y _ _ r => by cases r; rfl⟩
    · exact ⟨rfl, List.nodup_nil, fun r o b e => by simp at e, fun b z => z.elim, fun b z => by simp at z, fun b r o z => z.elim, Nat.le_refl _⟩
    · rcases hS with h | h
      · exact .scr h List.not_mem_nil id
      · exact .scrK h
  refine codeAny_mono ((F _ KB (hide hns)).run callerA [] s H ⟨[.ref a], []⟩ [.ref a] [.ref a] _ hr rfl E (hbind s (.ref a)) (.cons rfl .nil) want) fun r s' q => ?_
  match r, q with
  | .ok (.ret u), ⟨v, H', os, bare, un, hok', ru, qv⟩ =>
    have qv : v = .bl true := qv
    subst qv
    obtain rfl : u = Value.bool true := ru
    refine ⟨rfl, OldK.of_keep fun b o e => ?_, os, bare⟩
    cases hH : H b with
    | none => exact un.keep b o e hH (fun z => absurd (show b ∈ ([] : List Addr) from z) List.not_mem_nil) List.not_mem_nil
    | some u =>
      rcases only b with z | ⟨ob, xs, z⟩
      · rw [hH] at z; cases z
      · have old := (hok b _ z).1
        have new := (hok' b _ (un.frzs b ob _ z)).1
        rw [e] at old; cases old
        exact new
end
/-- the goal behind the head -/
theorem walk_G {l : PySem.W.OpenLaw} {n k : Nat} {q : Program} {loose : List Str} {XP : (Str → Option Value) → Heap → Prop} {YP : World → Heap → Prop} {d : DefRec} {K : Params → Frag} {fl : FL} {x : Str}
    (hn : l.most = some n) (hn2 : n ≤ sizeLine) (hdf : d.params.defaults = []) (hr : Room k callerA) (hY : ∀ (w : World) (h : Heap), YP w h → (K w.params).In h)
    (F : ∀ (w : World) (mg : Str → Option Value) (fa : Addr) (h : Heap), (K w.params).In h → h.Ns mainGlobals mg → mg d.name = some (.ref fa) →
      ∃ fd : FuncData, (∀ (s : Shared) (u : Value), BindsTo s fd ⟨[u], []⟩ [(x, u)]) ∧ ∀ base : Heap, (K w.params).In base → base.Ns mainGlobals mg → FnG l.prog w (K w.params) mg base k fa fd [x] (spV (K w.params) 1 fl))
    (hfl : ∀ ns : List Int, ns.length ≤ n → ∃ S', fl [.scr ns] [] = some (.bl true, S')) :
    PySem.W.WalkO q loose XP YP l.row.toRowW d [] (fun f vs => PySem.call f vs) := by
  refine Att.attach_call hn hdf fun w s₀ s mg mb fa o pm cd doc a vs ns G Y ho hd hcd hmg hobj hints hlen hg => ?_
  have KX := hY w _ Y
  obtain ⟨fd, hbind, hF⟩ := F w mg fa _ KX G.T.g hmg
  have rv := vals_ints hints
  have ln := hints.length
  have go := law_at (P := l.prog) (w := w) KX G.T.g G.T.b G.T.builtins G.T.nolimit hg hobj hr hF hbind (hfl ns hlen)
  have sz : vs.length ≤ sizeLine := by
    rw [ln]; exact Nat.le_trans hlen hn2
  cases lk : (K w.params).lookup a with
  | some o' =>
    have e := KX a o' lk
    rw [hobj] at e
    cases e
    exact go (fun _ => none) (fun _ => .inl rfl) (.inr ⟨_, vs.toArray, _, lk, rfl, rfl, rfl, by rw [List.size_toArray]; exact sz, rv⟩) (fun b u z => by cases (show (none : Option HO) = some u from z)) (fun b z => absurd rfl z) fun z => absurd rfl z
  | none =>
    let H : Hp := fun b => if b = a then some (.frz { cls := .type "list", data := .seq vs.toArray } (.lst (ns.map V.int))) else none
    have Ha : H a = some (.frz { cls := .type "list", data := .seq vs.toArray } (.lst (ns.map V.int))) := if_pos rfl
    have Hn : ∀ {b : Addr}, b ≠ a → H b = none := fun h => if_neg h
    refine go H (fun b => ?_) (.inl (.inr ⟨_, Ha⟩)) (fun b u z => ?_) (fun b z => ?_) fun _ => lk
    · by_cases hb : b = a
      · subst hb; exact .inr ⟨_, _, Ha⟩
      · exact .inl (Hn hb)
    · by_cases hb : b = a
      · subst hb
        rw [Ha] at z
        cases z
        exact ⟨hobj, by rw [List.length_map, ← ln]; exact sz, vs, _, rv, hobj⟩
      · rw [Hn hb] at z; cases z
    · by_cases hb : b = a
      · exact hb
      · exact absurd (Hn hb) z

/-! ### the table of defs -/
theorem mkDf {K : Frag} {h : Heap} {mg : Str → Option Value} {df : List (Str × Nat)} {x : Str} {st : Stmt} {cc : CC} {n : Nat} {ps : List Str} {b : MS} {keep : Bool} {f : Addr} {od an : Option Addr} {sl : Array (Option Value)} {oc kV dc pm cd ct : Value}
    (X : K.In h) (G : h.Ns mainGlobals mg) (c1 : cc.sc = defScope st) (c2 : cc.fn = fun _ => true) (c3 : cc.df = df) (sc : FnScope cc.N ps (defScope st)) (cmp : cSs (cS n cc) (defBody st) = some b)
    (bi : ∀ (kV doc pm : Value) (an : Option Addr) (cdv ct : Value) (us : List Value), us.length = ps.length → bindArgs (PySem.W.fnOf x x (defArgs st) (defBody st) (defScope st) .none kV doc pm an cdv ct) ⟨us, []⟩ = pure (ps.zip us))
    (a : PySem.W.nsIn K mainGlobals x = some (some (.ref f))) (l : K.lookup f = some ⟨oc, od, .func (PySem.W.fnOf x x (defArgs st) (defBody st) (defScope st) .none kV dc pm an cd ct), sl⟩) (c : PySem.W.codeIn K cd x = true) (kp : PySem.W.keepIn K (.ref f) = true) :
    DefOk K mg df x ⟨ps.length, cc.N.length, b, keep⟩ f (PySem.W.fnOf x x (defArgs st) (defBody st) (defScope st) .none kV dc pm an cd ct) ps :=
  have F : L2.Fun K x x st f _ := fun_mk l c kp
  ⟨PySem.W.mg_of X G a, kp, F.binds bi, rfl, st, cc, n, F, sc, c1, c2, c3, rfl, cmp⟩
def Dl (K : Frag) (mg : Str → Option Value) (df : List (Str × Nat)) (ds : List Df) (l : List (Str × Nat)) : Prop := ∀ p ∈ l, ∃ d f fd ps, ds[p.2]? = some d ∧ DefOk K mg df p.1 d f fd ps
theorem dl_nil {K : Frag} {mg : Str → Option Value} {df : List (Str × Nat)} {ds : List Df} : Dl K mg df ds [] := fun _ h => nomatch h
theorem dl_cons {K : Frag} {mg : Str → Option Value} {df : List (Str × Nat)} {ds : List Df} {x : Str} {g : Nat} {d : Df} {f : Addr} {fd : FuncData} {ps : List Str} {l : List (Str × Nat)} (D : DefOk K mg df x d f fd ps) (h : ds[g]? = some d) (r : Dl K mg df ds l) : Dl K mg df ds ((x, g) :: l) := fun p hp => by
  rcases List.mem_cons.mp hp with rfl | hp
  · exact ⟨d, f, fd, ps, h, D⟩
  · exact r p hp
theorem Dl.all {K : Frag} {mg : Str → Option Value} {df : List (Str × Nat)} {ds : List Df} (h : Dl K mg df ds df) : ∀ x g, df.lookup x = some g → ∃ d f fd ps, ds[g]? = some d ∧ DefOk K mg df x d f fd ps := fun x g e => h (x, g) (PySem.mem_of_lookup e)
def Bl (K : Frag) (mg : Str → Option Value) (l : List Str) : Prop := ∀ x ∈ l, mg x = none
theorem bl_nil {K : Frag} {mg : Str → Option Value} : Bl K mg [] := fun _ h => nomatch h
theorem bl_cons {K : Frag} {h : Heap} {mg : Str → Option Value} {x : Str} {l : List Str} (X : K.In h) (G : h.Ns mainGlobals mg) (z : PySem.W.nsIn K mainGlobals x = some none) (r : Bl K mg l) : Bl K mg (x :: l) := fun y hy => by
  rcases List.mem_cons.mp hy with rfl | hy
  · exact PySem.W.mg_none_of X G z
  · exact r y hy
/-- the law's own promise -/
theorem law_G {P : Program} {w : World} {K : Frag} {mg : Str → Option Value} {df : List (Str × Nat)} {ds : List Df} {W k g : Nat} {x p : Str} {d : Df} {fa f : Addr} {fd : FuncData} {h : Heap} (X : K.In h) (G : h.Ns mainGlobals mg) (hfa : mg x = some (.ref fa)) (bl : Bl K mg bltNames) (D : Dl K mg df ds df)
    (hd : ds[g]? = some d) (L : DefOk K mg df x d f fd [p]) (hb : ∀ (s : Shared) (u : Value), BindsTo s fd ⟨[u], []⟩ [(p, u)]) :
    ∃ fd : FuncData, (∀ (s : Shared) (u : Value), BindsTo s fd ⟨[u], []⟩ [(p, u)]) ∧ ∀ base : Heap, K.In base → base.Ns mainGlobals mg → FnG P w K mg base (k + 1) fa fd [p] (spV K 1 (run ds W (k + 1) g)) := by
  have e := hfa.symm.trans L.mgf
  cases e
  exact ⟨fd, hb, fun base _ _ => fn_lv (lv_all bl D.all k) bl hd L⟩
end Ev
namespace Ev
open PySem PySem.Spec PyProof.Rows L2
def dfs : List (Str × Nat) := [(Str.ofString "sum_of", 0), (Str.ofString "are_even", 1), (Str.ofString "first_one", 2), (Str.ofString "told_rows", 3), (Str.ofString "sum_of_rows", 4), (Str.ofString "free_base", 5), (Str.ofString "has_row", 6), (Str.ofString "lot_that_makes", 7), (Str.ofString "reduced", 8), (Str.ofString "is_integer", 9), (Str.ofString "is_row", 10), (Str.ofString "is_worded", 11), (Str.ofString "first_odd", 12), (Str.ofString "marks_at", 13), (Str.ofString "seen_at", 14), (Str.ofString "rank_at", 15), (Str.ofString "marks_paper", 16), (Str.ofString "judge_marks", 17), (Str.ofString "marks_count", 18), (Str.ofString "_law_source", 19), (Str.ofString "_law_pick", 20), (Str.ofString "_law_of", 21), (Str.ofString "_law_mixed", 22), (Str.ofString "_law_sum", 23), (Str.ofString "_law_told", 24), (Str.ofString "_law_row", 25), (Str.ofString "_law_base", 26), (Str.ofString "_law_code", 27), (Str.ofString "_law_some_row", 28), (Str.ofString "_law_is_odd", 29), (Str.ofString "_law_leading", 30), (Str.ofString "_law_free", 31), (Str.ofString "_law_other", 32), (Str.ofString "_law_has", 33), (Str.ofString "_law_number", 34), (Str.ofString "_law_are_below", 35), (Str.ofString "_law_is_row", 36), (Str.ofString "_law_bent", 37), (Str.ofString "_law_places", 38), (Str.ofString "_law_at", 39), (Str.ofString "_law_seen", 40), (Str.ofString "_law_fault", 41), (Str.ofString "law", 42)]
/-- sum_of -/
def st0 : Stmt := PySem.Challenge.pw_lacednets_k77_rows_with_told_marks.main.body.getD 1 (.Pass ⟨0, 0, 0, 0⟩)
def cc0 : CC := { sc := defScope st0, fn := fun _ => true, N := ["one", "other", "k", "mark"], df := dfs, mu := [], all := false }
def ps0 : List Str := ["one", "other"]
def bd0 : MS := (.seq (.ret (.blt .tup (.cons (.lc false (.enu (.var 0)) [2, 3] false [2, 3] .no (.blt .int (.cons (.cmp .NotEq (.var 3) (.idx (.var 1) (.var 2))) .nil))) .nil))) .nop)
/-- are_even -/
def st1 : Stmt := PySem.Challenge.pw_lacednets_k77_rows_with_told_marks.main.body.getD 3 (.Pass ⟨0, 0, 0, 0⟩)
def cc1 : CC := { sc := defScope st1, fn := fun _ => true, N := ["one", "other", "a", "b"], df := dfs, mu := [], all := false }
def ps1 : List Str := ["one", "other"]
def bd1 : MS := (.seq (.ret (.cmp .Eq (.bin .Mod false (.blt .sum (.cons (.lc false (.zip true (.var 0) (.var 1)) [2, 3] false [2, 3] .no (.bin .Mult false (.var 2) (.var 3))) .nil)) (.con (.int 2))) (.con (.int 0)))) .nop)
/-- first_one -/
def st2 : Stmt := PySem.Challenge.pw_lacednets_k77_rows_with_told_marks.main.body.getD 4 (.Pass ⟨0, 0, 0, 0⟩)
def cc2 : CC := { sc := defScope st2, fn := fun _ => true, N := ["row"], df := dfs, mu := [], all := false }
def ps2 : List Str := ["row"]
def bd2 : MS := (.seq (.ret (.met .idx (.var 0) (.cons (.con (.int 1)) .nil))) .nop)
/-- told_rows -/
def st3 : Stmt := PySem.Challenge.pw_lacednets_k77_rows_with_told_marks.main.body.getD 5 (.Pass ⟨0, 0, 0, 0⟩)
def cc3 : CC := { sc := defScope st3, fn := fun _ => true, N := ["rows", "found", "row", "here", "one", "place"], df := dfs, mu := [], all := false }
def ps3 : List Str := ["rows"]
def bd3 : MS := (.seq (.asg [1] true (.lst false .nil)) (.seq (.forS (.seq (.var 0)) [2] true (.seq (.asg [3] true (.var 2)) (.seq (.forS (.seq (.var 1)) [4] true (.seq (.asg [3] true (.ite (.cmp .Eq (.idx (.var 3) (.cal 2 (.cons (.var 4) .nil))) (.con (.int 1))) (.cal 0 (.cons (.var 3) (.cons (.var 4) .nil))) (.var 3))) .nop)) (.seq (.ifS (.cmp .In (.con (.int 1)) (.var 3)) (.seq (.asg [5] true (.cal 2 (.cons (.var 3) .nil))) (.seq (.asg [1] true (.bin .Add false (.lc false (.seq (.var 1)) [4] true [4] .no (.ite (.cmp .Eq (.idx (.var 4) (.var 5)) (.con (.int 1))) (.cal 0 (.cons (.var 4) (.cons (.var 3) .nil))) (.var 4))) (.lst false (.cons (.var 3) .nil)))) .nop)) .nop) .nop)))) (.seq (.ret (.blt .tup (.cons (.blt (.srt true false) (.cons (.var 1) .nil)) .nil))) .nop)))
/-- sum_of_rows -/
def st4 : Stmt := PySem.Challenge.pw_lacednets_k77_rows_with_told_marks.main.body.getD 6 (.Pass ⟨0, 0, 0, 0⟩)
def cc4 : CC := { sc := defScope st4, fn := fun _ => true, N := ["n", "rows", "found", "row"], df := dfs, mu := [], all := false }
def ps4 : List Str := ["n", "rows"]
def bd4 : MS := (.seq (.asg [2] true (.bin .Mult false (.tup (.cons (.con (.int 0)) .nil)) (.var 0))) (.seq (.forS (.seq (.var 1)) [3] true (.seq (.asg [2] true (.cal 0 (.cons (.var 2) (.cons (.var 3) .nil)))) .nop)) (.seq (.ret (.var 2)) .nop)))
/-- free_base -/
def st5 : Stmt := PySem.Challenge.pw_lacednets_k77_rows_with_told_marks.main.body.getD 8 (.Pass ⟨0, 0, 0, 0⟩)
def cc5 : CC := { sc := defScope st5, fn := fun _ => true, N := ["code", "n", "base", "leads", "found", "row", "place", "ones", "lead", "p"], df := dfs, mu := [4], all := false }
def ps5 : List Str := ["code"]
def bd5 : MS := (.seq (.par [1, 2] (.cons (.idx (.var 0) (.con (.int 0))) (.cons (.cal 3 (.cons (.idx (.var 0) (.con (.int 1))) .nil)) .nil))) (.seq (.par [3, 4] (.cons (.lc false (.seq (.var 2)) [5] true [5] .no (.cal 2 (.cons (.var 5) .nil))) (.cons (.lst true .nil) .nil))) (.seq (.forS (.rng (.var 1)) [6] true (.seq (.ifS (.cmp .NotIn (.var 6) (.var 3)) (.seq (.asg [7] true (.bin .Add false (.lst false (.cons (.var 6) .nil)) (.lc false (.zip true (.var 3) (.var 2)) [8, 5] false [8, 5] (.so (.cmp .Eq (.idx (.var 5) (.var 6)) (.con (.int 1)))) (.var 8)))) (.seq (.exp (.met .app (.var 4) (.cons (.blt .tup (.cons (.lc false (.rng (.var 1)) [9] true [9] .no (.blt .int (.cons (.cmp .In (.var 9) (.var 7)) .nil))) .nil)) .nil))) .nop)) .nop) .nop)) (.seq (.ret (.blt .tup (.cons (.var 4) .nil))) .nop))))
/-- has_row -/
def st6 : Stmt := PySem.Challenge.pw_lacednets_k77_rows_with_told_marks.main.body.getD 9 (.Pass ⟨0, 0, 0, 0⟩)
def cc6 : CC := { sc := defScope st6, fn := fun _ => true, N := ["code", "row", "other"], df := dfs, mu := [], all := false }
def ps6 : List Str := ["code", "row"]
def bd6 : MS := (.seq (.ret (.blt .all (.cons (.lc false (.seq (.cal 5 (.cons (.var 0) .nil))) [2] true [2] .no (.cal 1 (.cons (.var 1) (.cons (.var 2) .nil)))) .nil))) .nop)
/-- lot_that_makes -/
def st7 : Stmt := PySem.Challenge.pw_lacednets_k77_rows_with_told_marks.main.body.getD 10 (.Pass ⟨0, 0, 0, 0⟩)
def cc7 : CC := { sc := defScope st7, fn := fun _ => true, N := ["rows", "row", "found", "i", "one", "made", "here"], df := dfs, mu := [2], all := false }
def ps7 : List Str := ["rows", "row"]
def bd7 : MS := (.seq (.asg [2] true (.lst true .nil)) (.seq (.forS (.enu (.var 0)) [3, 4] false (.seq (.asg [5] true (.cal 8 (.cons (.tup (.cons (.var 4) (.cons (.tup (.cons (.var 3) .nil)) .nil))) (.cons (.var 2) .nil)))) (.seq (.ifS (.cmp .In (.con (.int 1)) (.idx (.var 5) (.con (.int 0)))) (.seq (.exp (.met .app (.var 2) (.cons (.var 5) .nil))) .nop) .nop) .nop))) (.seq (.asg [6] true (.cal 8 (.cons (.tup (.cons (.var 1) (.cons (.tup .nil) .nil))) (.cons (.var 2) .nil)))) (.seq (.ret (.ite (.cmp .In (.con (.int 1)) (.idx (.var 6) (.con (.int 0)))) (.con .non) (.idx (.var 6) (.con (.int 1))))) .nop))))
/-- reduced -/
def st8 : Stmt := PySem.Challenge.pw_lacednets_k77_rows_with_told_marks.main.body.getD 11 (.Pass ⟨0, 0, 0, 0⟩)
def cc8 : CC := { sc := defScope st8, fn := fun _ => true, N := ["pair", "found", "row", "numbers", "one", "others", "i"], df := dfs, mu := [], all := false }
def ps8 : List Str := ["pair", "found"]
def bd8 : MS := (.seq (.asg [2, 3] false (.var 0)) (.seq (.forS (.seq (.var 1)) [4, 5] false (.seq (.ifS (.cmp .Eq (.idx (.var 2) (.cal 2 (.cons (.var 4) .nil))) (.con (.int 1))) (.seq (.asg [2] true (.cal 0 (.cons (.var 2) (.cons (.var 4) .nil)))) (.seq (.asg [3] true (.blt .tup (.cons (.blt (.srt false false) (.cons (.lc false (.seq (.tup (.star (.var 3) (.star (.var 5) .nil)))) [6] true [6] (.so (.cmp .NotEq (.cmp .In (.var 6) (.var 3)) (.cmp .In (.var 6) (.var 5)))) (.var 6)) .nil)) .nil))) .nop)) .nop) .nop)) (.seq (.ret (.tup (.cons (.var 2) (.cons (.var 3) .nil)))) .nop)))
/-- is_integer -/
def st9 : Stmt := PySem.Challenge.pw_lacednets_k77_rows_with_told_marks.main.body.getD 12 (.Pass ⟨0, 0, 0, 0⟩)
def cc9 : CC := { sc := defScope st9, fn := fun _ => true, N := ["value"], df := dfs, mu := [], all := false }
def ps9 : List Str := ["value"]
def bd9 : MS := (.seq (.ret (.and (.isi "int" (.var 0)) (.and (.not (.isi "bool" (.var 0))) (.cmp .GtE (.var 0) (.con (.int 0)))))) .nop)
/-- is_row -/
def st10 : Stmt := PySem.Challenge.pw_lacednets_k77_rows_with_told_marks.main.body.getD 13 (.Pass ⟨0, 0, 0, 0⟩)
def cc10 : CC := { sc := defScope st10, fn := fun _ => true, N := ["n", "value", "mark"], df := dfs, mu := [], all := false }
def ps10 : List Str := ["n", "value"]
def bd10 : MS := (.seq (.ret (.and (.isi "tuple" (.var 1)) (.and (.cmp .Eq (.blt .len (.cons (.var 1) .nil)) (.var 0)) (.blt .all (.cons (.lc false (.seq (.var 1)) [2] true [2] .no (.and (.cal 9 (.cons (.var 2) .nil)) (.cmp .Lt (.var 2) (.con (.int 2))))) .nil))))) .nop)
/-- is_worded -/
def st11 : Stmt := PySem.Challenge.pw_lacednets_k77_rows_with_told_marks.main.body.getD 14 (.Pass ⟨0, 0, 0, 0⟩)
def cc11 : CC := { sc := defScope st11, fn := fun _ => true, N := ["value", "words"], df := dfs, mu := [], all := false }
def ps11 : List Str := ["value", "words"]
def bd11 : MS := (.seq (.ret (.and (.isi "tuple" (.var 0)) (.and (.cmp .Eq (.blt .len (.cons (.var 0) .nil)) (.con (.int 2))) (.and (.isi "str" (.idx (.var 0) (.con (.int 0)))) (.cmp .In (.idx (.var 0) (.con (.int 0))) (.var 1)))))) .nop)
/-- first_odd -/
def st12 : Stmt := PySem.Challenge.pw_lacednets_k77_rows_with_told_marks.main.body.getD 15 (.Pass ⟨0, 0, 0, 0⟩)
def cc12 : CC := { sc := defScope st12, fn := fun _ => true, N := ["base", "row", "some", "i", "one"], df := dfs, mu := [], all := false }
def ps12 : List Str := ["base", "row"]
def bd12 : MS := (.seq (.asg [2] true (.lc false (.enu (.var 0)) [3, 4] false [3, 4] (.so (.not (.cal 1 (.cons (.var 4) (.cons (.var 1) .nil))))) (.var 3))) (.seq (.ret (.ite (.var 2) (.idx (.var 2) (.con (.int 0))) (.con .non))) .nop))
/-- marks_at -/
def st13 : Stmt := PySem.Challenge.pw_lacednets_k77_rows_with_told_marks.main.body.getD 17 (.Pass ⟨0, 0, 0, 0⟩)
def cc13 : CC := { sc := defScope st13, fn := fun _ => true, N := ["row", "places", "place"], df := dfs, mu := [], all := false }
def ps13 : List Str := ["row", "places"]
def bd13 : MS := (.seq (.ret (.blt .tup (.cons (.lc false (.seq (.var 1)) [2] true [2] .no (.idx (.var 0) (.var 2))) .nil))) .nop)
/-- seen_at -/
def st14 : Stmt := PySem.Challenge.pw_lacednets_k77_rows_with_told_marks.main.body.getD 18 (.Pass ⟨0, 0, 0, 0⟩)
def cc14 : CC := { sc := defScope st14, fn := fun _ => true, N := ["code", "places", "row"], df := dfs, mu := [], all := false }
def ps14 : List Str := ["code", "places"]
def bd14 : MS := (.seq (.ret (.tup (.cons (.blt .len (.cons (.var 1) .nil)) (.cons (.cal 3 (.cons (.lc false (.seq (.idx (.var 0) (.con (.int 1)))) [2] true [2] .no (.cal 13 (.cons (.var 2) (.cons (.var 1) .nil)))) .nil)) .nil)))) .nop)
/-- rank_at -/
def st15 : Stmt := PySem.Challenge.pw_lacednets_k77_rows_with_told_marks.main.body.getD 19 (.Pass ⟨0, 0, 0, 0⟩)
def cc15 : CC := { sc := defScope st15, fn := fun _ => true, N := ["code", "places"], df := dfs, mu := [], all := false }
def ps15 : List Str := ["code", "places"]
def bd15 : MS := (.seq (.ret (.ite (.var 1) (.blt .len (.cons (.idx (.cal 14 (.cons (.var 0) (.cons (.var 1) .nil))) (.con (.int 1))) .nil)) (.con (.int 0)))) .nop)
/-- marks_paper -/
def st16 : Stmt := PySem.Challenge.pw_lacednets_k77_rows_with_told_marks.main.body.getD 20 (.Pass ⟨0, 0, 0, 0⟩)
def cc16 : CC := { sc := defScope st16, fn := fun _ => true, N := ["code", "places", "marks", "lot", "row", "i", "other", "late", "place"], df := dfs, mu := [], all := false }
def ps16 : List Str := ["code", "places", "marks"]
def bd16 : MS := (.seq (.ifS (.not (.var 1)) (.seq (.ret (.tup (.cons (.con (.str "row")) (.cons (.bin .Mult false (.tup (.cons (.con (.int 0)) .nil)) (.idx (.var 0) (.con (.int 0)))) .nil)))) .nop) .nop) (.seq (.asg [3] true (.cal 7 (.cons (.lc false (.seq (.idx (.var 0) (.con (.int 1)))) [4] true [4] .no (.cal 13 (.cons (.var 4) (.cons (.var 1) .nil)))) (.cons (.var 2) .nil)))) (.seq (.ifS (.cmp .IsNot (.var 3) (.con .non)) (.seq (.ret (.tup (.cons (.con (.str "row")) (.cons (.cal 4 (.cons (.idx (.var 0) (.con (.int 0))) (.cons (.lc false (.seq (.var 3)) [5] true [5] .no (.idx (.idx (.var 0) (.con (.int 1))) (.var 5))) .nil))) .nil)))) .nop) .nop) (.seq (.asg [6] true (.idx (.lc false (.seq (.cal 5 (.cons (.cal 14 (.cons (.var 0) (.cons (.var 1) .nil))) .nil))) [7] true [7] (.so (.not (.cal 1 (.cons (.var 7) (.cons (.var 2) .nil))))) (.var 7)) (.con (.int 0)))) (.seq (.ret (.tup (.cons (.con (.str "none")) (.cons (.blt .tup (.cons (.lc false (.rng (.idx (.var 0) (.con (.int 0)))) [8] true [8] .no (.ite (.cmp .In (.var 8) (.var 1)) (.idx (.var 6) (.met .idx (.var 1) (.cons (.var 8) .nil))) (.con (.int 0)))) .nil)) .nil)))) .nop)))))
/-- judge_marks -/
def st17 : Stmt := PySem.Challenge.pw_lacednets_k77_rows_with_told_marks.main.body.getD 21 (.Pass ⟨0, 0, 0, 0⟩)
def cc17 : CC := { sc := defScope st17, fn := fun _ => true, N := ["code", "places", "marks", "value", "row", "wrong", "place", "mark", "odd"], df := dfs, mu := [], all := false }
def ps17 : List Str := ["code", "places", "marks", "value"]
def bd17 : MS := (.seq (.ifS (.or (.not (.cal 11 (.cons (.var 3) (.cons (.tup (.cons (.con (.str "row")) (.cons (.con (.str "none")) .nil))) .nil)))) (.not (.cal 10 (.cons (.idx (.var 0) (.con (.int 0))) (.cons (.idx (.var 3) (.con (.int 1))) .nil))))) (.seq (.ret (.tup (.cons (.con (.str "form")) .nil))) .nop) .nop) (.seq (.asg [4] true (.idx (.var 3) (.con (.int 1)))) (.seq (.ifS (.cmp .Eq (.idx (.var 3) (.con (.int 0))) (.con (.str "row"))) (.seq (.asg [5] true (.lc false (.zip true (.var 1) (.var 2)) [6, 7] false [6, 7] (.so (.cmp .NotEq (.idx (.var 4) (.var 6)) (.var 7))) (.var 6))) (.seq (.ifS (.var 5) (.seq (.ret (.tup (.cons (.con (.str "place")) (.cons (.idx (.var 5) (.con (.int 0))) .nil)))) .nop) .nop) (.seq (.ret (.ite (.cal 6 (.cons (.var 0) (.cons (.var 4) .nil))) (.con .non) (.tup (.cons (.con (.str "out")) .nil)))) .nop))) .nop) (.seq (.asg [5] true (.lc false (.rng (.idx (.var 0) (.con (.int 0)))) [6] true [6] (.so (.and (.cmp .NotIn (.var 6) (.var 1)) (.cmp .Eq (.idx (.var 4) (.var 6)) (.con (.int 1))))) (.var 6))) (.seq (.ifS (.var 5) (.seq (.ret (.tup (.cons (.con (.str "place")) (.cons (.idx (.var 5) (.con (.int 0))) .nil)))) .nop) .nop) (.seq (.asg [8] true (.cal 12 (.cons (.idx (.var 0) (.con (.int 1))) (.cons (.var 4) .nil)))) (.seq (.ifS (.cmp .IsNot (.var 8) (.con .non)) (.seq (.ret (.tup (.cons (.con (.str "base")) (.cons (.var 8) .nil)))) .nop) .nop) (.seq (.ret (.ite (.cal 1 (.cons (.cal 13 (.cons (.var 4) (.cons (.var 1) .nil))) (.cons (.var 2) .nil))) (.tup (.cons (.con (.str "even")) .nil)) (.con .non))) .nop))))))))
/-- marks_count -/
def st18 : Stmt := PySem.Challenge.pw_lacednets_k77_rows_with_told_marks.main.body.getD 22 (.Pass ⟨0, 0, 0, 0⟩)
def cc18 : CC := { sc := defScope st18, fn := fun _ => true, N := ["code", "places", "marks"], df := dfs, mu := [], all := false }
def ps18 : List Str := ["code", "places", "marks"]
def bd18 : MS := (.seq (.ifS (.cmp .Eq (.idx (.cal 16 (.cons (.var 0) (.cons (.var 1) (.cons (.var 2) .nil)))) (.con (.int 0))) (.con (.str "none"))) (.seq (.ret (.con (.int 0))) .nop) .nop) (.seq (.ret (.bin .LShift false (.con (.int 1)) (.bin .Sub false (.blt .len (.cons (.idx (.var 0) (.con (.int 1))) .nil)) (.cal 15 (.cons (.var 0) (.cons (.var 1) .nil)))))) .nop))
/-- _law_source -/
def st19 : Stmt := PySem.Challenge.pw_lacednets_k77_rows_with_told_marks.main.body.getD 24 (.Pass ⟨0, 0, 0, 0⟩)
def cc19 : CC := { sc := defScope st19, fn := fun _ => true, N := ["script", "mixed", "cell"], df := dfs, mu := [], all := true }
def ps19 : List Str := ["script"]
def bd19 : MS := (.seq (.asg [1] true (.con (.int 11))) (.seq (.forS (.seq (.var 0)) [2] true (.seq (.asg [1] true (.bin .Mod true (.blt .int (.cons (.bin .Add true (.bin .Add true (.bin .Mult true (.var 1) (.con (.int 69069))) (.bin .Mult true (.var 2) (.con (.int 31)))) (.con (.int 5))) .nil)) (.con (.int 2147483629)))) .nop)) (.seq (.ret (.dct true ["cells", "left", "mixed", "turn"] (.cons (.rev true (.lc true (.seq (.var 0)) [2] true [2] .no (.blt .abs (.cons (.var 2) .nil)))) (.cons (.con (.int 1)) (.cons (.var 1) (.cons (.con (.int 0)) .nil)))))) .nop)))
/-- _law_pick -/
def st20 : Stmt := PySem.Challenge.pw_lacednets_k77_rows_with_told_marks.main.body.getD 25 (.Pass ⟨0, 0, 0, 0⟩)
def cc20 : CC := { sc := defScope st20, fn := fun _ => true, N := ["source", "many", "left", "mixed"], df := dfs, mu := [], all := false }
def ps20 : List Str := ["source", "many"]
def bd20 : MS := (.seq (.whl (.and (.cmp .Gt (.var 1) (.con (.int 1))) (.and (.cmp .Lt (.idx (.var 0) (.con (.str "left"))) (.con (.int 2))) (.cmp .Gt (.blt .len (.cons (.idx (.var 0) (.con (.str "cells"))) .nil)) (.con (.int 0))))) (.seq (.sub (.var 0) (.con (.str "left")) (.met .pop (.idx (.var 0) (.con (.str "cells"))) .nil)) .nop)) (.seq (.asg [2] true (.idx (.var 0) (.con (.str "left")))) (.seq (.ifS (.or (.cmp .Lt (.var 1) (.con (.int 2))) (.cmp .Gt (.var 2) (.con (.int 1)))) (.seq (.sub (.var 0) (.con (.str "left")) (.bin .FloorDiv false (.var 2) (.blt .max (.cons (.con (.int 1)) (.cons (.var 1) .nil))))) (.seq (.ret (.bin .Mod false (.blt .int (.cons (.var 2) .nil)) (.blt .max (.cons (.con (.int 1)) (.cons (.var 1) .nil))))) .nop)) .nop) (.seq (.sub (.var 0) (.con (.str "turn")) (.bin .Add false (.idx (.var 0) (.con (.str "turn"))) (.con (.int 1)))) (.seq (.asg [3] true (.bin .Mod false (.blt .int (.cons (.bin .Add false (.idx (.var 0) (.con (.str "mixed"))) (.bin .Mult false (.idx (.var 0) (.con (.str "turn"))) (.con (.int 104729)))) .nil)) (.con (.int 998244353)))) (.seq (.asg [3] true (.bin .Mod false (.blt .int (.cons (.bin .Add false (.bin .Mult false (.var 3) (.var 3)) (.bin .Mult false (.idx (.var 0) (.con (.str "turn"))) (.con (.int 17)))) .nil)) (.con (.int 2147483647)))) (.seq (.sub (.var 0) (.con (.str "mixed")) (.var 3)) (.seq (.ret (.bin .Mod false (.blt .int (.cons (.bin .FloorDiv false (.var 3) (.con (.int 16))) .nil)) (.var 1))) .nop))))))))
/-- _law_of -/
def st21 : Stmt := PySem.Challenge.pw_lacednets_k77_rows_with_told_marks.main.body.getD 26 (.Pass ⟨0, 0, 0, 0⟩)
def cc21 : CC := { sc := defScope st21, fn := fun _ => true, N := ["source", "some"], df := dfs, mu := [], all := false }
def ps21 : List Str := ["source", "some"]
def bd21 : MS := (.seq (.ret (.idx (.var 1) (.cal 20 (.cons (.var 0) (.cons (.blt .len (.cons (.var 1) .nil)) .nil))))) .nop)
/-- _law_mixed -/
def st22 : Stmt := PySem.Challenge.pw_lacednets_k77_rows_with_told_marks.main.body.getD 27 (.Pass ⟨0, 0, 0, 0⟩)
def cc22 : CC := { sc := defScope st22, fn := fun _ => true, N := ["source", "things", "rest", "lap"], df := dfs, mu := [2], all := false }
def ps22 : List Str := ["source", "things"]
def bd22 : MS := (.seq (.asg [2] true (.blt (.lst true) (.cons (.var 1) .nil))) (.seq (.ret (.lc false (.rng (.blt .len (.cons (.var 2) .nil))) [3] true [3] .no (.met .pop (.var 2) (.cons (.cal 20 (.cons (.var 0) (.cons (.blt .len (.cons (.var 2) .nil)) .nil))) .nil)))) .nop))
/-- _law_sum -/
def st23 : Stmt := PySem.Challenge.pw_lacednets_k77_rows_with_told_marks.main.body.getD 28 (.Pass ⟨0, 0, 0, 0⟩)
def cc23 : CC := { sc := defScope st23, fn := fun _ => true, N := ["one", "other", "a", "b"], df := dfs, mu := [], all := false }
def ps23 : List Str := ["one", "other"]
def bd23 : MS := (.seq (.ret (.blt .tup (.cons (.lc false (.zip false (.var 0) (.var 1)) [2, 3] false [2, 3] .no (.blt .int (.cons (.cmp .NotEq (.var 2) (.var 3)) .nil))) .nil))) .nop)
/-- _law_told -/
def st24 : Stmt := PySem.Challenge.pw_lacednets_k77_rows_with_told_marks.main.body.getD 29 (.Pass ⟨0, 0, 0, 0⟩)
def cc24 : CC := { sc := defScope st24, fn := fun _ => true, N := ["n", "rows", "left", "found", "p", "some", "row", "head"], df := dfs, mu := [], all := false }
def ps24 : List Str := ["n", "rows"]
def bd24 : MS := (.seq (.par [2, 3] (.cons (.blt (.lst false) (.cons (.var 1) .nil)) (.cons (.lst false .nil) .nil))) (.seq (.forS (.rng (.var 0)) [4] true (.seq (.asg [5] true (.lc false (.seq (.var 2)) [6] true [6] (.so (.cmp .Eq (.idx (.var 6) (.var 4)) (.con (.int 1)))) (.var 6))) (.seq (.ifS (.cmp .NotEq (.var 5) (.lst false .nil)) (.seq (.asg [7] true (.idx (.var 5) (.con (.int 0)))) (.seq (.asg [3] true (.bin .Add false (.lc false (.seq (.var 3)) [6] true [6] .no (.ite (.cmp .Eq (.idx (.var 6) (.var 4)) (.con (.int 1))) (.cal 23 (.cons (.var 6) (.cons (.var 7) .nil))) (.var 6))) (.lst false (.cons (.var 7) .nil)))) (.seq (.asg [2] true (.lc false (.seq (.var 2)) [6] true [6] (.so (.cmp .NotEq (.var 6) (.var 7))) (.ite (.cmp .Eq (.idx (.var 6) (.var 4)) (.con (.int 1))) (.cal 23 (.cons (.var 6) (.cons (.var 7) .nil))) (.var 6)))) .nop))) .nop) .nop))) (.seq (.ret (.blt .tup (.cons (.var 3) .nil))) .nop)))
/-- _law_row -/
def st25 : Stmt := PySem.Challenge.pw_lacednets_k77_rows_with_told_marks.main.body.getD 30 (.Pass ⟨0, 0, 0, 0⟩)
def cc25 : CC := { sc := defScope st25, fn := fun _ => true, N := ["source", "n", "share", "p"], df := dfs, mu := [], all := false }
def ps25 : List Str := ["source", "n"]
def bd25 : MS := (.seq (.asg [2] true (.cal 21 (.cons (.var 0) (.cons (.lst false (.cons (.con (.int 1)) (.cons (.con (.int 2)) (.cons (.con (.int 2)) (.cons (.con (.int 3)) .nil))))) .nil)))) (.seq (.ret (.blt .tup (.cons (.lc false (.rng (.var 1)) [3] true [3] .no (.blt .int (.cons (.cmp .Lt (.cal 20 (.cons (.var 0) (.cons (.con (.int 4)) .nil))) (.var 2)) .nil))) .nil))) .nop))
/-- _law_base -/
def st26 : Stmt := PySem.Challenge.pw_lacednets_k77_rows_with_told_marks.main.body.getD 31 (.Pass ⟨0, 0, 0, 0⟩)
def cc26 : CC := { sc := defScope st26, fn := fun _ => true, N := ["source", "n", "k", "found", "lap", "row", "p", "q"], df := dfs, mu := [3], all := false }
def ps26 : List Str := ["source", "n", "k"]
def bd26 : MS := (.seq (.asg [3] true (.lst true .nil)) (.seq (.forS (.rng (.bin .Mult false (.con (.int 3)) (.var 2))) [4] true (.seq (.asg [5] true (.cal 25 (.cons (.var 0) (.cons (.var 1) .nil)))) (.seq (.ifS (.and (.cmp .Lt (.blt .len (.cons (.var 3) .nil)) (.var 2)) (.cmp .Gt (.blt .len (.cons (.cal 24 (.cons (.var 1) (.cons (.bin .Add false (.var 3) (.lst false (.cons (.var 5) .nil))) .nil))) .nil)) (.blt .len (.cons (.var 3) .nil)))) (.seq (.exp (.met .app (.var 3) (.cons (.var 5) .nil))) .nop) .nop) .nop))) (.seq (.forS (.seq (.cal 22 (.cons (.var 0) (.cons (.lrg false (.var 1)) .nil)))) [6] true (.seq (.asg [5] true (.blt .tup (.cons (.lc false (.rng (.var 1)) [7] true [7] .no (.blt .int (.cons (.cmp .Eq (.var 7) (.var 6)) .nil))) .nil))) (.seq (.ifS (.and (.cmp .Lt (.blt .len (.cons (.var 3) .nil)) (.var 2)) (.cmp .Gt (.blt .len (.cons (.cal 24 (.cons (.var 1) (.cons (.bin .Add false (.var 3) (.lst false (.cons (.var 5) .nil))) .nil))) .nil)) (.blt .len (.cons (.var 3) .nil)))) (.seq (.exp (.met .app (.var 3) (.cons (.var 5) .nil))) .nop) .nop) .nop))) (.seq (.ifS (.cmp .Eq (.cal 20 (.cons (.var 0) (.cons (.con (.int 4)) .nil))) (.con (.int 0))) (.seq (.asg [3] true (.blt (.lst true) (.cons (.cal 24 (.cons (.var 1) (.cons (.var 3) .nil))) .nil))) .nop) .nop) (.seq (.ret (.blt .tup (.cons (.cal 22 (.cons (.var 0) (.cons (.var 3) .nil))) .nil))) .nop)))))
/-- _law_code -/
def st27 : Stmt := PySem.Challenge.pw_lacednets_k77_rows_with_told_marks.main.body.getD 32 (.Pass ⟨0, 0, 0, 0⟩)
def cc27 : CC := { sc := defScope st27, fn := fun _ => true, N := ["source", "most", "n"], df := dfs, mu := [], all := false }
def ps27 : List Str := ["source", "most"]
def bd27 : MS := (.seq (.asg [2] true (.bin .Add false (.con (.int 1)) (.cal 20 (.cons (.var 0) (.cons (.var 1) .nil))))) (.seq (.ret (.tup (.cons (.var 2) (.cons (.cal 26 (.cons (.var 0) (.cons (.var 2) (.cons (.cal 21 (.cons (.var 0) (.cons (.lst false (.cons (.con (.int 0)) (.cons (.var 2) (.cons (.cal 20 (.cons (.var 0) (.cons (.bin .Add false (.var 2) (.con (.int 1))) .nil))) (.cons (.cal 20 (.cons (.var 0) (.cons (.bin .Add false (.var 2) (.con (.int 1))) .nil))) (.cons (.bin .FloorDiv false (.var 2) (.con (.int 2))) .nil)))))) .nil))) .nil)))) .nil)))) .nop))
/-- _law_some_row -/
def st28 : Stmt := PySem.Challenge.pw_lacednets_k77_rows_with_told_marks.main.body.getD 33 (.Pass ⟨0, 0, 0, 0⟩)
def cc28 : CC := { sc := defScope st28, fn := fun _ => true, N := ["source", "code", "found", "row"], df := dfs, mu := [], all := false }
def ps28 : List Str := ["source", "code"]
def bd28 : MS := (.seq (.asg [2] true (.bin .Mult false (.tup (.cons (.con (.int 0)) .nil)) (.idx (.var 1) (.con (.int 0))))) (.seq (.forS (.seq (.idx (.var 1) (.con (.int 1)))) [3] true (.seq (.asg [2] true (.ite (.cmp .Eq (.cal 20 (.cons (.var 0) (.cons (.con (.int 2)) .nil))) (.con (.int 0))) (.cal 23 (.cons (.var 2) (.cons (.var 3) .nil))) (.var 2))) .nop)) (.seq (.ret (.var 2)) .nop)))
/-- _law_is_odd -/
def st29 : Stmt := PySem.Challenge.pw_lacednets_k77_rows_with_told_marks.main.body.getD 34 (.Pass ⟨0, 0, 0, 0⟩)
def cc29 : CC := { sc := defScope st29, fn := fun _ => true, N := ["one", "other", "a", "b"], df := dfs, mu := [], all := false }
def ps29 : List Str := ["one", "other"]
def bd29 : MS := (.seq (.ret (.cmp .Eq (.bin .Mod false (.blt .int (.cons (.blt .sum (.cons (.lc false (.zip false (.var 0) (.var 1)) [2, 3] false [2, 3] .no (.bin .Mult false (.var 2) (.var 3))) .nil)) .nil)) (.con (.int 2))) (.con (.int 1)))) .nop)
/-- _law_leading -/
def st30 : Stmt := PySem.Challenge.pw_lacednets_k77_rows_with_told_marks.main.body.getD 35 (.Pass ⟨0, 0, 0, 0⟩)
def cc30 : CC := { sc := defScope st30, fn := fun _ => true, N := ["base", "row"], df := dfs, mu := [], all := false }
def ps30 : List Str := ["base"]
def bd30 : MS := (.seq (.ret (.blt .tup (.cons (.lc false (.seq (.var 0)) [1] true [1] .no (.met .idx (.var 1) (.cons (.con (.int 1)) .nil))) .nil))) .nop)
/-- _law_free -/
def st31 : Stmt := PySem.Challenge.pw_lacednets_k77_rows_with_told_marks.main.body.getD 36 (.Pass ⟨0, 0, 0, 0⟩)
def cc31 : CC := { sc := defScope st31, fn := fun _ => true, N := ["n", "rows", "base", "found", "leading", "p", "ones", "row", "q"], df := dfs, mu := [3], all := false }
def ps31 : List Str := ["n", "rows"]
def bd31 : MS := (.seq (.par [2, 3] (.cons (.cal 24 (.cons (.var 0) (.cons (.var 1) .nil))) (.cons (.lst true .nil) .nil))) (.seq (.asg [4] true (.cal 30 (.cons (.var 2) .nil))) (.seq (.forS (.seq (.lc false (.rng (.var 0)) [5] true [5] (.so (.cmp .NotIn (.var 5) (.var 4))) (.var 5))) [5] true (.seq (.asg [6] true (.bin .Add false (.lst false (.cons (.var 5) .nil)) (.lc false (.seq (.var 2)) [7] true [7] (.so (.cmp .Eq (.idx (.var 7) (.var 5)) (.con (.int 1)))) (.met .idx (.var 7) (.cons (.con (.int 1)) .nil))))) (.seq (.exp (.met .app (.var 3) (.cons (.blt .tup (.cons (.lc false (.rng (.var 0)) [8] true [8] .no (.blt .int (.cons (.cmp .In (.var 8) (.var 6)) .nil))) .nil)) .nil))) .nop))) (.seq (.ret (.blt .tup (.cons (.var 3) .nil))) .nop))))
/-- _law_other -/
def st32 : Stmt := PySem.Challenge.pw_lacednets_k77_rows_with_told_marks.main.body.getD 37 (.Pass ⟨0, 0, 0, 0⟩)
def cc32 : CC := { sc := defScope st32, fn := fun _ => true, N := ["code"], df := dfs, mu := [], all := false }
def ps32 : List Str := ["code"]
def bd32 : MS := (.seq (.ret (.tup (.cons (.idx (.var 0) (.con (.int 0))) (.cons (.cal 24 (.cons (.idx (.var 0) (.con (.int 0))) (.cons (.cal 31 (.cons (.idx (.var 0) (.con (.int 0))) (.cons (.idx (.var 0) (.con (.int 1))) .nil))) .nil))) .nil)))) .nop)
/-- _law_has -/
def st33 : Stmt := PySem.Challenge.pw_lacednets_k77_rows_with_told_marks.main.body.getD 38 (.Pass ⟨0, 0, 0, 0⟩)
def cc33 : CC := { sc := defScope st33, fn := fun _ => true, N := ["code", "row"], df := dfs, mu := [], all := false }
def ps33 : List Str := ["code", "row"]
def bd33 : MS := (.seq (.ret (.cmp .Eq (.blt .len (.cons (.cal 24 (.cons (.idx (.var 0) (.con (.int 0))) (.cons (.bin .Add false (.blt (.lst false) (.cons (.idx (.var 0) (.con (.int 1))) .nil)) (.lst false (.cons (.var 1) .nil))) .nil))) .nil)) (.blt .len (.cons (.idx (.var 0) (.con (.int 1))) .nil)))) .nop)
/-- _law_number -/
def st34 : Stmt := PySem.Challenge.pw_lacednets_k77_rows_with_told_marks.main.body.getD 39 (.Pass ⟨0, 0, 0, 0⟩)
def cc34 : CC := { sc := defScope st34, fn := fun _ => true, N := ["value"], df := dfs, mu := [], all := false }
def ps34 : List Str := ["value"]
def bd34 : MS := (.seq (.ret (.and (.isi "int" (.var 0)) (.not (.isi "bool" (.var 0))))) .nop)
/-- _law_are_below -/
def st35 : Stmt := PySem.Challenge.pw_lacednets_k77_rows_with_told_marks.main.body.getD 40 (.Pass ⟨0, 0, 0, 0⟩)
def cc35 : CC := { sc := defScope st35, fn := fun _ => true, N := ["value", "most", "one"], df := dfs, mu := [], all := false }
def ps35 : List Str := ["value", "most"]
def bd35 : MS := (.seq (.ret (.and (.isi "tuple" (.var 0)) (.cmp .Eq (.lc false (.seq (.var 0)) [2] true [2] (.so (.or (.not (.cal 34 (.cons (.var 2) .nil))) (.not (.chn .LtE .Lt (.con (.int 0)) (.var 2) (.var 1))))) (.con (.int 1))) (.lst false .nil)))) .nop)
/-- _law_is_row -/
def st36 : Stmt := PySem.Challenge.pw_lacednets_k77_rows_with_told_marks.main.body.getD 41 (.Pass ⟨0, 0, 0, 0⟩)
def cc36 : CC := { sc := defScope st36, fn := fun _ => true, N := ["n", "value"], df := dfs, mu := [], all := false }
def ps36 : List Str := ["n", "value"]
def bd36 : MS := (.seq (.ret (.and (.cal 35 (.cons (.var 1) (.cons (.con (.int 2)) .nil))) (.cmp .Eq (.blt .len (.cons (.var 1) .nil)) (.var 0)))) .nop)
/-- _law_bent -/
def st37 : Stmt := PySem.Challenge.pw_lacednets_k77_rows_with_told_marks.main.body.getD 42 (.Pass ⟨0, 0, 0, 0⟩)
def cc37 : CC := { sc := defScope st37, fn := fun _ => true, N := ["source", "value", "odd", "some", "k", "way"], df := dfs, mu := [], all := false }
def ps37 : List Str := ["source", "value"]
def bd37 : MS := (.seq (.asg [2] true (.lst false (.cons (.con .non) (.cons (.con (.int 0)) (.cons (.con (.int 1)) (.cons (.con (.int 2)) (.cons (.con (.bl true)) (.cons (.neg (.con (.int 1))) (.cons (.con (.int 9)) (.cons (.con (.str "a")) (.cons (.con (.str "in")) (.cons (.con (.str "out")) (.cons (.con (.str "row")) (.cons (.con (.str "none")) (.cons (.tup .nil) (.cons (.tup (.cons (.con (.int 0)) .nil)) (.cons (.tup (.cons (.con (.int 1)) (.cons (.con (.int 0)) .nil))) (.cons (.tup (.cons (.con (.int 0)) (.cons (.con (.int 1)) .nil))) (.cons (.lst false .nil) (.cons (.emp false) (.cons (.tup (.cons (.tup (.cons (.con (.int 0)) (.cons (.con (.int 1)) .nil))) .nil)) .nil))))))))))))))))))))) (.seq (.ifS (.or (.not (.isi "tuple" (.var 1))) (.or (.cmp .Eq (.var 1) (.tup .nil)) (.cmp .Eq (.cal 20 (.cons (.var 0) (.cons (.con (.int 4)) .nil))) (.con (.int 0))))) (.seq (.asg [3] true (.lst false (.cons (.cal 21 (.cons (.var 0) (.cons (.var 2) .nil))) .nil))) (.seq (.ifS (.isi "tuple" (.var 1)) (.seq (.asg [3] true (.bin .Add false (.var 3) (.lst false (.cons (.slc false (.var 1) (.so (.con (.int 1))) .no) (.cons (.slc false (.var 1) .no (.so (.neg (.con (.int 1))))) (.cons (.bin .Add false (.var 1) (.slc false (.var 1) .no (.so (.con (.int 1))))) (.cons (.blt (.lst false) (.cons (.var 1) .nil)) (.cons (.rev false (.var 1)) (.cons (.bin .Add false (.var 1) (.tup (.cons (.con (.int 0)) .nil))) .nil))))))))) .nop) .nop) (.seq (.ret (.cal 21 (.cons (.var 0) (.cons (.var 3) .nil)))) .nop))) .nop) (.seq (.par [4, 5] (.cons (.cal 20 (.cons (.var 0) (.cons (.blt .len (.cons (.var 1) .nil)) .nil))) (.cons (.cal 20 (.cons (.var 0) (.cons (.con (.int 6)) .nil))) .nil))) (.seq (.ifS (.and (.cmp .Lt (.var 5) (.con (.int 2))) (.cal 34 (.cons (.idx (.var 1) (.var 4)) .nil))) (.seq (.ret (.bin .Add false (.bin .Add false (.slc false (.var 1) .no (.so (.var 4))) (.tup (.cons (.cal 21 (.cons (.var 0) (.cons (.lst false (.cons (.bin .Sub false (.con (.int 1)) (.idx (.var 1) (.var 4))) (.cons (.bin .Add false (.idx (.var 1) (.var 4)) (.con (.int 1))) (.cons (.bin .Sub false (.idx (.var 1) (.var 4)) (.con (.int 1))) .nil)))) .nil))) .nil))) (.slc false (.var 1) (.so (.bin .Add false (.var 4) (.con (.int 1)))) .no))) .nop) .nop) (.seq (.ifS (.cmp .Eq (.var 5) (.con (.int 2))) (.seq (.ret (.bin .Add false (.slc false (.var 1) .no (.so (.var 4))) (.slc false (.var 1) (.so (.bin .Add false (.var 4) (.con (.int 1)))) .no))) .nop) .nop) (.seq (.ret (.bin .Add false (.bin .Add false (.slc false (.var 1) .no (.so (.var 4))) (.tup (.cons (.cal 37 (.cons (.var 0) (.cons (.idx (.var 1) (.var 4)) .nil))) .nil))) (.slc false (.var 1) (.so (.bin .Add false (.var 4) (.con (.int 1)))) .no))) .nop))))))
/-- _law_places -/
def st38 : Stmt := PySem.Challenge.pw_lacednets_k77_rows_with_told_marks.main.body.getD 43 (.Pass ⟨0, 0, 0, 0⟩)
def cc38 : CC := { sc := defScope st38, fn := fun _ => true, N := ["source", "n", "found", "p"], df := dfs, mu := [], all := false }
def ps38 : List Str := ["source", "n"]
def bd38 : MS := (.seq (.asg [2] true (.blt .tup (.cons (.lc false (.rng (.var 1)) [3] true [3] (.so (.cmp .Eq (.cal 20 (.cons (.var 0) (.cons (.con (.int 2)) .nil))) (.con (.int 0)))) (.var 3)) .nil))) (.seq (.ret (.ite (.cmp .NotEq (.var 2) (.tup .nil)) (.var 2) (.tup (.cons (.cal 20 (.cons (.var 0) (.cons (.var 1) .nil))) .nil)))) .nop))
/-- _law_at -/
def st39 : Stmt := PySem.Challenge.pw_lacednets_k77_rows_with_told_marks.main.body.getD 44 (.Pass ⟨0, 0, 0, 0⟩)
def cc39 : CC := { sc := defScope st39, fn := fun _ => true, N := ["row", "places", "p"], df := dfs, mu := [], all := false }
def ps39 : List Str := ["row", "places"]
def bd39 : MS := (.seq (.ret (.blt .tup (.cons (.lc false (.seq (.var 1)) [2] true [2] .no (.idx (.var 0) (.var 2))) .nil))) .nop)
/-- _law_seen -/
def st40 : Stmt := PySem.Challenge.pw_lacednets_k77_rows_with_told_marks.main.body.getD 45 (.Pass ⟨0, 0, 0, 0⟩)
def cc40 : CC := { sc := defScope st40, fn := fun _ => true, N := ["code", "places", "row"], df := dfs, mu := [], all := false }
def ps40 : List Str := ["code", "places"]
def bd40 : MS := (.seq (.ret (.tup (.cons (.blt .len (.cons (.var 1) .nil)) (.cons (.cal 24 (.cons (.blt .len (.cons (.var 1) .nil)) (.cons (.lc false (.seq (.idx (.var 0) (.con (.int 1)))) [2] true [2] .no (.cal 39 (.cons (.var 2) (.cons (.var 1) .nil)))) .nil))) .nil)))) .nop)
/-- _law_fault -/
def st41 : Stmt := PySem.Challenge.pw_lacednets_k77_rows_with_told_marks.main.body.getD 46 (.Pass ⟨0, 0, 0, 0⟩)
def cc41 : CC := { sc := defScope st41, fn := fun _ => true, N := ["code", "places", "marks", "value", "n", "base", "wrong", "p", "mark", "i", "row"], df := dfs, mu := [], all := false }
def ps41 : List Str := ["code", "places", "marks", "value"]
def bd41 : MS := (.seq (.asg [4, 5] false (.var 0)) (.seq (.ifS (.or (.not (.isi "tuple" (.var 3))) (.or (.cmp .NotEq (.blt .len (.cons (.var 3) .nil)) (.con (.int 2))) (.or (.not (.isi "str" (.idx (.var 3) (.con (.int 0))))) (.cmp .NotIn (.idx (.var 3) (.con (.int 0))) (.tup (.cons (.con (.str "row")) (.cons (.con (.str "none")) .nil))))))) (.seq (.ret (.tup (.cons (.con (.str "form")) .nil))) .nop) .nop) (.seq (.ifS (.not (.cal 36 (.cons (.var 4) (.cons (.idx (.var 3) (.con (.int 1))) .nil)))) (.seq (.ret (.tup (.cons (.con (.str "form")) .nil))) .nop) .nop) (.seq (.ifS (.cmp .Eq (.idx (.var 3) (.con (.int 0))) (.con (.str "row"))) (.seq (.asg [6] true (.lc false (.zip false (.var 1) (.var 2)) [7, 8] false [7, 8] (.so (.cmp .NotEq (.idx (.idx (.var 3) (.con (.int 1))) (.var 7)) (.var 8))) (.var 7))) (.seq (.ret (.ite (.cmp .NotEq (.var 6) (.lst false .nil)) (.tup (.cons (.con (.str "place")) (.cons (.idx (.var 6) (.con (.int 0))) .nil))) (.ite (.cal 33 (.cons (.var 0) (.cons (.idx (.var 3) (.con (.int 1))) .nil))) (.con .non) (.tup (.cons (.con (.str "out")) .nil))))) .nop)) .nop) (.seq (.asg [6] true (.lc false (.rng (.var 4)) [7] true [7] (.so (.and (.cmp .NotIn (.var 7) (.var 1)) (.cmp .Eq (.idx (.idx (.var 3) (.con (.int 1))) (.var 7)) (.con (.int 1))))) (.var 7))) (.seq (.ifS (.cmp .NotEq (.var 6) (.lst false .nil)) (.seq (.ret (.tup (.cons (.con (.str "place")) (.cons (.idx (.var 6) (.con (.int 0))) .nil)))) .nop) .nop) (.seq (.asg [6] true (.lc false (.enu (.var 5)) [9, 10] false [9, 10] (.so (.cal 29 (.cons (.var 10) (.cons (.idx (.var 3) (.con (.int 1))) .nil)))) (.var 9))) (.seq (.ifS (.cmp .NotEq (.var 6) (.lst false .nil)) (.seq (.ret (.tup (.cons (.con (.str "base")) (.cons (.idx (.var 6) (.con (.int 0))) .nil)))) .nop) .nop) (.seq (.ret (.ite (.cmp .Eq (.bin .Mod false (.blt .int (.cons (.blt .sum (.cons (.lc false (.zip false (.var 1) (.var 2)) [7, 8] false [7, 8] .no (.bin .Mult false (.idx (.idx (.var 3) (.con (.int 1))) (.var 7)) (.var 8))) .nil)) .nil)) (.con (.int 2))) (.con (.int 1))) (.con .non) (.tup (.cons (.con (.str "even")) .nil)))) .nop)))))))))
/-- law -/
def st42 : Stmt := PySem.Challenge.pw_lacednets_k77_rows_with_told_marks.main.body.getD 47 (.Pass ⟨0, 0, 0, 0⟩)
def cc42 : CC := { sc := defScope st42, fn := fun _ => true, N := ["script", "source", "lap", "code", "n", "kept", "some", "places", "marks", "seen", "is_there", "told", "due", "turn", "own", "values", "value", "shown"], df := dfs, mu := [], all := false }
def ps42 : List Str := ["script"]
def bd42 : MS := (.seq (.asg [1] true (.cal 19 (.cons (.var 0) .nil))) (.seq (.forS (.rng (.con (.int 5))) [2] true (.seq (.asg [3] true (.cal 27 (.cons (.var 1) (.cons (.idx (.lst false (.cons (.con (.int 4)) (.cons (.con (.int 8)) (.cons (.con (.int 16)) (.cons (.con (.int 12)) (.cons (.con (.int 16)) .nil)))))) (.var 2)) .nil)))) (.seq (.par [4, 5, 6] (.cons (.idx (.var 3) (.con (.int 0))) (.cons (.blt .rep (.cons (.var 3) .nil)) (.cons (.cal 28 (.cons (.var 1) (.cons (.var 3) .nil))) .nil)))) (.seq (.asg [7] true (.ite (.cmp .Eq (.cal 20 (.cons (.var 1) (.cons (.con (.int 9)) .nil))) (.con (.int 0))) (.tup .nil) (.cal 38 (.cons (.var 1) (.cons (.var 4) .nil))))) (.seq (.asg [8] true (.cal 39 (.cons (.ite (.cmp .Eq (.cal 20 (.cons (.var 1) (.cons (.con (.int 2)) .nil))) (.con (.int 0))) (.var 6) (.cal 25 (.cons (.var 1) (.cons (.var 4) .nil)))) (.cons (.var 7) .nil)))) (.seq (.asg [9] true (.ite (.cmp .NotEq (.var 7) (.tup .nil)) (.cal 40 (.cons (.var 3) (.cons (.var 7) .nil))) (.tup (.cons (.con (.int 0)) (.cons (.tup .nil) .nil))))) (.seq (.asg [10] true (.or (.cmp .Eq (.var 7) (.tup .nil)) (.cal 33 (.cons (.var 9) (.cons (.var 8) .nil))))) (.seq (.asg [11] true (.cal 16 (.cons (.var 3) (.cons (.var 7) (.cons (.var 8) .nil))))) (.seq (.ifS (.or (.cmp .IsNot (.cal 41 (.cons (.var 3) (.cons (.var 7) (.cons (.var 8) (.cons (.var 11) .nil))))) (.con .non)) (.cmp .NotEq (.idx (.var 11) (.con (.int 0))) (.idx (.lst false (.cons (.con (.str "none")) (.cons (.con (.str "row")) .nil))) (.blt .int (.cons (.var 10) .nil))))) (.seq (.ret (.con (.bl false))) .nop) .nop) (.seq (.asg [12] true (.con (.int 1))) (.seq (.forS (.rng (.bin .Sub false (.blt .len (.cons (.idx (.var 3) (.con (.int 1))) .nil)) (.blt .len (.cons (.idx (.var 9) (.con (.int 1))) .nil)))) [13] true (.seq (.asg [12] true (.bin .Mult false (.var 12) (.con (.int 2)))) .nop)) (.seq (.ifS (.or (.cmp .NotEq (.blt .rep (.cons (.cal 18 (.cons (.var 3) (.cons (.var 7) (.cons (.var 8) .nil)))) .nil)) (.blt .rep (.cons (.ite (.var 10) (.var 12) (.con (.int 0))) .nil))) (.cmp .NotEq (.blt .rep (.cons (.cal 16 (.cons (.var 3) (.cons (.var 7) (.cons (.var 8) .nil)))) .nil)) (.blt .rep (.cons (.var 11) .nil)))) (.seq (.ret (.con (.bl false))) .nop) .nop) (.seq (.asg [14] true (.lst false (.cons (.var 11) (.cons (.tup (.cons (.con (.str "row")) (.cons (.var 6) .nil))) (.cons (.tup (.cons (.con (.str "none")) (.cons (.cal 28 (.cons (.var 1) (.cons (.cal 32 (.cons (.var 3) .nil)) .nil))) .nil))) (.cons (.tup (.cons (.con (.str "none")) (.cons (.cal 25 (.cons (.var 1) (.cons (.var 4) .nil))) .nil))) (.cons (.tup (.cons (.con (.str "row")) (.cons (.cal 25 (.cons (.var 1) (.cons (.var 4) .nil))) .nil))) .nil))))))) (.seq (.asg [15] true (.bin .Add false (.bin .Add false (.var 14) (.lc false (.rng (.con (.int 8))) [13] true [13] .no (.cal 37 (.cons (.var 1) (.cons (.cal 21 (.cons (.var 1) (.cons (.bin .Add false (.var 14) (.bin .Mult false (.lst false (.cons (.var 11) .nil)) (.con (.int 4)))) .nil))) .nil))))) (.lst false (.cons (.con .non) (.cons (.tup .nil) (.cons (.idx (.var 11) (.con (.int 1))) (.cons (.con (.str "row")) (.cons (.blt (.lst false) (.cons (.var 11) .nil)) .nil)))))))) (.seq (.forS (.seq (.bin .Add false (.var 15) (.lst false (.cons (.cal 37 (.cons (.var 1) (.cons (.cal 37 (.cons (.var 1) (.cons (.var 11) .nil))) .nil))) .nil)))) [16] true (.seq (.asg [17] true (.blt .rep (.cons (.var 16) .nil))) (.seq (.ifS (.or (.cmp .NotEq (.blt .rep (.cons (.cal 17 (.cons (.var 3) (.cons (.var 7) (.cons (.var 8) (.cons (.var 16) .nil))))) .nil)) (.blt .rep (.cons (.cal 41 (.cons (.var 3) (.cons (.var 7) (.cons (.var 8) (.cons (.var 16) .nil))))) .nil))) (.cmp .NotEq (.blt .rep (.cons (.var 16) .nil)) (.var 17))) (.seq (.ret (.con (.bl false))) .nop) .nop) .nop))) (.seq (.ifS (.cmp .NotEq (.blt .rep (.cons (.var 3) .nil)) (.var 5)) (.seq (.ret (.con (.bl false))) .nop) .nop) .nop)))))))))))))))) (.seq (.asg [3] true (.tup (.cons (.con (.int 4)) (.cons (.tup (.cons (.tup (.cons (.con (.int 1)) (.cons (.con (.int 1)) (.cons (.con (.int 0)) (.cons (.con (.int 0)) .nil))))) (.cons (.tup (.cons (.con (.int 0)) (.cons (.con (.int 1)) (.cons (.con (.int 1)) (.cons (.con (.int 0)) .nil))))) .nil))) .nil)))) (.seq (.asg [11] true (.lst false (.cons (.cal 18 (.cons (.var 3) (.cons (.tup (.cons (.con (.int 0)) (.cons (.con (.int 1)) .nil))) (.cons (.tup (.cons (.con (.int 1)) (.cons (.con (.int 1)) .nil))) .nil)))) (.cons (.cal 18 (.cons (.var 3) (.cons (.tup (.cons (.con (.int 3)) .nil)) (.cons (.tup (.cons (.con (.int 1)) .nil)) .nil)))) (.cons (.cal 17 (.cons (.var 3) (.cons (.tup (.cons (.con (.int 3)) .nil)) (.cons (.tup (.cons (.con (.int 1)) .nil)) (.cons (.tup (.cons (.con (.str "none")) (.cons (.tup (.cons (.con (.int 0)) (.cons (.con (.int 0)) (.cons (.con (.int 0)) (.cons (.con (.int 1)) .nil))))) .nil))) .nil))))) .nil))))) (.seq (.ret (.cmp .Eq (.blt .rep (.cons (.var 11) .nil)) (.blt .rep (.cons (.lst false (.cons (.con (.int 1)) (.cons (.con (.int 0)) (.cons (.con .non) .nil)))) .nil)))) .nop)))))
theorem co0 : cSs (cS 60 cc0) (defBody st0) = some bd0 := by kernel_rfl
theorem sc0 : FnScope cc0.N ps0 (defScope st0) := ⟨rfl, rfl, rfl, by decide +kernel, rfl, by decide +kernel, by decide +kernel⟩
def df0 : Df := ⟨ps0.length, cc0.N.length, bd0, false⟩
theorem co1 : cSs (cS 60 cc1) (defBody st1) = some bd1 := by kernel_rfl
theorem sc1 : FnScope cc1.N ps1 (defScope st1) := ⟨rfl, rfl, rfl, by decide +kernel, rfl, by decide +kernel, by decide +kernel⟩
def df1 : Df := ⟨ps1.length, cc1.N.length, bd1, false⟩
theorem co2 : cSs (cS 60 cc2) (defBody st2) = some bd2 := by kernel_rfl
theorem sc2 : FnScope cc2.N ps2 (defScope st2) := ⟨rfl, rfl, rfl, by decide +kernel, rfl, by decide +kernel, by decide +kernel⟩
def df2 : Df := ⟨ps2.length, cc2.N.length, bd2, false⟩
theorem co3 : cSs (cS 60 cc3) (defBody st3) = some bd3 := by kernel_rfl
theorem sc3 : FnScope cc3.N ps3 (defScope st3) := ⟨rfl, rfl, rfl, by decide +kernel, rfl, by decide +kernel, by decide +kernel⟩
def df3 : Df := ⟨ps3.length, cc3.N.length, bd3, false⟩
theorem co4 : cSs (cS 60 cc4) (defBody st4) = some bd4 := by kernel_rfl
theorem sc4 : FnScope cc4.N ps4 (defScope st4) := ⟨rfl, rfl, rfl, by decide +kernel, rfl, by decide +kernel, by decide +kernel⟩
def df4 : Df := ⟨ps4.length, cc4.N.length, bd4, false⟩
theorem co5 : cSs (cS 60 cc5) (defBody st5) = some bd5 := by kernel_rfl
theorem sc5 : FnScope cc5.N ps5 (defScope st5) := ⟨rfl, rfl, rfl, by decide +kernel, rfl, by decide +kernel, by decide +kernel⟩
def df5 : Df := ⟨ps5.length, cc5.N.length, bd5, false⟩
theorem co6 : cSs (cS 60 cc6) (defBody st6) = some bd6 := by kernel_rfl
theorem sc6 : FnScope cc6.N ps6 (defScope st6) := ⟨rfl, rfl, rfl, by decide +kernel, rfl, by decide +kernel, by decide +kernel⟩
def df6 : Df := ⟨ps6.length, cc6.N.length, bd6, false⟩
theorem co7 : cSs (cS 60 cc7) (defBody st7) = some bd7 := by kernel_rfl
theorem sc7 : FnScope cc7.N ps7 (defScope st7) := ⟨rfl, rfl, rfl, by decide +kernel, rfl, by decide +kernel, by decide +kernel⟩
def df7 : Df := ⟨ps7.length, cc7.N.length, bd7, false⟩
theorem co8 : cSs (cS 60 cc8) (defBody st8) = some bd8 := by kernel_rfl
theorem sc8 : FnScope cc8.N ps8 (defScope st8) := ⟨rfl, rfl, rfl, by decide +kernel, rfl, by decide +kernel, by decide +kernel⟩
def df8 : Df := ⟨ps8.length, cc8.N.length, bd8, false⟩
theorem co9 : cSs (cS 60 cc9) (defBody st9) = some bd9 := by kernel_rfl
theorem sc9 : FnScope cc9.N ps9 (defScope st9) := ⟨rfl, rfl, rfl, by decide +kernel, rfl, by decide +kernel, by decide +kernel⟩
def df9 : Df := ⟨ps9.length, cc9.N.length, bd9, false⟩
theorem co10 : cSs (cS 60 cc10) (defBody st10) = some bd10 := by kernel_rfl
theorem sc10 : FnScope cc10.N ps10 (defScope st10) := ⟨rfl, rfl, rfl, by decide +kernel, rfl, by decide +kernel, by decide +kernel⟩
def df10 : Df := ⟨ps10.length, cc10.N.length, bd10, false⟩
theorem co11 : cSs (cS 60 cc11) (defBody st11) = some bd11 := by kernel_rfl
theorem sc11 : FnScope cc11.N ps11 (defScope st11) := ⟨rfl, rfl, rfl, by decide +kernel, rfl, by decide +kernel, by decide +kernel⟩
def df11 : Df := ⟨ps11.length, cc11.N.length, bd11, false⟩
theorem co12 : cSs (cS 60 cc12) (defBody st12) = some bd12 := by kernel_rfl
theorem sc12 : FnScope cc12.N ps12 (defScope st12) := ⟨rfl, rfl, rfl, by decide +kernel, rfl, by decide +kernel, by decide +kernel⟩
def df12 : Df := ⟨ps12.length, cc12.N.length, bd12, false⟩
theorem co13 : cSs (cS 60 cc13) (defBody st13) = some bd13 := by kernel_rfl
theorem sc13 : FnScope cc13.N ps13 (defScope st13) := ⟨rfl, rfl, rfl, by decide +kernel, rfl, by decide +kernel, by decide +kernel⟩
def df13 : Df := ⟨ps13.length, cc13.N.length, bd13, false⟩
theorem co14 : cSs (cS 60 cc14) (defBody st14) = some bd14 := by kernel_rfl
theorem sc14 : FnScope cc14.N ps14 (defScope st14) := ⟨rfl, rfl, rfl, by decide +kernel, rfl, by decide +kernel, by decide +kernel⟩
def df14 : Df := ⟨ps14.length, cc14.N.length, bd14, false⟩
theorem co15 : cSs (cS 60 cc15) (defBody st15) = some bd15 := by kernel_rfl
theorem sc15 : FnScope cc15.N ps15 (defScope st15) := ⟨rfl, rfl, rfl, by decide +kernel, rfl, by decide +kernel, by decide +kernel⟩
def df15 : Df := ⟨ps15.length, cc15.N.length, bd15, false⟩
theorem co16 : cSs (cS 60 cc16) (defBody st16) = some bd16 := by kernel_rfl
theorem sc16 : FnScope cc16.N ps16 (defScope st16) := ⟨rfl, rfl, rfl, by decide +kernel, rfl, by decide +kernel, by decide +kernel⟩
def df16 : Df := ⟨ps16.length, cc16.N.length, bd16, false⟩
theorem co17 : cSs (cS 60 cc17) (defBody st17) = some bd17 := by kernel_rfl
theorem sc17 : FnScope cc17.N ps17 (defScope st17) := ⟨rfl, rfl, rfl, by decide +kernel, rfl, by decide +kernel, by decide +kernel⟩
def df17 : Df := ⟨ps17.length, cc17.N.length, bd17, false⟩
theorem co18 : cSs (cS 60 cc18) (defBody st18) = some bd18 := by kernel_rfl
theorem sc18 : FnScope cc18.N ps18 (defScope st18) := ⟨rfl, rfl, rfl, by decide +kernel, rfl, by decide +kernel, by decide +kernel⟩
def df18 : Df := ⟨ps18.length, cc18.N.length, bd18, false⟩
theorem co19 : cSs (cS 60 cc19) (defBody st19) = some bd19 := by kernel_rfl
theorem sc19 : FnScope cc19.N ps19 (defScope st19) := ⟨rfl, rfl, rfl, by decide +kernel, rfl, by decide +kernel, by decide +kernel⟩
def df19 : Df := ⟨ps19.length, cc19.N.length, bd19, true⟩
theorem co20 : cSs (cS 60 cc20) (defBody st20) = some bd20 := by kernel_rfl
theorem sc20 : FnScope cc20.N ps20 (defScope st20) := ⟨rfl, rfl, rfl, by decide +kernel, rfl, by decide +kernel, by decide +kernel⟩
def df20 : Df := ⟨ps20.length, cc20.N.length, bd20, false⟩
theorem co21 : cSs (cS 60 cc21) (defBody st21) = some bd21 := by kernel_rfl
theorem sc21 : FnScope cc21.N ps21 (defScope st21) := ⟨rfl, rfl, rfl, by decide +kernel, rfl, by decide +kernel, by decide +kernel⟩
def df21 : Df := ⟨ps21.length, cc21.N.length, bd21, false⟩
theorem co22 : cSs (cS 60 cc22) (defBody st22) = some bd22 := by kernel_rfl
theorem sc22 : FnScope cc22.N ps22 (defScope st22) := ⟨rfl, rfl, rfl, by decide +kernel, rfl, by decide +kernel, by decide +kernel⟩
def df22 : Df := ⟨ps22.length, cc22.N.length, bd22, false⟩
theorem co23 : cSs (cS 60 cc23) (defBody st23) = some bd23 := by kernel_rfl
theorem sc23 : FnScope cc23.N ps23 (defScope st23) := ⟨rfl, rfl, rfl, by decide +kernel, rfl, by decide +kernel, by decide +kernel⟩
def df23 : Df := ⟨ps23.length, cc23.N.length, bd23, false⟩
theorem co24 : cSs (cS 60 cc24) (defBody st24) = some bd24 := by kernel_rfl
theorem sc24 : FnScope cc24.N ps24 (defScope st24) := ⟨rfl, rfl, rfl, by decide +kernel, rfl, by decide +kernel, by decide +kernel⟩
def df24 : Df := ⟨ps24.length, cc24.N.length, bd24, false⟩
theorem co25 : cSs (cS 60 cc25) (defBody st25) = some bd25 := by kernel_rfl
theorem sc25 : FnScope cc25.N ps25 (defScope st25) := ⟨rfl, rfl, rfl, by decide +kernel, rfl, by decide +kernel, by decide +kernel⟩
def df25 : Df := ⟨ps25.length, cc25.N.length, bd25, false⟩
theorem co26 : cSs (cS 60 cc26) (defBody st26) = some bd26 := by kernel_rfl
theorem sc26 : FnScope cc26.N ps26 (defScope st26) := ⟨rfl, rfl, rfl, by decide +kernel, rfl, by decide +kernel, by decide +kernel⟩
def df26 : Df := ⟨ps26.length, cc26.N.length, bd26, false⟩
theorem co27 : cSs (cS 60 cc27) (defBody st27) = some bd27 := by kernel_rfl
theorem sc27 : FnScope cc27.N ps27 (defScope st27) := ⟨rfl, rfl, rfl, by decide +kernel, rfl, by decide +kernel, by decide +kernel⟩
def df27 : Df := ⟨ps27.length, cc27.N.length, bd27, false⟩
theorem co28 : cSs (cS 60 cc28) (defBody st28) = some bd28 := by kernel_rfl
theorem sc28 : FnScope cc28.N ps28 (defScope st28) := ⟨rfl, rfl, rfl, by decide +kernel, rfl, by decide +kernel, by decide +kernel⟩
def df28 : Df := ⟨ps28.length, cc28.N.length, bd28, false⟩
theorem co29 : cSs (cS 60 cc29) (defBody st29) = some bd29 := by kernel_rfl
theorem sc29 : FnScope cc29.N ps29 (defScope st29) := ⟨rfl, rfl, rfl, by decide +kernel, rfl, by decide +kernel, by decide +kernel⟩
def df29 : Df := ⟨ps29.length, cc29.N.length, bd29, false⟩
theorem co30 : cSs (cS 60 cc30) (defBody st30) = some bd30 := by kernel_rfl
theorem sc30 : FnScope cc30.N ps30 (defScope st30) := ⟨rfl, rfl, rfl, by decide +kernel, rfl, by decide +kernel, by decide +kernel⟩
def df30 : Df := ⟨ps30.length, cc30.N.length, bd30, false⟩
theorem co31 : cSs (cS 60 cc31) (defBody st31) = some bd31 := by kernel_rfl
theorem sc31 : FnScope cc31.N ps31 (defScope st31) := ⟨rfl, rfl, rfl, by decide +kernel, rfl, by decide +kernel, by decide +kernel⟩
def df31 : Df := ⟨ps31.length, cc31.N.length, bd31, false⟩
theorem co32 : cSs (cS 60 cc32) (defBody st32) = some bd32 := by kernel_rfl
theorem sc32 : FnScope cc32.N ps32 (defScope st32) := ⟨rfl, rfl, rfl, by decide +kernel, rfl, by decide +kernel, by decide +kernel⟩
def df32 : Df := ⟨ps32.length, cc32.N.length, bd32, false⟩
theorem co33 : cSs (cS 60 cc33) (defBody st33) = some bd33 := by kernel_rfl
theorem sc33 : FnScope cc33.N ps33 (defScope st33) := ⟨rfl, rfl, rfl, by decide +kernel, rfl, by decide +kernel, by decide +kernel⟩
def df33 : Df := ⟨ps33.length, cc33.N.length, bd33, false⟩
theorem co34 : cSs (cS 60 cc34) (defBody st34) = some bd34 := by kernel_rfl
theorem sc34 : FnScope cc34.N ps34 (defScope st34) := ⟨rfl, rfl, rfl, by decide +kernel, rfl, by decide +kernel, by decide +kernel⟩
def df34 : Df := ⟨ps34.length, cc34.N.length, bd34, false⟩
theorem co35 : cSs (cS 60 cc35) (defBody st35) = some bd35 := by kernel_rfl
theorem sc35 : FnScope cc35.N ps35 (defScope st35) := ⟨rfl, rfl, rfl, by decide +kernel, rfl, by decide +kernel, by decide +kernel⟩
def df35 : Df := ⟨ps35.length, cc35.N.length, bd35, false⟩
theorem co36 : cSs (cS 60 cc36) (defBody st36) = some bd36 := by kernel_rfl
theorem sc36 : FnScope cc36.N ps36 (defScope st36) := ⟨rfl, rfl, rfl, by decide +kernel, rfl, by decide +kernel, by decide +kernel⟩
def df36 : Df := ⟨ps36.length, cc36.N.length, bd36, false⟩
theorem co37 : cSs (cS 60 cc37) (defBody st37) = some bd37 := by kernel_rfl
theorem sc37 : FnScope cc37.N ps37 (defScope st37) := ⟨rfl, rfl, rfl, by decide +kernel, rfl, by decide +kernel, by decide +kernel⟩
def df37 : Df := ⟨ps37.length, cc37.N.length, bd37, false⟩
theorem co38 : cSs (cS 60 cc38) (defBody st38) = some bd38 := by kernel_rfl
theorem sc38 : FnScope cc38.N ps38 (defScope st38) := ⟨rfl, rfl, rfl, by decide +kernel, rfl, by decide +kernel, by decide +kernel⟩
def df38 : Df := ⟨ps38.length, cc38.N.length, bd38, false⟩
theorem co39 : cSs (cS 60 cc39) (defBody st39) = some bd39 := by kernel_rfl
theorem sc39 : FnScope cc39.N ps39 (defScope st39) := ⟨rfl, rfl, rfl, by decide +kernel, rfl, by decide +kernel, by decide +kernel⟩
def df39 : Df := ⟨ps39.length, cc39.N.length, bd39, false⟩
theorem co40 : cSs (cS 60 cc40) (defBody st40) = some bd40 := by kernel_rfl
theorem sc40 : FnScope cc40.N ps40 (defScope st40) := ⟨rfl, rfl, rfl, by decide +kernel, rfl, by decide +kernel, by decide +kernel⟩
def df40 : Df := ⟨ps40.length, cc40.N.length, bd40, false⟩
theorem co41 : cSs (cS 60 cc41) (defBody st41) = some bd41 := by kernel_rfl
theorem sc41 : FnScope cc41.N ps41 (defScope st41) := ⟨rfl, rfl, rfl, by decide +kernel, rfl, by decide +kernel, by decide +kernel⟩
def df41 : Df := ⟨ps41.length, cc41.N.length, bd41, false⟩
theorem co42 : cSs (cS 60 cc42) (defBody st42) = some bd42 := by kernel_rfl
theorem sc42 : FnScope cc42.N ps42 (defScope st42) := ⟨rfl, rfl, rfl, by decide +kernel, rfl, by decide +kernel, by decide +kernel⟩
def df42 : Df := ⟨ps42.length, cc42.N.length, bd42, false⟩
def ds : List Df := [df0, df1, df2, df3, df4, df5, df6, df7, df8, df9, df10, df11, df12, df13, df14, df15, df16, df17, df18, df19, df20, df21, df22, df23, df24, df25, df26, df27, df28, df29, df30, df31, df32, df33, df34, df35, df36, df37, df38, df39, df40, df41, df42]
end Ev
namespace Ev
open PySem PySem.Spec PyProof.Rows L2

/-! ### plain tools -/
theorem run_eq {ds : List Df} {W k f : Nat} {d : Df} {args : List PV} {S : Sto} (h : ds[f]? = some d) : run ds W (k + 1) f args S = runF d (run ds W k) W args S := by
  simp only [run, h]
theorem frz_no {S : Sto} {n : Nat} {v : PV} (h : ltB 0 v = true) : frz S n v = some v := by
  unfold frz; rw [if_pos (ltB_mono (Nat.zero_le _) h)]
/-- a def whose value holds no refs -/
theorem run_rt {ds : List Df} {W k f : Nat} {d : Df} {args : List PV} {S S1 : Sto} {v : PV} (h : ds[f]? = some d) (hl : args.length = d.ps) (hk : d.keep = false) (hb : d.b.dn (run ds W k) W S.length (enOf d args) S = some (.rt v S1)) (hv : ltB 0 v = true) :
    run ds W (k + 1) f args S = some (v, S1.take S.length) := by
  rw [run_eq h]
  unfold runF
  rw [if_pos hl, hb]
  simp only [fin, hk, frz_no hv, Option.map_some, Bool.false_eq_true, if_false]
theorem run_rt0 {ds : List Df} {W k f : Nat} {d : Df} {args : List PV} {S : Sto} {v : PV} (h : ds[f]? = some d) (hl : args.length = d.ps) (hk : d.keep = false) (hb : d.b.dn (run ds W k) W S.length (enOf d args) S = some (.rt v S)) (hv : ltB 0 v = true) :
    run ds W (k + 1) f args S = some (v, S) := by
  rw [run_rt h hl hk hb hv, List.take_of_length_le (Nat.le_refl _)]
theorem lim_ok {n : Nat} (h : n ≤ 1000000) : n ≤ sizeLine := by rw [sizeLine_eq]; omega

/-! comprehensions -/
section
variable {J : ItV} {tg : List Nat} {one : Bool} {t : Dn Bool} {e : Dn PV} {en : En} {S : Sto}
theorem lcL_pure {xs : List PV} {p : PV → Bool} {g : PV → PV} (hi : ∀ i, i < xs.length → J.item S i = xs[i]?) (hl : J.len S = some xs.length) (hz : xs.length ≤ sizeLine)
    (turn : ∀ x ∈ xs, ∃ en2, tgF tg one x en = some en2 ∧ t en2 S = some (p x, S) ∧ (p x = true → e en2 S = some (g x, S))) :
    ∀ (k i : Nat) (acc : List PV), i + k = xs.length → acc.length ≤ i → lcL J tg one t e en k i acc S = some (acc ++ ((xs.drop i).filter p).map g, S)
  | 0, i, acc, h, _ => by
    have hi' : i = xs.length := by omega
    subst hi'
    simp [lcL, hl]
  | k + 1, i, acc, h, ha => by
    have hlt : i < xs.length := by omega
    obtain ⟨en2, h1, h2, h3⟩ := turn xs[i] (List.getElem_mem hlt)
    have hx : xs[i]? = some xs[i] := List.getElem?_eq_getElem hlt
    rw [List.drop_eq_getElem_cons hlt, List.filter_cons]
    simp only [lcL, hi i hlt, hx, Option.bind_some, h1, h2]
    cases hp : p xs[i] with
    | false => simp only [Bool.false_eq_true, if_false]; exact lcL_pure hi hl hz turn k (i + 1) acc (by omega) (by omega)
    | true =>
      have hlim : acc.length < sizeLine := by omega
      simp only [h3 hp, Option.bind_some, if_pos hlim, if_true]
      rw [lcL_pure hi hl hz turn k (i + 1) (acc ++ [g xs[i]]) (by omega) (by simp; omega)]
      simp
theorem lcD_pure {m : Bool} {fi : Dn ItV} {vs : List Nat} {S1 : Sto} {xs : List PV} (p : PV → Bool) (g : PV → PV) (hf : fi en S1 = some (J, S)) (ho : J.okT one = true) (hi : ∀ i, i < xs.length → J.item S i = xs[i]?) (hl : J.len S = some xs.length) (hz : xs.length ≤ sizeLine)
    (turn : ∀ x ∈ xs, ∃ en2, tgF tg one x (wipeE en vs) = some en2 ∧ t en2 S = some (p x, S) ∧ (p x = true → e en2 S = some (g x, S))) : lcD m fi tg one vs t e en S1 = some (mkL m ((xs.filter p).map g) S) := by
  have := lcL_pure (en := wipeE en vs) hi hl hz turn xs.length 0 [] (by omega) (by simp)
  simp only [List.nil_append, List.drop_zero] at this
  simp only [lcD, Dn.bnd, hf, ho, if_true, hl, Option.bind_some, this, Option.map_some]
end
/-- items -/
theorem item_seq {S : Sto} {v : PV} {xs : List PV} (h : seqOf S v = some xs) : (∀ i, i < xs.length → (ItV.seq v).item S i = xs[i]?) ∧ (ItV.seq v).len S = some xs.length := by
  simp [ItV.item, ItV.len, h]
def pr2 (x y : PV) : PV := .tup [x, y]
theorem item_enu {S : Sto} {v : PV} {xs : List PV} (h : seqOf S v = some xs) : (∀ i, i < (xs.mapIdx fun i x => PV.tup [.int i, x]).length → (ItV.enu v).item S i = (xs.mapIdx fun i x => PV.tup [.int i, x])[i]?) ∧ (ItV.enu v).len S = some (xs.mapIdx fun i x => PV.tup [.int i, x]).length := by
  refine ⟨fun i hi => ?_, by simp [ItV.len, h]⟩
  simp [ItV.item, h, List.getElem?_mapIdx]
theorem item_zip {S : Sto} {st : Bool} {v w : PV} {xs ys : List PV} (h : seqOf S v = some xs) (h2 : seqOf S w = some ys) (hl : xs.length = ys.length) :
    (∀ i, i < (xs.zipWith pr2 ys).length → (ItV.zip st v w).item S i = (xs.zipWith pr2 ys)[i]?) ∧ (ItV.zip st v w).len S = some (xs.zipWith pr2 ys).length := by
  refine ⟨fun i hi => ?_, ?_⟩
  · simp only [List.length_zipWith] at hi
    have h1 : xs[i]? = some (xs[i]'(by omega)) := List.getElem?_eq_getElem _
    have h2' : ys[i]? = some (ys[i]'(by omega)) := List.getElem?_eq_getElem _
    simp [ItV.item, h, h2, h1, h2', List.getElem?_zipWith, pr2]
  · simp [ItV.len, h, h2, hl]
theorem item_rng {S : Sto} {n : Nat} : (∀ i, i < ((List.range n).map fun (i : Nat) => PV.int i).length → (ItV.rng 0 n).item S i = ((List.range n).map fun (i : Nat) => PV.int i)[i]?) ∧ (ItV.rng 0 n).len S = some ((List.range n).map fun (i : Nat) => PV.int i).length := by
  refine ⟨fun i hi => ?_, by simp [ItV.len]⟩
  have hi' : i < n := by simpa using hi
  simp [ItV.item, hi']

/-! values -/
def eb (b : Bool) : PV := .int (if b then 1 else 0)
def er (v : List Bool) : PV := .tup (v.map eb)
theorem atI_of {α : Type} {xs : List α} {i : Int} {j : Nat} (h : i = j) : atI xs i = xs[j]? := by
  subst h
  cases e : xs[j]? with
  | some v => exact atI_nat e
  | none =>
    have hj : xs.length ≤ j := List.getElem?_eq_none_iff.mp e
    unfold atI ixN
    rw [if_pos (by omega), if_neg (by omega)]; rfl
theorem idx_tup {xs : List PV} {i : Int} {j : Nat} {S : Sto} (h : i = j) : pIdx (.tup xs) (.int i) S = (xs[j]?).map fun v => (v, S) := by
  simp only [pIdx, seqOf, atI_of h]
theorem idx_lst {xs : List PV} {i : Int} {j : Nat} {S : Sto} (h : i = j) : pIdx (.lst xs) (.int i) S = (xs[j]?).map fun v => (v, S) := by
  simp only [pIdx, seqOf, atI_of h]
theorem no_ints {α : Type} (l : List α) (f : α → Int) : (l.map fun x => PV.int (f x)).all (ltB 0) = true := by
  induction l with
  | nil => rfl
  | cons a r ih => simp [ltB, ih]
theorem no_er (v : List Bool) : ltB 0 (er v) = true := by
  unfold er
  rw [ltB_tup]
  exact no_ints v _
theorem no_ers (l : List (List Bool)) : (l.map er).all (ltB 0) = true := by
  induction l with
  | nil => rfl
  | cons a r ih => simp [no_er, ih]
theorem eq_int (op : CmpOp) (i j : Int) (S : Sto) : pCmp .Eq (.int i) (.int j) S = some (decide (i = j)) ∧ pCmp .NotEq (.int i) (.int j) S = some (!decide (i = j)) := by
  have h : eqPV S (.int i) (.int j) = some (decide (i = j)) := by
    simp [eqPV, flat, fv, scal]
  exact ⟨h, by simp [pCmp, h]⟩
end Ev
namespace Ev
open PySem PySem.Spec PyProof.Rows L2

/-! ### what comes of a text, rule by rule -/
section
variable {R : Orc} {W tp : Nat}
abbrev EE (R : Orc) (tp : Nat) (x : ME) (en : En) (S : Sto) (v : PV) (S' : Sto) : Prop := (x.dn R tp).e en S = some (v, S')
abbrev ET (R : Orc) (tp : Nat) (x : ME) (en : En) (S : Sto) (b : Bool) (S' : Sto) : Prop := (x.dn R tp).t en S = some (b, S')
abbrev EA (R : Orc) (tp : Nat) (x : MA) (en : En) (S : Sto) (vs : List PV) (S' : Sto) : Prop := x.dn R tp en S = some (vs, S')
abbrev EO (R : Orc) (tp : Nat) (x : MO) (en : En) (S : Sto) (i : Option Int) (S' : Sto) : Prop := (x.dn R tp).1 en S = some (i, S')
abbrev EQ (R : Orc) (tp : Nat) (x : MO) (en : En) (S : Sto) (b : Bool) (S' : Sto) : Prop := (x.dn R tp).2 en S = some (b, S')
abbrev EI (R : Orc) (tp : Nat) (x : MI) (en : En) (S : Sto) (J : ItV) (S' : Sto) : Prop := x.dn R tp en S = some (J, S')
abbrev ES (R : Orc) (W tp : Nat) (x : MS) (en : En) (S : Sto) (r : SR) : Prop := x.dn R W tp en S = some r
variable {a b c e o : ME} {as r : MA} {en en2 : En} {S S1 S2 S3 S4 : Sto} {v w u : PV} {vs : List PV} {i : Nat} {m one : Bool} {tg is : List Nat} {s t : MS} {k : Bool}
theorem bnd_of {α β : Type} {f : Dn α} {g : α → Dn β} {x : α} {z : Option (β × Sto)} (h : f en S = some (x, S1)) (h2 : g x en S1 = z) : (f.bnd g) en S = z := by
  simp only [Dn.bnd, h, h2]
theorem ee_var (h : en[i]? = some (some v)) : EE R tp (.var i) en S v S := by
  simp only [EE, ME.dn, D2.of, gv, h]
theorem ee_con : EE R tp (.con v) en S v S := rfl
theorem ee_bin {op : Operator} (h1 : EE R tp a en S v S1) (h2 : EE R tp b en S1 w S2) (h3 : opF m op v w S2 = some (u, S3)) : EE R tp (.bin op m a b) en S u S3 := by
  simp only [EE, ET, EA, EO, EQ, EI, ME.dn, MA.dn, MO.dn, MI.dn, MS.dn, D2.of, D2.ofB, b2, chnD, notD, andD, orD, notT, andT, orT, iteD, tupD, lstD, someD, isiD, lrgD, seqI, zipI, rngI]
  exact bnd_of h1 (bnd_of h2 h3)
theorem ee_neg {j : Int} (h1 : EE R tp a en S (.int j) S1) : EE R tp (.neg a) en S (.int (-j)) S1 := by
  simp only [EE, ET, EA, EO, EQ, EI, ME.dn, MA.dn, MO.dn, MI.dn, MS.dn, D2.of, D2.ofB, b2, chnD, notD, andD, orD, notT, andT, orT, iteD, tupD, lstD, someD, isiD, lrgD, seqI, zipI, rngI]
  exact bnd_of h1 rfl
theorem ee_cmp {op : CmpOp} (h1 : EE R tp a en S v S1) (h2 : EE R tp b en S1 w S2) (h3 : pCmp op v w S2 = some k) : EE R tp (.cmp op a b) en S (.bl k) S2 := by
  simp only [EE, ET, EA, EO, EQ, EI, ME.dn, MA.dn, MO.dn, MI.dn, MS.dn, D2.of, D2.ofB, b2, chnD, notD, andD, orD, notT, andT, orT, iteD, tupD, lstD, someD, isiD, lrgD, seqI, zipI, rngI]
  exact bnd_of h1 (bnd_of h2 (by simp only [cmpD, Dn.lft, h3]; rfl))
theorem et_cmp {op : CmpOp} (h1 : EE R tp a en S v S1) (h2 : EE R tp b en S1 w S2) (h3 : pCmp op v w S2 = some k) : ET R tp (.cmp op a b) en S k S2 := by
  have h := ee_cmp (R := R) (tp := tp) h1 h2 h3
  simp only [EE, ET, ME.dn, D2.ofB] at h ⊢
  exact bnd_of h rfl
theorem ee_chn {op op' : CmpOp} {k2 : Bool} (h1 : EE R tp a en S v S1) (h2 : EE R tp b en S1 w S2) (h3 : pCmp op v w S2 = some k) (h4 : k = true → EE R tp c en S2 u S3 ∧ pCmp op' w u S3 = some k2) (h5 : k = false → k2 = false ∧ S3 = S2) : EE R tp (.chn op op' a b c) en S (.bl k2) S3 := by
  simp only [EE, ET, EA, EO, EQ, EI, ME.dn, MA.dn, MO.dn, MI.dn, MS.dn, D2.of, D2.ofB, b2, chnD, notD, andD, orD, notT, andT, orT, iteD, tupD, lstD, someD, isiD, lrgD, seqI, zipI, rngI]
  refine bnd_of h1 (bnd_of h2 (bnd_of (x := k) (S1 := S2) ?_ ?_))
  · exact bnd_of (x := .bl k) (S1 := S2) (by simp only [cmpD, Dn.lft, h3]; rfl) rfl
  · cases k with
    | true => obtain ⟨q1, q2⟩ := h4 rfl; exact bnd_of q1 (by simp only [cmpD, Dn.lft, q2]; rfl)
    | false => obtain ⟨rfl, rfl⟩ := h5 rfl; rfl
theorem et_chn {op op' : CmpOp} {k2 : Bool} (h : EE R tp (.chn op op' a b c) en S (.bl k2) S3) : ET R tp (.chn op op' a b c) en S k2 S3 := by
  simp only [EE, ET, ME.dn, D2.ofB] at h ⊢
  exact bnd_of h rfl
theorem asb_of {f : Dn PV} (h : f en S = some (.bl k, S1)) : asB f en S = some (k, S1) := bnd_of h rfl
theorem ee_not (h : EE R tp a en S (.bl k) S1) : EE R tp (.not a) en S (.bl (!k)) S1 := by
  simp only [EE, ET, EA, EO, EQ, EI, ME.dn, MA.dn, MO.dn, MI.dn, MS.dn, D2.of, D2.ofB, b2, chnD, notD, andD, orD, notT, andT, orT, iteD, tupD, lstD, someD, isiD, lrgD, seqI, zipI, rngI]
  exact bnd_of (asb_of h) rfl
theorem et_not (h : ET R tp a en S k S1) : ET R tp (.not a) en S (!k) S1 := by
  simp only [EE, ET, EA, EO, EQ, EI, ME.dn, MA.dn, MO.dn, MI.dn, MS.dn, D2.of, D2.ofB, b2, chnD, notD, andD, orD, notT, andT, orT, iteD, tupD, lstD, someD, isiD, lrgD, seqI, zipI, rngI]
  exact bnd_of h rfl
theorem ee_and {k2 : Bool} (h : EE R tp a en S (.bl k) S1) (h1 : k = true → EE R tp b en S1 (.bl k2) S2) (h2 : k = false → k2 = false ∧ S2 = S1) : EE R tp (.and a b) en S (.bl k2) S2 := by
  simp only [EE, ET, EA, EO, EQ, EI, ME.dn, MA.dn, MO.dn, MI.dn, MS.dn, D2.of, D2.ofB, b2, chnD, notD, andD, orD, notT, andT, orT, iteD, tupD, lstD, someD, isiD, lrgD, seqI, zipI, rngI]
  exact bnd_of (asb_of h) (by
  cases k with
  | true => exact h1 rfl
  | false => obtain ⟨rfl, rfl⟩ := h2 rfl; rfl)
theorem et_and {k2 : Bool} (h : ET R tp a en S k S1) (h1 : k = true → ET R tp b en S1 k2 S2) (h2 : k = false → k2 = false ∧ S2 = S1) : ET R tp (.and a b) en S k2 S2 := by
  simp only [EE, ET, EA, EO, EQ, EI, ME.dn, MA.dn, MO.dn, MI.dn, MS.dn, D2.of, D2.ofB, b2, chnD, notD, andD, orD, notT, andT, orT, iteD, tupD, lstD, someD, isiD, lrgD, seqI, zipI, rngI]
  exact bnd_of h (by
  cases k with
  | true => exact h1 rfl
  | false => obtain ⟨rfl, rfl⟩ := h2 rfl; rfl)
theorem ee_or {k2 : Bool} (h : EE R tp a en S (.bl k) S1) (h1 : k = false → EE R tp b en S1 (.bl k2) S2) (h2 : k = true → k2 = true ∧ S2 = S1) : EE R tp (.or a b) en S (.bl k2) S2 := by
  simp only [EE, ET, EA, EO, EQ, EI, ME.dn, MA.dn, MO.dn, MI.dn, MS.dn, D2.of, D2.ofB, b2, chnD, notD, andD, orD, notT, andT, orT, iteD, tupD, lstD, someD, isiD, lrgD, seqI, zipI, rngI]
  exact bnd_of (asb_of h) (by
  cases k with
  | false => exact h1 rfl
  | true => obtain ⟨rfl, rfl⟩ := h2 rfl; rfl)
theorem et_or {k2 : Bool} (h : ET R tp a en S k S1) (h1 : k = false → ET R tp b en S1 k2 S2) (h2 : k = true → k2 = true ∧ S2 = S1) : ET R tp (.or a b) en S k2 S2 := by
  simp only [EE, ET, EA, EO, EQ, EI, ME.dn, MA.dn, MO.dn, MI.dn, MS.dn, D2.of, D2.ofB, b2, chnD, notD, andD, orD, notT, andT, orT, iteD, tupD, lstD, someD, isiD, lrgD, seqI, zipI, rngI]
  exact bnd_of h (by
  cases k with
  | false => exact h1 rfl
  | true => obtain ⟨rfl, rfl⟩ := h2 rfl; rfl)
theorem ee_ite (h : ET R tp c en S k S1) (h1 : k = true → EE R tp a en S1 v S2) (h2 : k = false → EE R tp b en S1 v S2) : EE R tp (.ite c a b) en S v S2 := by
  simp only [EE, ET, EA, EO, EQ, EI, ME.dn, MA.dn, MO.dn, MI.dn, MS.dn, D2.of, D2.ofB, b2, chnD, notD, andD, orD, notT, andT, orT, iteD, tupD, lstD, someD, isiD, lrgD, seqI, zipI, rngI]
  exact bnd_of h (by
  cases k with
  | true => exact h1 rfl
  | false => exact h2 rfl)
theorem ee_tup (h : EA R tp as en S vs S1) (hl : vs.length ≤ sizeLine) : EE R tp (.tup as) en S (.tup vs) S1 := by
  simp only [EE, ET, EA, EO, EQ, EI, ME.dn, MA.dn, MO.dn, MI.dn, MS.dn, D2.of, D2.ofB, b2, chnD, notD, andD, orD, notT, andT, orT, iteD, tupD, lstD, someD, isiD, lrgD, seqI, zipI, rngI]
  exact bnd_of h (by simp only [Dn.lft, if_pos hl])
theorem ee_lst (h : EA R tp as en S vs S1) (hl : vs.length ≤ sizeLine) : EE R tp (.lst m as) en S (mkL m vs S1).1 (mkL m vs S1).2 := by
  simp only [EE, ET, EA, EO, EQ, EI, ME.dn, MA.dn, MO.dn, MI.dn, MS.dn, D2.of, D2.ofB, b2, chnD, notD, andD, orD, notT, andT, orT, iteD, tupD, lstD, someD, isiD, lrgD, seqI, zipI, rngI]
  exact bnd_of h (by simp only [Dn.lft, if_pos hl])
theorem ee_emp : EE R tp (.emp false) en S .edct S := rfl
theorem ee_idx (h1 : EE R tp a en S v S1) (h2 : EE R tp b en S1 w S2) (h3 : pIdx v w S2 = some (u, S3)) : EE R tp (.idx a b) en S u S3 := by
  simp only [EE, ET, EA, EO, EQ, EI, ME.dn, MA.dn, MO.dn, MI.dn, MS.dn, D2.of, D2.ofB, b2, chnD, notD, andD, orD, notT, andT, orT, iteD, tupD, lstD, someD, isiD, lrgD, seqI, zipI, rngI]
  exact bnd_of h1 (bnd_of h2 h3)
theorem eo_no : EO R tp .no en S none S := rfl
theorem eo_so {j : Int} (h : EE R tp a en S (.int j) S1) : EO R tp (.so a) en S (some j) S1 := by
  simp only [EE, ET, EA, EO, EQ, EI, ME.dn, MA.dn, MO.dn, MI.dn, MS.dn, D2.of, D2.ofB, b2, chnD, notD, andD, orD, notT, andT, orT, iteD, tupD, lstD, someD, isiD, lrgD, seqI, zipI, rngI]
  exact bnd_of h rfl
theorem ee_slc {lo hi : MO} {l h : Option Int} (h1 : EE R tp a en S v S1) (h2 : EO R tp lo en S1 l S2) (h3 : EO R tp hi en S2 h S3) (h4 : pSlice m l h v S3 = some (u, S4)) : EE R tp (.slc m a lo hi) en S u S4 := by
  simp only [EE, ET, EA, EO, EQ, EI, ME.dn, MA.dn, MO.dn, MI.dn, MS.dn, D2.of, D2.ofB, b2, chnD, notD, andD, orD, notT, andT, orT, iteD, tupD, lstD, someD, isiD, lrgD, seqI, zipI, rngI]
  exact bnd_of h1 (bnd_of h2 (bnd_of h3 h4))
theorem ee_rev (h1 : EE R tp a en S v S1) (h2 : pRev m v S1 = some (u, S2)) : EE R tp (.rev m a) en S u S2 := by
  simp only [EE, ET, EA, EO, EQ, EI, ME.dn, MA.dn, MO.dn, MI.dn, MS.dn, D2.of, D2.ofB, b2, chnD, notD, andD, orD, notT, andT, orT, iteD, tupD, lstD, someD, isiD, lrgD, seqI, zipI, rngI]
  exact bnd_of h1 h2
theorem ee_cal {f : Nat} (h : EA R tp as en S vs S1) (h2 : R f vs S1 = some (u, S2)) : EE R tp (.cal f as) en S u S2 := by
  simp only [EE, ET, EA, EO, EQ, EI, ME.dn, MA.dn, MO.dn, MI.dn, MS.dn, D2.of, D2.ofB, b2, chnD, notD, andD, orD, notT, andT, orT, iteD, tupD, lstD, someD, isiD, lrgD, seqI, zipI, rngI]
  exact bnd_of h h2
theorem ee_blt {f : Bn} (h : EA R tp as en S vs S1) (h2 : bltF f vs S1 = some (u, S2)) : EE R tp (.blt f as) en S u S2 := by
  simp only [EE, ET, EA, EO, EQ, EI, ME.dn, MA.dn, MO.dn, MI.dn, MS.dn, D2.of, D2.ofB, b2, chnD, notD, andD, orD, notT, andT, orT, iteD, tupD, lstD, someD, isiD, lrgD, seqI, zipI, rngI]
  exact bnd_of h h2
theorem ee_isi {T : String} (h : EE R tp a en S v S1) (h2 : pIsI T v S1 = some k) : EE R tp (.isi T a) en S (.bl k) S1 := by
  simp only [EE, ET, EA, EO, EQ, EI, ME.dn, MA.dn, MO.dn, MI.dn, MS.dn, D2.of, D2.ofB, b2, chnD, notD, andD, orD, notT, andT, orT, iteD, tupD, lstD, someD, isiD, lrgD, seqI, zipI, rngI]
  exact bnd_of h (by simp only [Dn.lft, h2]; rfl)
theorem ee_met {f : Mt} (h : EE R tp o en S v S1) (h2 : EA R tp as en S1 vs S2) (h3 : tyName S2 v = tyName S1 v) (h4 : metF tp f v vs S2 = some (u, S3)) : EE R tp (.met f o as) en S u S3 := by
  simp only [EE, ET, EA, EO, EQ, EI, ME.dn, MA.dn, MO.dn, MI.dn, MS.dn, D2.of, D2.ofB, b2, chnD, notD, andD, orD, notT, andT, orT, iteD, tupD, lstD, someD, isiD, lrgD, seqI, zipI, rngI]
  exact bnd_of h (by
  show (match MA.dn R tp as en S1 with | some p => if tyName p.2 v = tyName S1 v then metF tp f v p.1 p.2 else none | none => none) = _
  rw [show MA.dn R tp as en S1 = some (vs, S2) from h2]
  simp only [h3, if_true, h4])
theorem ee_lrg {j : Int} (h : EE R tp a en S (.int j) S1) (hj : -(2 ^ 62) ≤ j ∧ j.toNat ≤ 2 ^ 24) : EE R tp (.lrg m a) en S (mkL m ((List.range j.toNat).map fun (i : Nat) => PV.int i) S1).1 (mkL m ((List.range j.toNat).map fun (i : Nat) => PV.int i) S1).2 := by
  simp only [EE, ET, EA, EO, EQ, EI, ME.dn, MA.dn, MO.dn, MI.dn, MS.dn, D2.of, D2.ofB, b2, chnD, notD, andD, orD, notT, andT, orT, iteD, tupD, lstD, someD, isiD, lrgD, seqI, zipI, rngI]
  exact bnd_of h (by
  simp only [Dn.lft, if_pos hj])
theorem ea_nil : EA R tp .nil en S [] S := rfl
theorem ea_cons (h : EE R tp a en S v S1) (h2 : EA R tp r en S1 vs S2) : EA R tp (.cons a r) en S (v :: vs) S2 := by
  simp only [EE, ET, EA, EO, EQ, EI, ME.dn, MA.dn, MO.dn, MI.dn, MS.dn, D2.of, D2.ofB, b2, chnD, notD, andD, orD, notT, andT, orT, iteD, tupD, lstD, someD, isiD, lrgD, seqI, zipI, rngI]
  exact bnd_of h (bnd_of h2 rfl)
theorem ea_star {xs : List PV} (h : EE R tp a en S (.tup xs) S1) (h2 : EA R tp r en S1 vs S2) : EA R tp (.star a r) en S (xs ++ vs) S2 := by
  simp only [EE, ET, EA, EO, EQ, EI, ME.dn, MA.dn, MO.dn, MI.dn, MS.dn, D2.of, D2.ofB, b2, chnD, notD, andD, orD, notT, andT, orT, iteD, tupD, lstD, someD, isiD, lrgD, seqI, zipI, rngI]
  exact bnd_of h (by
  show (MA.dn R tp r en S1).map _ = _
  rw [show MA.dn R tp r en S1 = some (vs, S2) from h2]; rfl)
theorem eq_no : EQ R tp .no en S true S := rfl
theorem eq_so (h : ET R tp a en S k S1) : EQ R tp (.so a) en S k S1 := h
/-- a test that is a value's truth -/
theorem et_val (hd : (a.dn R tp).t = tst (a.dn R tp).e) (h : EE R tp a en S v S1) (h2 : truthy S1 v = some k) : ET R tp a en S k S1 := by
  show (a.dn R tp).t en S = _
  rw [hd]
  exact bnd_of h (by simp only [Dn.lft, h2]; rfl)
/-! iterators -/
theorem ei_seq {xs : List PV} (h : EE R tp a en S v S1) (h2 : seqOf S1 v = some xs) : EI R tp (.seq a) en S (.seq v) S1 := by
  simp only [EE, ET, EA, EO, EQ, EI, ME.dn, MA.dn, MO.dn, MI.dn, MS.dn, D2.of, D2.ofB, b2, chnD, notD, andD, orD, notT, andT, orT, iteD, tupD, lstD, someD, isiD, lrgD, seqI, zipI, rngI]
  exact bnd_of h (by simp only [Dn.lft, h2]; rfl)
theorem ei_enu {xs : List PV} (h : EE R tp a en S v S1) (h2 : seqOf S1 v = some xs) : EI R tp (.enu a) en S (.enu v) S1 := by
  simp only [EE, ET, EA, EO, EQ, EI, ME.dn, MA.dn, MO.dn, MI.dn, MS.dn, D2.of, D2.ofB, b2, chnD, notD, andD, orD, notT, andT, orT, iteD, tupD, lstD, someD, isiD, lrgD, seqI, zipI, rngI]
  exact bnd_of h (by simp only [Dn.lft, h2]; rfl)
theorem ei_zip {st : Bool} {xs ys : List PV} (h : EE R tp a en S v S1) (h2 : EE R tp b en S1 w S2) (h3 : seqOf S2 v = some xs) (h4 : seqOf S2 w = some ys) : EI R tp (.zip st a b) en S (.zip st v w) S2 := by
  simp only [EE, ET, EA, EO, EQ, EI, ME.dn, MA.dn, MO.dn, MI.dn, MS.dn, D2.of, D2.ofB, b2, chnD, notD, andD, orD, notT, andT, orT, iteD, tupD, lstD, someD, isiD, lrgD, seqI, zipI, rngI]
  exact bnd_of h (bnd_of h2 (by simp only [Dn.lft, h3, h4]; rfl))
theorem ei_rng {j : Int} (h : EE R tp a en S (.int j) S1) (hj : rngOk 0 j = true) : EI R tp (.rng a) en S (.rng 0 j.toNat) S1 := by
  simp only [EE, ET, EA, EO, EQ, EI, ME.dn, MA.dn, MO.dn, MI.dn, MS.dn, D2.of, D2.ofB, b2, chnD, notD, andD, orD, notT, andT, orT, iteD, tupD, lstD, someD, isiD, lrgD, seqI, zipI, rngI]
  exact bnd_of h (by simp only [Dn.lft, if_pos hj])
/-! comprehensions -/
/-- one that leaves the store as it is -/
theorem ee_lc {it : MI} {q : MO} {us : List Nat} {J : ItV} {xs : List PV} (p : PV → Bool) (g : PV → PV) (hf : EI R tp it en S J S1) (ho : J.okT one = true) (hi : (∀ i, i < xs.length → J.item S1 i = xs[i]?) ∧ J.len S1 = some xs.length) (hz : xs.length ≤ 1000000)
    (turn : ∀ x ∈ xs, ∃ en2, tgF tg one x (wipeE en us) = some en2 ∧ EQ R tp q en2 S1 (p x) S1 ∧ (p x = true → EE R tp e en2 S1 (g x) S1)) : EE R tp (.lc m it tg one us q e) en S (mkL m ((xs.filter p).map g) S1).1 (mkL m ((xs.filter p).map g) S1).2 :=
  lcD_pure (m := m) p g hf ho hi.1 hi.2 (lim_ok hz) turn
/-- .. without a test -/
theorem ee_lc0 {it : MI} {us : List Nat} {J : ItV} {xs : List PV} (g : PV → PV) (hf : EI R tp it en S J S1) (ho : J.okT one = true) (hi : (∀ i, i < xs.length → J.item S1 i = xs[i]?) ∧ J.len S1 = some xs.length) (hz : xs.length ≤ 1000000)
    (turn : ∀ x ∈ xs, ∃ en2, tgF tg one x (wipeE en us) = some en2 ∧ EE R tp e en2 S1 (g x) S1) : EE R tp (.lc m it tg one us .no e) en S (mkL m (xs.map g) S1).1 (mkL m (xs.map g) S1).2 := by
  have := ee_lc (m := m) (q := .no) (fun _ => true) g hf ho hi hz fun x hx => let ⟨en2, h1, h2⟩ := turn x hx; ⟨en2, h1, eq_no, fun _ => h2⟩
  rwa [List.filter_eq_self.mpr (fun _ _ => rfl)] at this
/-- any -/
theorem lcL_inv {J : ItV} {t : Dn Bool} {e : Dn PV} (I : Nat → List PV → Sto → Prop) (n : Nat) (hl : ∀ acc S, I n acc S → J.len S = some n)
    (turn : ∀ i acc S, i < n → I i acc S → ∃ x en2 b S1, J.item S i = some x ∧ tgF tg one x en = some en2 ∧ t en2 S = some (b, S1) ∧ (b = true → ∃ y S2, e en2 S1 = some (y, S2) ∧ acc.length < sizeLine ∧ I (i + 1) (acc ++ [y]) S2) ∧ (b = false → I (i + 1) acc S1)) :
    ∀ (k i : Nat) (acc : List PV) (S : Sto), i + k = n → I i acc S → ∃ acc' S', lcL J tg one t e en k i acc S = some (acc', S') ∧ I n acc' S'
  | 0, i, acc, S, h, hI => by
    obtain rfl : i = n := by omega
    exact ⟨acc, S, by simp only [lcL, hl acc S hI, if_true], hI⟩
  | k + 1, i, acc, S, h, hI => by
    obtain ⟨x, en2, b, S1, h1, h2, h3, h4, h5⟩ := turn i acc S (by omega) hI
    cases b with
    | true =>
      obtain ⟨y, S2, h6, h7, h8⟩ := h4 rfl
      obtain ⟨acc', S', h9, h10⟩ := lcL_inv I n hl turn k (i + 1) _ S2 (by omega) h8
      exact ⟨acc', S', by simp only [lcL, h1, h2, h3, Option.bind_some, h6, if_pos h7]; exact h9, h10⟩
    | false =>
      obtain ⟨acc', S', h9, h10⟩ := lcL_inv I n hl turn k (i + 1) _ S1 (by omega) (h5 rfl)
      exact ⟨acc', S', by simp only [lcL, h1, h2, h3, Option.bind_some]; exact h9, h10⟩
theorem ee_lcI {it : MI} {q : MO} {us : List Nat} {J : ItV} (I : Nat → List PV → Sto → Prop) (n : Nat) (hf : EI R tp it en S J S1) (ho : J.okT one = true) (h0 : J.len S1 = some n) (hI : I 0 [] S1) (hl : ∀ acc S, I n acc S → J.len S = some n)
    (turn : ∀ i acc S, i < n → I i acc S → ∃ x en2 b S1, J.item S i = some x ∧ tgF tg one x (wipeE en us) = some en2 ∧ EQ R tp q en2 S b S1 ∧ (b = true → ∃ y S2, EE R tp e en2 S1 y S2 ∧ acc.length < sizeLine ∧ I (i + 1) (acc ++ [y]) S2) ∧ (b = false → I (i + 1) acc S1)) :
    ∃ acc S', I n acc S' ∧ EE R tp (.lc m it tg one us q e) en S (mkL m acc S').1 (mkL m acc S').2 := by
  obtain ⟨acc, S', h1, h2⟩ := lcL_inv (en := wipeE en us) I n hl turn n 0 [] S1 (by omega) hI
  refine ⟨acc, S', h2, ?_⟩
  simp only [EE, ME.dn, D2.of, lcD]
  refine bnd_of hf ?_
  simp only [ho, if_true, h0, Option.bind_some, h1, Option.map_some]
/-! statements -/
theorem es_seq {q : SR} (h : ES R W tp s en S (.nx en2 S1)) (h2 : ES R W tp t en2 S1 q) : ES R W tp (.seq s t) en S q := by
  show (MS.dn R W tp s en S).bind _ = _
  rw [show MS.dn R W tp s en S = some (.nx en2 S1) from h]; exact h2
theorem es_seqR (h : ES R W tp s en S (.rt v S1)) : ES R W tp (.seq s t) en S (.rt v S1) := by
  show (MS.dn R W tp s en S).bind _ = _
  rw [show MS.dn R W tp s en S = some (.rt v S1) from h]; rfl
theorem ex_of {α : Type} {f : Dn α} {g : α → DS} {x : α} {z : Option SR} (h : f en S = some (x, S1)) (h2 : g x en S1 = z) : exD f g en S = z := by
  simp only [exD, h, h2]
theorem es_nop : ES R W tp .nop en S (.nx en S) := rfl
theorem es_asg (h : EE R tp e en S v S1) (h2 : tgF tg one v en = some en2) : ES R W tp (.asg tg one e) en S (.nx en2 S1) := by
  simp only [ES, MS.dn]
  exact ex_of h (by simp only [h2]; rfl)
theorem es_par (h : EA R tp as en S vs S1) (h2 : setAll is vs en = some en2) : ES R W tp (.par is as) en S (.nx en2 S1) := by
  simp only [ES, MS.dn]
  exact ex_of h (by simp only [h2]; rfl)
theorem es_sub (h : EE R tp e en S v S1) (h2 : EE R tp a en S1 w S2) (h3 : EE R tp b en S2 u S3) (h4 : pSet tp w u v S3 = some S4) : ES R W tp (.sub a b e) en S (.nx en S4) := by
  simp only [ES, MS.dn]
  exact ex_of h (ex_of h2 (ex_of h3 (by simp only [h4]; rfl)))
theorem es_exp (h : EE R tp e en S v S1) : ES R W tp (.exp e) en S (.nx en S1) := by
  simp only [ES, MS.dn]
  exact ex_of h rfl
theorem es_ret (h : EE R tp e en S v S1) : ES R W tp (.ret e) en S (.rt v S1) := by
  simp only [ES, MS.dn]
  exact ex_of h rfl
theorem es_if {q : SR} (h : ET R tp c en S k S1) (h1 : k = true → ES R W tp s en S1 q) (h2 : k = false → ES R W tp t en S1 q) : ES R W tp (.ifS c s t) en S q := by
  simp only [ES, MS.dn]
  exact ex_of h (by
  cases k with
  | true => exact h1 rfl
  | false => exact h2 rfl)
theorem forL_inv {J : ItV} {f : DS} (I : Nat → En → Sto → Prop) (n : Nat) (hl : ∀ en S, I n en S → J.len S = some n)
    (turn : ∀ i en S, i < n → I i en S → ∃ x en2 en3 S3, J.item S i = some x ∧ tgF tg one x en = some en2 ∧ f en2 S = some (.nx en3 S3) ∧ I (i + 1) en3 S3) :
    ∀ (k i : Nat) (en : En) (S : Sto), i + k = n → I i en S → ∃ en' S', forL J tg one f k i en S = some (.nx en' S') ∧ I n en' S'
  | 0, i, en, S, h, hI => by
    obtain rfl : i = n := by omega
    exact ⟨en, S, by simp only [forL, hl en S hI, if_true], hI⟩
  | k + 1, i, en, S, h, hI => by
    obtain ⟨x, en2, en3, S3, h1, h2, h3, h4⟩ := turn i en S (by omega) hI
    obtain ⟨en', S', h9, h10⟩ := forL_inv I n hl turn k (i + 1) en3 S3 (by omega) h4
    exact ⟨en', S', by simp only [forL, h1, h2, h3, Option.bind_some]; exact h9, h10⟩
theorem es_for {it : MI} {J : ItV} (I : Nat → En → Sto → Prop) (n : Nat) (hf : EI R tp it en S J S1) (ho : J.okT one = true) (h0 : J.len S1 = some n) (hI : I 0 en S1) (hl : ∀ en S, I n en S → J.len S = some n)
    (turn : ∀ i en S, i < n → I i en S → ∃ x en2 en3 S3, J.item S i = some x ∧ tgF tg one x en = some en2 ∧ ES R W tp s en2 S (.nx en3 S3) ∧ I (i + 1) en3 S3) :
    ∃ en' S', ES R W tp (.forS it tg one s) en S (.nx en' S') ∧ I n en' S' := by
  obtain ⟨en', S', h1, h2⟩ := forL_inv I n hl turn n 0 en S1 (by omega) hI
  refine ⟨en', S', ?_, h2⟩
  simp only [ES, MS.dn]
  refine ex_of hf ?_
  simp only [ho, if_true, h0, Option.bind_some, h1]
end
end Ev
namespace Ev
open PySem PySem.Spec PyProof.Rows L2

/-! ### turns over things of one's own -/
def Its (J : ItV) (S : Sto) (xs : List PV) : Prop := (∀ i, i < xs.length → J.item S i = xs[i]?) ∧ J.len S = some xs.length
section
variable {α β : Type} {S : Sto}
theorem its_seq {v : PV} {xs : List PV} (h : seqOf S v = some xs) : Its (.seq v) S xs := item_seq h
theorem its_enu {v : PV} {l : List α} {f : α → PV} (h : seqOf S v = some (l.map f)) : Its (.enu v) S (l.zipIdx.map fun p => .tup [.int p.2, f p.1]) := by
  obtain ⟨h1, h2⟩ := item_enu h
  have e : ((l.map f).mapIdx fun i x => PV.tup [.int i, x]) = l.zipIdx.map fun p => .tup [.int p.2, f p.1] := by
    apply List.ext_getElem?
    intro i
    simp only [List.getElem?_mapIdx, List.getElem?_map, List.getElem?_zipIdx]
    cases l[i]? <;> simp
  rw [e] at h1 h2
  exact ⟨h1, h2⟩
theorem its_zip {st : Bool} {v w : PV} {l : List α} {l2 : List β} {f : α → PV} {f2 : β → PV} (h : seqOf S v = some (l.map f)) (h2 : seqOf S w = some (l2.map f2)) (hl : l.length = l2.length) : Its (.zip st v w) S ((l.zip l2).map fun p => .tup [f p.1, f2 p.2]) := by
  obtain ⟨h1, h2⟩ := item_zip (st := st) h h2 (by simpa using hl)
  have e : List.zipWith pr2 (l.map f) (l2.map f2) = (l.zip l2).map fun p => .tup [f p.1, f2 p.2] := by
    rw [List.zipWith_map, List.zip, List.map_zipWith]; rfl
  rw [e] at h1 h2
  exact ⟨h1, h2⟩
theorem its_rng {n : Nat} : Its (.rng 0 n) S ((List.range n).map fun (i : Nat) => PV.int i) := item_rng
end
section
variable {α : Type} {R : Orc} {W tp : Nat} {e : ME} {it : MI} {q : MO} {en : En} {S S1 : Sto} {tg us : List Nat} {one m : Bool} {J : ItV}
theorem lcL_pureM {t : Dn Bool} {e : Dn PV} {l : List α} (f g : α → PV) (p : α → Bool) (hi : Its J S (l.map f)) (hz : l.length ≤ 1000000)
    (turn : ∀ a ∈ l, ∃ en2, tgF tg one (f a) en = some en2 ∧ t en2 S = some (p a, S) ∧ (p a = true → e en2 S = some (g a, S))) :
    ∀ (k i : Nat) (acc : List PV), i + k = l.length → acc.length ≤ i → lcL J tg one t e en k i acc S = some (acc ++ ((l.drop i).filter p).map g, S)
  | 0, i, acc, h, _ => by
    have hl := hi.2
    rw [List.length_map] at hl
    have hi' : i = l.length := by omega
    subst hi'
    simp [lcL, hl]
  | k + 1, i, acc, h, ha => by
    have hlt : i < l.length := by omega
    obtain ⟨en2, h1, h2, h3⟩ := turn l[i] (List.getElem_mem hlt)
    have hx : J.item S i = some (f l[i]) := by
      rw [hi.1 i (by simpa using hlt), List.getElem?_map, List.getElem?_eq_getElem hlt]; rfl
    rw [List.drop_eq_getElem_cons hlt, List.filter_cons]
    simp only [lcL, hx, Option.bind_some, h1, h2]
    cases hp : p l[i] with
    | false => simp only [Bool.false_eq_true, if_false]; exact lcL_pureM f g p hi hz turn k (i + 1) acc (by omega) (by omega)
    | true =>
      have hlim : acc.length < sizeLine := by rw [sizeLine_eq]; omega
      simp only [h3 hp, Option.bind_some, if_pos hlim, if_true]
      rw [lcL_pureM f g p hi hz turn k (i + 1) (acc ++ [g l[i]]) (by omega) (by simp; omega)]
      simp
theorem ee_lcM {l : List α} (f g : α → PV) (p : α → Bool) (hf : EI R tp it en S J S1) (ho : J.okT one = true) (hi : Its J S1 (l.map f)) (hz : l.length ≤ 1000000)
    (turn : ∀ a ∈ l, ∃ en2, tgF tg one (f a) (wipeE en us) = some en2 ∧ EQ R tp q en2 S1 (p a) S1 ∧ (p a = true → EE R tp e en2 S1 (g a) S1)) : EE R tp (.lc m it tg one us q e) en S (mkL m ((l.filter p).map g) S1).1 (mkL m ((l.filter p).map g) S1).2 := by
  have h1 := lcL_pureM (en := wipeE en us) f g p hi hz turn l.length 0 [] (by omega) (by simp)
  have h2 := hi.2
  rw [List.length_map] at h2
  simp only [List.nil_append, List.drop_zero] at h1
  simp only [EE, ME.dn, D2.of, lcD]
  refine bnd_of hf ?_
  simp only [ho, if_true, h2, Option.bind_some, h1, Option.map_some]
theorem ee_lcN {l : List α} (f g : α → PV) (hf : EI R tp it en S J S1) (ho : J.okT one = true) (hi : Its J S1 (l.map f)) (hz : l.length ≤ 1000000)
    (turn : ∀ a ∈ l, ∃ en2, tgF tg one (f a) (wipeE en us) = some en2 ∧ EE R tp e en2 S1 (g a) S1) : EE R tp (.lc m it tg one us .no e) en S (mkL m (l.map g) S1).1 (mkL m (l.map g) S1).2 := by
  have := ee_lcM (m := m) (q := .no) f g (fun _ => true) hf ho hi hz fun x hx => let ⟨en2, h1, h2⟩ := turn x hx; ⟨en2, h1, eq_no, fun _ => h2⟩
  rwa [List.filter_eq_self.mpr (fun _ _ => rfl)] at this
/-- a for loop over things of one's own, the body goes on each time; st: the state ahead of the i-th turn -/
theorem es_forM {s : MS} {l : List α} (f : α → PV) (I : Nat → En → Sto → Prop) (hf : EI R tp it en S J S1) (ho : J.okT one = true) (hi : ∀ i en S, I i en S → Its J S (l.map f)) (hI : I 0 en S1)
    (turn : ∀ i a en S, l[i]? = some a → I i en S → ∃ en2 en3 S3, tgF tg one (f a) en = some en2 ∧ ES R W tp s en2 S (.nx en3 S3) ∧ I (i + 1) en3 S3) :
    ∃ en' S', ES R W tp (.forS it tg one s) en S (.nx en' S') ∧ I l.length en' S' := by
  refine es_for I l.length hf ho ?_ hI (fun en S h => ?_) fun i en S hlt h => ?_
  · have := (hi 0 en S1 hI).2; rwa [List.length_map] at this
  · have := (hi _ en S h).2; rwa [List.length_map] at this
  · obtain ⟨en2, en3, S3, h1, h2, h3⟩ := turn i l[i] en S (List.getElem?_eq_getElem hlt) h
    refine ⟨f l[i], en2, en3, S3, ?_, h1, h2, h3⟩
    rw [(hi i en S h).1 i (by simpa using hlt), List.getElem?_map, List.getElem?_eq_getElem hlt]; rfl
end
end Ev
namespace Ev
open PySem PySem.Spec PyProof.Rows L2

/-! ### rows over two marks -/
def xr : List Bool → List Bool → List Bool
  | a :: as, b :: bs => (a != b) :: xr as bs
  | _, _ => []
def dt : List Bool → List Bool → Bool
  | a :: as, b :: bs => (a && b) != dt as bs
  | _, _ => false
theorem xr_len : ∀ {a b : List Bool}, a.length = b.length → (xr a b).length = a.length
  | [], [], _ => rfl
  | _ :: as, _ :: bs, h => by simp [xr, xr_len (a := as) (b := bs) (by simpa using h)]
theorem xr_get : ∀ {a b : List Bool} (i : Nat), (xr a b)[i]? = match a[i]?, b[i]? with | some x, some y => some (x != y) | _, _ => none
  | [], b, i => by cases b <;> simp [xr]
  | a :: as, [], i => by simp [xr]
  | a :: as, b :: bs, 0 => rfl
  | a :: as, b :: bs, i + 1 => by simpa [xr] using xr_get (a := as) (b := bs) i
theorem b2z_ne (x y : Bool) : (!decide ((if x then 1 else 0 : Int) = (if y then 1 else 0))) = (x != y) := by cases x <;> cases y <;> rfl
/-- program's sum -/
theorem r_sum (k : Nat) (S : Sto) {a b : List Bool} (h : a.length = b.length) (hz : a.length ≤ 1000000) : run ds 100 (k + 1) 0 [er a, er b] S = some (er (xr a b), S) := by
  refine run_rt0 (d := df0) rfl rfl rfl ?_ (no_er _)
  have hb : ∀ i (m : Bool), a[i]? = some m → ∃ y : Bool, b[i]? = some y := fun i m e => by
    have := (List.getElem?_eq_some_iff.mp e).1
    exact ⟨b[i]'(by omega), List.getElem?_eq_getElem _⟩
  have := es_seqR (R := run ds 100 k) (W := 100) (tp := S.length) (t := .nop) (es_ret (en := [some (er a), some (er b), none, none]) (ee_blt (f := .tup) (ea_cons (ee_lc0 (m := false) (it := .enu (.var 0)) (tg := [2, 3]) (one := false) (us := [2, 3]) (e := .blt .int (.cons (.cmp .NotEq (.var 3) (.idx (.var 1) (.var 2))) .nil)) (S1 := S)
    (fun x => match x with
      | .tup [.int i, .int m] => match (b.map eb)[i.toNat]? with
        | some (.int y) => .int (b2z (!decide (m = y)))
        | _ => .non
      | _ => .non) (ei_enu (ee_var rfl) rfl) rfl (item_enu (xs := a.map eb) rfl) (by simpa using hz) (fun x hx => ?_)) ea_nil) rfl))
  · have key : List.map (fun x => match x with
      | .tup [.int i, .int m] => match (b.map eb)[i.toNat]? with
        | some (.int y) => PV.int (b2z (!decide (m = y)))
        | _ => .non
      | _ => .non) ((a.map eb).mapIdx fun i x => PV.tup [.int i, x]) = (xr a b).map eb := by
      apply List.ext_getElem?
      intro i
      rw [List.getElem?_map, List.getElem?_mapIdx, List.getElem?_map, List.getElem?_map, xr_get]
      cases ha : a[i]? with
      | none => rfl
      | some m =>
        obtain ⟨y, hy⟩ := hb i m ha
        simp only [Option.map_some, eb, Int.toNat_natCast, List.getElem?_map, hy]
        congr 2
        cases m <;> cases y <;> rfl
    rw [key] at this
    exact this
  · obtain ⟨i, hi, rfl⟩ := List.mem_mapIdx.mp hx
    have hi' : i < a.length := by simpa using hi
    refine ⟨[some (er a), some (er b), some (.int i), some ((a.map eb)[i])], rfl, ?_⟩
    have hby : b[i]? = some (b[i]'(by omega)) := List.getElem?_eq_getElem _
    refine ee_blt (vs := [.bl (!decide ((if a[i] then 1 else 0 : Int) = (if b[i]'(by omega) then 1 else 0)))]) (S1 := S) (ea_cons (ee_cmp (ee_var rfl) (ee_idx (u := eb (b[i]'(by omega))) (ee_var rfl) (ee_var rfl) ?_) ?_) ea_nil) ?_
    · show pIdx (.tup (b.map eb)) (.int i) S = _
      rw [idx_tup (j := i) rfl, List.getElem?_map, hby]; rfl
    · simp only [List.getElem_map, eb]
      exact (eq_int .NotEq _ _ S).2
    · simp only [List.getElem_map, eb, Int.toNat_natCast, List.getElem?_map, hby, Option.map_some]
      rfl
end Ev
namespace Ev
open PySem PySem.Spec PyProof.Rows L2

def bi (b : Bool) : Int := if b then 1 else 0
theorem eb_bi (b : Bool) : eb b = .int (bi b) := rfl
theorem no_bl (b : Bool) : ltB 0 (.bl b) = true := by simp [ltB]
theorem no_int (b : Int) : ltB 0 (.int b) = true := by simp [ltB]
theorem no_str (b : Str) : ltB 0 (.str b) = true := by simp [ltB]
theorem no_non : ltB 0 .non = true := by simp [ltB]
theorem map_int {α : Type} (l : List α) (h : α → Int) : (l.map fun a => PV.int (h a)) = (l.map h).map PV.int := by rw [List.map_map]; rfl
theorem zip_sum : ∀ (a b : List Bool), 0 ≤ ((a.zip b).map fun p => bi (p.1 && p.2)).sum ∧ ((a.zip b).map fun p => bi (p.1 && p.2)).sum % 2 = bi (dt a b)
  | [], b => by simp [dt, bi]
  | _ :: _, [] => by simp [dt, bi]
  | a :: as, b :: bs => by
    obtain ⟨h1, h2⟩ := zip_sum as bs
    simp only [List.zip_cons_cons, List.map_cons, List.sum_cons, dt]
    generalize ((as.zip bs).map fun p => bi (p.1 && p.2)).sum = s at h1 h2 ⊢
    generalize dt as bs = d at h2 ⊢
    cases a <;> cases b <;> cases d <;> simp [bi] at h2 ⊢ <;> omega
theorem sum_lst {α : Type} (l : List α) (h : α → Int) (S : Sto) : pSum [.lst (l.map fun a => PV.int (h a))] S = some (.int (l.map h).sum, S) := by
  simp only [pSum, isTup, seqOf, map_int, ints?_map, Option.map_some]; rfl
theorem mul_eb (a b : Bool) (m : Bool) (S : Sto) : pMul m (eb a) (eb b) S = some (.int (bi (a && b)), S) := by cases a <;> cases b <;> rfl
/-- a scalar product's parity, the text of both -/
theorem r_even (k : Nat) (S : Sto) {a b : List Bool} (h : a.length = b.length) (hz : a.length ≤ 1000000) : run ds 100 (k + 1) 1 [er a, er b] S = some (.bl (!dt a b), S) := by
  refine run_rt0 (d := df1) rfl rfl rfl ?_ (no_bl _)
  have hsum := zip_sum a b
  refine es_seqR (R := run ds 100 k) (W := 100) (tp := S.length) (t := .nop) (es_ret (en := [some (er a), some (er b), none, none]) (ee_cmp (v := .int (bi (dt a b))) (w := .int 0) (S1 := S) (S2 := S) (ee_bin (v := .int ((a.zip b).map fun p => bi (p.1 && p.2)).sum) (S1 := S) (ee_blt (ea_cons (ee_lcN (m := false) (l := a.zip b)
    (fun p => .tup [eb p.1, eb p.2]) (fun p => .int (bi (p.1 && p.2))) (ei_zip (ee_var rfl) (ee_var rfl) rfl rfl) rfl (its_zip (l := a) (l2 := b) (f := eb) (f2 := eb) rfl rfl h) (by simp; omega) (fun p hp => ?_)) ea_nil) ?_) ee_con ?_) ee_con ?_))
  · exact ⟨[some (er a), some (er b), some (eb p.1), some (eb p.2)], rfl, ee_bin (op := .Mult) (m := false) (ee_var rfl) (ee_var rfl) (mul_eb _ _ false _)⟩
  · exact sum_lst _ _ _
  · simp only [opF, pMod]
    rw [if_pos (by decide), Int.fmod_eq_emod_of_nonneg _ (by decide), hsum.2]
  · rw [(eq_int .Eq _ _ S).1]
    cases dt a b <;> rfl
/-- the place of the first one -/
def ld : List Bool → Nat
  | true :: _ => 0
  | false :: r => ld r + 1
  | [] => 0
theorem ld_get : ∀ {v : List Bool}, true ∈ v → v[ld v]? = some true
  | true :: _, _ => rfl
  | false :: r, h => by simpa [ld] using ld_get (v := r) (by simpa using h)
theorem ld_lt {v : List Bool} (h : true ∈ v) : ld v < v.length := (List.getElem?_eq_some_iff.mp (ld_get h)).1
theorem ld_before : ∀ {v : List Bool} {i : Nat}, i < ld v → v[i]? = some true → False
  | true :: _, i, h, _ => by simp [ld] at h
  | false :: r, 0, _, e => by simp at e
  | false :: r, i + 1, h, e => ld_before (v := r) (i := i) (by simpa [ld] using h) (by simpa using e)
  | [], i, h, _ => by simp [ld] at h
theorem eqF_eb (b : Bool) : eqF (eb b) (.int 1) = b := by cases b <;> rfl
theorem find_ld : ∀ {v : List Bool}, true ∈ v → (v.map eb).findIdx? (fun z => eqF z (.int 1)) = some (ld v)
  | true :: r, _ => by rw [List.map_cons, List.findIdx?_cons, eqF_eb]; rfl
  | false :: r, h => by
    rw [List.map_cons, List.findIdx?_cons, eqF_eb, find_ld (v := r) (by simpa using h)]; rfl
theorem flat_er (v : List Bool) : (v.map eb).all flat = true := by
  induction v with
  | nil => rfl
  | cons a r ih => rw [List.map_cons, List.all_cons, ih]; rfl
theorem index_er {v : List Bool} (h : true ∈ v) (S : Sto) : pIndex (er v) [.int 1] S = some (.int (ld v), S) := by
  simp only [pIndex, er, seqOf, flat_er, find_ld h, flat]; rfl
theorem r_first (k : Nat) (S : Sto) {v : List Bool} (h : true ∈ v) : run ds 100 (k + 1) 2 [er v] S = some (.int (ld v), S) := by
  refine run_rt0 (d := df2) rfl rfl rfl ?_ (no_int _)
  exact es_seqR (R := run ds 100 k) (W := 100) (tp := S.length) (t := .nop) (es_ret (en := [some (er v)]) (ee_met (f := .idx) (ee_var rfl) (ea_cons ee_con ea_nil) rfl (index_er h S)))
theorem inV_er (v : List Bool) : inV (.int 1) ((v.map eb).map fv) = v.contains true := by
  induction v with
  | nil => rfl
  | cons a r ih =>
    unfold inV at ih ⊢
    rw [List.map_cons, List.map_cons, List.any_cons, ih]
    cases a <;> simp [eb, fv, eqV]
theorem in_er (v : List Bool) (S : Sto) : pCmp .In (.int 1) (er v) S = some (v.contains true) := by
  simp only [pCmp, er, seqOf, flat_er, flat, Bool.and_self, if_true, fv]
  rw [← inV_er]
/-- the sum of rows -/
def sums (n : Nat) (rows : List (List Bool)) : List Bool := rows.foldl xr (List.replicate n false)
theorem zeros (n : Nat) (m : Bool) (S : Sto) (h : n ≤ 1000) : pMul m (.tup [.int 0]) (.int n) S = some (.tup ((List.replicate n false).map eb), S) ∨ n = 0 := by
  by_cases h0 : n = 0
  · exact .inr h0
  · left
    have e : (List.replicate n [PV.int 0]).flatten = (List.replicate n false).map eb := by
      rw [List.map_replicate]
      clear h h0
      induction n with
      | zero => rfl
      | succ n ih => rw [List.replicate_succ, List.replicate_succ, List.flatten_cons, ih]; rfl
    by_cases h1 : n = 1
    · subst h1; rfl
    · simp only [pMul]
      rw [if_pos ⟨by simp, by omega, by omega, by simp⟩, Int.toNat_natCast, e]
theorem foldl_len : ∀ {rows : List (List Bool)} {v : List Bool} {n : Nat}, v.length = n → (∀ r ∈ rows, r.length = n) → (rows.foldl xr v).length = n
  | [], _, _, h, _ => h
  | r :: rs, v, n, h, hr => foldl_len (rows := rs) (v := xr v r) (by rw [xr_len (by rw [h, hr r (List.mem_cons_self ..)]), h]) fun x hx => hr x (List.mem_cons_of_mem _ hx)
theorem sums_len {n : Nat} {rows : List (List Bool)} (hr : ∀ r ∈ rows, r.length = n) : (sums n rows).length = n := foldl_len (by simp) hr
end Ev
namespace Ev
open PySem PySem.Spec PyProof.Rows L2

theorem zeros1 {n : Nat} (m : Bool) (S : Sto) (h1 : 1 ≤ n) (h : n ≤ 1000) : pMul m (.tup [.int 0]) (.int n) S = some (er (List.replicate n false), S) := (zeros n m S h).resolve_right (by omega)
theorem xr_of {a b : List Bool} {n : Nat} (ha : a.length = n) (hb : b.length = n) : a.length = b.length := ha.trans hb.symm
/-- sum_of_rows -/
theorem r_sums (k : Nat) (S : Sto) {n : Nat} {rows : List (List Bool)} {v : PV} (h1 : 1 ≤ n) (hn : n ≤ 1000) (hr : ∀ r ∈ rows, r.length = n) (hl : rows.length ≤ 1000000) (hv : seqOf S v = some (rows.map er)) :
    run ds 100 (k + 2) 4 [.int n, v] S = some (er (sums n rows), S) := by
  refine run_rt0 (d := df4) rfl rfl rfl ?_ (no_er _)
  obtain ⟨en', S', h, ⟨rfl, y, rfl⟩⟩ := es_forM (R := run ds 100 (k + 1)) (W := 100) (tp := S.length) (it := .seq (.var 1)) (tg := [3]) (one := true) (s := .seq (.asg [2] true (.cal 0 (.cons (.var 2) (.cons (.var 3) .nil)))) .nop) (l := rows) (J := .seq v)
    (en := [some (.int n), some v, some (er (List.replicate n false)), none]) (S := S) (S1 := S) er (fun i en T => S = T ∧ ∃ y, en = [some (.int n), some v, some (er ((rows.take i).foldl xr (List.replicate n false))), y])
    (ei_seq (ee_var rfl) hv) rfl (fun i en T h => by rw [← h.1]; exact its_seq hv) ⟨rfl, none, rfl⟩ (fun i a en T hi hI => by
      obtain ⟨e, y, rfl⟩ := hI
      subst e
      have hlt := (List.getElem?_eq_some_iff.mp hi).1
      have ha : a.length = n := hr a (List.mem_of_getElem? hi)
      have hf : ((rows.take i).foldl xr (List.replicate n false)).length = n := foldl_len (by simp) fun x hx => hr x (List.mem_of_mem_take hx)
      refine ⟨[some (.int n), some v, some (er ((rows.take i).foldl xr (List.replicate n false))), some (er a)], _, _, rfl, es_seq (es_asg (ee_cal (ea_cons (ee_var rfl) (ea_cons (ee_var rfl) ea_nil)) (r_sum k _ (xr_of hf ha) (by omega))) rfl) es_nop, rfl, some (er a), ?_⟩
      rw [List.take_succ, hi, List.foldl_append]; rfl)
  refine es_seq (en2 := [some (.int n), some v, some (er (List.replicate n false)), none]) (es_asg (ee_bin (op := .Mult) (m := false) (ee_tup (ea_cons ee_con ea_nil) (by decide)) (ee_var rfl) (zeros1 false S h1 hn)) rfl) (es_seq h (es_seqR (es_ret (ee_var ?_))))
  rw [List.take_of_length_le (Nat.le_refl _)]; rfl
/-- the law's sum -/
theorem r_lsum (k : Nat) (S : Sto) {a b : List Bool} (h : a.length = b.length) (hz : a.length ≤ 1000000) : run ds 100 (k + 1) 23 [er a, er b] S = some (er (xr a b), S) := by
  refine run_rt0 (d := df23) rfl rfl rfl ?_ (no_er _)
  have := es_seqR (R := run ds 100 k) (W := 100) (tp := S.length) (t := .nop) (es_ret (en := [some (er a), some (er b), none, none]) (ee_blt (f := .tup) (ea_cons (ee_lcN (S := S) (S1 := S) (m := false) (it := .zip false (.var 0) (.var 1)) (us := [2, 3]) (tg := [2, 3]) (one := false) (l := a.zip b) (e := .blt .int (.cons (.cmp .NotEq (.var 2) (.var 3)) .nil))
    (fun p => .tup [eb p.1, eb p.2]) (fun p => eb (p.1 != p.2)) (ei_zip (st := false) (ee_var rfl) (ee_var rfl) rfl rfl) rfl (its_zip (l := a) (l2 := b) (f := eb) (f2 := eb) rfl rfl h) (by simp; omega) (fun p hp => ?_)) ea_nil) rfl))
  · have key : (a.zip b).map (fun p => eb (p.1 != p.2)) = (xr a b).map eb := by
      clear this hz
      induction a generalizing b with
      | nil => cases b <;> rfl
      | cons x a ih => cases b with
        | nil => rfl
        | cons y b => simp only [List.zip_cons_cons, List.map_cons, xr, ih (by simpa using h)]
    rw [key] at this
    exact this
  · refine ⟨[some (er a), some (er b), some (eb p.1), some (eb p.2)], rfl, ee_blt (f := .int) (ea_cons (ee_cmp (op := .NotEq) (ee_var rfl) (ee_var rfl) (eq_int .NotEq _ _ S).2) ea_nil) ?_⟩
    obtain ⟨x, y⟩ := p
    cases x <;> cases y <;> rfl
/-- the law's parity -/
theorem r_odd (k : Nat) (S : Sto) {a b : List Bool} (h : a.length = b.length) (hz : a.length ≤ 1000000) : run ds 100 (k + 1) 29 [er a, er b] S = some (.bl (dt a b), S) := by
  refine run_rt0 (d := df29) rfl rfl rfl ?_ (no_bl _)
  have hsum := zip_sum a b
  refine es_seqR (R := run ds 100 k) (W := 100) (tp := S.length) (t := .nop) (es_ret (en := [some (er a), some (er b), none, none]) (ee_cmp (v := .int (bi (dt a b))) (w := .int 1) (S1 := S) (S2 := S) (ee_bin (v := .int ((a.zip b).map fun p => bi (p.1 && p.2)).sum) (S1 := S) (ee_blt (f := .int) (ea_cons (ee_blt (f := .sum) (ea_cons (ee_lcN (m := false) (l := a.zip b)
    (fun p => .tup [eb p.1, eb p.2]) (fun p => .int (bi (p.1 && p.2))) (ei_zip (st := false) (ee_var rfl) (ee_var rfl) rfl rfl) rfl (its_zip (l := a) (l2 := b) (f := eb) (f2 := eb) rfl rfl h) (by simp; omega) (fun p hp => ?_)) ea_nil) (sum_lst _ _ _)) ea_nil) rfl) ee_con ?_) ee_con ?_))
  · exact ⟨[some (er a), some (er b), some (eb p.1), some (eb p.2)], rfl, ee_bin (op := .Mult) (m := false) (ee_var rfl) (ee_var rfl) (mul_eb _ _ false _)⟩
  · simp only [opF, pMod]
    rw [if_pos (by decide), Int.fmod_eq_emod_of_nonneg _ (by decide), hsum.2]
  · rw [(eq_int .Eq _ _ S).1]
    cases dt a b <;> rfl
/-- a mark of a row -/
def at' (v : List Bool) (i : Nat) : Bool := (v[i]?).getD false
theorem idx_er {v : List Bool} {i : Nat} (h : i < v.length) (S : Sto) : pIdx (er v) (.int i) S = some (eb (at' v i), S) := by
  unfold er at'
  rw [idx_tup (j := i) rfl, List.getElem?_map, List.getElem?_eq_getElem h]; rfl
theorem eq_one (b : Bool) (S : Sto) : pCmp .Eq (eb b) (.int 1) S = some b := by
  rw [eb_bi, (eq_int .Eq _ _ S).1]; cases b <;> rfl
/-- one reduced by another -/
def redby (here one : List Bool) : List Bool := if at' here (ld one) then xr here one else here
theorem redby_len {a b : List Bool} {n : Nat} (ha : a.length = n) (hb : b.length = n) : (redby a b).length = n := by
  unfold redby; split
  · rw [xr_len (xr_of ha hb), ha]
  · exact ha
def clr (p : Nat) (h one : List Bool) : List Bool := if at' one p then xr one h else one
theorem clr_len {a b : List Bool} {n p : Nat} (ha : a.length = n) (hb : b.length = n) : (clr p b a).length = n := by
  unfold clr; split
  · rw [xr_len (xr_of ha hb), ha]
  · exact ha
/-- told_rows' step -/
def stepT (found : List (List Bool)) (row : List Bool) : List (List Bool) :=
  let here := found.foldl redby row
  if here.contains true then found.map (clr (ld here) here) ++ [here] else found
def toldF (rows : List (List Bool)) : List (List Bool) := rows.foldl stepT []
/-- what every found row is -/
def Rw (n : Nat) (F : List (List Bool)) : Prop := ∀ r ∈ F, r.length = n ∧ true ∈ r
theorem red_len {n : Nat} : ∀ {F : List (List Bool)} {row : List Bool}, (∀ r ∈ F, r.length = n) → row.length = n → (F.foldl redby row).length = n
  | [], _, _, h => h
  | r :: F, row, hF, h => red_len (F := F) (fun x hx => hF x (List.mem_cons_of_mem _ hx)) (redby_len h (hF r (List.mem_cons_self ..)))
theorem stepT_len {F : List (List Bool)} {row : List Bool} : (stepT F row).length ≤ F.length + 1 := by
  unfold stepT; dsimp only; split
  · simp
  · omega
theorem toldF_len : ∀ {rows F : List (List Bool)}, (rows.foldl stepT F).length ≤ F.length + rows.length
  | [], F => by simp
  | r :: rows, F => by
    have := toldF_len (rows := rows) (F := stepT F r)
    have := stepT_len (F := F) (row := r)
    simp only [List.foldl_cons, List.length_cons]; omega
end Ev
namespace Ev

/-! ### rows over two marks: leads, reducing, spans -/
abbrev Row := List Bool
theorem at_xr {a b : Row} (h : a.length = b.length) (i : Nat) : at' (xr a b) i = (at' a i != at' b i) := by
  unfold at'
  rw [xr_get]
  cases ha : a[i]? with
  | none =>
    have : b[i]? = none := by rw [List.getElem?_eq_none_iff] at ha ⊢; omega
    rw [this]; rfl
  | some x =>
    have hlt := (List.getElem?_eq_some_iff.mp ha).1
    rw [List.getElem?_eq_getElem (show i < b.length by omega)]; rfl
theorem at_ext {a b : Row} (h : a.length = b.length) (e : ∀ i, i < a.length → at' a i = at' b i) : a = b := by
  apply List.ext_getElem h
  intro i h1 h2
  have := e i h1
  unfold at' at this
  rw [List.getElem?_eq_getElem h1, List.getElem?_eq_getElem h2] at this
  exact this
theorem at_big {a : Row} {i : Nat} (h : a.length ≤ i) : at' a i = false := by
  unfold at'; rw [List.getElem?_eq_none h]; rfl
theorem at_zero (n i : Nat) : at' (List.replicate n false) i = false := by
  unfold at'; rw [List.getElem?_replicate]; split <;> rfl
theorem at_mem {a : Row} {i : Nat} (h : at' a i = true) : true ∈ a := by
  unfold at' at h
  cases e : a[i]? with
  | none => rw [e] at h; cases h
  | some x => rw [e] at h; cases h; exact List.mem_of_getElem? e
theorem at_ld {a : Row} (h : true ∈ a) : at' a (ld a) = true := by unfold at'; rw [ld_get h]; rfl
theorem at_before {a : Row} {i : Nat} (h : i < ld a) : at' a i = false := by
  unfold at'
  cases e : a[i]? with
  | none => rfl
  | some x => cases x with
    | false => rfl
    | true => exact (ld_before h e).elim
/-- the lead is told by what stands there and ahead -/
theorem ld_of {a : Row} {p : Nat} (h : at' a p = true) (hb : ∀ q, q < p → at' a q = false) : ld a = p := by
  have hm := at_mem h
  rcases Nat.lt_trichotomy (ld a) p with h1 | h1 | h1
  · have := hb _ h1; rw [at_ld hm] at this; cases this
  · exact h1
  · have := at_before h1; rw [h] at this; cases this
theorem xr_comm : ∀ (a b : Row), xr a b = xr b a
  | [], [] => rfl
  | [], _ :: _ => rfl
  | _ :: _, [] => rfl
  | a :: as, b :: bs => by simp only [xr, xr_comm as bs]; cases a <;> cases b <;> rfl
theorem xr_self : ∀ (a : Row), xr a a = List.replicate a.length false
  | [] => rfl
  | a :: as => by simp only [xr, xr_self as, List.length_cons, List.replicate_succ]; cases a <;> rfl
theorem xr_zero : ∀ (a : Row), xr a (List.replicate a.length false) = a
  | [] => rfl
  | a :: as => by simp only [List.length_cons, List.replicate_succ, xr, xr_zero as]; cases a <;> rfl
theorem xr_assoc : ∀ (a b c : Row), xr (xr a b) c = xr a (xr b c)
  | [], b, c => by cases b <;> cases c <;> rfl
  | _ :: _, [], c => by cases c <;> rfl
  | _ :: _, _ :: _, [] => rfl
  | a :: as, b :: bs, c :: cs => by simp only [xr, xr_assoc as bs cs]; cases a <;> cases b <;> cases c <;> rfl
theorem xr_back {a b : Row} (h : a.length = b.length) : xr (xr a b) b = a := by
  rw [xr_assoc, xr_self, ← h, xr_zero]

/-! spans -/
inductive Sp (n : Nat) (G : List Row) : Row → Prop
  | zero : Sp n G (List.replicate n false)
  | add {r v : Row} : r ∈ G → Sp n G v → Sp n G (xr v r)
def Len (n : Nat) (G : List Row) : Prop := ∀ r ∈ G, r.length = n
theorem Sp.len {n : Nat} {G : List Row} (hG : Len n G) {v : Row} (h : Sp n G v) : v.length = n := by
  induction h with
  | zero => simp
  | add hr _ ih => rw [xr_len (by rw [ih, hG _ hr]), ih]
theorem Sp.of {n : Nat} {G : List Row} (hG : Len n G) {r : Row} (h : r ∈ G) : Sp n G r := by
  have := Sp.add (n := n) h .zero
  rw [xr_comm, ← hG r h, xr_zero] at this
  rw [← hG r h]; exact this
theorem Sp.xr {n : Nat} {G : List Row} (hG : Len n G) {u v : Row} (hu : Sp n G u) (hv : Sp n G v) : Sp n G (xr u v) := by
  induction hv with
  | zero => rw [← hu.len hG, xr_zero]; rw [hu.len hG]; exact hu
  | add hr _ ih => rw [← xr_assoc]; exact .add hr ih
theorem Sp.mono {n : Nat} {G G' : List Row} (hG' : Len n G') (h : ∀ r ∈ G, Sp n G' r) {v : Row} (hv : Sp n G v) : Sp n G' v := by
  induction hv with
  | zero => exact .zero
  | add hr _ ih => exact ih.xr hG' (h _ hr)
theorem Sp.sub {n : Nat} {G G' : List Row} (h : ∀ r ∈ G, r ∈ G') {v : Row} (hv : Sp n G v) : Sp n G' v := by
  induction hv with
  | zero => exact .zero
  | add hr _ ih => exact .add (h _ hr) ih

/-! leads and clear places -/
structure Piv (n : Nat) (F : List Row) : Prop where
  row : ∀ r ∈ F, r.length = n ∧ true ∈ r
  pw : F.Pairwise fun r s => at' s (ld r) = false ∧ at' r (ld s) = false
theorem Piv.len {n : Nat} {F : List Row} (h : Piv n F) : Len n F := fun r hr => (h.row r hr).1
theorem red_keep {p n : Nat} : ∀ {F : List Row} {row : Row}, Len n F → row.length = n → (∀ s ∈ F, at' s p = false) → at' (F.foldl redby row) p = at' row p
  | [], _, _, _, _ => rfl
  | s :: F, row, hF, hr, h => by
    rw [List.foldl_cons, red_keep (F := F) (fun x hx => hF x (List.mem_cons_of_mem _ hx)) (redby_len hr (hF s (List.mem_cons_self ..))) fun x hx => h x (List.mem_cons_of_mem _ hx)]
    unfold redby
    split
    · rw [at_xr (by rw [hr, hF s (List.mem_cons_self ..)]), h s (List.mem_cons_self ..)]; simp
    · rfl
/-- behind the reducing no lead is left; here it is enough that each lead is clear in the later ones -/
theorem red_clear {n : Nat} : ∀ {F : List Row} {row : Row}, (∀ r ∈ F, r.length = n ∧ true ∈ r) → F.Pairwise (fun r s => at' s (ld r) = false) → row.length = n → ∀ r ∈ F, at' (F.foldl redby row) (ld r) = false
  | s :: F, row, hF, hp, hr, r, hm => by
    rw [List.pairwise_cons] at hp
    have hs := hF s (List.mem_cons_self ..)
    have hl := redby_len hr hs.1
    have hF' : ∀ r ∈ F, r.length = n ∧ true ∈ r := fun x hx => hF x (List.mem_cons_of_mem _ hx)
    rcases List.mem_cons.mp hm with rfl | hm
    · rw [List.foldl_cons, red_keep (fun x hx => (hF' x hx).1) hl hp.1]
      unfold redby
      split
      · rename_i h
        rw [at_xr (by rw [hr, hs.1]), h, at_ld hs.2]; rfl
      · rename_i h; simpa using h
    · exact red_clear hF' hp.2 hl r hm
theorem red_sp {n : Nat} : ∀ {F G : List Row} {row : Row}, Len n G → (∀ r ∈ F, Sp n G r) → Sp n G row → Sp n G (F.foldl redby row)
  | [], _, _, _, _, h => h
  | s :: F, G, row, hG, hF, h => by
    rw [List.foldl_cons]
    refine red_sp (F := F) hG (fun x hx => hF x (List.mem_cons_of_mem _ hx)) ?_
    unfold redby
    split
    · exact h.xr hG (hF s (List.mem_cons_self ..))
    · exact h
/-- .. and back -/
theorem red_back {n : Nat} : ∀ {F G : List Row} {row : Row}, Len n G → row.length = n → (∀ r ∈ F, Sp n G r) → Sp n G (F.foldl redby row) → Sp n G row
  | [], _, _, _, _, _, h => h
  | s :: F, G, row, hG, hr, hF, h => by
    rw [List.foldl_cons] at h
    have hs := hF s (List.mem_cons_self ..)
    have hsl := hs.len hG
    have := red_back (F := F) hG (redby_len hr hsl) (fun x hx => hF x (List.mem_cons_of_mem _ hx)) h
    unfold redby at this
    split at this
    · have h2 := this.xr hG hs
      rwa [xr_back (by rw [hr, hsl])] at h2
    · exact this
/-- adding what is clear up to the lead leaves the lead -/
theorem ld_xr {a b : Row} (h : a.length = b.length) (ha : true ∈ a) (hb : ∀ q, q ≤ ld a → at' b q = false) : ld (xr a b) = ld a ∧ true ∈ xr a b := by
  have h1 : at' (xr a b) (ld a) = true := by rw [at_xr h, at_ld ha, hb _ (Nat.le_refl _)]; rfl
  refine ⟨ld_of h1 fun q hq => ?_, at_mem h1⟩
  rw [at_xr h, at_before hq, hb q (by omega)]; rfl
/-- a row put to a family with leads, the family cleared at its lead -/
theorem clr_ld {n : Nat} {r h : Row} (hr : r.length = n ∧ true ∈ r) (hh : h.length = n ∧ true ∈ h) (hc : at' h (ld r) = false) : ld (clr (ld h) h r) = ld r ∧ true ∈ clr (ld h) h r ∧ (clr (ld h) h r).length = n := by
  refine ⟨?_, ?_, clr_len hr.1 hh.1⟩
  all_goals
    unfold clr
    split
    · rename_i hp
      have hlt : ld r < ld h := by
        rcases Nat.lt_trichotomy (ld r) (ld h) with q | q | q
        · exact q
        · rw [q, at_ld hh.2] at hc; cases hc
        · rw [at_before q] at hp; cases hp
      have := ld_xr (a := r) (b := h) (by rw [hr.1, hh.1]) hr.2 fun q hq => at_before (by omega)
      first | exact this.1 | exact this.2
    · first | rfl | exact hr.2
theorem at_clr {n p q : Nat} {r h : Row} (hr : r.length = n) (hh : h.length = n) : at' (clr p h r) q = (at' r q != (at' r p && at' h q)) := by
  unfold clr
  split
  · rename_i hp; rw [at_xr (by rw [hr, hh]), hp]; simp
  · rename_i hp
    have : at' r p = false := by simpa using hp
    rw [this]; simp
theorem Piv.put {n : Nat} {F : List Row} {h : Row} (hF : Piv n F) (hh : h.length = n ∧ true ∈ h) (hc : ∀ r ∈ F, at' h (ld r) = false) : Piv n (F.map (clr (ld h) h) ++ [h]) := by
  refine ⟨fun r hr => ?_, ?_⟩
  · rcases List.mem_append.mp hr with hr | hr
    · obtain ⟨s, hs, rfl⟩ := List.mem_map.mp hr
      have := clr_ld (hF.row s hs) hh (hc s hs)
      exact ⟨this.2.2, this.2.1⟩
    · rw [List.mem_singleton.mp hr]; exact hh
  · rw [List.pairwise_append]
    refine ⟨?_, List.pairwise_singleton _ _, fun r hr s hs => ?_⟩
    · rw [List.pairwise_map]
      refine hF.pw.imp_of_mem fun {r s} hr hs h => ?_
      rw [(clr_ld (hF.row r hr) hh (hc r hr)).1, (clr_ld (hF.row s hs) hh (hc s hs)).1, at_clr (hF.row s hs).1 hh.1, at_clr (hF.row r hr).1 hh.1, h.1, h.2, hc r hr, hc s hs]
      simp
    · rw [List.mem_singleton.mp hs]
      obtain ⟨u, hu, rfl⟩ := List.mem_map.mp hr
      rw [(clr_ld (hF.row u hu) hh (hc u hu)).1, at_clr (hF.row u hu).1 hh.1, at_ld hh.2, hc u hu]
      simp
theorem put_sp {n : Nat} {F : List Row} {h : Row} (hF : Len n F) (hh : h.length = n) (p : Nat) : ∀ v, Sp n (F.map (clr p h) ++ [h]) v ↔ Sp n (F ++ [h]) v := by
  have l1 : Len n (F ++ [h]) := fun r hr => (List.mem_append.mp hr).elim (hF r) fun z => by rw [List.mem_singleton.mp z]; exact hh
  have l2 : Len n (F.map (clr p h) ++ [h]) := fun r hr => (List.mem_append.mp hr).elim (fun z => by
    obtain ⟨s, hs, rfl⟩ := List.mem_map.mp z; exact clr_len (hF s hs) hh) fun z => by rw [List.mem_singleton.mp z]; exact hh
  intro v
  constructor
  · refine Sp.mono l1 fun r hr => ?_
    rcases List.mem_append.mp hr with z | z
    · obtain ⟨s, hs, rfl⟩ := List.mem_map.mp z
      unfold clr
      split
      · exact (Sp.of l1 (List.mem_append_left _ hs)).xr l1 (Sp.of l1 (by simp))
      · exact Sp.of l1 (List.mem_append_left _ hs)
    · exact Sp.of l1 (List.mem_append_right _ z)
  · refine Sp.mono l2 fun r hr => ?_
    rcases List.mem_append.mp hr with z | z
    · have h1 : Sp n (F.map (clr p h) ++ [h]) (clr p h r) := Sp.of l2 (List.mem_append_left _ (List.mem_map_of_mem z))
      unfold clr at h1
      split at h1
      · have h2 := h1.xr l2 (Sp.of l2 (r := h) (by simp))
        rwa [xr_back (by rw [hF r z, hh])] at h2
      · exact h1
    · exact Sp.of l2 (List.mem_append_right _ z)
/-- told_rows' step keeps leads and spans -/
theorem stepT_ok {n : Nat} {F : List Row} {row : Row} (hF : Piv n F) (hr : row.length = n) : Piv n (stepT F row) ∧ ∀ v, Sp n (stepT F row) v ↔ Sp n (F ++ [row]) v := by
  have hl := red_len hF.len hr
  have l1 : Len n (F ++ [row]) := fun r hx => (List.mem_append.mp hx).elim (hF.len r) fun z => by rw [List.mem_singleton.mp z]; exact hr
  have hcl := red_clear hF.row (hF.pw.imp fun h => h.1) hr
  unfold stepT
  dsimp only
  split
  · rename_i hc
    have hm : true ∈ F.foldl redby row := by simpa using hc
    refine ⟨hF.put ⟨hl, hm⟩ hcl, fun v => (put_sp hF.len hl _ v).trans ?_⟩
    have l2 : Len n (F ++ [F.foldl redby row]) := fun r hx => (List.mem_append.mp hx).elim (hF.len r) fun z => by rw [List.mem_singleton.mp z]; exact hl
    constructor
    · refine Sp.mono l1 fun r hx => ?_
      rcases List.mem_append.mp hx with z | z
      · exact Sp.of l1 (List.mem_append_left _ z)
      · rw [List.mem_singleton.mp z]
        exact red_sp l1 (fun r hr => Sp.of l1 (List.mem_append_left _ hr)) (Sp.of l1 (by simp))
    · refine Sp.mono l2 fun r hx => ?_
      rcases List.mem_append.mp hx with z | z
      · exact Sp.of l2 (List.mem_append_left _ z)
      · rw [List.mem_singleton.mp z]
        exact red_back l2 hr (fun r hr => Sp.of l2 (List.mem_append_left _ hr)) (Sp.of l2 (by simp))
  · rename_i hc
    refine ⟨hF, fun v => ⟨Sp.sub fun r hr => List.mem_append_left _ hr, Sp.mono hF.len fun r hx => ?_⟩⟩
    rcases List.mem_append.mp hx with z | z
    · exact Sp.of hF.len z
    · rw [List.mem_singleton.mp z]
      refine red_back hF.len hr (fun r hr => Sp.of hF.len hr) ?_
      have e : F.foldl redby row = List.replicate n false := by
        apply List.ext_getElem (by simp [hl])
        intro i h1 h2
        rw [List.getElem_replicate]
        cases q : (F.foldl redby row)[i] with
        | false => rfl
        | true => exact absurd (by simpa using (q ▸ List.getElem_mem h1 : true ∈ F.foldl redby row)) hc
      rw [e]; exact .zero
theorem toldF_ok {n : Nat} : ∀ {rows F : List Row}, Piv n F → Len n rows → Piv n (rows.foldl stepT F) ∧ ∀ v, Sp n (rows.foldl stepT F) v ↔ Sp n (F ++ rows) v
  | [], F, hF, _ => ⟨hF, fun v => by simp⟩
  | r :: rows, F, hF, hr => by
    have h0 := hr r (List.mem_cons_self ..)
    have h1 : Len n rows := fun x hx => hr x (List.mem_cons_of_mem _ hx)
    obtain ⟨p1, s1⟩ := stepT_ok hF h0
    obtain ⟨p2, s2⟩ := toldF_ok (rows := rows) p1 h1
    refine ⟨p2, fun v => (s2 v).trans ?_⟩
    have la : Len n (stepT F r ++ rows) := fun x hx => (List.mem_append.mp hx).elim (p1.len x) (h1 x)
    have lb : Len n (F ++ r :: rows) := fun x hx => (List.mem_append.mp hx).elim (hF.len x) (hr x)
    constructor
    · refine Sp.mono lb fun x hx => ?_
      rcases List.mem_append.mp hx with z | z
      · exact Sp.sub (fun y hy => by rcases List.mem_append.mp hy with q | q; exact List.mem_append_left _ q; rw [List.mem_singleton.mp q]; simp) ((s1 x).mp (Sp.of p1.len z))
      · exact Sp.of lb (List.mem_append_right _ (List.mem_cons_of_mem _ z))
    · refine Sp.mono la fun x hx => ?_
      rcases List.mem_append.mp hx with z | z
      · exact Sp.sub (fun y hy => List.mem_append_left _ hy) ((s1 x).mpr (Sp.sub (fun y hy => List.mem_append_left _ hy) (Sp.of hF.len z)))
      · rcases List.mem_cons.mp z with rfl | z
        · have l0 : Len n (F ++ [x]) := fun y hy => (List.mem_append.mp hy).elim (hF.len y) fun q => by rw [List.mem_singleton.mp q]; exact h0
          exact Sp.sub (fun y hy => List.mem_append_left _ hy) ((s1 x).mpr (Sp.of l0 (by simp)))
        · exact Sp.of la (List.mem_append_right _ z)
theorem piv_nil (n : Nat) : Piv n [] := ⟨fun _ h => (nomatch h), List.Pairwise.nil⟩
end Ev
namespace Ev
open PySem PySem.Spec PyProof.Rows L2

/-! ### sorted -/
theorem toDs_map {α : Type} (l : List α) (f : α → PV) (d : α → PyData) (h : ∀ a, toD (f a) = some (d a)) : toDs (l.map f) = some (l.map d) := by
  induction l with
  | nil => rfl
  | cons a r ih => rw [List.map_cons, toDs, h, ih]; rfl
def dInts (v : List Bool) : PyData := .tuple (v.map fun b => .int (bi b))
theorem toD_er (v : List Bool) : toD (er v) = some (dInts v) := by
  unfold er dInts
  rw [toD, toDs_map v eb (fun b => .int (bi b)) fun _ => rfl]; rfl
theorem alikeAll_ints : ∀ (v w : List Bool), PySem.W.alikeAll (v.map fun b => PyData.int (bi b)) (w.map fun b => .int (bi b)) = true
  | [], w => by cases w <;> simp [PySem.W.alikeAll]
  | _ :: _, [] => by simp [PySem.W.alikeAll]
  | a :: v, b :: w => by simp only [List.map_cons, PySem.W.alikeAll, PySem.W.alike, alikeAll_ints v w, Bool.and_self]
theorem depthAll_ints (v : List Bool) : PyData.depthAll (v.map fun b => PyData.int (bi b)) = 0 := by
  induction v with
  | nil => rfl
  | cons a r ih => simp only [List.map_cons, PyData.depthAll, ih, PyData.depth, Nat.max_self]
/-- sorted rows: some order of them -/
theorem sort_rows {m r : Bool} {S : Sto} {l : List Row} (h : ∀ v ∈ l, true ∈ v) (hl : l.length ≤ 1000000) : ∃ l' : List Row, l'.Perm l ∧ pSorted r m [.lst (l.map er)] S = some (mkL m (l'.map er) S) := by
  let le : Row → Row → Bool := fun a b => PySem.W.dataLe r encP (er a) (er b)
  refine ⟨l.mergeSort le, List.mergeSort_perm _ _, ?_⟩
  have hs : (l.map er).mergeSort (PySem.W.dataLe r encP) = (l.mergeSort le).map er := (PySem.W.sort_maps (s := PySem.W.dataLe r encP) er (fun _ _ _ _ => rfl)).symm
  have hd := toDs_map l er dInts toD_er
  have c1 : alikeB (l.map dInts) = true := by
    unfold alikeB
    simp only [List.all_eq_true, List.mem_map]
    rintro _ ⟨a, _, rfl⟩ _ ⟨b, _, rfl⟩
    unfold dInts
    rw [PySem.W.alike]; exact alikeAll_ints a b
  have c2 : sortB (l.map dInts) = true := by
    unfold sortB
    rw [Bool.or_eq_true]
    left
    simp only [List.all_eq_true, List.mem_map]
    rintro _ ⟨a, ha, rfl⟩
    unfold dInts
    cases a with
    | nil => exact absurd (h [] ha) (by simp)
    | cons x y => rfl
  have c3 : (l.map dInts).all (fun d => decide (d.depth ≤ 60)) = true := by
    simp only [List.all_eq_true, List.mem_map, decide_eq_true_eq]
    rintro _ ⟨a, _, rfl⟩
    unfold dInts
    simp only [PyData.depth, depthAll_ints]; omega
  have c4 : (l.map er).length ≤ sizeLine := lim_ok (by simpa using hl)
  simp only [pSorted, isTup, seqOf, hd, c1, c2, c3, Bool.and_true, Bool.true_and, decide_eq_true c4, if_true, hs]
  rfl

/-! ### told_rows -/
theorem r_redby (k : Nat) {S : Sto} {n : Nat} {a b : Row} (ha : a.length = n) (hb : b.length = n ∧ true ∈ b) (hn : n ≤ 1000) {tp : Nat} {en : En} {i j : Nat} (hi : en[i]? = some (some (er a))) (hj : en[j]? = some (some (er b))) :
    EE (run ds 100 (k + 1)) tp (.ite (.cmp .Eq (.idx (.var i) (.cal 2 (.cons (.var j) .nil))) (.con (.int 1))) (.cal 0 (.cons (.var i) (.cons (.var j) .nil))) (.var i)) en S (er (redby a b)) S := by
  have hlt : ld b < a.length := by rw [ha, ← hb.1]; exact ld_lt hb.2
  refine ee_ite (et_cmp (ee_idx (ee_var hi) (ee_cal (ea_cons (ee_var hj) ea_nil) (r_first k S hb.2)) (idx_er hlt S)) ee_con (eq_one _ S)) (fun h => ?_) fun h => ?_
  · unfold redby; rw [if_pos h]
    exact ee_cal (ea_cons (ee_var hi) (ea_cons (ee_var hj) ea_nil)) (r_sum k S (by rw [ha, hb.1]) (by omega))
  · unfold redby; rw [if_neg (by rw [h]; exact Bool.false_ne_true)]
    exact ee_var hi
theorem cat_lst (xs ys : List PV) (S : Sto) (h : xs.length + ys.length ≤ 1000000) : pAdd false (.lst xs) (.lst ys) S = some (.lst (xs ++ ys), S) := by
  simp only [pAdd, lstOf, if_pos (lim_ok h)]; rfl
theorem contains_of {v : Row} : v.contains true = true ↔ true ∈ v := by simp
theorem r_told (k : Nat) (S : Sto) {n : Nat} {rows : List Row} {v : PV} (hn : n ≤ 1000) (hr : Len n rows) (hl : rows.length ≤ 100000) (hv : seqOf S v = some (rows.map er)) :
    ∃ F : List Row, F.Perm (toldF rows) ∧ run ds 100 (k + 2) 3 [v] S = some (.tup (F.map er), S) := by
  have hP : ∀ i, Piv n ((rows.take i).foldl stepT []) := fun i => (toldF_ok (piv_nil n) fun x hx => hr x (List.mem_of_mem_take hx)).1
  have hL : ∀ i, ((rows.take i).foldl stepT []).length ≤ 100000 := fun i => by
    have := toldF_len (rows := rows.take i) (F := [])
    simp only [List.length_nil, List.length_take] at this
    omega
  obtain ⟨en', S', h, ⟨rfl, y1, y2, y3, y4, rfl⟩⟩ := es_forM (R := run ds 100 (k + 1)) (W := 100) (tp := S.length) (it := .seq (.var 0)) (tg := [2]) (one := true) (J := .seq v) (l := rows)
    (s := .seq (.asg [3] true (.var 2)) (.seq (.forS (.seq (.var 1)) [4] true (.seq (.asg [3] true (.ite (.cmp .Eq (.idx (.var 3) (.cal 2 (.cons (.var 4) .nil))) (.con (.int 1))) (.cal 0 (.cons (.var 3) (.cons (.var 4) .nil))) (.var 3))) .nop)) (.seq (.ifS (.cmp .In (.con (.int 1)) (.var 3)) (.seq (.asg [5] true (.cal 2 (.cons (.var 3) .nil))) (.seq (.asg [1] true (.bin .Add false (.lc false (.seq (.var 1)) [4] true [4] .no (.ite (.cmp .Eq (.idx (.var 4) (.var 5)) (.con (.int 1))) (.cal 0 (.cons (.var 4) (.cons (.var 3) .nil))) (.var 4))) (.lst false (.cons (.var 3) .nil)))) .nop)) .nop) .nop)))
    (en := [some v, some (.lst []), none, none, none, none]) (S := S) (S1 := S) er
    (fun i en T => S = T ∧ ∃ y1 y2 y3 y4, en = [some v, some (.lst (((rows.take i).foldl stepT []).map er)), y1, y2, y3, y4]) (ei_seq (ee_var rfl) hv) rfl (fun i en T h => by rw [← h.1]; exact its_seq hv) ⟨rfl, none, none, none, none, rfl⟩
    (fun i row en T hi hI => by
      obtain ⟨e, y1, y2, y3, y4, rfl⟩ := hI
      subst e
      have hrow : row.length = n := hr row (List.mem_of_getElem? hi)
      have hPi := hP i
      have hLi := hL i
      have hst : (rows.take (i + 1)).foldl stepT [] = stepT ((rows.take i).foldl stepT []) row := by rw [List.take_succ, hi, List.foldl_append]; rfl
      rw [hst]
      generalize (rows.take i).foldl stepT [] = F at hPi hLi ⊢
      -- the inner loop
      obtain ⟨en', S', h, ⟨rfl, z3, rfl⟩⟩ := es_forM (R := run ds 100 (k + 1)) (W := 100) (tp := S.length) (it := .seq (.var 1)) (tg := [4]) (one := true) (J := .seq (.lst (F.map er))) (l := F)
        (s := .seq (.asg [3] true (.ite (.cmp .Eq (.idx (.var 3) (.cal 2 (.cons (.var 4) .nil))) (.con (.int 1))) (.cal 0 (.cons (.var 3) (.cons (.var 4) .nil))) (.var 3))) .nop)
        (en := [some v, some (.lst (F.map er)), some (er row), some (er row), y3, y4]) (S := S) (S1 := S) er
        (fun j en T => S = T ∧ ∃ z3, en = [some v, some (.lst (F.map er)), some (er row), some (er ((F.take j).foldl redby row)), z3, y4]) (ei_seq (ee_var rfl) rfl) rfl (fun j en T h => by rw [← h.1]; exact its_seq rfl) ⟨rfl, y3, rfl⟩
        (fun j one en T hj hI => by
          obtain ⟨e, z3, rfl⟩ := hI
          subst e
          have hone := hPi.row one (List.mem_of_getElem? hj)
          have hh := red_len (F := F.take j) (row := row) (fun x hx => hPi.len x (List.mem_of_mem_take hx)) hrow
          refine ⟨_, _, _, rfl, es_seq (es_asg (r_redby k hh hone hn rfl rfl) rfl) es_nop, rfl, some (er one), ?_⟩
          rw [List.take_succ, hj, List.foldl_append]; rfl)
      rw [List.take_of_length_le (Nat.le_refl _)] at h
      have hh := red_len (F := F) (row := row) hPi.len hrow
      have hsd : stepT F row = if (F.foldl redby row).contains true then F.map (clr (ld (F.foldl redby row)) (F.foldl redby row)) ++ [F.foldl redby row] else F := rfl
      rw [hsd]
      generalize F.foldl redby row = here at h hh ⊢
      by_cases hc : here.contains true = true
      · have hm : true ∈ here := contains_of.mp hc
        have hld : ld here < n := by rw [← hh]; exact ld_lt hm
        rw [if_pos hc]
        refine ⟨_, _, S, rfl, es_seq (es_asg (ee_var rfl) rfl) (es_seq h (es_seq (es_if (k := true) (et_cmp ee_con (ee_var rfl) (by rw [in_er, hc])) (fun _ => ?_) fun z => by cases z) es_nop)), rfl, some (er row), some (er here), z3, some (.int (ld here)), rfl⟩
        refine es_seq (es_asg (ee_cal (ea_cons (ee_var rfl) ea_nil) (r_first k S hm)) rfl) (es_seq (es_asg (ee_bin (op := .Add) (m := false) (ee_lcN (m := false) (l := F) er (fun one => er (clr (ld here) here one)) (ei_seq (ee_var rfl) rfl) rfl (its_seq rfl) (by omega) (fun one ho => ?_))
          (ee_lst (m := false) (ea_cons (ee_var rfl) ea_nil) (lim_ok (by simp))) (cat_lst _ _ S (by simp; omega))) ?_) es_nop)
        · have hone := hPi.row one ho
          refine ⟨_, rfl, ee_ite (et_cmp (ee_idx (ee_var rfl) (ee_var rfl) (idx_er (by rw [hone.1]; exact hld) S)) ee_con (eq_one _ S)) (fun q => ?_) fun q => ?_⟩
          · unfold clr; rw [if_pos q]
            exact ee_cal (ea_cons (ee_var rfl) (ea_cons (ee_var rfl) ea_nil)) (r_sum k S (by rw [hone.1, hh]) (by rw [hone.1]; omega))
          · unfold clr; rw [if_neg (by rw [q]; exact Bool.false_ne_true)]
            exact ee_var rfl
        · show some _ = some _
          rw [List.map_append, List.map_map]
          rfl
      · have hc' : here.contains true = false := by simpa using hc
        rw [if_neg hc]
        exact ⟨_, _, S, rfl, es_seq (es_asg (ee_var rfl) rfl) (es_seq h (es_seq (es_if (k := false) (et_cmp ee_con (ee_var rfl) (by rw [in_er, hc'])) (fun z => by cases z) fun _ => es_nop) es_nop)), rfl, some (er row), some (er here), z3, y4, rfl⟩)
  rw [List.take_of_length_le (Nat.le_refl _)] at h
  have hPn := hP rows.length
  have hLn := hL rows.length
  rw [List.take_of_length_le (Nat.le_refl _)] at hPn hLn
  obtain ⟨F, hF, hs⟩ := sort_rows (m := false) (r := true) (S := S) (l := rows.foldl stepT []) (fun v hv => (hPn.row v hv).2) (by omega)
  refine ⟨F, hF, run_rt0 (d := df3) rfl rfl rfl ?_ (by rw [ltB_tup]; exact no_ers F)⟩
  exact es_seq (es_asg (ee_lst (m := false) ea_nil (by decide)) rfl) (es_seq h (es_seqR (es_ret (ee_blt (f := .tup) (ea_cons (ee_blt (f := .srt true false) (ea_cons (ee_var rfl) ea_nil) hs) ea_nil) rfl))))
end Ev
namespace Ev
open PySem PySem.Spec PyProof.Rows L2

theorem zip_dup {α β : Type} (l : List α) (f : α × α → β) : (l.zip l).map f = l.map fun a => f (a, a) := by
  induction l with
  | nil => rfl
  | cons a r ih => simp only [List.zip_cons_cons, List.map_cons, ih]
theorem its_zipD {α : Type} {S : Sto} {st : Bool} {v w : PV} {l : List α} {f f2 : α → PV} (h : seqOf S v = some (l.map f)) (h2 : seqOf S w = some (l.map f2)) : Its (.zip st v w) S (l.map fun a => .tup [f a, f2 a]) := by
  have := its_zip (st := st) h h2 rfl
  rwa [zip_dup] at this
theorem flat_ints {α : Type} (l : List α) (h : α → Int) : (l.map fun x => PV.int (h x)).all flat = true := by
  induction l with
  | nil => rfl
  | cons a r ih => rw [List.map_cons, List.all_cons, ih]; rfl
theorem inV_ints {α : Type} (l : List α) (h : α → Int) (a : Int) : inV (.int a) ((l.map fun x => PV.int (h x)).map fv) = l.any fun x => h x == a := by
  induction l with
  | nil => rfl
  | cons x r ih =>
    unfold inV at ih ⊢
    rw [List.map_cons, List.map_cons, List.any_cons, ih]; rfl
theorem in_ints {α : Type} {l : List α} {h : α → Int} {a : Int} {v : PV} {S : Sto} (hv : seqOf S v = some (l.map fun x => PV.int (h x))) : pCmp .In (.int a) v S = some (l.any fun x => h x == a) ∧ pCmp .NotIn (.int a) v S = some (!l.any fun x => h x == a) := by
  constructor
  · simp only [pCmp, hv, flat_ints, flat, Bool.and_self, if_true, fv]; rw [inV_ints]
  · simp only [pCmp, hv, flat_ints, flat, Bool.and_self, if_true, fv]; rw [inV_ints]
theorem get_top (S : Sto) (o : SObj) : (S ++ [o])[S.length]? = some o := by
  rw [List.getElem?_append_right (Nat.le_refl _)]; simp
theorem set_top (S : Sto) (o o' : SObj) : (S ++ [o]).set S.length o' = S ++ [o'] := by
  rw [List.set_append_right _ _ (Nat.le_refl _)]; simp
theorem append_top (S : Sto) (xs : List PV) (v : PV) (h : xs.length ≤ 1000000) : pAppend S.length (.ref S.length) [v] (S ++ [.lst xs]) = some (.non, S ++ [.lst (xs ++ [v])]) := by
  simp only [pAppend, Nat.le_refl, decide_true, Bool.true_or, if_true, get_top, set_top]
  rw [if_pos (by rw [sizeLine_eq]; omega)]
theorem seq_top (S : Sto) (xs : List PV) : seqOf (S ++ [.lst xs]) (.ref S.length) = some xs := by
  simp only [seqOf, get_top]

/-! ### free_base -/
def isL (F : List Row) (p : Nat) : Bool := F.any fun r => ld r == p
def fvec (n : Nat) (F : List Row) (place : Nat) : Row := (List.range n).map fun p => p == place || F.any fun r => (ld r == p) && at' r place
def freeF (n : Nat) (F : List Row) : List Row := ((List.range n).filter fun p => !isL F p).map (fvec n F)
/-- a code, as a value -/
def code (n : Nat) (rows : List Row) : PV := .tup [.int n, .tup (rows.map er)]
theorem int_beq (a b : Nat) : (((a : Nat) : Int) == ((b : Nat) : Int)) = (a == b) := by
  rw [Bool.eq_iff_iff, beq_iff_eq, beq_iff_eq]
  constructor <;> intro h <;> omega
def onesV (p : Nat) : Option Row → Int
  | none => p
  | some r => ld r
theorem ones_any (F : List Row) (place p : Nat) : (([none] ++ (F.filter fun r => at' r place).map some).any fun x => onesV place x == ((p : Nat) : Int)) = (p == place || F.any fun r => (ld r == p) && at' r place) := by
  rw [List.singleton_append, List.any_cons]
  simp only [onesV, int_beq]
  congr 1
  · rw [Bool.eq_iff_iff, beq_iff_eq, beq_iff_eq]; exact eq_comm
  · induction F with
    | nil => rfl
    | cons r F ih =>
      rw [List.filter_cons, List.any_cons, ← ih]
      cases h : at' r place with
      | true => simp only [if_true, List.map_cons, List.any_cons, onesV, int_beq, Bool.and_true]
      | false => simp
theorem r_free (k : Nat) (S : Sto) {n : Nat} {rows : List Row} (h1 : 1 ≤ n) (hn : n ≤ 1000) (hr : Len n rows) (hl : rows.length ≤ 100000) :
    ∃ F : List Row, F.Perm (toldF rows) ∧ run ds 100 (k + 3) 5 [code n rows] S = some (.tup ((freeF n F).map er), S) := by
  obtain ⟨F, hF, hrun⟩ := r_told k S hn hr hl (v := .tup (rows.map er)) rfl
  have hP0 : Piv n (toldF rows) := (toldF_ok (piv_nil n) hr).1
  have hrow : ∀ r ∈ F, r.length = n ∧ true ∈ r := fun r h => hP0.row r (hF.mem_iff.mp h)
  have hlen : F.length ≤ 100000 := by
    rw [hF.length_eq]
    have := toldF_len (rows := rows) (F := [])
    simp only [List.length_nil] at this
    unfold toldF; omega
  refine ⟨F, hF, ?_⟩
  have hfl : (freeF n F).length ≤ 1000 := by
    unfold freeF
    rw [List.length_map]
    exact Nat.le_trans (List.length_filter_le _ _) (by simpa using hn)
  suffices h : ES (run ds 100 (k + 2)) 100 S.length bd5 [some (code n rows), none, none, none, none, none, none, none, none, none] S (.rt (.tup ((freeF n F).map er)) (S ++ [.lst ((freeF n F).map er)])) by
    have := run_rt (ds := ds) (W := 100) (k := k + 2) (f := 5) (args := [code n rows]) (S := S) (v := .tup ((freeF n F).map er)) (S1 := S ++ [SObj.lst ((freeF n F).map er)]) (d := df5) rfl rfl rfl h (by rw [ltB_tup]; exact no_ers _)
    rw [this]
    simp
  obtain ⟨en', S', h, ⟨y1, y2, y3, y4, y5, rfl, rfl⟩⟩ := es_forM (R := run ds 100 (k + 2)) (W := 100) (tp := S.length) (it := .rng (.var 1)) (tg := [6]) (one := true) (J := .rng 0 n) (l := List.range n)
    (s := .seq (.ifS (.cmp .NotIn (.var 6) (.var 3)) (.seq (.asg [7] true (.bin .Add false (.lst false (.cons (.var 6) .nil)) (.lc false (.zip true (.var 3) (.var 2)) [8, 5] false [8, 5] (.so (.cmp .Eq (.idx (.var 5) (.var 6)) (.con (.int 1)))) (.var 8)))) (.seq (.exp (.met .app (.var 4) (.cons (.blt .tup (.cons (.lc false (.rng (.var 1)) [9] true [9] .no (.blt .int (.cons (.cmp .In (.var 9) (.var 7)) .nil))) .nil)) .nil))) .nop)) .nop) .nop)
    (en := [some (code n rows), some (.int n), some (.tup (F.map er)), some (.lst (F.map fun r => .int (ld r))), some (.ref S.length), none, none, none, none, none]) (S := S ++ [.lst []]) (S1 := S ++ [.lst []]) (fun (i : Nat) => PV.int i)
    (fun i en T => ∃ y5 y6 y7 y8 y9, en = [some (code n rows), some (.int n), some (.tup (F.map er)), some (.lst (F.map fun r => .int (ld r))), some (.ref S.length), y5, y6, y7, y8, y9] ∧ T = S ++ [.lst (((((List.range n).take i).filter fun p => !isL F p).map (fvec n F)).map er)])
    (ei_rng (j := n) (ee_var rfl) (by simp only [rngOk, Bool.and_eq_true, decide_eq_true_eq]; omega)) rfl (fun i en T h => its_rng) ⟨none, none, none, none, none, rfl, rfl⟩
    (fun i p en T hi hI => by
      obtain ⟨y5, y6, y7, y8, y9, rfl, rfl⟩ := hI
      have hp : p < n := by simpa using List.mem_of_getElem? hi
      have ht : (List.range n).take (i + 1) = (List.range n).take i ++ [p] := by rw [List.take_succ, hi]; rfl
      rw [ht, List.filter_append, List.filter_cons, List.filter_nil, List.map_append]
      have hlim : (((((List.range n).take i).filter fun p => !isL F p).map (fvec n F)).map er).length ≤ 1000 := by
        rw [List.length_map, List.length_map]
        refine Nat.le_trans (List.length_filter_le _ _) ?_
        rw [List.length_take, List.length_range]; omega
      generalize (((List.range n).take i).filter fun p => !isL F p).map (fvec n F) = A at hlim ⊢
      have hin := (in_ints (l := F) (h := fun r => ((ld r : Nat) : Int)) (a := p) (v := .lst (F.map fun r => .int (ld r))) (S := S ++ [.lst (A.map er)]) rfl).2
      have hisl : (F.any fun r => ((ld r : Nat) : Int) == ((p : Nat) : Int)) = isL F p := by
        unfold isL; congr 1; funext r; exact int_beq _ _
      rw [hisl] at hin
      cases hc : isL F p with
      | true =>
        rw [hc] at hin
        refine ⟨_, _, _, rfl, es_seq (es_if (k := false) (et_cmp (ee_var rfl) (ee_var rfl) hin) (fun z => by cases z) fun _ => es_nop) es_nop, y5, some (.int p), y7, y8, y9, rfl, ?_⟩
        simp
      | false =>
        rw [hc] at hin
        have hx := fun (S' : Sto) (a : Int) => (in_ints (a := a) (l := [none] ++ (F.filter fun r => at' r p).map some) (h := onesV p) (v := .lst ([.int p] ++ (F.filter fun r => at' r p).map fun r => .int (ld r))) (S := S') (by
          simp only [seqOf, List.map_append, List.map_map, List.map_cons, List.map_nil]; rfl))
        refine ⟨_, _, _, rfl, es_seq (es_if (k := true) (et_cmp (ee_var rfl) (ee_var rfl) hin) (fun _ => es_seq (es_asg (ee_bin (op := .Add) (m := false) (ee_lst (m := false) (ea_cons (ee_var rfl) ea_nil) (lim_ok (by simp)))
          (ee_lcM (m := false) (l := F) (fun r => .tup [.int (ld r), er r]) (fun r => .int (ld r)) (fun r => at' r p) (ei_zip (st := true) (ee_var rfl) (ee_var rfl) rfl rfl) rfl (its_zipD (f := fun r => .int (ld r)) (f2 := er) rfl rfl) (by omega) (fun r hr => ?_))
          (cat_lst _ _ _ (by simp only [List.length_cons, List.length_nil, List.length_map]; exact Nat.le_trans (Nat.add_le_add_left (List.length_filter_le _ _) _) (by omega)))) rfl)
          (es_seq (es_exp (ee_met (f := .app) (ee_var rfl) (ea_cons (ee_blt (f := .tup) (ea_cons (ee_lcN (m := false) (l := List.range n) (fun (i : Nat) => PV.int i) (fun (i : Nat) => eb (i == p || F.any fun r => (ld r == i) && at' r p)) (ei_rng (j := n) (ee_var rfl) (by simp only [rngOk, Bool.and_eq_true, decide_eq_true_eq]; omega)) rfl its_rng (by simp; omega) (fun q hq => ?_)) ea_nil) rfl) ea_nil) rfl (append_top S _ _ (by omega)))) es_nop)) fun z => by cases z) es_nop, y5, some (.int p), some (.lst ([.int p] ++ (F.filter fun r => at' r p).map fun r => .int (ld r))), y8, y9, rfl, ?_⟩
        · exact ⟨_, rfl, et_cmp (ee_idx (ee_var rfl) (ee_var rfl) (idx_er (by rw [(hrow r hr).1]; exact hp) _)) ee_con (eq_one _ _), fun _ => ee_var rfl⟩
        · refine ⟨_, rfl, ee_blt (f := .int) (ea_cons (ee_cmp (ee_var rfl) (ee_var rfl) (hx _ _).1) ea_nil) ?_⟩
          rw [ones_any]; rfl
        · simp only [Bool.not_false, if_true, List.map_append, List.map_cons, List.map_nil]
          have : er (fvec n F p) = .tup ((List.range n).map fun (i : Nat) => eb (i == p || F.any fun r => (ld r == i) && at' r p)) := by
            unfold er fvec; rw [List.map_map]; rfl
          rw [this])
  rw [List.take_of_length_le (Nat.le_refl _)] at h
  refine es_seq (es_par (ea_cons (ee_idx (ee_var rfl) ee_con (idx_tup (j := 0) rfl)) (ea_cons (ee_cal (ea_cons (ee_idx (ee_var rfl) ee_con (idx_tup (j := 1) rfl)) ea_nil) hrun) ea_nil)) rfl)
    (es_seq (es_par (ea_cons (ee_lcN (m := false) (l := F) er (fun r => .int (ld r)) (ei_seq (ee_var rfl) rfl) rfl (its_seq rfl) (by omega) (fun r hr => ⟨_, rfl, ee_cal (ea_cons (ee_var rfl) ea_nil) (r_first (k + 1) S (hrow r hr).2)⟩)) (ea_cons (ee_lst (m := true) ea_nil (by decide)) ea_nil)) rfl)
      (es_seq h (es_seqR (es_ret (ee_blt (f := .tup) (ea_cons (ee_var rfl) ea_nil) ?_)))))
  simp only [bltF, pTuple, seq_top, Option.map_some]
  rfl
end Ev
namespace Ev
open PySem PySem.Spec PyProof.Rows L2

theorem all_lst {α : Type} (l : List α) (h : α → Bool) (S : Sto) : pAll [.lst (l.map fun a => PV.bl (h a))] S = some (.bl (l.all h), S) := by
  have e : (l.map fun a => PV.bl (h a)) = (l.map h).map PV.bl := by rw [List.map_map]; rfl
  simp only [pAll, isTup, seqOf, e, bls?_map, Option.map_some]
  rw [List.all_map]; rfl
theorem freeF_len {n : Nat} {F : List Row} : ∀ w ∈ freeF n F, w.length = n := fun w hw => by
  obtain ⟨p, _, rfl⟩ := List.mem_map.mp hw
  simp [fvec]
theorem freeF_card {n : Nat} {F : List Row} : (freeF n F).length ≤ n := by
  unfold freeF
  rw [List.length_map]
  exact Nat.le_trans (List.length_filter_le _ _) (by simp)
def hasB (n : Nat) (F : List Row) (row : Row) : Bool := (freeF n F).all fun w => !dt row w
theorem r_has (k : Nat) (S : Sto) {n : Nat} {rows : List Row} {row : Row} (h1 : 1 ≤ n) (hn : n ≤ 1000) (hr : Len n rows) (hl : rows.length ≤ 100000) (hrow : row.length = n) :
    ∃ F : List Row, F.Perm (toldF rows) ∧ run ds 100 (k + 4) 6 [code n rows, er row] S = some (.bl (hasB n F row), S) := by
  obtain ⟨F, hF, hrun⟩ := r_free k S h1 hn hr hl
  refine ⟨F, hF, run_rt0 (d := df6) rfl rfl rfl ?_ (no_bl _)⟩
  have hc := freeF_card (n := n) (F := F)
  exact es_seqR (es_ret (ee_blt (f := .all) (ea_cons (ee_lcN (m := false) (l := freeF n F) er (fun w => .bl (!dt row w)) (ei_seq (ee_cal (ea_cons (ee_var rfl) ea_nil) hrun) rfl) rfl (its_seq rfl) (by omega)
    (fun w hw => ⟨_, rfl, ee_cal (ea_cons (ee_var rfl) (ea_cons (ee_var rfl) ea_nil)) (r_even (k + 2) S (by rw [hrow, freeF_len w hw]) (by omega))⟩)) ea_nil) (all_lst _ _ S)))

/-! ### lots -/
def en (l : List Nat) : PV := .tup (l.map fun (i : Nat) => PV.int i)
theorem no_en (l : List Nat) : ltB 0 (en l) = true := by
  unfold en; rw [ltB_tup]; exact no_ints l _
theorem toD_ints (l : List Nat) : toDs (l.map fun (i : Nat) => PV.int i) = some (l.map fun (i : Nat) => PyData.int i) := toDs_map l _ _ fun _ => rfl
def srtN (l : List Nat) : List Nat := l.mergeSort fun a b => decide (a ≤ b)
theorem sort_nats {m : Bool} {S : Sto} {l : List Nat} (hl : l.length ≤ 1000000) : pSorted false m [.lst (l.map fun (i : Nat) => PV.int i)] S = some (mkL m ((srtN l).map fun (i : Nat) => PV.int i) S) := by
  have hs : (l.map fun (i : Nat) => PV.int i).mergeSort (PySem.W.dataLe false encP) = (srtN l).map fun (i : Nat) => PV.int i := by
    refine (PySem.W.sort_maps (r := fun a b : Nat => decide (a ≤ b)) (s := PySem.W.dataLe false encP) (fun (i : Nat) => PV.int i) fun a _ b _ => ?_).symm
    have h := congrFun (congrFun (PySem.W.dataLe_int (fun i : Nat => (i : Int))) a) b
    have e : PySem.W.dataLe false encP (PV.int a) (PV.int b) = PySem.W.dataLe false (fun i : Nat => PyData.int (i : Int)) a b := rfl
    rw [e, h]
    by_cases q : a ≤ b
    · simp [q, Int.ofNat_le]
    · simp [q, Int.ofNat_le]
  have c1 : alikeB (l.map fun (i : Nat) => PyData.int i) = true := by
    unfold alikeB
    simp only [List.all_eq_true, List.mem_map]
    rintro _ ⟨a, _, rfl⟩ _ ⟨b, _, rfl⟩
    simp [PySem.W.alike]
  have c2 : sortB (l.map fun (i : Nat) => PyData.int i) = true := by
    unfold sortB
    rw [Bool.or_eq_true]
    right
    simp only [List.all_eq_true, List.mem_map]
    rintro _ ⟨a, ha, rfl⟩
    rfl
  have c3 : (l.map fun (i : Nat) => PyData.int i).all (fun d => decide (d.depth ≤ 60)) = true := by
    simp only [List.all_eq_true, List.mem_map, decide_eq_true_eq]
    rintro _ ⟨a, _, rfl⟩
    simp [PyData.depth]
  have c4 : (l.map fun (i : Nat) => PV.int i).length ≤ sizeLine := lim_ok (by simpa using hl)
  simp only [pSorted, isTup, seqOf, toD_ints, c1, c2, c3, Bool.and_true, Bool.true_and, decide_eq_true c4, if_true, hs]
  rfl
def symd (a b : List Nat) : List Nat := srtN ((a ++ b).filter fun i => a.contains i != b.contains i)
theorem in_nats (l : List Nat) (a : Nat) (S : Sto) : pCmp .In (.int a) (en l) S = some (l.contains a) := by
  rw [(in_ints (l := l) (h := fun (i : Nat) => (i : Int)) (a := a) (v := en l) (S := S) rfl).1]
  congr 1
  induction l with
  | nil => rfl
  | cons x r ih =>
    rw [List.any_cons, List.contains_cons, ih, int_beq]
    congr 1
    rw [Bool.eq_iff_iff, beq_iff_eq, beq_iff_eq]; exact eq_comm
/-- a row with its lot -/
abbrev Rn := Row × List Nat
def epr (p : Rn) : PV := .tup [er p.1, en p.2]
def redP (p one : Rn) : Rn := if at' p.1 (ld one.1) then (xr p.1 one.1, symd p.2 one.2) else p
theorem ne_bl (a b : Bool) (S : Sto) : pCmp .NotEq (.bl a) (.bl b) S = some (a != b) := by
  cases a <;> cases b <;> simp [pCmp, eqPV, flat, fv, scal]
theorem symd_len {a b : List Nat} : (symd a b).length ≤ a.length + b.length := by
  unfold symd srtN
  rw [List.length_mergeSort]
  refine Nat.le_trans (List.length_filter_le _ _) (by simp)
/-- the rows are of one length and have leads, the lots are short -/
def Fnd (n c : Nat) (P : List Rn) : Prop := ∀ p ∈ P, (p.1.length = n ∧ true ∈ p.1) ∧ p.2.length ≤ c
theorem redP_fst (P : List Rn) (p : Rn) : (P.foldl redP p).1 = (P.map Prod.fst).foldl redby p.1 := by
  induction P generalizing p with
  | nil => rfl
  | cons q P ih =>
    rw [List.foldl_cons, ih, List.map_cons, List.foldl_cons]
    congr 1
    unfold redP redby
    split <;> rfl
theorem redP_snd {n c : Nat} : ∀ {P : List Rn} {p : Rn}, Fnd n c P → (P.foldl redP p).2.length ≤ p.2.length + P.length * c
  | [], p, _ => by simp
  | q :: P, p, h => by
    have h1 := redP_snd (P := P) (p := redP p q) fun x hx => h x (List.mem_cons_of_mem _ hx)
    have h2 : (redP p q).2.length ≤ p.2.length + c := by
      have := (h q (List.mem_cons_self ..)).2
      unfold redP; split
      · have := symd_len (a := p.2) (b := q.2)
        show (symd p.2 q.2).length ≤ _
        omega
      · omega
    rw [List.foldl_cons, List.length_cons, Nat.succ_mul]
    omega
theorem r_reduced (k : Nat) (S : Sto) {n c : Nat} {P : List Rn} {p : Rn} {v : PV} (hn : n ≤ 1000) (hP : Fnd n c P) (hp : p.1.length = n) (hl : p.2.length + P.length * c + c ≤ 100000) (hv : seqOf S v = some (P.map epr)) :
    run ds 100 (k + 2) 8 [epr p, v] S = some (epr (P.foldl redP p), S) := by
  refine run_rt0 (d := df8) rfl rfl rfl ?_ (by unfold epr; rw [ltB_tup]; simp [no_er, no_en])
  obtain ⟨en', S', h, ⟨rfl, y4, y5, y6, rfl⟩⟩ := es_forM (R := run ds 100 (k + 1)) (W := 100) (tp := S.length) (it := .seq (.var 1)) (tg := [4, 5]) (one := false) (J := .seq v) (l := P)
    (s := .seq (.ifS (.cmp .Eq (.idx (.var 2) (.cal 2 (.cons (.var 4) .nil))) (.con (.int 1))) (.seq (.asg [2] true (.cal 0 (.cons (.var 2) (.cons (.var 4) .nil)))) (.seq (.asg [3] true (.blt .tup (.cons (.blt (.srt false false) (.cons (.lc false (.seq (.tup (.star (.var 3) (.star (.var 5) .nil)))) [6] true [6] (.so (.cmp .NotEq (.cmp .In (.var 6) (.var 3)) (.cmp .In (.var 6) (.var 5)))) (.var 6)) .nil)) .nil))) .nop)) .nop) .nop)
    (en := [some (epr p), some v, some (er p.1), some (en p.2), none, none, none]) (S := S) (S1 := S) epr
    (fun i e T => S = T ∧ ∃ y4 y5 y6, e = [some (epr p), some v, some (er ((P.take i).foldl redP p).1), some (en ((P.take i).foldl redP p).2), y4, y5, y6]) (ei_seq (ee_var rfl) hv) rfl (fun i e T h => by rw [← h.1]; exact its_seq hv) ⟨rfl, none, none, none, rfl⟩
    (fun i q e T hi hI => by
      obtain ⟨e, y4, y5, y6, rfl⟩ := hI
      subst e
      have hq := hP q (List.mem_of_getElem? hi)
      have hfi : Fnd n c (P.take i) := fun x hx => hP x (List.mem_of_mem_take hx)
      have hst : (P.take (i + 1)).foldl redP p = redP ((P.take i).foldl redP p) q := by rw [List.take_succ, hi, List.foldl_append]; rfl
      have h1 : ((P.take i).foldl redP p).1.length = n := by
        rw [redP_fst]; exact red_len (fun r hr => by obtain ⟨x, hx, rfl⟩ := List.mem_map.mp hr; exact (hfi x hx).1.1) hp
      have h2 : ((P.take i).foldl redP p).2.length ≤ 100000 - c := by
        have := redP_snd (p := p) hfi
        have h3 : (P.take i).length * c ≤ P.length * c := Nat.mul_le_mul_right _ (by rw [List.length_take]; omega)
        omega
      rw [hst]
      generalize (P.take i).foldl redP p = u at h1 h2 ⊢
      have hlt : ld q.1 < u.1.length := by rw [h1, ← hq.1.1]; exact ld_lt hq.1.2
      by_cases hc : at' u.1 (ld q.1) = true
      · have e1 : redP u q = (xr u.1 q.1, symd u.2 q.2) := by unfold redP; rw [if_pos hc]
        rw [e1]
        refine ⟨_, _, S, rfl, es_seq (es_if (k := true) (et_cmp (ee_idx (ee_var rfl) (ee_cal (ea_cons (ee_var rfl) ea_nil) (r_first k S hq.1.2)) (idx_er hlt S)) ee_con (by rw [hc]; exact eq_one true S)) (fun _ => ?_) fun z => by cases z) es_nop, rfl, some (er q.1), some (en q.2), y6, rfl⟩
        refine es_seq (es_asg (ee_cal (ea_cons (ee_var rfl) (ea_cons (ee_var rfl) ea_nil)) (r_sum k S (by rw [h1, hq.1.1]) (by omega))) rfl) (es_seq (es_asg (ee_blt (f := .tup) (ea_cons (ee_blt (f := .srt false false) (ea_cons (ee_lcM (m := false) (l := u.2 ++ q.2) (fun (i : Nat) => PV.int i) (fun (i : Nat) => PV.int i) (fun i => u.2.contains i != q.2.contains i)
          (ei_seq (v := .tup ((u.2 ++ q.2).map fun (i : Nat) => PV.int i)) (xs := (u.2 ++ q.2).map fun (i : Nat) => PV.int i) ?_ rfl) rfl (its_seq rfl) ?_ (fun j hj => ?_)) ea_nil) (sort_nats ?_)) ea_nil) rfl) rfl) es_nop)
        · rw [List.map_append]
          have := ee_tup (R := run ds 100 (k + 1)) (tp := S.length) (as := .star (.var 3) (.star (.var 5) .nil)) (en := [some (epr p), some v, some (er (xr u.1 q.1)), some (en u.2), some (er q.1), some (en q.2), y6]) (S := S) (S1 := S) (vs := u.2.map (fun (i : Nat) => PV.int i) ++ (q.2.map (fun (i : Nat) => PV.int i) ++ [])) (ea_star (ee_var rfl) (ea_star (ee_var rfl) ea_nil)) (lim_ok (by simp; omega))
          rwa [List.append_nil] at this
        · simp; omega
        · exact ⟨_, rfl, et_cmp (ee_cmp (ee_var rfl) (ee_var rfl) (in_nats _ _ _)) (ee_cmp (ee_var rfl) (ee_var rfl) (in_nats _ _ _)) (ne_bl _ _ _), fun _ => ee_var rfl⟩
        · exact Nat.le_trans (List.length_filter_le _ _) (by simp; omega)
      · have hc' : at' u.1 (ld q.1) = false := by simpa using hc
        have e1 : redP u q = u := by unfold redP; rw [if_neg hc]
        rw [e1]
        exact ⟨_, _, S, rfl, es_seq (es_if (k := false) (et_cmp (ee_idx (ee_var rfl) (ee_cal (ea_cons (ee_var rfl) ea_nil) (r_first k S hq.1.2)) (idx_er hlt S)) ee_con (by rw [hc']; exact eq_one false S)) (fun z => by cases z) fun _ => es_nop) es_nop, rfl, some (er q.1), some (en q.2), y6, rfl⟩)
  rw [List.take_of_length_le (Nat.le_refl _)] at h
  exact es_seq (es_asg (ee_var rfl) rfl) (es_seq h (es_seqR (es_ret (ee_tup (ea_cons (ee_var rfl) (ea_cons (ee_var rfl) ea_nil)) (lim_ok (by simp))))))
end Ev
namespace Ev

/-! ### what a triangle spans -/
theorem clear_sp {n p : Nat} {G : List Row} (hG : Len n G) (h : ∀ s ∈ G, at' s p = false) {v : Row} (hv : Sp n G v) : at' v p = false := by
  induction hv with
  | zero => exact at_zero n p
  | add hr hu ih => rw [at_xr (by rw [hu.len hG, hG _ hr]), ih, h _ hr]; rfl
theorem sp_cons {n : Nat} {r : Row} {G : List Row} (hG : Len n (r :: G)) {v : Row} (hv : Sp n (r :: G) v) : Sp n G v ∨ Sp n G (xr v r) := by
  have hG' : Len n G := fun x hx => hG x (List.mem_cons_of_mem _ hx)
  have hr := hG r (List.mem_cons_self ..)
  induction hv with
  | zero => exact .inl .zero
  | @add s u hs hu ih =>
    have hul := hu.len hG
    rcases List.mem_cons.mp hs with rfl | hs
    · rcases ih with h | h
      · right; rwa [xr_back (by rw [hul, hr])]
      · left; exact h
    · rcases ih with h | h
      · left; exact .add hs h
      · right
        rw [xr_assoc, xr_comm s r, ← xr_assoc]
        exact .add hs h
theorem tri_zero {n : Nat} : ∀ {F : List Row} {v : Row}, (∀ r ∈ F, r.length = n ∧ true ∈ r) → F.Pairwise (fun r s => at' s (ld r) = false) → Sp n F v → (∀ r ∈ F, at' v (ld r) = false) → v = List.replicate n false
  | [], v, _, _, hv, _ => by
    cases hv with
    | zero => rfl
    | add hr _ => cases hr
  | r :: F, v, hF, hp, hv, hc => by
    rw [List.pairwise_cons] at hp
    have hF' : ∀ r ∈ F, r.length = n ∧ true ∈ r := fun x hx => hF x (List.mem_cons_of_mem _ hx)
    have hr := hF r (List.mem_cons_self ..)
    have hL : Len n (r :: F) := fun x hx => (hF x hx).1
    have hL' : Len n F := fun x hx => (hF' x hx).1
    rcases sp_cons hL hv with h | h
    · exact tri_zero hF' hp.2 h fun x hx => hc x (List.mem_cons_of_mem _ hx)
    · have h1 := clear_sp hL' hp.1 h
      rw [at_xr (by rw [hv.len hL, hr.1]), hc r (List.mem_cons_self ..), at_ld hr.2] at h1
      cases h1
theorem zero_no {n : Nat} : true ∉ List.replicate n false := fun h => by
  have := List.eq_of_mem_replicate h; cases this
theorem no_true {v : Row} (h : true ∉ v) : v = List.replicate v.length false := by
  apply List.eq_replicate_iff.mpr
  refine ⟨rfl, fun b hb => ?_⟩
  cases b with
  | true => exact absurd hb h
  | false => rfl
/-- reducing to nothing: to lie in the span -/
theorem red_in {n : Nat} {F : List Row} {row : Row} (hF : ∀ r ∈ F, r.length = n ∧ true ∈ r) (hp : F.Pairwise (fun r s => at' s (ld r) = false)) (hr : row.length = n) : true ∉ F.foldl redby row ↔ Sp n F row := by
  have hL : Len n F := fun x hx => (hF x hx).1
  have hl := red_len (F := F) (fun x hx => (hF x hx).1) hr
  constructor
  · intro h
    have e := no_true h
    rw [hl] at e
    exact red_back hL hr (fun r hr => Sp.of hL hr) (by rw [e]; exact .zero)
  · intro h
    have h1 := red_sp (F := F) hL (fun r hr => Sp.of hL hr) h
    rw [tri_zero hF hp h1 fun r hm => red_clear hF hp hr r hm]
    exact zero_no

/-! ### sums of picked rows -/
theorem sums_perm {n : Nat} {A B : List Row} (h : A.Perm B) : sums n A = sums n B := by
  unfold sums
  exact h.foldl_eq' (fun x _ y _ z => by rw [xr_assoc, xr_comm x y, ← xr_assoc]) _
theorem foldl_xr {n : Nat} : ∀ {A : List Row} {v : Row}, Len n A → v.length = n → A.foldl xr v = xr v (sums n A)
  | [], v, _, hv => by show v = _; rw [← hv]; exact (xr_zero v).symm
  | a :: A, v, hA, hv => by
    have ha := hA a (List.mem_cons_self ..)
    have hA' : Len n A := fun x hx => hA x (List.mem_cons_of_mem _ hx)
    have hz : (List.replicate n false).length = n := by simp
    show A.foldl xr (xr v a) = xr v (A.foldl xr (xr (List.replicate n false) a))
    rw [foldl_xr hA' (by rw [xr_len (by rw [hv, ha]), hv]), foldl_xr hA' (by rw [xr_len (by rw [hz, ha]), hz])]
    rw [xr_assoc, xr_comm (List.replicate n false) a]
    conv => rhs; rw [← ha, xr_zero]
    rw [ha]
theorem sums_append {n : Nat} {A B : List Row} (hA : Len n A) (hB : Len n B) : sums n (A ++ B) = xr (sums n A) (sums n B) := by
  have : sums n (A ++ B) = B.foldl xr (sums n A) := by unfold sums; rw [List.foldl_append]
  rw [this]
  exact foldl_xr hB (sums_len hA)
def pk (n : Nat) (rows : List Row) (l : List Nat) : Row := sums n (l.map fun i => rows.getD i [])
/-- a lot of m: numbers below m, growing -/
def Lot (m : Nat) (l : List Nat) : Prop := l.Pairwise (· < ·) ∧ ∀ i ∈ l, i < m
theorem lot_len : ∀ {m : Nat} {l : List Nat} {k : Nat}, l.Pairwise (· < ·) → (∀ i ∈ l, k ≤ i ∧ i < m) → l.length ≤ m - k
  | m, [], k, _, _ => by simp
  | m, a :: r, k, hp, h => by
    rw [List.pairwise_cons] at hp
    have h1 := h a (List.mem_cons_self ..)
    have := lot_len (m := m) (l := r) (k := a + 1) hp.2 fun i hi => ⟨hp.1 i hi, (h i (List.mem_cons_of_mem _ hi)).2⟩
    rw [List.length_cons]; omega
theorem Lot.len {m : Nat} {l : List Nat} (h : Lot m l) : l.length ≤ m := lot_len (k := 0) h.1 fun i hi => ⟨Nat.zero_le _, h.2 i hi⟩
theorem Lot.nodup {m : Nat} {l : List Nat} (h : Lot m l) : l.Nodup := h.1.imp fun h => Nat.ne_of_lt h
theorem Lot.mono {m k : Nat} {l : List Nat} (h : Lot m l) (hk : m ≤ k) : Lot k l := ⟨h.1, fun i hi => Nat.lt_of_lt_of_le (h.2 i hi) hk⟩
theorem srtN_perm (l : List Nat) : (srtN l).Perm l := List.mergeSort_perm _ _
theorem srtN_pw (l : List Nat) : (srtN l).Pairwise (· ≤ ·) := by
  have := List.pairwise_mergeSort (le := fun a b : Nat => decide (a ≤ b)) (fun a b c h1 h2 => by simp only [decide_eq_true_eq] at *; omega) (fun a b => by simp only [Bool.or_eq_true, decide_eq_true_eq]; omega) l
  exact this.imp fun h => by simpa using h
theorem symd_perm {a b : List Nat} : (symd a b).Perm (a.filter (fun i => !b.contains i) ++ b.filter (fun i => !a.contains i)) := by
  refine (srtN_perm _).trans ?_
  rw [List.filter_append]
  have e1 : a.filter (fun i => a.contains i != b.contains i) = a.filter (fun i => !b.contains i) := List.filter_congr fun x hx => by
    have : a.contains x = true := by simpa using hx
    rw [this]; cases b.contains x <;> rfl
  have e2 : b.filter (fun i => a.contains i != b.contains i) = b.filter (fun i => !a.contains i) := List.filter_congr fun x hx => by
    have : b.contains x = true := by simpa using hx
    rw [this]; cases a.contains x <;> rfl
  rw [e1, e2]
theorem symd_lot {m : Nat} {a b : List Nat} (ha : Lot m a) (hb : Lot m b) : Lot m (symd a b) := by
  have hnd : (symd a b).Nodup := by
    refine symd_perm.nodup_iff.mpr ?_
    rw [List.nodup_append]
    refine ⟨ha.nodup.filter _, hb.nodup.filter _, fun x hx y hy e => ?_⟩
    subst e
    rw [List.mem_filter] at hx hy
    have h := hy.2
    simp at h
    exact h hx.1
  refine ⟨?_, fun i hi => ?_⟩
  · have h1 : (symd a b).Pairwise (· ≤ ·) := srtN_pw _
    have h2 := h1.and hnd
    exact h2.imp fun h => Nat.lt_of_le_of_ne h.1 h.2
  · rcases List.mem_append.mp (symd_perm.mem_iff.mp hi) with h | h
    · exact ha.2 i (List.mem_filter.mp h).1
    · exact hb.2 i (List.mem_filter.mp h).1
theorem Lot.at {n m : Nat} {rows : List Row} {l : List Nat} (hr : Len n rows) (hm : m ≤ rows.length) (h : ∀ i ∈ l, i < m) : Len n (l.map fun i => rows.getD i []) := fun x hx => by
  obtain ⟨i, hi, rfl⟩ := List.mem_map.mp hx
  have := h i hi
  rw [List.getD_eq_getElem?_getD, List.getElem?_eq_getElem (show i < rows.length by omega)]
  exact hr _ (List.getElem_mem _)
theorem pk_len {n m : Nat} {rows : List Row} {l : List Nat} (hr : Len n rows) (hm : m ≤ rows.length) (h : ∀ i ∈ l, i < m) : (pk n rows l).length = n := sums_len (Lot.at hr hm h)
theorem pk_append {n m : Nat} {rows : List Row} {a b : List Nat} (hr : Len n rows) (hm : m ≤ rows.length) (ha : ∀ i ∈ a, i < m) (hb : ∀ i ∈ b, i < m) : pk n rows (a ++ b) = xr (pk n rows a) (pk n rows b) := by
  unfold pk
  rw [List.map_append]
  exact sums_append (Lot.at hr hm ha) (Lot.at hr hm hb)
theorem pk_perm {n : Nat} {rows : List Row} {a b : List Nat} (h : a.Perm b) : pk n rows a = pk n rows b := sums_perm (h.map _)
theorem pk_symd {n m : Nat} {rows : List Row} {a b : List Nat} (hr : Len n rows) (hm : m ≤ rows.length) (ha : Lot m a) (hb : Lot m b) : pk n rows (symd a b) = xr (pk n rows a) (pk n rows b) := by
  have ma : ∀ p : Nat → Bool, ∀ i ∈ a.filter p, i < m := fun p i hi => ha.2 i (List.mem_filter.mp hi).1
  have mb : ∀ p : Nat → Bool, ∀ i ∈ b.filter p, i < m := fun p i hi => hb.2 i (List.mem_filter.mp hi).1
  rw [pk_perm symd_perm, pk_append hr hm (ma _) (mb _)]
  rw [pk_perm (rows := rows) (n := n) (List.filter_append_perm (fun i => b.contains i) a).symm, pk_append hr hm (ma _) (ma _)]
  rw [pk_perm (rows := rows) (n := n) (List.filter_append_perm (fun i => a.contains i) b).symm, pk_append hr hm (mb _) (mb _)]
  have e : (a.filter fun i => b.contains i).Perm (b.filter fun i => a.contains i) := by
    rw [List.perm_ext_iff_of_nodup (ha.nodup.filter _) (hb.nodup.filter _)]
    intro x
    rw [List.mem_filter, List.mem_filter]
    simp only [List.contains_iff_mem]
    exact ⟨fun h => ⟨h.2, h.1⟩, fun h => ⟨h.2, h.1⟩⟩
  rw [pk_perm e]
  have hl : ∀ p q : Nat → Bool, (pk n rows (b.filter p)).length = (pk n rows (b.filter q)).length := fun p q => by rw [pk_len hr hm (mb p), pk_len hr hm (mb q)]
  generalize hX : pk n rows (b.filter fun i => a.contains i) = X
  generalize hA : pk n rows (a.filter fun i => !b.contains i) = A
  generalize hB : pk n rows (b.filter fun i => !a.contains i) = B
  have hXl : X.length = n := by rw [← hX]; exact pk_len hr hm (mb _)
  have hAl : A.length = n := by rw [← hA]; exact pk_len hr hm (ma _)
  have hBl : B.length = n := by rw [← hB]; exact pk_len hr hm (mb _)
  rw [xr_comm X A, xr_assoc, ← xr_assoc X X B, xr_self, hXl, xr_comm (List.replicate n false) B, ← hBl, xr_zero]

/-! ### the lots of lot_that_makes -/
/-- a row with a lot that makes up the rest of it -/
def LotOk (n m : Nat) (rows : List Row) (row : Row) (p : Rn) : Prop := p.1.length = n ∧ Lot m p.2 ∧ xr p.1 (pk n rows p.2) = row
theorem redP_ok {n m : Nat} {rows : List Row} {row : Row} {z : Row} (hr : Len n rows) (hm : m ≤ rows.length) (hz : z = List.replicate n false) {p q : Rn} (hp : LotOk n m rows row p) (hq : LotOk n m rows z q) : LotOk n m rows row (redP p q) := by
  unfold redP
  split
  · refine ⟨?_, symd_lot hp.2.1 hq.2.1, ?_⟩
    · rw [xr_len (by rw [hp.1, hq.1])]; exact hp.1
    · show xr (xr p.1 q.1) (pk n rows (symd p.2 q.2)) = row
      rw [pk_symd hr hm hp.2.1 hq.2.1]
      have h1 := hp.2.2
      have h2 := hq.2.2
      have e : ∀ a b c d : Row, xr (xr a b) (xr c d) = xr (xr a c) (xr b d) := fun a b c d => by
        rw [xr_assoc, xr_assoc, ← xr_assoc b c d, xr_comm b c, xr_assoc c b d]
      rw [e, h1, h2, hz]
      have : row.length = n := by rw [← h1, xr_len (by rw [hp.1, pk_len hr hm hp.2.1.2]), hp.1]
      rw [← this, xr_zero]
  · exact hp
theorem redPs_ok {n m : Nat} {rows : List Row} {row : Row} (hr : Len n rows) (hm : m ≤ rows.length) : ∀ {P : List Rn} {p : Rn}, LotOk n m rows row p → (∀ q ∈ P, LotOk n m rows (List.replicate n false) q) → LotOk n m rows row (P.foldl redP p)
  | [], p, hp, _ => hp
  | q :: P, p, hp, h => by
    rw [List.foldl_cons]
    exact redPs_ok hr hm (P := P) (redP_ok hr hm rfl hp (h q (List.mem_cons_self ..))) fun x hx => h x (List.mem_cons_of_mem _ hx)
end Ev
namespace Ev
open PySem PySem.Spec PyProof.Rows L2

/-! ### lot_that_makes, place_paper -/
def stepL (P : List Rn) (q : Row × Nat) : List Rn :=
  if true ∈ (P.foldl redP (q.1, [q.2])).1 then P ++ [P.foldl redP (q.1, [q.2])] else P
def lotP (rows : List Row) : List Rn := rows.zipIdx.foldl stepL []
/-- what holds of the found pairs when the first i rows were looked at -/
structure Fo (n i : Nat) (rows : List Row) (P : List Rn) : Prop where
  ok : ∀ q ∈ P, LotOk n i rows (List.replicate n false) q
  row : ∀ q ∈ P, true ∈ q.1
  tri : (P.map Prod.fst).Pairwise fun r s => at' s (ld r) = false
  len : P.length ≤ i
  sp : ∀ v, Sp n (P.map Prod.fst) v ↔ Sp n (rows.take i) v
theorem Fo.fnd {n i : Nat} {rows : List Row} {P : List Rn} (h : Fo n i rows P) : Fnd n i P := fun p hp => ⟨⟨(h.ok p hp).1, h.row p hp⟩, (h.ok p hp).2.1.len⟩
theorem Fo.nil (n : Nat) (rows : List Row) : Fo n 0 rows [] := ⟨fun _ h => (nomatch h), fun _ h => (nomatch h), List.Pairwise.nil, Nat.le_refl _, fun v => by simp⟩
theorem pk_one {n : Nat} {rows : List Row} {i : Nat} {a : Row} (hr : Len n rows) (hi : rows[i]? = some a) : pk n rows [i] = a := by
  unfold pk sums
  have ha : a.length = n := hr a (List.mem_of_getElem? hi)
  rw [List.map_cons, List.map_nil, List.getD_eq_getElem?_getD, hi]
  show xr (List.replicate n false) a = a
  rw [xr_comm, ← ha, xr_zero]
theorem sp_snoc_mono {n : Nat} {A B : List Row} {a : Row} (hA : Len n A) (hB : Len n B) (ha : a.length = n) (h : ∀ v, Sp n A v → Sp n B v) {v : Row} (hv : Sp n (A ++ [a]) v) : Sp n (B ++ [a]) v := by
  have hL : Len n (B ++ [a]) := fun x hx => by
    rcases List.mem_append.mp hx with hx | hx
    · exact hB x hx
    · rw [List.mem_singleton.mp hx]; exact ha
  refine hv.mono hL fun r hr => ?_
  rcases List.mem_append.mp hr with hr | hr
  · exact (h r (Sp.of hA hr)).sub fun x hx => List.mem_append_left _ hx
  · rw [List.mem_singleton.mp hr]; exact Sp.of hL (by simp)
theorem sp_last {n : Nat} {A : List Row} {a b : Row} (hA : Len n A) (ha : a.length = n) (hb : b.length = n) (h : Sp n A (xr a b)) {v : Row} (hv : Sp n (A ++ [a]) v) : Sp n (A ++ [b]) v := by
  have hL : Len n (A ++ [b]) := fun x hx => by
    rcases List.mem_append.mp hx with hx | hx
    · exact hA x hx
    · rw [List.mem_singleton.mp hx]; exact hb
  refine hv.mono hL fun r hr => ?_
  rcases List.mem_append.mp hr with hr | hr
  · exact Sp.of hL (List.mem_append_left _ hr)
  · rw [List.mem_singleton.mp hr]
    have h1 : Sp n (A ++ [b]) (xr a b) := h.sub fun x hx => List.mem_append_left _ hx
    have h2 := h1.xr hL (Sp.of hL (show b ∈ A ++ [b] by simp))
    rwa [xr_back (by rw [ha, hb])] at h2
theorem red_diff {n : Nat} : ∀ {F : List Row} {row : Row}, Len n F → row.length = n → Sp n F (xr row (F.foldl redby row))
  | F, row, hF, hr => by
    have key : ∀ {G : List Row} {v : Row}, (∀ r ∈ G, Sp n F r) → v.length = n → Sp n F (xr row v) → Sp n F (xr row (G.foldl redby v)) := by
      intro G
      induction G with
      | nil => exact fun _ _ h => h
      | cons g G ih =>
        intro v hG hv h
        have hg := hG g (List.mem_cons_self ..)
        rw [List.foldl_cons]
        refine ih (fun r hr => hG r (List.mem_cons_of_mem _ hr)) (redby_len hv (hg.len hF)) ?_
        unfold redby
        split
        · rw [← xr_assoc]; exact h.xr hF hg
        · exact h
    exact key (fun r hr => Sp.of hF hr) hr (by rw [xr_self, hr]; exact .zero)
theorem Fo.step {n i : Nat} {rows : List Row} {P : List Rn} {a : Row} (hr : Len n rows) (h : Fo n i rows P) (hi : rows[i]? = some a) : Fo n (i + 1) rows (stepL P (a, i)) ∧ LotOk n (i + 1) rows (List.replicate n false) (P.foldl redP (a, [i])) := by
  have hlt := (List.getElem?_eq_some_iff.mp hi).1
  have ha : a.length = n := hr a (List.mem_of_getElem? hi)
  have hok : ∀ q ∈ P, LotOk n (i + 1) rows (List.replicate n false) q := fun q hq => ⟨(h.ok q hq).1, (h.ok q hq).2.1.mono (by omega), (h.ok q hq).2.2⟩
  have h0 : LotOk n (i + 1) rows (List.replicate n false) (a, [i]) := ⟨ha, ⟨List.pairwise_singleton _ _, fun j hj => by rw [List.mem_singleton.mp hj]; omega⟩, by
    show xr a (pk n rows [i]) = _
    rw [pk_one hr hi, xr_self, ha]⟩
  have h1 := redPs_ok hr (show i + 1 ≤ rows.length by omega) h0 hok
  refine ⟨?_, h1⟩
  have hfst : (P.foldl redP (a, [i])).1 = (P.map Prod.fst).foldl redby a := redP_fst P (a, [i])
  have hF : ∀ r ∈ P.map Prod.fst, r.length = n ∧ true ∈ r := fun r hr => by
    obtain ⟨q, hq, rfl⟩ := List.mem_map.mp hr
    exact ⟨(h.ok q hq).1, h.row q hq⟩
  have hL : Len n (P.map Prod.fst) := fun r hr => (hF r hr).1
  have ht : rows.take (i + 1) = rows.take i ++ [a] := by rw [List.take_succ, hi]; rfl
  have hLt : Len n (rows.take i) := fun r hm => hr r (List.mem_of_mem_take hm)
  have hd := red_diff hL ha
  rw [← hfst] at hd
  have hml := h1.1
  have c0 : Sp n (P.map Prod.fst) (P.foldl redP (a, [i])).1 → ∀ v, Sp n (P.map Prod.fst) v ↔ Sp n (rows.take (i + 1)) v := fun hz v => by
    have haS : Sp n (P.map Prod.fst) a := by
      have := hd.xr hL hz
      rwa [xr_back (by rw [ha, hml])] at this
    rw [ht]
    constructor
    · intro hv; exact ((h.sp v).mp hv).sub fun x hx => List.mem_append_left _ hx
    · intro hv
      refine hv.mono hL fun r hm => ?_
      rcases List.mem_append.mp hm with hm | hm
      · exact (h.sp r).mpr (Sp.of hLt hm)
      · rw [List.mem_singleton.mp hm]; exact haS
  unfold stepL
  generalize P.foldl redP (a, [i]) = made at *
  by_cases hc : true ∈ made.1
  · rw [if_pos hc]
    refine ⟨fun q hq => ?_, fun q hq => ?_, ?_, ?_, fun v => ?_⟩
    · rcases List.mem_append.mp hq with hq | hq
      · exact hok q hq
      · rw [List.mem_singleton.mp hq]; exact h1
    · rcases List.mem_append.mp hq with hq | hq
      · exact h.row q hq
      · rw [List.mem_singleton.mp hq]; exact hc
    · rw [List.map_append, List.pairwise_append]
      refine ⟨h.tri, List.pairwise_singleton _ _, fun r hr s hs => ?_⟩
      rw [List.mem_singleton.mp hs]
      show at' made.1 (ld r) = false
      rw [hfst]
      exact red_clear hF h.tri ha r hr
    · rw [List.length_append, List.length_singleton]; have := h.len; omega
    · rw [List.map_append, ht]
      have hd' : Sp n (P.map Prod.fst) (xr made.1 a) := by rw [xr_comm]; exact hd
      constructor
      · intro hv
        exact sp_snoc_mono hL hLt ha (fun v hv => (h.sp v).mp hv) (sp_last hL hml ha hd' hv)
      · intro hv
        exact sp_last hL ha hml hd (sp_snoc_mono hLt hL ha (fun v hv => (h.sp v).mpr hv) hv)
  · rw [if_neg hc]
    refine ⟨hok, h.row, h.tri, by have := h.len; omega, c0 ?_⟩
    have e := no_true hc
    rw [hml] at e
    rw [e]; exact .zero
theorem lotP_ok {n : Nat} {rows : List Row} (hr : Len n rows) : ∀ i, i ≤ rows.length → Fo n i rows ((rows.zipIdx.take i).foldl stepL [])
  | 0, _ => Fo.nil n rows
  | i + 1, hi => by
    have hg : rows[i]? = some rows[i] := List.getElem?_eq_getElem (by omega)
    have ht : rows.zipIdx.take (i + 1) = rows.zipIdx.take i ++ [(rows[i], i)] := by
      rw [List.take_succ, List.getElem?_zipIdx, hg]; simp
    rw [ht, List.foldl_append]
    exact ((lotP_ok hr i (by omega)).step hr hg).1
theorem lotP_all {n : Nat} {rows : List Row} (hr : Len n rows) : Fo n rows.length rows (lotP rows) := by
  have := lotP_ok hr rows.length (Nat.le_refl _)
  rwa [List.take_of_length_le (by simp)] at this
def herP (rows : List Row) (row : Row) : Rn := (lotP rows).foldl redP (row, [])
theorem her_ok {n : Nat} {rows : List Row} {row : Row} (hr : Len n rows) (hw : row.length = n) : LotOk n rows.length rows row (herP rows row) ∧ (true ∉ (herP rows row).1 ↔ Sp n rows row) := by
  have h := lotP_all hr
  have h0 : LotOk n rows.length rows row (row, []) := ⟨hw, ⟨List.Pairwise.nil, fun _ h => (nomatch h)⟩, by
    show xr row (List.replicate n false) = row
    rw [← hw, xr_zero]⟩
  refine ⟨redPs_ok hr (Nat.le_refl _) h0 h.ok, ?_⟩
  unfold herP
  rw [redP_fst]
  have hF : ∀ r ∈ (lotP rows).map Prod.fst, r.length = n ∧ true ∈ r := fun r hr => by
    obtain ⟨q, hq, rfl⟩ := List.mem_map.mp hr
    exact ⟨(h.ok q hq).1, h.row q hq⟩
  have h2 := h.sp row
  rw [List.take_of_length_le (Nat.le_refl _)] at h2
  rw [← h2]
  exact red_in hF h.tri hw
/-- a row in the span is made by its lot -/
theorem her_in {n : Nat} {rows : List Row} {row : Row} (hr : Len n rows) (hw : row.length = n) (h : true ∉ (herP rows row).1) : pk n rows (herP rows row).2 = row := by
  have h1 := (her_ok hr hw).1
  have e := no_true h
  rw [h1.1] at e
  have := h1.2.2
  rw [e, xr_comm] at this
  have hl := pk_len hr (Nat.le_refl _) h1.2.1.2
  have hz := xr_zero (pk n rows (herP rows row).2)
  rw [hl] at hz
  exact hz.symm.trans this
end Ev
namespace Ev
open PySem PySem.Spec PyProof.Rows L2

theorem no_epr (p : Rn) : ltB 0 (epr p) = true := by unfold epr; rw [ltB_tup]; simp [no_er, no_en]
theorem r_lot (k : Nat) (S : Sto) {n : Nat} {rows : List Row} {row : Row} {v : PV} (hn : n ≤ 1000) (hr : Len n rows) (hl : rows.length ≤ 100) (hw : row.length = n) (hv : ∀ o, seqOf (S ++ [o]) v = some (rows.map er)) :
    run ds 100 (k + 3) 7 [v, er row] S = some (if true ∈ (herP rows row).1 then .non else en (herP rows row).2, S) := by
  have hnv : ltB 0 (if true ∈ (herP rows row).1 then .non else en (herP rows row).2) = true := by
    split
    · exact no_non
    · exact no_en _
  have hall := lotP_all hr
  have room : ∀ (c i : Nat), c ≤ 100 → i ≤ 100 → 1 + c * i + i ≤ 100000 := fun c i h1 h2 => by
    have := Nat.mul_le_mul h1 h2; omega
  suffices hb : ∃ o, df7.b.dn (run ds 100 (k + 2)) 100 S.length (enOf df7 [v, er row]) S = some (.rt (if true ∈ (herP rows row).1 then .non else en (herP rows row).2) (S ++ [o])) by
    obtain ⟨o, hb⟩ := hb
    rw [run_rt (d := df7) rfl rfl rfl hb hnv]
    simp
  obtain ⟨en', S', h, ⟨y3, y4, y5, y6, rfl, rfl⟩⟩ := es_forM (R := run ds 100 (k + 2)) (W := 100) (tp := S.length) (it := .enu (.var 0)) (tg := [3, 4]) (one := false) (J := .enu v) (l := rows.zipIdx)
    (s := (.seq (.asg [5] true (.cal 8 (.cons (.tup (.cons (.var 4) (.cons (.tup (.cons (.var 3) .nil)) .nil))) (.cons (.var 2) .nil)))) (.seq (.ifS (.cmp .In (.con (.int 1)) (.idx (.var 5) (.con (.int 0)))) (.seq (.exp (.met .app (.var 2) (.cons (.var 5) .nil))) .nop) .nop) .nop)))
    (en := [some v, some (er row), some (.ref S.length), none, none, none, none]) (S := S ++ [.lst []]) (S1 := S ++ [.lst []]) (fun p => .tup [.int p.2, er p.1])
    (fun i e T => ∃ y3 y4 y5 y6, e = [some v, some (er row), some (.ref S.length), y3, y4, y5, y6] ∧ T = S ++ [.lst (((rows.zipIdx.take i).foldl stepL []).map epr)]) (ei_enu (ee_var rfl) (hv _)) rfl (fun i e T h => by
      obtain ⟨_, _, _, _, _, rfl⟩ := h
      exact its_enu (f := er) (hv _)) ⟨none, none, none, none, rfl, rfl⟩
    (fun i q e T hi hI => by
      obtain ⟨y3, y4, y5, y6, rfl, rfl⟩ := hI
      obtain ⟨hi1, hq⟩ : rows[i]? = some q.1 ∧ q.2 = i := by
        rw [List.getElem?_zipIdx] at hi
        cases e : rows[i]? with
        | none => rw [e] at hi; cases hi
        | some a => rw [e] at hi; cases hi; simp
      have hlt := (List.getElem?_eq_some_iff.mp hi1).1
      have hfo := lotP_ok hr i (by omega)
      have hst : (rows.zipIdx.take (i + 1)).foldl stepL [] = stepL ((rows.zipIdx.take i).foldl stepL []) q := by rw [List.take_succ, hi, List.foldl_append]; rfl
      rw [hst]
      obtain ⟨a, j⟩ := q
      simp only at hi1 hq
      subst hq
      have hs := hfo.step hr hi1
      have h8 := r_reduced (p := (a, [j])) k (S ++ [.lst (((rows.zipIdx.take j).foldl stepL []).map epr)]) (v := .ref S.length) hn hfo.fnd (hr a (List.mem_of_getElem? hi1)) (by
        have := hfo.len
        exact room _ _ (by omega) (by omega)) (seq_top _ _)
      have hlen := hfo.len
      have e2 : ∀ P : List Rn, stepL P (a, j) = if true ∈ (P.foldl redP (a, [j])).1 then P ++ [P.foldl redP (a, [j])] else P := fun _ => rfl
      rw [e2]
      generalize (rows.zipIdx.take j).foldl stepL [] = P at *
      generalize P.foldl redP (a, [j]) = made at *
      have hin := in_er made.1 (S ++ [.lst (P.map epr)])
      by_cases hc : true ∈ made.1
      · rw [if_pos hc]
        rw [contains_of.mpr hc] at hin
        refine ⟨_, _, _, rfl, es_seq (es_asg (ee_cal (ea_cons (ee_tup (ea_cons (ee_var rfl) (ea_cons (ee_tup (ea_cons (ee_var rfl) ea_nil) (lim_ok (by simp))) ea_nil)) (lim_ok (by simp))) (ea_cons (ee_var rfl) ea_nil)) h8) rfl)
          (es_seq (es_if (k := true) (et_cmp ee_con (ee_idx (ee_var rfl) ee_con (idx_tup (j := 0) rfl)) hin) (fun _ =>
            es_seq (es_exp (ee_met (f := .app) (ee_var rfl) (ea_cons (ee_var rfl) ea_nil) rfl (append_top S _ _ (by simp; omega)))) es_nop) fun z => by cases z) es_nop), some (.int j), some (er a), some (epr made), y6, rfl, by simp⟩
      · rw [if_neg hc]
        rw [show made.1.contains true = false by simpa using hc] at hin
        exact ⟨_, _, _, rfl, es_seq (es_asg (ee_cal (ea_cons (ee_tup (ea_cons (ee_var rfl) (ea_cons (ee_tup (ea_cons (ee_var rfl) ea_nil) (lim_ok (by simp))) ea_nil)) (lim_ok (by simp))) (ea_cons (ee_var rfl) ea_nil)) h8) rfl)
          (es_seq (es_if (k := false) (et_cmp ee_con (ee_idx (ee_var rfl) ee_con (idx_tup (j := 0) rfl)) hin) (fun z => by cases z) fun _ => es_nop) es_nop), some (.int j), some (er a), some (epr made), y6, rfl, rfl⟩)
  rw [List.take_of_length_le (Nat.le_refl _)] at h
  have h8 := r_reduced (p := (row, [])) k (S ++ [.lst ((lotP rows).map epr)]) (v := .ref S.length) hn hall.fnd hw (by
    have := hall.len
    have := room (lotP rows).length rows.length (by omega) hl
    show 0 + _ + _ ≤ _
    omega) (seq_top _ _)
  have hin := in_er (herP rows row).1 (S ++ [.lst ((lotP rows).map epr)])
  refine ⟨.lst ((lotP rows).map epr), es_seq (es_asg (ee_lst (m := true) ea_nil (lim_ok (by simp))) rfl) (es_seq h (es_seq (es_asg (ee_cal (ea_cons (ee_tup (ea_cons (ee_var rfl) (ea_cons (ee_tup ea_nil (lim_ok (by simp))) ea_nil)) (lim_ok (by simp))) (ea_cons (ee_var rfl) ea_nil)) h8) rfl) (es_seqR (es_ret ?_))))⟩
  by_cases hc : true ∈ (herP rows row).1
  · rw [if_pos hc]
    rw [contains_of.mpr hc] at hin
    exact ee_ite (k := true) (et_cmp ee_con (ee_idx (ee_var rfl) ee_con (idx_tup (j := 0) rfl)) hin) (fun _ => ee_con) fun z => by cases z
  · rw [if_neg hc]
    rw [show (herP rows row).1.contains true = false by simpa using hc] at hin
    exact ee_ite (k := false) (et_cmp ee_con (ee_idx (ee_var rfl) ee_con (idx_tup (j := 0) rfl)) hin) (fun z => by cases z) fun _ => ee_idx (ee_var rfl) ee_con (idx_tup (j := 1) rfl)

/-- the paper of place_paper -/
def paper (n : Nat) (F : List Row) (rows : List Row) (row : Row) : PV :=
  if true ∈ (herP rows row).1 then .tup [.str "out", er (((freeF n F).filter fun w => dt row w).headD [])] else .tup [.str "in", en (herP rows row).2]
end Ev
namespace Ev

/-! ### rows that are even with a span -/
def par : Nat → (Nat → Bool) → Bool
  | 0, _ => false
  | n + 1, f => f 0 != par n fun i => f (i + 1)
theorem par_congr : ∀ {n : Nat} {f g : Nat → Bool}, (∀ i, i < n → f i = g i) → par n f = par n g
  | 0, _, _, _ => rfl
  | n + 1, f, g, h => by
    unfold par
    rw [h 0 (by omega), par_congr fun i hi => h (i + 1) (by omega)]
theorem par_zero : ∀ (n : Nat), par n (fun _ => false) = false
  | 0 => rfl
  | n + 1 => by unfold par; rw [par_zero n]; rfl
theorem bne4 (a b u w : Bool) : ((a != b) != (u != w)) = ((a != u) != (b != w)) := by cases a <;> cases b <;> cases u <;> cases w <;> rfl
theorem par_xor : ∀ (n : Nat) (f g : Nat → Bool), par n (fun i => f i != g i) = (par n f != par n g)
  | 0, _, _ => rfl
  | n + 1, f, g => by
    unfold par
    rw [par_xor n (fun i => f (i + 1)) (fun i => g (i + 1)), bne4]
theorem par_one : ∀ {n p : Nat} (c : Bool), p < n → par n (fun i => i == p && c) = c
  | 0, _, _, h => by omega
  | n + 1, 0, c, _ => by
    unfold par
    have : par n (fun i => i + 1 == 0 && c) = par n fun _ => false := par_congr fun i _ => by simp
    rw [this, par_zero]; simp
  | n + 1, p + 1, c, h => by
    unfold par
    have : par n (fun i => i + 1 == p + 1 && c) = par n fun i => i == p && c := par_congr fun i _ => by simp
    rw [this, par_one c (by omega)]; simp
theorem dt_par : ∀ {a b : Row}, a.length = b.length → dt a b = par a.length fun i => at' a i && at' b i
  | [], [], _ => rfl
  | x :: a, y :: b, h => by
    have h' : a.length = b.length := by simpa using h
    show ((x && y) != dt a b) = _
    rw [dt_par h']
    rfl
theorem dt_xr {a b w : Row} (h : a.length = b.length) (hw : a.length = w.length) : dt (xr a b) w = (dt a w != dt b w) := by
  have hl : (xr a b).length = a.length := xr_len h
  rw [dt_par (by rw [hl, hw]), dt_par hw, dt_par (by rw [← h, hw]), hl, ← h, ← par_xor]
  refine par_congr fun i _ => ?_
  rw [at_xr h]
  cases at' a i <;> cases at' b i <;> cases at' w i <;> rfl
theorem dt_zero {n : Nat} {w : Row} (hw : w.length = n) : dt (List.replicate n false) w = false := by
  rw [dt_par (by simp [hw])]
  rw [show (fun i => at' (List.replicate n false) i && at' w i) = fun _ => false by funext i; rw [at_zero]; rfl]
  exact par_zero _
/-- what is even with the rows is even with what they span -/
theorem dt_sp {n : Nat} {G : List Row} {w v : Row} (hG : Len n G) (hw : w.length = n) (h : ∀ r ∈ G, dt r w = false) (hv : Sp n G v) : dt v w = false := by
  induction hv with
  | zero => exact dt_zero hw
  | add hr hu ih => rw [dt_xr (by rw [hu.len hG, hG _ hr]) (by rw [hu.len hG, hw]), ih, h _ hr]; rfl
theorem fvec_len {n p : Nat} {F : List Row} : (fvec n F p).length = n := by simp [fvec]
theorem at_fvec {n p i : Nat} {F : List Row} (hi : i < n) : at' (fvec n F p) i = (i == p || F.any fun r => (ld r == i) && at' r p) := by
  unfold at' fvec
  rw [List.getElem?_map, List.getElem?_range hi]; rfl
theorem Piv.get {n : Nat} {F : List Row} (h : Piv n F) {r s : Row} (hr : r ∈ F) (hs : s ∈ F) (hl : at' r (ld s) = true) : ld r = ld s ∧ r = s := by
  obtain ⟨i, hi⟩ := List.mem_iff_getElem?.mp hr
  obtain ⟨j, hj⟩ := List.mem_iff_getElem?.mp hs
  have hi' := List.getElem?_eq_some_iff.mp hi
  have hj' := List.getElem?_eq_some_iff.mp hj
  obtain ⟨hi1, hi2⟩ := hi'
  obtain ⟨hj1, hj2⟩ := hj'
  have hp := List.pairwise_iff_getElem.mp h.pw
  rcases Nat.lt_trichotomy i j with hlt | heq | hgt
  · have := (hp i j hi1 hj1 hlt).2
    rw [hi2, hj2, hl] at this; cases this
  · subst heq
    rw [hi] at hj; cases hj; exact ⟨rfl, rfl⟩
  · have := (hp j i hj1 hi1 hgt).1
    rw [hi2, hj2, hl] at this; cases this
theorem isL_iff {F : List Row} {p : Nat} : isL F p = true ↔ ∃ r ∈ F, ld r = p := by
  unfold isL
  rw [List.any_eq_true]
  constructor
  · rintro ⟨r, h1, h2⟩; exact ⟨r, h1, by simpa using h2⟩
  · rintro ⟨r, h1, h2⟩; exact ⟨r, h1, by simpa using h2⟩
/-- a free place's row is even with the reduced rows -/
theorem free_even {n p : Nat} {F : List Row} (hF : Piv n F) (hp : p < n) (hf : isL F p = false) {r : Row} (hr : r ∈ F) : dt r (fvec n F p) = false := by
  have hrl := (hF.row r hr)
  have hld := ld_lt hrl.2
  rw [hrl.1] at hld
  rw [dt_par (by rw [hrl.1, fvec_len]), hrl.1]
  have hne : ld r ≠ p := fun e => by
    have := isL_iff.mpr ⟨r, hr, e⟩
    rw [hf] at this; cases this
  have key : par n (fun i => at' r i && at' (fvec n F p) i) = par n (fun i => (i == p && at' r p) != (i == ld r && at' r p)) := par_congr fun i hi => by
    rw [at_fvec hi]
    by_cases hip : i = p
    · subst hip
      have h1 : (i == i) = true := by simp
      have h2 : (i == ld r) = false := by simp; exact fun e => hne e.symm
      rw [h1, h2]; simp
    · have h1 : (i == p) = false := by simp [hip]
      rw [h1]
      simp only [Bool.false_or, Bool.false_and]
      by_cases hil : i = ld r
      · subst hil
        have h2 : (F.any fun s => ld s == ld r && at' s p) = at' r p := by
          rw [Bool.eq_iff_iff, List.any_eq_true]
          constructor
          · rintro ⟨s, hs, h⟩
            rw [Bool.and_eq_true, beq_iff_eq] at h
            have := (hF.get hr hs (by rw [h.1]; exact at_ld hrl.2)).2
            rw [this]; exact h.2
          · intro h; exact ⟨r, hr, by rw [h]; simp⟩
        rw [h2, at_ld hrl.2]; simp
      · have h3 : (i == ld r) = false := by simp [hil]
        rw [h3]
        cases hri : at' r i with
        | false => simp
        | true =>
          have : (F.any fun s => ld s == i && at' s p) = false := by
            rw [Bool.eq_false_iff, Ne, List.any_eq_true]
            rintro ⟨s, hs, h⟩
            rw [Bool.and_eq_true, beq_iff_eq] at h
            have := (hF.get hr hs (by rw [h.1]; exact hri)).1
            exact hil (by rw [← h.1, this])
          rw [this]; rfl
  rw [key, par_xor, par_one _ hp, par_one _ hld]; simp
theorem mem_freeF {n : Nat} {F : List Row} {w : Row} : w ∈ freeF n F ↔ ∃ p, p < n ∧ isL F p = false ∧ w = fvec n F p := by
  unfold freeF
  rw [List.mem_map]
  constructor
  · rintro ⟨p, hp, rfl⟩
    rw [List.mem_filter] at hp
    exact ⟨p, by simpa using hp.1, by simpa using hp.2, rfl⟩
  · rintro ⟨p, h1, h2, rfl⟩
    exact ⟨p, List.mem_filter.mpr ⟨by simpa using h1, by simpa using h2⟩, rfl⟩
theorem free_odd {n : Nat} {F : List Row} {v : Row} (hF : Piv n F) (hv : v.length = n) (h : ¬ Sp n F v) : ∃ w ∈ freeF n F, dt v w = true := by
  have hp : F.Pairwise fun r s => at' s (ld r) = false := hF.pw.imp fun h => h.1
  have hc := red_clear hF.row hp hv
  have hd := red_diff hF.len hv
  have ht : true ∈ F.foldl redby v := Decidable.byContradiction fun hn => h ((red_in hF.row hp hv).mp hn)
  have hul := red_len (F := F) hF.len hv
  generalize F.foldl redby v = u at *
  have hul' := ld_lt ht
  rw [hul] at hul'
  have hf : isL F (ld u) = false := by
    rw [Bool.eq_false_iff, Ne, isL_iff]
    rintro ⟨r, hr, e⟩
    have := hc r hr
    rw [e, at_ld ht] at this; cases this
  refine ⟨fvec n F (ld u), mem_freeF.mpr ⟨ld u, hul', hf, rfl⟩, ?_⟩
  have e1 := dt_sp hF.len fvec_len (fun r hr => free_even hF hul' hf hr) hd
  rw [dt_xr (by rw [hv, hul]) (by rw [hv, fvec_len])] at e1
  have e2 : dt u (fvec n F (ld u)) = true := by
    rw [dt_par (by rw [hul, fvec_len]), hul]
    have : par n (fun i => at' u i && at' (fvec n F (ld u)) i) = par n fun i => i == ld u && true := par_congr fun i hi => by
      rw [at_fvec hi]
      by_cases hi : i = ld u
      · subst hi; rw [at_ld ht]; simp
      · have h1 : (i == ld u) = false := by simp [hi]
        rw [h1]
        simp only [Bool.false_or, Bool.false_and]
        cases hui : at' u i with
        | false => rfl
        | true =>
          rw [Bool.true_and, Bool.eq_false_iff, Ne, List.any_eq_true]
          rintro ⟨s, hs, h⟩
          rw [Bool.and_eq_true, beq_iff_eq] at h
          have := hc s hs
          rw [h.1, hui] at this; cases this
    rw [this, par_one _ hul']
  rw [e2] at e1
  cases hh : dt v (fvec n F (ld u)) with
  | true => rfl
  | false => rw [hh] at e1; cases e1
/-- the reduced rows of rows, in any order -/
theorem told_piv {n : Nat} {rows F : List Row} (hr : Len n rows) (hF : F.Perm (toldF rows)) : Piv n F ∧ ∀ v, Sp n F v ↔ Sp n rows v := by
  obtain ⟨h1, h2⟩ := toldF_ok (piv_nil n) hr
  refine ⟨⟨fun r hm => h1.row r (hF.mem_iff.mp hm), ?_⟩, fun v => ?_⟩
  · exact (hF.pairwise_iff fun h => ⟨h.2, h.1⟩).mpr h1.pw
  · have := h2 v
    rw [List.nil_append] at this
    rw [← this]
    constructor
    · exact fun h => h.sub fun x hx => hF.mem_iff.mp hx
    · exact fun h => h.sub fun x hx => hF.mem_iff.mpr hx
theorem dt_comm : ∀ (a b : Row), dt a b = dt b a
  | [], [] => rfl
  | [], _ :: _ => rfl
  | _ :: _, [] => rfl
  | x :: a, y :: b => by
    show ((x && y) != dt a b) = ((y && x) != dt b a)
    rw [dt_comm a b, Bool.and_comm]
theorem hasB_iff {n : Nat} {rows F : List Row} {row : Row} (hr : Len n rows) (hF : F.Perm (toldF rows)) (hw : row.length = n) : hasB n F row = true ↔ Sp n rows row := by
  obtain ⟨h1, h2⟩ := told_piv hr hF
  unfold hasB
  rw [List.all_eq_true, ← h2]
  constructor
  · intro h
    refine Classical.byContradiction fun hn => ?_
    obtain ⟨w, hw1, hw2⟩ := free_odd h1 hw hn
    have := h w hw1
    rw [hw2] at this; cases this
  · intro h w hm
    obtain ⟨p, hp, hf, rfl⟩ := mem_freeF.mp hm
    rw [dt_sp h1.len fvec_len (fun r hr => free_even h1 hp hf hr) h]; rfl
/-- the odd row of the out paper -/
theorem out_ok {n : Nat} {rows F : List Row} {row : Row} (hr : Len n rows) (hF : F.Perm (toldF rows)) (hw : row.length = n) (h : ¬ Sp n rows row) :
    let w := ((freeF n F).filter fun w => dt row w).headD []
    w.length = n ∧ dt row w = true ∧ ∀ r ∈ rows, dt r w = false := by
  obtain ⟨h1, h2⟩ := told_piv hr hF
  obtain ⟨w0, hw1, hw2⟩ := free_odd h1 hw fun z => h ((h2 _).mp z)
  have hm : ((freeF n F).filter fun w => dt row w).headD [] ∈ (freeF n F).filter fun w => dt row w := by
    cases q : (freeF n F).filter fun w => dt row w with
    | nil =>
      have : w0 ∈ (freeF n F).filter fun w => dt row w := List.mem_filter.mpr ⟨hw1, hw2⟩
      rw [q] at this; cases this
    | cons a r => simp
  intro w
  obtain ⟨hm1, hm2⟩ := List.mem_filter.mp hm
  refine ⟨freeF_len w hm1, hm2, fun r hrr => ?_⟩
  obtain ⟨p, hp, hf, e⟩ := mem_freeF.mp hm1
  have : Sp n F r := (h2 r).mpr (Sp.of hr hrr)
  show dt r (((freeF n F).filter fun w => dt row w).headD []) = false
  rw [e]
  exact dt_sp h1.len fvec_len (fun r hr => free_even h1 hp hf hr) this
end Ev
namespace Ev

/-! ### the law's own elimination, and the rank -/
def lstep (st : List Row × List Row) (p : Nat) : List Row × List Row :=
  match st.1.filter fun r => at' r p with
  | [] => st
  | h :: _ => ((st.1.filter fun r => !decide (r = h)).map (clr p h), st.2.map (clr p h) ++ [h])
def lawS (n : Nat) (rows : List Row) (p : Nat) : List Row × List Row := (List.range p).foldl lstep (rows, [])
def lawT (n : Nat) (rows : List Row) : List Row := (lawS n rows n).2
structure Ech (n : Nat) (F : List Row) : Prop where
  row : ∀ r ∈ F, r.length = n ∧ true ∈ r
  pw : F.Pairwise fun r s => ld r < ld s
structure LInv (n p : Nat) (rows : List Row) (st : List Row × List Row) : Prop where
  len : Len n st.1
  clear : ∀ l ∈ st.1, ∀ q, q < p → at' l q = false
  ech : Ech n st.2
  low : ∀ r ∈ st.2, ld r < p
  sp : ∀ v, Sp n (st.2 ++ st.1) v ↔ Sp n rows v
  sz : st.1.length + st.2.length ≤ rows.length
  szp : st.2.length ≤ p
theorem clr_up {n p : Nat} {h r : Row} (hr : r.length = n ∧ true ∈ r) (hh : h.length = n) (hc : ∀ q, q < p → at' h q = false) (hl : ld r < p) : (clr p h r).length = n ∧ true ∈ clr p h r ∧ ld (clr p h r) = ld r := by
  refine ⟨clr_len hr.1 hh, ?_⟩
  unfold clr
  split
  · have := ld_xr (a := r) (b := h) (by rw [hr.1, hh]) hr.2 fun q hq => hc q (by omega)
    exact ⟨this.2, this.1⟩
  · exact ⟨hr.2, rfl⟩
theorem clr_sp {n p : Nat} {G : List Row} {h r : Row} (hG : Len n G) (hr : Sp n G r) (hh : Sp n G h) : Sp n G (clr p h r) := by
  unfold clr; split
  · exact hr.xr hG hh
  · exact hr
theorem clr_sp_back {n p : Nat} {G : List Row} {h r : Row} (hG : Len n G) (hrl : r.length = n) (hr : Sp n G (clr p h r)) (hh : Sp n G h) : Sp n G r := by
  unfold clr at hr
  split at hr
  · have := hr.xr hG hh
    rwa [xr_back (by rw [hrl, hh.len hG])] at this
  · exact hr
theorem Len.append {n : Nat} {A B : List Row} (hA : Len n A) (hB : Len n B) : Len n (A ++ B) := fun x hx => by
  rcases List.mem_append.mp hx with h | h
  · exact hA x h
  · exact hB x h
theorem LInv.start (n : Nat) {rows : List Row} (hr : Len n rows) : LInv n 0 rows (rows, []) :=
  ⟨hr, fun _ _ q hq => by omega, ⟨fun _ h => (nomatch h), List.Pairwise.nil⟩, fun _ h => (nomatch h), fun v => by simp, by simp, by simp⟩
theorem LInv.step {n p : Nat} {rows : List Row} {st : List Row × List Row} (h : LInv n p rows st) (hp : p < n) : LInv n (p + 1) rows (lstep st p) := by
  obtain ⟨L, F⟩ := st
  have hL : Len n L := h.len
  have hF : Len n F := fun r hr => (h.ech.row r hr).1
  unfold lstep
  cases hs : L.filter fun r => at' r p with
  | nil =>
    refine ⟨hL, fun l hl q hq => ?_, h.ech, fun r hr => Nat.lt_succ_of_lt (h.low r hr), h.sp, h.sz, Nat.le_succ_of_le h.szp⟩
    by_cases hqp : q < p
    · exact h.clear l hl q hqp
    · obtain rfl : q = p := by omega
      rw [List.filter_eq_nil_iff] at hs
      simpa using hs l hl
  | cons x xs =>
    have hx : x ∈ L ∧ at' x p = true := by
      have : x ∈ L.filter fun r => at' r p := by rw [hs]; exact List.mem_cons_self ..
      exact List.mem_filter.mp this
    have hxl : x.length = n := hL x hx.1
    have hxc := h.clear x hx.1
    have hxd : ld x = p := ld_of hx.2 fun q hq => hxc q hq
    have hL' : Len n ((L.filter fun r => !decide (r = x)).map (clr p x)) := fun r hr => by
      obtain ⟨s, hs, rfl⟩ := List.mem_map.mp hr
      exact clr_len (hL s (List.mem_filter.mp hs).1) hxl
    have hF' : ∀ r ∈ F.map (clr p x) ++ [x], (r.length = n ∧ true ∈ r) ∧ ld r < p + 1 := fun r hr => by
      rcases List.mem_append.mp hr with hr | hr
      · obtain ⟨s, hs, rfl⟩ := List.mem_map.mp hr
        have h1 := clr_up (h.ech.row s hs) hxl hxc (h.low s hs)
        have h2 := h.low s hs
        exact ⟨⟨h1.1, h1.2.1⟩, by rw [h1.2.2]; omega⟩
      · rw [List.mem_singleton.mp hr]; exact ⟨⟨hxl, at_mem hx.2⟩, by omega⟩
    refine ⟨hL', fun l hl q hq => ?_, ⟨fun r hr => (hF' r hr).1, ?_⟩, fun r hr => (hF' r hr).2, fun v => ?_, ?_, ?_⟩
    · obtain ⟨s, hs, rfl⟩ := List.mem_map.mp hl
      have hs' := (List.mem_filter.mp hs).1
      rw [at_clr (hL s hs') hxl]
      by_cases hqp : q < p
      · rw [h.clear s hs' q hqp, hxc q hqp]; simp
      · obtain rfl : q = p := by omega
        rw [hx.2]; simp
    · rw [List.pairwise_append, List.pairwise_map]
      refine ⟨?_, List.pairwise_singleton _ _, fun r hr s hs => ?_⟩
      · refine h.ech.pw.imp_of_mem fun {a b} ha hb hab => ?_
        rw [(clr_up (h.ech.row a ha) hxl hxc (h.low a ha)).2.2, (clr_up (h.ech.row b hb) hxl hxc (h.low b hb)).2.2]
        exact hab
      · rw [List.mem_singleton.mp hs, hxd]
        obtain ⟨a, ha, rfl⟩ := List.mem_map.mp hr
        rw [(clr_up (h.ech.row a ha) hxl hxc (h.low a ha)).2.2]
        exact h.low a ha
    · rw [← h.sp v]
      have hA : Len n (F ++ L) := hF.append hL
      have hB : Len n (F.map (clr p x) ++ [x] ++ (L.filter fun r => !decide (r = x)).map (clr p x)) := Len.append (fun r hr => (hF' r hr).1.1) hL'
      have hxA : Sp n (F ++ L) x := Sp.of hA (List.mem_append_right _ hx.1)
      have hxB : Sp n (F.map (clr p x) ++ [x] ++ (L.filter fun r => !decide (r = x)).map (clr p x)) x := Sp.of hB (by simp)
      constructor
      · refine Sp.mono hA fun r hr => ?_
        rcases List.mem_append.mp hr with hr | hr
        · rcases List.mem_append.mp hr with hr | hr
          · obtain ⟨s, hs, rfl⟩ := List.mem_map.mp hr
            exact clr_sp hA (Sp.of hA (List.mem_append_left _ hs)) hxA
          · rw [List.mem_singleton.mp hr]; exact hxA
        · obtain ⟨s, hs, rfl⟩ := List.mem_map.mp hr
          exact clr_sp hA (Sp.of hA (List.mem_append_right _ (List.mem_filter.mp hs).1)) hxA
      · refine Sp.mono hB fun r hr => ?_
        rcases List.mem_append.mp hr with hr | hr
        · exact clr_sp_back hB (hF r hr) (Sp.of hB (List.mem_append_left _ (List.mem_append_left _ (List.mem_map_of_mem hr)))) hxB
        · by_cases hrx : r = x
          · rw [hrx]; exact hxB
          · exact clr_sp_back hB (hL r hr) (Sp.of hB (List.mem_append_right _ (List.mem_map_of_mem (List.mem_filter.mpr ⟨hr, by simpa using hrx⟩)))) hxB
    · have h1 := h.sz
      have h2 : (L.filter fun r => !decide (r = x)).length < L.length := List.length_filter_lt_length_iff_exists.mpr ⟨x, hx.1, by simp⟩
      simp only [List.length_map, List.length_append, List.length_singleton] at h1 ⊢
      omega
    · have h1 := h.szp
      simp only [List.length_map, List.length_append, List.length_singleton] at h1 ⊢
      omega
theorem lawS_ok {n : Nat} {rows : List Row} (hr : Len n rows) : ∀ p, p ≤ n → LInv n p rows (lawS n rows p)
  | 0, _ => LInv.start n hr
  | p + 1, hp => by
    have : lawS n rows (p + 1) = lstep (lawS n rows p) p := by unfold lawS; rw [List.range_succ, List.foldl_append]; rfl
    rw [this]
    exact (lawS_ok hr p (by omega)).step (by omega)
theorem lawT_ok {n : Nat} {rows : List Row} (hr : Len n rows) : Ech n (lawT n rows) ∧ (∀ v, Sp n (lawT n rows) v ↔ Sp n rows v) ∧ (lawT n rows).length ≤ rows.length ∧ (lawT n rows).length ≤ n := by
  have h := lawS_ok hr n (Nat.le_refl _)
  refine ⟨h.ech, fun v => ?_, by have := h.sz; unfold lawT; omega, h.szp⟩
  rw [← h.sp v]
  have hF : Len n (lawT n rows) := fun r hr => (h.ech.row r hr).1
  constructor
  · exact fun hv => hv.sub fun x hx => List.mem_append_left _ hx
  · refine Sp.mono hF fun r hr => ?_
    rcases List.mem_append.mp hr with hr | hr
    · exact Sp.of hF hr
    · have e : r = List.replicate n false := at_ext (by rw [h.len r hr]; simp) fun i hi => by
        rw [h.len r hr] at hi
        rw [h.clear r hr i hi, at_zero]
      rw [e]; exact .zero
open Classical in
noncomputable def ldSet (n : Nat) (G : List Row) (p : Nat) : Bool := decide (∃ v, Sp n G v ∧ true ∈ v ∧ ld v = p)
noncomputable def rk (n : Nat) (G : List Row) : Nat := ((List.range n).filter (ldSet n G)).length
theorem ldSet_iff {n : Nat} {G : List Row} {p : Nat} : ldSet n G p = true ↔ ∃ v, Sp n G v ∧ true ∈ v ∧ ld v = p := by simp only [ldSet, decide_eq_true_eq]
theorem rk_congr {n : Nat} {G G' : List Row} (h : ∀ v, Sp n G v ↔ Sp n G' v) : rk n G = rk n G' := by
  unfold rk
  have : ldSet n G = ldSet n G' := by
    funext p
    rw [Bool.eq_iff_iff, ldSet_iff, ldSet_iff]
    constructor
    · rintro ⟨v, h1, h2⟩; exact ⟨v, (h v).mp h1, h2⟩
    · rintro ⟨v, h1, h2⟩; exact ⟨v, (h v).mpr h1, h2⟩
  rw [this]
theorem ech_ld {n : Nat} : ∀ {F : List Row} {v : Row}, Ech n F → Sp n F v → true ∈ v → ∃ r ∈ F, ld r = ld v
  | [], v, _, hv, ht => by
    cases hv with
    | zero => exact absurd ht zero_no
    | add hr _ => cases hr
  | r :: F, v, h, hv, ht => by
    have hp := List.pairwise_cons.mp h.pw
    have hE : Ech n F := ⟨fun x hx => h.row x (List.mem_cons_of_mem _ hx), hp.2⟩
    have hL : Len n (r :: F) := fun x hx => (h.row x hx).1
    have hL' : Len n F := fun x hx => (hE.row x hx).1
    have hr := h.row r (List.mem_cons_self ..)
    rcases sp_cons hL hv with h1 | h1
    · obtain ⟨s, hs, e⟩ := ech_ld hE h1 ht
      exact ⟨s, List.mem_cons_of_mem _ hs, e⟩
    · refine ⟨r, List.mem_cons_self .., ?_⟩
      have hvl := hv.len hL
      have hc : ∀ q, q ≤ ld r → at' (xr v r) q = false := fun q hq => clear_sp hL' (fun s hs => at_before (by have := hp.1 s hs; omega)) h1
      have h2 := ld_xr (a := r) (b := xr v r) (by rw [xr_len (by rw [hvl, hr.1]), hvl, hr.1]) hr.2 hc
      have h3 : xr r (xr v r) = v := by rw [xr_comm, xr_back (by rw [hvl, hr.1])]
      rw [h3] at h2
      exact h2.1.symm
theorem ech_rk {n : Nat} {F : List Row} (h : Ech n F) : rk n F = F.length := by
  have hL : Len n F := fun x hx => (h.row x hx).1
  unfold rk
  have hp : ((List.range n).filter (ldSet n F)).Perm (F.map ld) := by
    rw [List.perm_ext_iff_of_nodup (List.nodup_range.filter _) (by
      unfold List.Nodup
      rw [List.pairwise_map]
      exact h.pw.imp fun h => Nat.ne_of_lt h)]
    intro p
    rw [List.mem_filter, ldSet_iff, List.mem_map]
    constructor
    · rintro ⟨_, v, h1, h2, rfl⟩
      obtain ⟨r, hr, e⟩ := ech_ld h h1 h2
      exact ⟨r, hr, e⟩
    · rintro ⟨r, hr, rfl⟩
      have := ld_lt (h.row r hr).2
      rw [(h.row r hr).1] at this
      exact ⟨by simpa using this, r, Sp.of hL hr, (h.row r hr).2, rfl⟩
  rw [hp.length_eq, List.length_map]
theorem lawT_rk {n : Nat} {rows : List Row} (hr : Len n rows) : (lawT n rows).length = rk n rows := by
  obtain ⟨h1, h2, _⟩ := lawT_ok hr
  rw [← ech_rk h1, rk_congr h2]
theorem filter_same {α : Type} {P Q : α → Bool} : ∀ {l : List α}, (∀ x ∈ l, P x = true → Q x = true) → (l.filter P).length ≤ (l.filter Q).length ∧ ((l.filter P).length = (l.filter Q).length → ∀ x ∈ l, Q x = true → P x = true)
  | [], _ => ⟨Nat.le_refl _, fun _ _ h => (nomatch h)⟩
  | a :: l, h => by
    obtain ⟨h1, h2⟩ := filter_same (l := l) fun x hx => h x (List.mem_cons_of_mem _ hx)
    have ha := h a (List.mem_cons_self ..)
    rw [List.filter_cons, List.filter_cons]
    cases hp : P a with
    | true =>
      rw [ha hp]
      simp only [if_true, List.length_cons]
      refine ⟨by omega, fun e x hx hq => ?_⟩
      rcases List.mem_cons.mp hx with rfl | hx
      · exact hp
      · exact h2 (by omega) x hx hq
    | false =>
      cases hq : Q a with
      | true =>
        simp only [if_true, List.length_cons, Bool.false_eq_true, if_false]
        exact ⟨by omega, fun e => by omega⟩
      | false =>
        simp only [Bool.false_eq_true, if_false]
        refine ⟨h1, fun e x hx hqx => ?_⟩
        rcases List.mem_cons.mp hx with rfl | hx
        · rw [hq] at hqx; cases hqx
        · exact h2 e x hx hqx
/-- the rank stays just when the row lies in the span -/
theorem rk_in {n : Nat} {rows : List Row} {row : Row} (hr : Len n rows) (hw : row.length = n) : rk n (rows ++ [row]) = rk n rows ↔ Sp n rows row := by
  have hL : Len n (rows ++ [row]) := hr.append fun x hx => by rw [List.mem_singleton.mp hx]; exact hw
  constructor
  · intro e
    have hsub : ∀ v, Sp n rows v → Sp n (rows ++ [row]) v := fun v hv => hv.sub fun x hx => List.mem_append_left _ hx
    have h1 := (filter_same (P := ldSet n rows) (Q := ldSet n (rows ++ [row])) (l := List.range n) fun p _ hp => by
      obtain ⟨v, h1, h2⟩ := ldSet_iff.mp hp
      exact ldSet_iff.mpr ⟨v, hsub v h1, h2⟩).2 (by unfold rk at e; exact e.symm)
    obtain ⟨hE, hs, _⟩ := lawT_ok hr
    have hF : Len n (lawT n rows) := fun r hr => (hE.row r hr).1
    have hp : (lawT n rows).Pairwise fun r s => at' s (ld r) = false := hE.pw.imp fun h => at_before h
    refine (hs row).mp ((red_in hE.row hp hw).mp fun ht => ?_)
    have hc := red_clear hE.row hp hw
    have hul := red_len (F := lawT n rows) hF hw
    have hu : Sp n (rows ++ [row]) ((lawT n rows).foldl redby row) := red_sp hL (fun r hr => hsub r ((hs r).mp (Sp.of hF hr))) (Sp.of hL (by simp))
    generalize (lawT n rows).foldl redby row = u at *
    have hlt := ld_lt ht
    rw [hul] at hlt
    obtain ⟨v, hv1, hv2, hv3⟩ := ldSet_iff.mp (h1 (ld u) (by simpa using hlt) (ldSet_iff.mpr ⟨u, hu, ht, rfl⟩))
    obtain ⟨r, hr1, hr2⟩ := ech_ld hE ((hs v).mpr hv1) hv2
    have := hc r hr1
    rw [hr2, hv3, at_ld ht] at this
    cases this
  · intro h
    refine rk_congr fun v => ⟨fun hv => hv.mono hr fun r hm => ?_, fun hv => hv.sub fun x hx => List.mem_append_left _ hx⟩
    rcases List.mem_append.mp hm with hm | hm
    · exact Sp.of hr hm
    · rw [List.mem_singleton.mp hm]; exact h
/-- a base: rows of length n, as many as their rank -/
def Bas (n : Nat) (rows : List Row) : Prop := Len n rows ∧ rk n rows = rows.length
theorem Bas.nil (n : Nat) : Bas n [] := ⟨fun _ h => (nomatch h), ech_rk ⟨fun _ h => (nomatch h), List.Pairwise.nil⟩⟩
theorem rk_le {n : Nat} {rows : List Row} (hr : Len n rows) : rk n rows ≤ rows.length ∧ rk n rows ≤ n := by
  obtain ⟨_, _, h1, h2⟩ := lawT_ok hr
  rw [lawT_rk hr] at h1 h2
  exact ⟨h1, h2⟩
theorem Bas.le {n : Nat} {rows : List Row} (h : Bas n rows) : rows.length ≤ n := by
  have := (rk_le h.1).2
  rw [h.2] at this; exact this
theorem Bas.add {n : Nat} {rows : List Row} {row : Row} (h : Bas n rows) (hw : row.length = n) (hg : rows.length < (lawT n (rows ++ [row])).length) : Bas n (rows ++ [row]) := by
  have hL : Len n (rows ++ [row]) := h.1.append fun x hx => by rw [List.mem_singleton.mp hx]; exact hw
  refine ⟨hL, ?_⟩
  rw [lawT_rk hL] at hg
  have := (rk_le hL).1
  rw [List.length_append, List.length_singleton] at *
  omega
theorem Bas.told {n : Nat} {rows : List Row} (h : Bas n rows) : Bas n (lawT n rows) ∧ (lawT n rows).length = rows.length := by
  obtain ⟨h1, h2, _⟩ := lawT_ok h.1
  refine ⟨⟨fun r hr => (h1.row r hr).1, ech_rk h1⟩, ?_⟩
  rw [lawT_rk h.1, h.2]
theorem Bas.perm {n : Nat} {rows rows' : List Row} (h : Bas n rows) (hp : rows'.Perm rows) : Bas n rows' := by
  refine ⟨fun r hr => h.1 r (hp.mem_iff.mp hr), ?_⟩
  rw [hp.length_eq, ← h.2]
  exact rk_congr fun v => ⟨fun hv => hv.sub fun x hx => hp.mem_iff.mp hx, fun hv => hv.sub fun x hx => hp.mem_iff.mpr hx⟩
theorem Bas.has {n : Nat} {rows : List Row} {row : Row} (h : Bas n rows) (hw : row.length = n) : (lawT n (rows ++ [row])).length = rows.length ↔ Sp n rows row := by
  have hL : Len n (rows ++ [row]) := h.1.append fun x hx => by rw [List.mem_singleton.mp hx]; exact hw
  rw [lawT_rk hL, ← h.2]
  exact rk_in h.1 hw
end Ev
namespace Ev
open PySem PySem.Spec PyProof.Rows L2

/-! ### == of lists and rows -/
theorem toD_intsI {α : Type} (l : List α) (h : α → Int) : toDs (l.map fun a => PV.int (h a)) = some (l.map fun a => PyData.int (h a)) := toDs_map l _ _ fun _ => rfl
theorem lay_ints {α : Type} (l : List α) (h : α → Int) : PyData.canLayAll0 (l.map fun a => PyData.int (h a)) = true := by
  induction l with
  | nil => rfl
  | cons a r ih => simp [PyData.canLayAll0, PyData.canLay0, ih]
theorem dep_ints {α : Type} (l : List α) (h : α → Int) : PyData.depthAll (l.map fun a => PyData.int (h a)) = 0 := by
  induction l with
  | nil => rfl
  | cons a r ih => simp [PyData.depthAll, PyData.depth, ih]
theorem lay_rows (l : List Row) : PyData.canLayAll0 (l.map dInts) = true := by
  induction l with
  | nil => rfl
  | cons a r ih =>
    have := lay_ints a bi
    simp [PyData.canLayAll0, PyData.canLay0, ih, dInts, this]
theorem dep_row (v : Row) : (dInts v).depth ≤ 1 := by
  have := dep_ints v bi
  simp [dInts, PyData.depth, this]
theorem dep_rows (l : List Row) : PyData.depthAll (l.map dInts) ≤ 1 := by
  induction l with
  | nil => simp [PyData.depthAll]
  | cons a r ih =>
    have := dep_row a
    simp only [List.map_cons, PyData.depthAll]
    omega
theorem eqv_nilL (ds : List PyData) : PyData.eqv (.list ds) (.list []) = ds.isEmpty := by
  cases ds <;> simp [PyData.eqv, PyData.eqvAll]
theorem sh_nil : SeqAt.shaped (.list []) = true := by
  simp [SeqAt.shaped, PyData.canLay0, PyData.canLayAll0, PyData.depth, PyData.depthAll]
theorem eq_nilL {xs : List PV} {ds : List PyData} {S : Sto} (h : toDs xs = some ds) (hs : SeqAt.shaped (.list ds) = true) : pCmp .Eq (.lst xs) (.lst []) S = some ds.isEmpty ∧ pCmp .NotEq (.lst xs) (.lst []) S = some (!ds.isEmpty) := by
  have e : eqPV S (.lst xs) (.lst []) = some ds.isEmpty := by
    simp only [eqPV, flat, Bool.and_self, Bool.false_eq_true, if_false, deref, toD, h, toDs, Option.map_some, hs, sh_nil, Bool.and_true, if_true, eqv_nilL]
  exact ⟨e, by simp only [pCmp, e]; rfl⟩
theorem isEmpty_map {α β : Type} (l : List α) (f : α → β) : (l.map f).isEmpty = l.isEmpty := by cases l <;> rfl
theorem eq_nil_ints {α : Type} (l : List α) (h : α → Int) (S : Sto) : pCmp .Eq (.lst (l.map fun a => PV.int (h a))) (.lst []) S = some l.isEmpty ∧ pCmp .NotEq (.lst (l.map fun a => PV.int (h a))) (.lst []) S = some (!l.isEmpty) := by
  have := eq_nilL (S := S) (toD_intsI l h) (by
    have h1 := lay_ints l h
    have h2 := dep_ints l h
    simp [SeqAt.shaped, PyData.canLay0, PyData.depth, h1, h2])
  rwa [isEmpty_map] at this
theorem toD_rows (l : List Row) : toDs (l.map er) = some (l.map dInts) := toDs_map l _ _ toD_er
theorem eq_nil_rows (l : List Row) (S : Sto) : pCmp .NotEq (.lst (l.map er)) (.lst []) S = some (!l.isEmpty) := by
  have := (eq_nilL (S := S) (toD_rows l) (by
    have h1 := lay_rows l
    have h2 := dep_rows l
    have h3 : PyData.depth (.list (l.map dInts)) ≤ 64 := by
      rw [PyData.depth]; omega
    have h4 : PyData.canLay0 (.list (l.map dInts)) = true := by rw [PyData.canLay0]; exact h1
    rw [SeqAt.shaped, h4, Bool.true_and]; exact decide_eq_true h3)).2
  rwa [isEmpty_map] at this
theorem eqv_rows : ∀ (a b : Row), PyData.eqvAll (a.map fun b => .int (bi b)) (b.map fun b => .int (bi b)) = decide (a = b)
  | [], [] => rfl
  | [], _ :: _ => rfl
  | _ :: _, [] => rfl
  | x :: a, y :: b => by
    simp only [List.map_cons, PyData.eqvAll, PyData.eqv, eqv_rows a b]
    cases x <;> cases y <;> simp [bi]
theorem ne_rows {a b : Row} (hb : b ≠ []) (S : Sto) : pCmp .NotEq (er a) (er b) S = some (!decide (a = b)) := by
  have e : eqPV S (er a) (er b) = some (decide (a = b)) := by
    have t1 := toD_er a
    have t2 := toD_er b
    have s1 : ∀ v : Row, SeqAt.shaped (dInts v) = true := fun v => by
      have h1 := lay_ints v bi
      have h2 := dep_ints v bi
      simp [SeqAt.shaped, dInts, PyData.canLay0, PyData.depth, h1, h2]
    have ev : PyData.eqv (dInts a) (dInts b) = decide (a = b) := by
      simp only [dInts, PyData.eqv, eqv_rows]
    cases b with
    | nil => exact absurd rfl hb
    | cons y b =>
      have hd : ∀ v : Row, deref S (er v) = er v := fun v => rfl
      have : eqPV S (er a) (er (y :: b)) = match toD (deref S (er a)), toD (deref S (er (y :: b))) with
        | some d, some e => if SeqAt.shaped d && SeqAt.shaped e then some (PyData.eqv d e) else none
        | _, _ => none := rfl
      rw [this, hd, hd, t1, t2]
      simp only [s1, Bool.and_self, if_true, ev]
  cases b with
  | nil => exact absurd rfl hb
  | cons y b =>
    have : pCmp .NotEq (er a) (er (y :: b)) S = (eqPV S (er a) (er (y :: b))).map (!·) := rfl
    rw [this, e]; rfl
/-- zip of lists of any lengths -/
theorem its_zipF {α β : Type} {S : Sto} {v w : PV} {l : List α} {l2 : List β} {f : α → PV} {f2 : β → PV} (h : seqOf S v = some (l.map f)) (h2 : seqOf S w = some (l2.map f2)) : Its (.zip false v w) S ((l.zip l2).map fun p => .tup [f p.1, f2 p.2]) := by
  refine ⟨fun i hi => ?_, ?_⟩
  · simp only [List.length_map, List.length_zip] at hi
    have h1' : l[i]? = some (l[i]'(by omega)) := List.getElem?_eq_getElem _
    have h2' : l2[i]? = some (l2[i]'(by omega)) := List.getElem?_eq_getElem _
    have h3 : (l.zip l2)[i]? = some (l[i]'(by omega), l2[i]'(by omega)) := List.getElem?_zip_eq_some.mpr ⟨h1', h2'⟩
    simp [ItV.item, h, h2, h1', h2', h3]
  · simp [ItV.len, h, h2]

/-! ### the kinds of values -/
def noRef : PV → Bool
  | .ref _ => false | .scr _ => false | _ => true
def below (m : Nat) : PV → Bool
  | .int i => decide (0 ≤ i) && decide (i < m)
  | _ => false
def isTupB : PV → Bool
  | .tup _ => true | _ => false
def isIntB : PV → Bool
  | .int _ => true | _ => false
def isStrB : PV → Bool
  | .str _ => true | _ => false
theorem isi_tup {v : PV} (h : noRef v = true) (S : Sto) : pIsI "tuple" v S = some (isTupB v) := by
  cases v <;> first | rfl | cases h
theorem isi_str {v : PV} (h : noRef v = true) (S : Sto) : pIsI "str" v S = some (isStrB v) := by
  cases v <;> first | rfl | cases h
def isBlB : PV → Bool
  | .bl _ => true | _ => false
theorem isi_int {v : PV} (h : noRef v = true) (S : Sto) : pIsI "int" v S = some (isIntB v || isBlB v) ∧ pIsI "bool" v S = some (isBlB v) := by
  cases v <;> first | exact ⟨rfl, rfl⟩ | cases h
def natB : PV → Bool
  | .int i => decide (0 ≤ i)
  | _ => false
theorem r_isint (k : Nat) (S : Sto) {v : PV} (h : noRef v = true) : run ds 100 (k + 1) 9 [v] S = some (.bl (natB v), S) := by
  refine run_rt0 (d := df9) rfl rfl rfl ?_ (no_bl _)
  obtain ⟨h1, h2⟩ := isi_int h S
  refine es_seqR (es_ret (ee_and (ee_isi (ee_var rfl) h1) (fun z => ee_and (ee_not (ee_isi (ee_var rfl) h2)) (fun z2 => ?_) fun z2 => ⟨?_, rfl⟩) fun z => ⟨?_, rfl⟩))
  · cases v <;> first | exact ee_cmp (ee_var rfl) ee_con rfl | (simp [isIntB, isBlB] at z z2; done) | (simp [isIntB, isBlB] at z2; done) | (simp [isIntB, isBlB] at z; done)
  · cases v <;> first | rfl | (simp [isIntB, isBlB] at z z2; done) | (simp [isIntB, isBlB] at z2; done) | (simp [isIntB, isBlB] at z; done)
  · cases v <;> first | rfl | (simp [isIntB, isBlB] at z; done)
theorem r_lnum (k : Nat) (S : Sto) {v : PV} (h : noRef v = true) : run ds 100 (k + 1) 34 [v] S = some (.bl (isIntB v), S) := by
  refine run_rt0 (d := df34) rfl rfl rfl ?_ (no_bl _)
  obtain ⟨h1, h2⟩ := isi_int h S
  refine es_seqR (es_ret (ee_and (ee_isi (ee_var rfl) h1) (fun z => ?_) fun z => ⟨?_, rfl⟩))
  · have := ee_not (R := run ds 100 k) (tp := S.length) (ee_isi (T := "bool") (en := enOf df34 [v]) (a := .var 0) (ee_var rfl) h2)
    cases v <;> first | exact this | cases z
  · cases v <;> first | rfl | cases z
end Ev
namespace Ev
open PySem PySem.Spec PyProof.Rows L2

/-! ### plain values -/
mutual
def pl : PV → Bool
  | .ref _ => false | .scr _ => false
  | .tup xs => pls xs
  | .lst xs => pls xs
  | .non => true | .bl _ => true | .int _ => true | .str _ => true | .edct => true
def pls : List PV → Bool
  | [] => true
  | x :: r => pl x && pls r
end
mutual
def sz : PV → Nat
  | .tup xs => 1 + szs xs
  | .lst xs => 1 + szs xs
  | _ => 1
def szs : List PV → Nat
  | [] => 0
  | x :: r => sz x + szs r
end
theorem pls_mem : ∀ {xs : List PV} {x : PV}, pls xs = true → x ∈ xs → pl x = true
  | y :: r, x, h, hm => by
    rw [pls, Bool.and_eq_true] at h
    rcases List.mem_cons.mp hm with rfl | hm
    · exact h.1
    · exact pls_mem h.2 hm
theorem pl_no {v : PV} (h : pl v = true) : noRef v = true := by
  cases v <;> first | rfl | (simp [pl] at h)
theorem sz_pos (v : PV) : 1 ≤ sz v := by cases v <;> simp [sz]
theorem szs_len : ∀ (xs : List PV), xs.length ≤ szs xs
  | [] => Nat.le_refl _
  | x :: r => by have := szs_len r; have := sz_pos x; rw [szs, List.length_cons]; omega
theorem szs_mem : ∀ {xs : List PV} {x : PV}, x ∈ xs → sz x ≤ szs xs
  | y :: r, x, hm => by
    rw [szs]
    rcases List.mem_cons.mp hm with rfl | hm
    · omega
    · have := szs_mem hm; omega

/-! ### is_row, is_number_lot, is_worded -/
theorem lt_below {x : PV} {m : Nat} (h : natB x = true) (S : Sto) : pCmp .Lt x (.int m) S = some (below m x) := by
  cases x <;> first | (simp [natB] at h; done) | skip
  rename_i i
  have h' : decide (0 ≤ i) = true := h
  show some (decide (i < (m : Int))) = some (decide (0 ≤ i) && decide (i < (m : Int)))
  rw [h']; rfl
theorem below_no {x : PV} {m : Nat} (h : natB x = false) : below m x = false := by
  cases x <;> first | rfl | skip
  rename_i i
  have h' : decide (0 ≤ i) = false := h
  show (decide (0 ≤ i) && decide (i < (m : Int))) = false
  rw [h']; rfl
theorem its_id {S : Sto} {v : PV} {xs : List PV} (h : seqOf S v = some xs) : Its (.seq v) S (xs.map fun x => x) := by rw [List.map_id']; exact its_seq h
def rowB (n : Nat) : PV → Bool
  | .tup xs => decide (xs.length = n) && xs.all (below 2)
  | _ => false
theorem r_isrow (k : Nat) (S : Sto) {v : PV} {n : Nat} (hp : pl v = true) (hz : sz v ≤ 100000) : run ds 100 (k + 2) 10 [.int n, v] S = some (.bl (rowB n v), S) := by
  refine run_rt0 (d := df10) rfl rfl rfl ?_ (no_bl _)
  have hi := isi_tup (pl_no hp) S
  refine es_seqR (es_ret (ee_and (ee_isi (ee_var rfl) hi) (fun z => ?_) fun z => ⟨?_, rfl⟩))
  · cases v <;> first | (simp [isTupB] at z; done) | skip
    rename_i xs
    rw [pl] at hp
    rw [sz] at hz
    have hl := szs_len xs
    have he := (eq_int .Eq (xs.length : Int) (n : Int) S).1
    refine ee_and (k := decide ((xs.length : Int) = n)) (ee_cmp (ee_blt (f := .len) (ea_cons (ee_var rfl) ea_nil) rfl) (ee_var rfl) he) (fun z => ?_) fun z => ⟨?_, rfl⟩
    · have e : rowB n (.tup xs) = xs.all (below 2) := by
        have : xs.length = n := by have := of_decide_eq_true z; omega
        show (decide (xs.length = n) && xs.all (below 2)) = _
        rw [decide_eq_true this]; rfl
      rw [e]
      refine ee_blt (f := .all) (ea_cons (ee_lcN (m := false) (l := xs) (fun x => x) (fun x => .bl (below 2 x)) (ei_seq (ee_var rfl) rfl) rfl (its_id rfl) (by omega) (fun x hx => ⟨_, rfl, ?_⟩)) ea_nil) (all_lst _ _ S)
      exact ee_and (ee_cal (ea_cons (ee_var rfl) ea_nil) (r_isint k S (pl_no (pls_mem hp hx)))) (fun z => ee_cmp (ee_var rfl) ee_con (lt_below (m := 2) z S)) fun z => ⟨below_no z, rfl⟩
    · have : xs.length ≠ n := by have := of_decide_eq_false z; omega
      show (decide (xs.length = n) && xs.all (below 2)) = false
      rw [decide_eq_false this]; rfl
  · cases v <;> first | rfl | (simp [isTupB] at z; done)
def natOf : PV → Nat
  | .int i => i.toNat
  | _ => 0
def natsOf : PV → List Nat
  | .tup xs => xs.map natOf
  | _ => []
def growB : List Nat → Bool
  | a :: b :: r => decide (a < b) && growB (b :: r)
  | _ => true
theorem growB_iff : ∀ {l : List Nat}, growB l = true ↔ l.Pairwise (· < ·)
  | [] => by simp [growB]
  | [a] => by simp [growB]
  | a :: b :: r => by
    have ih := growB_iff (l := b :: r)
    rw [growB, Bool.and_eq_true, ih, List.pairwise_cons (a := a), decide_eq_true_eq]
    constructor
    · rintro ⟨h1, h2⟩
      refine ⟨fun x hx => ?_, h2⟩
      rcases List.mem_cons.mp hx with rfl | hx
      · exact h1
      · have := (List.pairwise_cons.mp h2).1 x hx; omega
    · rintro ⟨h1, h2⟩
      exact ⟨h1 b (List.mem_cons_self ..), h2⟩
theorem growB_rng : ∀ (l : List Nat), (List.range (l.length - 1)).all (fun i => decide (l.getD i 0 < l.getD (i + 1) 0)) = growB l
  | [] => rfl
  | [a] => rfl
  | a :: b :: r => by
    have ih := growB_rng (b :: r)
    have e : (a :: b :: r).length - 1 = ((b :: r).length - 1) + 1 := by simp
    rw [e, List.range_succ_eq_map, List.all_cons, List.all_map]
    rw [growB, ← ih]
    rfl
theorem growB_zip : ∀ (l : List Nat), ((l.zip l.tail).filter fun p => decide (p.2 ≤ p.1)).isEmpty = growB l
  | [] => rfl
  | [a] => rfl
  | a :: b :: r => by
    have ih := growB_zip (b :: r)
    have e : (a :: b :: r).zip (a :: b :: r).tail = (a, b) :: (b :: r).zip (b :: r).tail := rfl
    rw [e, List.filter_cons, growB, ← ih]
    by_cases h : b ≤ a
    · have h1 : decide (a < b) = false := decide_eq_false (by omega)
      simp [h, h1]
    · have h1 : decide (a < b) = true := decide_eq_true (by omega)
      simp [h, h1]
theorem nats_en (l : List Nat) : natsOf (en l) = l := by
  show List.map natOf (List.map (fun (i : Nat) => PV.int i) l) = l
  rw [List.map_map]
  conv => rhs; rw [← List.map_id' l]
  exact List.map_congr_left fun x _ => rfl
theorem belows {xs : List PV} {m : Nat} (h : xs.all (below m) = true) : .tup xs = en (natsOf (.tup xs)) ∧ ∀ i ∈ natsOf (.tup xs), i < m := by
  rw [List.all_eq_true] at h
  have hb : ∀ x ∈ xs, ∃ j : Nat, x = .int j ∧ j < m := fun x hx => by
    have h1 := h x hx
    cases x <;> first | (cases h1; done) | skip
    rename_i i
    have h2 : (decide (0 ≤ i) && decide (i < (m : Int))) = true := h1
    rw [Bool.and_eq_true, decide_eq_true_eq, decide_eq_true_eq] at h2
    exact ⟨i.toNat, by rw [Int.toNat_of_nonneg h2.1], by omega⟩
  constructor
  · show PV.tup xs = .tup (List.map (fun (i : Nat) => PV.int i) (List.map natOf xs))
    rw [List.map_map]
    congr 1
    conv => lhs; rw [← List.map_id' xs]
    refine List.map_congr_left fun x hx => ?_
    obtain ⟨j, rfl, _⟩ := hb x hx
    rfl
  · intro i hi
    obtain ⟨x, hx, rfl⟩ := List.mem_map.mp hi
    obtain ⟨j, rfl, hj⟩ := hb x hx
    exact hj
def belB (m : Nat) : PV → Bool
  | .tup xs => xs.all (below m)
  | _ => false
def lotB (m : Nat) (v : PV) : Bool := belB m v && growB (natsOf v)
theorem idx_en {l : List Nat} {i : Nat} {j : Int} (S : Sto) (h : i < l.length) (hj : j = i) : pIdx (en l) (.int j) S = some (.int (l.getD i 0), S) := by
  unfold en
  rw [idx_tup hj, List.getElem?_map, List.getD_eq_getElem?_getD, List.getElem?_eq_getElem h]; rfl
def wordB (w : Str) : PV → Bool
  | .tup [.str s, _] => s == w
  | _ => false
theorem in_word (s w : Str) (S : Sto) : pCmp .In (.str s) (.tup [.str w]) S = some (s == w) := by
  have : pCmp .In (.str s) (.tup [.str w]) S = some (inV (.str s) [.str w]) := rfl
  rw [this]
  simp only [inV, eqV, List.any_cons, List.any_nil, Bool.or_false]
  congr 1
  rw [Bool.eq_iff_iff, beq_iff_eq, beq_iff_eq]; exact eq_comm
end Ev
namespace Ev
open PySem PySem.Spec PyProof.Rows L2

/-! ### is_worded, first_odd, judge_place -/
def hd1 (tag : Str) (l : List Nat) (o : PV) : PV := match l with
  | [] => o
  | p :: _ => .tup [.str tag, .int p]
def hd0 (l : List Nat) : PV := match l with
  | [] => .non
  | p :: _ => .int p
/-- the numbers of the odd rows -/
def odds (rows : List Row) (w : Row) : List Nat := (rows.zipIdx.filter fun p => dt p.1 w).map Prod.snd
theorem odds_ints (rows : List Row) (w : Row) : ((rows.zipIdx.filter fun p => dt p.1 w).map fun p => PV.int (p.2 : Nat)) = (odds rows w).map fun (i : Nat) => PV.int i := by
  unfold odds; rw [List.map_map]; rfl
theorem idx_hd {l : List Nat} {p : Nat} {r : List Nat} (h : l = p :: r) (S : Sto) : pIdx (.lst (l.map fun (i : Nat) => PV.int i)) (.int 0) S = some (.int p, S) := by subst h; exact (idx_lst (j := 0) rfl).trans rfl
theorem r_fodd (k : Nat) (S : Sto) {n : Nat} {rows : List Row} {w : Row} (hn : n ≤ 1000) (hr : Len n rows) (hl : rows.length ≤ 1000) (hw : w.length = n) : run ds 100 (k + 2) 12 [.tup (rows.map er), er w] S = some (hd0 (odds rows w), S) := by
  have hno : ltB 0 (hd0 (odds rows w)) = true := by unfold hd0; split; exact no_non; exact no_int _
  refine run_rt0 (d := df12) rfl rfl rfl ?_ hno
  have h1 := ee_lcM (R := run ds 100 (k + 1)) (tp := S.length) (m := false) (one := false) (tg := [3, 4]) (us := [3, 4]) (it := .enu (.var 0)) (q := .so (.not (.cal 1 (.cons (.var 4) (.cons (.var 1) .nil))))) (e := .var 3) (en := enOf df12 [.tup (rows.map er), er w]) (S := S) (S1 := S) (J := .enu (.tup (rows.map er)))
    (l := rows.zipIdx) (fun p => .tup [.int p.2, er p.1]) (fun p => .int (p.2 : Nat)) (fun p => dt p.1 w) (ei_enu (ee_var rfl) rfl) rfl (its_enu rfl) (by simp; omega) (fun p hp => ⟨_, rfl, by
      have hm : p.1 ∈ rows := by
        obtain ⟨a, i⟩ := p
        have := List.mem_zipIdx hp
        rw [this.2.2]; exact List.getElem_mem _
      have := et_not (R := run ds 100 (k + 1)) (et_val (tp := S.length) (a := .cal 1 (.cons (.var 4) (.cons (.var 1) .nil))) (en := [some (.tup (rows.map er)), some (er w), none, some (.int p.2), some (er p.1)]) rfl (ee_cal (ea_cons (ee_var rfl) (ea_cons (ee_var rfl) ea_nil)) (r_even k S (by rw [hw, hr _ hm]) (by rw [hr _ hm]; omega))) rfl)
      rwa [Bool.not_not] at this, fun _ => ee_var rfl⟩)
  rw [odds_ints] at h1
  refine es_seq (es_asg h1 rfl) (es_seqR (es_ret ?_))
  cases ho : odds rows w with
  | nil => exact ee_ite (k := false) (et_val rfl (ee_var rfl) rfl) (fun z => by cases z) fun _ => ee_con
  | cons p r => exact ee_ite (k := true) (et_val rfl (ee_var rfl) rfl) (fun _ => ee_idx (ee_var rfl) ee_con (idx_hd rfl S)) fun z => by cases z
def snd' : PV → PV
  | .tup [_, b] => b
  | _ => .non
def rowOf : PV → Row
  | .tup xs => xs.map fun x => natOf x == 1
  | _ => []
theorem row_ok {v : PV} {n : Nat} (h : rowB n v = true) : v = er (rowOf v) ∧ (rowOf v).length = n := by
  cases v <;> first | (cases h; done) | skip
  rename_i xs
  have h' : (decide (xs.length = n) && xs.all (below 2)) = true := h
  rw [Bool.and_eq_true, decide_eq_true_eq] at h'
  obtain ⟨e, hb⟩ := belows h'.2
  refine ⟨?_, by show (xs.map _).length = n; rw [List.length_map]; exact h'.1⟩
  rw [e]
  generalize natsOf (.tup xs) = l at *
  unfold en
  show _ = PV.tup (List.map eb (List.map (fun x => natOf x == 1) (l.map fun (i : Nat) => PV.int i)))
  rw [List.map_map, List.map_map]
  congr 1
  refine List.map_congr_left fun i hi => ?_
  have := hb i hi
  show PV.int i = eb ((i : Int).toNat == 1)
  match i, this with
  | 0, _ => rfl
  | 1, _ => rfl
def wrongs (n : Nat) (made row : Row) : List Nat := (List.range n).filter fun p => at' made p != at' row p
/-- what both say of a value -/
def verd (n : Nat) (rows : List Row) (row : Row) (v : PV) : PV :=
  if wordB "in" v && lotB rows.length (snd' v) then hd1 "place" (wrongs n (pk n rows (natsOf (snd' v))) row) .non
  else if wordB "out" v && rowB n (snd' v) then hd1 "base" (odds rows (rowOf (snd' v))) (if dt row (rowOf (snd' v)) then .non else .tup [.str "even"])
  else .tup [.str "form"]
theorem no_hd1 {t : Str} {l : List Nat} {o : PV} (h : ltB 0 o = true) : ltB 0 (hd1 t l o) = true := by
  unfold hd1; split
  · exact h
  · rw [ltB_tup]; simp [no_str, no_int]
theorem no_verd (n : Nat) (rows : List Row) (row : Row) (v : PV) : ltB 0 (verd n rows row v) = true := by
  unfold verd
  split
  · exact no_hd1 no_non
  · split
    · refine no_hd1 ?_
      split
      · exact no_non
      · rw [ltB_tup]; simp [no_str]
    · rw [ltB_tup]; simp [no_str]
theorem word_inv {w : Str} {v : PV} (h : wordB w v = true) : ∃ b, v = .tup [.str w, b] ∧ snd' v = b := by
  unfold wordB at h
  split at h
  · rename_i s b
    have : s = w := by simpa using h
    subst this
    exact ⟨b, rfl, rfl⟩
  · cases h
theorem ne_eb (a b : Bool) (S : Sto) : pCmp .NotEq (eb a) (eb b) S = some (a != b) := by
  cases a <;> cases b <;> rfl
theorem wrongs_ints (n : Nat) (made row : Row) : ((List.range n).filter fun p => at' made p != at' row p).map (fun (i : Nat) => PV.int i) = (wrongs n made row).map fun (i : Nat) => PV.int i := rfl
end Ev
namespace Ev
open PySem PySem.Spec PyProof.Rows L2

theorem idx_rows {n i : Nat} {rows : List Row} {j : Int} (S : Sto) (h : i < rows.length) (hj : j = i) : pIdx (.tup (rows.map er)) (.int j) S = some (er (rows.getD i []), S) := by
  rw [idx_tup hj, List.getElem?_map, List.getD_eq_getElem?_getD, List.getElem?_eq_getElem h]; rfl
theorem tv {R : Orc} {tp : Nat} {a : ME} {en : En} {S S1 : Sto} {b : Bool} (hd : (a.dn R tp).t = tst (a.dn R tp).e) (h : EE R tp a en S (.bl b) S1) : ET R tp a en S b S1 := et_val hd h rfl
theorem lot_mem {m : Nat} {b : PV} (h : lotB m b = true) : b = en (natsOf b) ∧ (∀ i ∈ natsOf b, i < m) ∧ (natsOf b).Pairwise (· < ·) := by
  unfold lotB at h
  rw [Bool.and_eq_true] at h
  cases b <;> first | (cases h.1; done) | skip
  rename_i xs
  exact ⟨(belows (m := m) h.1).1, (belows (m := m) h.1).2, growB_iff.mp h.2⟩
theorem nat_small {m : Nat} {l : List Nat} (h : l.Pairwise (· < ·)) (h2 : ∀ i ∈ l, i < m) : l.length ≤ m := Lot.len ⟨h, h2⟩
end Ev
namespace Ev
open PySem PySem.Spec PyProof.Rows L2

/-! ### the law's own verdict -/
theorem tail_cut (xs : List PV) : cutP xs (some 1) none = xs.tail := by
  unfold cutP
  have h1 : HT.sIx xs.length 0 (some 1) = min 1 xs.length := HT.sIx_nat _ _ 1
  rw [HT.sIx_none, h1]
  cases xs with
  | nil => rfl
  | cons a r =>
    have : min 1 (a :: r).length = 1 := by simp
    rw [this]
    simp
theorem isEmpty_all {α : Type} (l : List α) (p : α → Bool) : (l.filter fun x => !p x).isEmpty = l.all p := by
  induction l with
  | nil => rfl
  | cons a r ih =>
    rw [List.filter_cons, List.all_cons]
    cases p a <;> simp [ih]
theorem r_lbelow (k : Nat) (S : Sto) {v : PV} {m : Nat} (hp : pl v = true) (hz : sz v ≤ 100000) : run ds 100 (k + 2) 35 [v, .int m] S = some (.bl (belB m v), S) := by
  refine run_rt0 (d := df35) rfl rfl rfl ?_ (no_bl _)
  have hi := isi_tup (pl_no hp) S
  refine es_seqR (es_ret (ee_and (ee_isi (ee_var rfl) hi) (fun z => ?_) fun z => ⟨?_, rfl⟩))
  · cases v <;> first | (cases z; done) | skip
    rename_i xs
    rw [pl] at hp
    rw [sz] at hz
    have hl := szs_len xs
    have h := ee_lcM (R := run ds 100 (k + 1)) (tp := S.length) (m := false) (one := true) (tg := [2]) (us := [2]) (it := .seq (.var 0)) (q := .so (.or (.not (.cal 34 (.cons (.var 2) .nil))) (.not (.chn .LtE .Lt (.con (.int 0)) (.var 2) (.var 1))))) (e := .con (.int 1)) (en := enOf df35 [.tup xs, .int m]) (S := S) (S1 := S) (J := .seq (.tup xs))
      (l := xs) (fun x => x) (fun _ => .int 1) (fun x => !below m x) (ei_seq (ee_var rfl) rfl) rfl (its_id rfl) (by omega) (fun x hx => by
        refine ⟨_, rfl, ?_, fun _ => ee_con⟩
        have h31 := r_lnum k S (pl_no (pls_mem hp hx))
        refine et_or (k := !isIntB x) (et_not (tv rfl (ee_cal (ea_cons (ee_var rfl) ea_nil) h31))) (fun z => ?_) fun z => ⟨?_, rfl⟩
        · cases x <;> first | (cases z; done) | skip
          rename_i i
          show ET _ _ _ _ _ (!(decide (0 ≤ i) && decide (i < (m : Int)))) _
          refine et_not (et_chn (ee_chn (k := decide (0 ≤ i)) ee_con (ee_var rfl) rfl (fun z => ⟨ee_var rfl, ?_⟩) fun z => ⟨?_, rfl⟩))
          · show some (decide (i < (m : Int))) = _
            rw [z]; rfl
          · rw [z]; rfl
        · cases x <;> first | rfl | (cases z; done))
    exact ee_cmp h (ee_lst (m := false) ea_nil (lim_ok (by simp))) (by
      have := (eq_nil_ints (xs.filter fun x => !below m x) (fun _ => 1) S).1
      rw [isEmpty_all] at this
      exact this)
  · cases v <;> first | rfl | (cases z; done)
theorem r_lisrow (k : Nat) (S : Sto) {v : PV} {n : Nat} (hp : pl v = true) (hz : sz v ≤ 100000) : run ds 100 (k + 3) 36 [.int n, v] S = some (.bl (rowB n v), S) := by
  refine run_rt0 (d := df36) rfl rfl rfl ?_ (no_bl _)
  refine es_seqR (es_ret (ee_and (ee_cal (ea_cons (ee_var rfl) (ea_cons ee_con ea_nil)) (r_lbelow (m := 2) k S hp hz)) (fun z => ?_) fun z => ⟨?_, rfl⟩))
  · cases v <;> first | (cases z; done) | skip
    rename_i xs
    have he := (eq_int .Eq (xs.length : Int) (n : Int) S).1
    have e : rowB n (.tup xs) = decide ((xs.length : Int) = n) := by
      have z' : xs.all (below 2) = true := z
      show (decide (xs.length = n) && xs.all (below 2)) = _
      rw [z', Bool.and_true, Bool.eq_iff_iff, decide_eq_true_eq, decide_eq_true_eq]; omega
    rw [e]
    exact ee_cmp (ee_blt (f := .len) (ea_cons (ee_var rfl) ea_nil) rfl) (ee_var rfl) he
  · cases v <;> first | rfl | skip
    rename_i xs
    have z' : xs.all (below 2) = false := z
    show (decide (xs.length = n) && xs.all (below 2)) = false
    rw [z', Bool.and_false]
theorem eq_str (s w : Str) (S : Sto) : pCmp .Eq (.str s) (.str w) S = some (s == w) ∧ pCmp .NotEq (.str s) (.str w) S = some (!(s == w)) := by
  have e : eqPV S (.str s) (.str w) = some (s == w) := by
    have : eqPV S (.str s) (.str w) = some (decide (V.str s = V.str w)) := rfl
    rw [this]
    congr 1
    rw [Bool.eq_iff_iff, decide_eq_true_eq, beq_iff_eq]
    exact ⟨fun h => by cases h; rfl, fun h => by rw [h]⟩
  exact ⟨e, by show (eqPV S (.str s) (.str w)).map _ = _; rw [e]; rfl⟩
/-- two words ahead -/
def isPr : PV → Bool
  | .tup [.str _, _] => true
  | _ => false
theorem pk_take {n i : Nat} {rows : List Row} {l : List Nat} {a : Nat} (hi : l[i]? = some a) : pk n rows (l.take (i + 1)) = xr (pk n rows (l.take i)) (rows.getD a []) := by
  unfold pk sums
  rw [List.take_succ, hi, List.map_append, List.foldl_append]; rfl
end Ev
namespace Ev
open PySem PySem.Spec PyProof.Rows L2

/-! ### the law's source of draws -/
structure Qs where
  z : List PV
  cells : List Int
  left : Int
  mixed : Int
  turn : Int
def Qs.st (q : Qs) : Sto := [.lst q.z, .lst (q.cells.map .int), .dct [(.inr "cells", .ref 1), (.inr "left", .int q.left), (.inr "mixed", .int q.mixed), (.inr "turn", .int q.turn)]]
theorem Qs.len (q q' : Qs) (T : Sto) : (q.st ++ T).take (q'.st ++ T).length = q.st ++ T := by
  have : (q'.st ++ T).length = (q.st ++ T).length := by simp [Qs.st]
  rw [this, List.take_length]
section
variable (q : Qs) (T : Sto)
theorem at_cells : pIdx (.ref 2) (.str "cells") (q.st ++ T) = some (.ref 1, q.st ++ T) := rfl
theorem at_left : pIdx (.ref 2) (.str "left") (q.st ++ T) = some (.int q.left, q.st ++ T) := rfl
theorem at_mixed : pIdx (.ref 2) (.str "mixed") (q.st ++ T) = some (.int q.mixed, q.st ++ T) := rfl
theorem at_turn : pIdx (.ref 2) (.str "turn") (q.st ++ T) = some (.int q.turn, q.st ++ T) := rfl
theorem set_left (tp : Nat) (i : Int) : pSet tp (.ref 2) (.str "left") (.int i) (q.st ++ T) = some ({ q with left := i }.st ++ T) := by
  simp only [pSet, no_int, Bool.or_true, if_true]
  rfl
theorem set_mixed (tp : Nat) (i : Int) : pSet tp (.ref 2) (.str "mixed") (.int i) (q.st ++ T) = some ({ q with mixed := i }.st ++ T) := by
  simp only [pSet, no_int, Bool.or_true, if_true]
  rfl
theorem set_turn (tp : Nat) (i : Int) : pSet tp (.ref 2) (.str "turn") (.int i) (q.st ++ T) = some ({ q with turn := i }.st ++ T) := by
  simp only [pSet, no_int, Bool.or_true, if_true]
  rfl
theorem len_cells : bltF .len [.ref 1] (q.st ++ T) = some (.int q.cells.length, q.st ++ T) := by
  show some (PV.int ((q.cells.map PV.int).length : Nat), q.st ++ T) = _
  rw [List.length_map]
theorem pop_cells {l : List Int} {c : Int} (h : q.cells = l ++ [c]) : pPop (.ref 1) [] (q.st ++ T) = some (.int c, { q with cells := l }.st ++ T) := by
  have : pPop (.ref 1) [] (q.st ++ T) = ((q.cells.map PV.int)[(q.cells.map PV.int).length - 1]?).map fun v => (v, (q.st ++ T).set 1 (.lst (q.cells.map PV.int).dropLast)) := rfl
  rw [this, h]
  simp [Qs.st]
end
abbrev en17 (many : Nat) : En := [some (.ref 2), some (.int many), none, none]
def w17c : ME := .and (.cmp .Gt (.var 1) (.con (.int 1))) (.and (.cmp .Lt (.idx (.var 0) (.con (.str "left"))) (.con (.int 2))) (.cmp .Gt (.blt .len (.cons (.idx (.var 0) (.con (.str "cells"))) .nil)) (.con (.int 0))))
def w17b : MS := .seq (.sub (.var 0) (.con (.str "left")) (.met .pop (.idx (.var 0) (.con (.str "cells"))) .nil)) .nop
theorem cond17 {R : Orc} {tp : Nat} {many : Nat} (q : Qs) (T : Sto) : ∃ k, ET R tp w17c (en17 many) (q.st ++ T) k (q.st ++ T) ∧ (k = true → q.cells ≠ []) := by
  refine ⟨decide ((1 : Int) < many) && (decide (q.left < 2) && decide ((0 : Int) < (q.cells.length : Nat))), ?_, fun z => ?_⟩
  · refine et_and (k := decide ((1 : Int) < many)) (et_cmp (ee_var rfl) ee_con rfl) (fun z => ?_) fun z => ⟨by rw [z]; rfl, rfl⟩
    rw [z, Bool.true_and]
    refine et_and (k := decide (q.left < 2)) (et_cmp (ee_idx (ee_var rfl) ee_con (at_left q T)) ee_con rfl) (fun z => ?_) fun z => ⟨by rw [z]; rfl, rfl⟩
    rw [z, Bool.true_and]
    exact et_cmp (ee_blt (f := .len) (ea_cons (ee_idx (ee_var rfl) ee_con (at_cells q T)) ea_nil) (len_cells q T)) ee_con rfl
  · rw [Bool.and_eq_true, Bool.and_eq_true, decide_eq_true_eq, decide_eq_true_eq, decide_eq_true_eq] at z
    intro e
    rw [e] at z
    have := z.2.2
    simp at this
theorem whl17 {R : Orc} {tp many : Nat} (T : Sto) : ∀ (k : Nat) (q : Qs), q.cells.length < k → ∃ q' : Qs, whlL (w17c.dn R tp).t (w17b.dn R 100 tp) k (en17 many) (q.st ++ T) = some (.nx (en17 many) (q'.st ++ T)) ∧ q'.cells.length ≤ q.cells.length
  | 0, _, h => by omega
  | k + 1, q, h => by
    obtain ⟨b, hc, hb⟩ := cond17 (R := R) (tp := tp) (many := many) q T
    have hc' : (w17c.dn R tp).t (en17 many) (q.st ++ T) = some (b, q.st ++ T) := hc
    cases b with
    | false => exact ⟨q, by simp only [whlL, hc', Option.bind_some], Nat.le_refl _⟩
    | true =>
      obtain ⟨l, c, e⟩ : ∃ l c, q.cells = l ++ [c] := ⟨_, _, (List.dropLast_concat_getLast (hb rfl)).symm⟩
      have hbody : ES R 100 tp w17b (en17 many) (q.st ++ T) (.nx (en17 many) ({ q with cells := l, left := c }.st ++ T)) :=
        es_seq (es_sub (ee_met (f := .pop) (ee_idx (ee_var rfl) ee_con (at_cells q T)) ea_nil rfl (pop_cells q T e)) (ee_var rfl) ee_con (set_left { q with cells := l } T _ c)) es_nop
      have hl : q.cells.length = l.length + 1 := by rw [e]; simp
      obtain ⟨q', h1, h2⟩ := whl17 (R := R) (tp := tp) (many := many) T k { q with cells := l, left := c } (by show l.length < k; omega)
      have hbody' : w17b.dn R 100 tp (en17 many) (q.st ++ T) = some (.nx (en17 many) ({ q with cells := l, left := c }.st ++ T)) := hbody
      refine ⟨q', by simp only [whlL, hc', Option.bind_some, hbody', h1], ?_⟩
      have h2' : q'.cells.length ≤ l.length := h2
      omega
theorem fmod_ok (x : Int) {m : Nat} (h : 1 ≤ m) : ∃ r : Nat, x.fmod m = r ∧ r < m := by
  have h0 : (0 : Int) < m := by omega
  have h1 := Int.fmod_nonneg_of_pos x h0
  have h2 := Int.fmod_lt_of_pos x h0
  exact ⟨(x.fmod m).toNat, by omega, by omega⟩
theorem max_ok (m : Nat) (S : Sto) : bltF .max [.int 1, .int m] S = some (.int ((max 1 m : Nat) : Int), S) := by
  show some (PV.int (if (m : Int) > 1 then (m : Int) else 1), S) = _
  have : (if (m : Int) > 1 then (m : Int) else 1) = ((max 1 m : Nat) : Int) := by
    rcases Nat.lt_or_ge 1 m with h | h
    · rw [if_pos (by omega), Nat.max_eq_right (by omega)]
    · rw [if_neg (by omega), Nat.max_eq_left (by omega)]; rfl
  rw [this]
theorem r_pick (k : Nat) (T : Sto) (q : Qs) (hq : q.cells.length ≤ 63) {many : Nat} (hm : many ≤ 1000000) :
    ∃ (r : Nat) (q' : Qs), run ds 100 (k + 1) 20 [.ref 2, .int many] (q.st ++ T) = some (.int r, q'.st ++ T) ∧ r < max 1 many ∧ q'.cells.length ≤ 63 := by
  obtain ⟨q1, h1, h2⟩ := whl17 (R := run ds 100 k) (tp := (q.st ++ T).length) (many := many) T 100 q (by omega)
  have hw : ES (run ds 100 k) 100 (q.st ++ T).length (.whl w17c w17b) (en17 many) (q.st ++ T) (.nx (en17 many) (q1.st ++ T)) := h1
  suffices hb : ∃ (r : Nat) (q' : Qs), df20.b.dn (run ds 100 k) 100 (q.st ++ T).length (en17 many) (q.st ++ T) = some (.rt (.int r) (q'.st ++ T)) ∧ r < max 1 many ∧ q'.cells.length ≤ 63 by
    obtain ⟨r, q', hb, h3, h4⟩ := hb
    refine ⟨r, q', ?_, h3, h4⟩
    rw [run_rt (d := df20) (S1 := q'.st ++ T) rfl rfl rfl hb (no_int _), Qs.len]
  have hr : ∀ {r : SR}, ES (run ds 100 k) 100 (q.st ++ T).length _ (en17 many) (q1.st ++ T) r → ES (run ds 100 k) 100 (q.st ++ T).length bd20 (en17 many) (q.st ++ T) r := fun h => es_seq hw h
  have hor : ET (run ds 100 k) (q.st ++ T).length (.or (.cmp .Lt (.var 1) (.con (.int 2))) (.cmp .Gt (.var 2) (.con (.int 1)))) [some (.ref 2), some (.int many), some (.int q1.left), none] (q1.st ++ T) (decide ((many : Int) < 2) || decide (1 < q1.left)) (q1.st ++ T) := by
    refine et_or (k := decide ((many : Int) < 2)) (et_cmp (ee_var rfl) ee_con rfl) (fun z => ?_) fun z => ⟨by rw [z]; rfl, rfl⟩
    rw [z, Bool.false_or]
    exact et_cmp (ee_var rfl) ee_con rfl
  have hmx : 1 ≤ max 1 many := Nat.le_max_left _ _
  cases hc : decide ((many : Int) < 2) || decide (1 < q1.left) with
  | true =>
    rw [hc] at hor
    obtain ⟨r, e, hlt⟩ := fmod_ok q1.left hmx
    refine ⟨r, { q1 with left := q1.left.fdiv ((max 1 many : Nat) : Int) }, ?_, hlt, Nat.le_trans h2 hq⟩
    refine hr (es_seq (es_asg (ee_idx (ee_var rfl) ee_con (at_left q1 T)) rfl) (es_seqR (es_if (k := true) hor (fun _ => ?_) fun z => by cases z)))
    have gd : opF false .FloorDiv (.int q1.left) (.int ((max 1 many : Nat) : Int)) (q1.st ++ T) = some (.int (q1.left.fdiv ((max 1 many : Nat) : Int)), q1.st ++ T) := by
      show (if ((max 1 many : Nat) : Int) ≠ 0 ∧ ((max 1 many : Nat) : Int).natAbs < 1073741824 then some (PV.int (q1.left.fdiv ((max 1 many : Nat) : Int)), q1.st ++ T) else none) = _
      rw [if_pos ⟨by omega, by omega⟩]
    have gm : ∀ S : Sto, opF false .Mod (.int q1.left) (.int ((max 1 many : Nat) : Int)) S = some (.int r, S) := fun S => by
      show (if ((max 1 many : Nat) : Int) ≠ 0 then some (PV.int (q1.left.fmod ((max 1 many : Nat) : Int)), S) else none) = _
      rw [if_pos (by omega), e]
    exact es_seq (es_sub (ee_bin (op := .FloorDiv) (m := false) (ee_var rfl) (ee_blt (f := .max) (ea_cons ee_con (ea_cons (ee_var rfl) ea_nil)) (max_ok _ _)) gd) (ee_var rfl) ee_con (set_left q1 T _ _)) (es_seqR (es_ret (ee_bin (op := .Mod) (m := false) (ee_blt (f := .int) (ea_cons (ee_var rfl) ea_nil) rfl) (ee_blt (f := .max) (ea_cons ee_con (ea_cons (ee_var rfl) ea_nil)) (max_ok _ _)) (gm _))))
  | false =>
    rw [hc] at hor
    rw [Bool.or_eq_false_iff, decide_eq_false_iff_not] at hc
    have hm2 : 2 ≤ many := by omega
    obtain ⟨m1, e1, hl1⟩ := fmod_ok (q1.mixed + (q1.turn + 1) * 104729) (m := 998244353) (by omega)
    obtain ⟨m2, e2, hl2⟩ := fmod_ok ((m1 : Int) * m1 + (q1.turn + 1) * 17) (m := 2147483647) (by omega)
    obtain ⟨r, e3, hl3⟩ := fmod_ok ((m2 : Int).fdiv 16) (m := many) (by omega)
    refine ⟨r, { q1 with turn := q1.turn + 1, mixed := m2 }, ?_, by omega, Nat.le_trans h2 hq⟩
    refine hr (es_seq (es_asg (ee_idx (ee_var rfl) ee_con (at_left q1 T)) rfl) (es_seq (es_if (k := false) hor (fun z => by cases z) fun _ => es_nop) ?_))
    refine es_seq (es_sub (ee_bin (op := .Add) (m := false) (ee_idx (ee_var rfl) ee_con (at_turn q1 T)) ee_con rfl) (ee_var rfl) ee_con (set_turn q1 T _ _)) ?_
    have mul1 : ∀ (i : Int) (j : Int) (S : Sto), j.natAbs < 2 ^ 64 → opF false .Mult (.int i) (.int j) S = some (.int (i * j), S) := fun i j S h => by
      show (if i.natAbs < 2 ^ 64 ∨ j.natAbs < 2 ^ 64 then some (PV.int (i * j), S) else none) = _
      rw [if_pos (Or.inr h)]
    have mod1 : ∀ (i : Int) (j : Int) (S : Sto), j ≠ 0 → opF false .Mod (.int i) (.int j) S = some (.int (i.fmod j), S) := fun i j S h => by
      show (if j ≠ 0 then some (PV.int (i.fmod j), S) else none) = _
      rw [if_pos h]
    have g1 := mod1 (q1.mixed + (q1.turn + 1) * 104729) 998244353 ({ q1 with turn := q1.turn + 1 }.st ++ T) (by omega)
    rw [show (998244353 : Int) = ((998244353 : Nat) : Int) from rfl, e1] at g1
    have g2 := mod1 ((m1 : Int) * m1 + (q1.turn + 1) * 17) 2147483647 ({ q1 with turn := q1.turn + 1 }.st ++ T) (by omega)
    rw [show (2147483647 : Int) = ((2147483647 : Nat) : Int) from rfl, e2] at g2
    have g3 := mod1 ((m2 : Int).fdiv 16) many ({ q1 with turn := q1.turn + 1, mixed := m2 }.st ++ T) (by omega)
    rw [e3] at g3
    refine es_seq (es_asg (ee_bin (op := .Mod) (m := false) (ee_blt (f := .int) (ea_cons (ee_bin (op := .Add) (m := false) (ee_idx (ee_var rfl) ee_con (at_mixed { q1 with turn := q1.turn + 1 } T)) (ee_bin (op := .Mult) (m := false) (ee_idx (ee_var rfl) ee_con (at_turn { q1 with turn := q1.turn + 1 } T)) ee_con (mul1 _ _ _ (by decide))) rfl) ea_nil) rfl) ee_con g1) rfl) ?_
    refine es_seq (es_asg (ee_bin (op := .Mod) (m := false) (ee_blt (f := .int) (ea_cons (ee_bin (op := .Add) (m := false) (ee_bin (op := .Mult) (m := false) (ee_var rfl) (ee_var rfl) (mul1 _ _ _ (by omega))) (ee_bin (op := .Mult) (m := false) (ee_idx (ee_var rfl) ee_con (at_turn { q1 with turn := q1.turn + 1 } T)) ee_con (mul1 _ _ _ (by decide))) rfl) ea_nil) rfl) ee_con g2) rfl) ?_
    refine es_seq (es_sub (ee_var rfl) (ee_var rfl) ee_con (set_mixed { q1 with turn := q1.turn + 1 } T _ _)) (es_seqR (es_ret ?_))
    exact ee_bin (op := .Mod) (m := false) (ee_blt (f := .int) (ea_cons (ee_bin (op := .FloorDiv) (m := false) (ee_var rfl) ee_con rfl) ea_nil) rfl) (ee_var rfl) g3
end Ev
namespace Ev
open PySem PySem.Spec PyProof.Rows L2

/-! ### the law's elimination, step by step -/
theorem ee_clr (k : Nat) {S : Sto} {n p : Nat} {r x : Row} (hr : r.length = n) (hx : x.length = n) (hp : p < n) (hn : n ≤ 1000) {tp : Nat} {en : En} (h6 : en[6]? = some (some (er r))) (h7 : en[7]? = some (some (er x))) (h4 : en[4]? = some (some (.int p))) :
    EE (run ds 100 (k + 1)) tp (.ite (.cmp .Eq (.idx (.var 6) (.var 4)) (.con (.int 1))) (.cal 23 (.cons (.var 6) (.cons (.var 7) .nil))) (.var 6)) en S (er (clr p x r)) S := by
  have ht : ET (run ds 100 (k + 1)) tp (.cmp .Eq (.idx (.var 6) (.var 4)) (.con (.int 1))) en S (at' r p) S := et_cmp (ee_idx (ee_var h6) (ee_var h4) (idx_er (by rw [hr]; exact hp) S)) ee_con (eq_one _ S)
  unfold clr
  cases hc : at' r p with
  | true =>
    rw [hc] at ht
    exact ee_ite (k := true) ht (fun _ => ee_cal (ea_cons (ee_var h6) (ea_cons (ee_var h7) ea_nil)) (r_lsum k S (by rw [hr, hx]) (by omega))) fun z => by cases z
  | false =>
    rw [hc] at ht
    exact ee_ite (k := false) ht (fun z => by cases z) fun _ => ee_var h6
theorem r_ltold (k : Nat) (S : Sto) {n : Nat} {rows : List Row} {v : PV} (h1 : 1 ≤ n) (hn : n ≤ 100) (hr : Len n rows) (hl : rows.length ≤ 1000) (hv : seqOf S v = some (rows.map er)) :
    run ds 100 (k + 2) 24 [.int n, v] S = some (.tup ((lawT n rows).map er), S) := by
  refine run_rt0 (d := df24) rfl rfl rfl ?_ (by rw [ltB_tup]; exact no_ers _)
  obtain ⟨en', S', h, ⟨rfl, y4, y5, y6, y7, rfl⟩⟩ := es_forM (R := run ds 100 (k + 1)) (W := 100) (tp := S.length) (it := .rng (.var 0)) (tg := [4]) (one := true) (J := .rng 0 n) (l := List.range n)
    (s := (.seq (.asg [5] true (.lc false (.seq (.var 2)) [6] true [6] (.so (.cmp .Eq (.idx (.var 6) (.var 4)) (.con (.int 1)))) (.var 6))) (.seq (.ifS (.cmp .NotEq (.var 5) (.lst false .nil)) (.seq (.asg [7] true (.idx (.var 5) (.con (.int 0)))) (.seq (.asg [3] true (.bin .Add false (.lc false (.seq (.var 3)) [6] true [6] .no (.ite (.cmp .Eq (.idx (.var 6) (.var 4)) (.con (.int 1))) (.cal 23 (.cons (.var 6) (.cons (.var 7) .nil))) (.var 6))) (.lst false (.cons (.var 7) .nil)))) (.seq (.asg [2] true (.lc false (.seq (.var 2)) [6] true [6] (.so (.cmp .NotEq (.var 6) (.var 7))) (.ite (.cmp .Eq (.idx (.var 6) (.var 4)) (.con (.int 1))) (.cal 23 (.cons (.var 6) (.cons (.var 7) .nil))) (.var 6)))) .nop))) .nop) .nop)))
    (en := [some (.int n), some v, some (.lst (rows.map er)), some (.lst []), none, none, none, none]) (S := S) (S1 := S) (fun (i : Nat) => .int i)
    (fun i e T => S = T ∧ ∃ y4 y5 y6 y7, e = [some (.int n), some v, some (.lst ((lawS n rows i).1.map er)), some (.lst ((lawS n rows i).2.map er)), y4, y5, y6, y7])
    (ei_rng (j := n) (ee_var rfl) (by simp only [rngOk, Bool.and_eq_true, decide_eq_true_eq]; omega)) rfl (fun i e T h => its_rng) ⟨rfl, none, none, none, none, rfl⟩
    (fun i p e T hi hI => by
      obtain ⟨e, y4, y5, y6, y7, rfl⟩ := hI
      subst e
      obtain ⟨hp, rfl⟩ : p < n ∧ p = i := by
        have h1 := List.mem_of_getElem? hi
        have hlt := (List.getElem?_eq_some_iff.mp hi).1
        rw [List.length_range] at hlt
        rw [List.getElem?_range hlt] at hi
        have h2 : i = p := by simpa using hi
        omega
      have hst : lawS n rows (p + 1) = lstep (lawS n rows p) p := by unfold lawS; rw [List.range_succ, List.foldl_append]; rfl
      have hok := lawS_ok hr p (by omega)
      rw [hst]
      generalize lawS n rows p = st at hok ⊢
      obtain ⟨L, F⟩ := st
      have hL : Len n L := hok.len
      have hF : Len n F := fun r hr => (hok.ech.row r hr).1
      have hsz : L.length + F.length ≤ 1000 := Nat.le_trans hok.sz hl
      have h5 := ee_lcM (R := run ds 100 (k + 1)) (tp := S.length) (m := false) (one := true) (tg := [6]) (us := [6]) (it := .seq (.var 2)) (q := .so (.cmp .Eq (.idx (.var 6) (.var 4)) (.con (.int 1)))) (e := .var 6)
        (en := [some (.int n), some v, some (.lst (L.map er)), some (.lst (F.map er)), some (.int p), y5, y6, y7]) (S := S) (S1 := S) (J := .seq (.lst (L.map er))) (l := L) er er (fun r => at' r p) (ei_seq (ee_var rfl) rfl) rfl (its_seq rfl) (by omega)
        (fun r hm => ⟨_, rfl, eq_so (et_cmp (ee_idx (ee_var rfl) (ee_var rfl) (idx_er (by rw [hL r hm]; exact hp) S)) ee_con (eq_one _ S)), fun _ => ee_var rfl⟩)
      have hne := eq_nil_rows (L.filter fun r => at' r p) S
      unfold lstep
      cases hs : L.filter fun r => at' r p with
      | nil =>
        rw [hs] at h5 hne
        exact ⟨_, _, S, rfl, es_seq (es_asg h5 rfl) (es_seq (es_if (k := false) (et_cmp (ee_var rfl) (ee_lst (m := false) ea_nil (lim_ok (by simp))) hne) (fun z => by cases z) fun _ => es_nop) es_nop), rfl, some (.int p), some (.lst []), y6, y7, rfl⟩
      | cons x xs =>
        rw [hs] at h5 hne
        have hx : x ∈ L ∧ at' x p = true := by
          have : x ∈ L.filter fun r => at' r p := by rw [hs]; exact List.mem_cons_self ..
          exact List.mem_filter.mp this
        have hxl : x.length = n := hL x hx.1
        have hxn : x ≠ [] := fun e => by rw [e] at hxl; simp at hxl; omega
        refine ⟨_, _, S, rfl, es_seq (es_asg h5 rfl) (es_seq (es_if (k := true) (et_cmp (ee_var rfl) (ee_lst (m := false) ea_nil (lim_ok (by simp))) hne) (fun _ => ?_) fun z => by cases z) es_nop), rfl, some (.int p), some (.lst ((x :: xs).map er)), y6, some (er x), rfl⟩
        refine es_seq (es_asg (ee_idx (ee_var rfl) ee_con ((idx_lst (j := 0) rfl).trans rfl)) rfl) ?_
        refine es_seq (es_asg (ee_bin (op := .Add) (m := false) (ee_lcN (m := false) (l := F) er (fun r => er (clr p x r)) (ei_seq (ee_var rfl) rfl) rfl (its_seq rfl) (by omega) (fun r hm => ⟨_, rfl, ee_clr k (hF r hm) hxl hp (by omega) rfl rfl rfl⟩)) (ee_lst (m := false) (ea_cons (ee_var rfl) ea_nil) (lim_ok (by simp))) (cat_lst _ _ S (by simp; omega))) rfl) ?_
        refine es_seq (es_asg (ee_lcM (m := false) (l := L) er (fun r => er (clr p x r)) (fun r => !decide (r = x)) (ei_seq (ee_var rfl) rfl) rfl (its_seq rfl) (by omega) (fun r hm => ⟨_, rfl, eq_so (et_cmp (ee_var rfl) (ee_var rfl) (ne_rows hxn S)), fun _ => ee_clr k (hL r hm) hxl hp (by omega) rfl rfl rfl⟩)) ?_) es_nop
        simp only [List.map_append, List.map_map, List.map_cons, List.map_nil]
        rfl)
  rw [List.length_range] at h
  exact es_seq (es_par (ea_cons (ee_blt (f := .lst false) (ea_cons (ee_var rfl) ea_nil) (by simp only [bltF, pList, hv]; rfl)) (ea_cons (ee_lst (m := false) ea_nil (lim_ok (by simp))) ea_nil)) rfl) (es_seq h (es_seqR (es_ret (ee_blt (f := .tup) (ea_cons (ee_var rfl) ea_nil) rfl))))
theorem r_lhas (k : Nat) (S : Sto) {n : Nat} {rows : List Row} {row : Row} (h1 : 1 ≤ n) (hn : n ≤ 100) (hr : Len n rows) (hl : rows.length ≤ 100) (hw : row.length = n) :
    run ds 100 (k + 3) 33 [code n rows, er row] S = some (.bl (decide ((lawT n (rows ++ [row])).length = rows.length)), S) := by
  refine run_rt0 (d := df33) rfl rfl rfl ?_ (no_bl _)
  have hL : Len n (rows ++ [row]) := hr.append fun x hx => by rw [List.mem_singleton.mp hx]; exact hw
  have h21 := r_ltold k S (v := .lst (rows.map er ++ [er row])) h1 hn hL (by simp; omega) (by simp [seqOf])
  have he := (eq_int .Eq ((lawT n (rows ++ [row])).length : Int) (rows.length : Int) S).1
  have hd : decide (((lawT n (rows ++ [row])).length : Int) = (rows.length : Int)) = decide ((lawT n (rows ++ [row])).length = rows.length) := by
    rw [Bool.eq_iff_iff, decide_eq_true_eq, decide_eq_true_eq]; omega
  rw [hd] at he
  have hlen : ∀ l : List Row, bltF .len [.tup (l.map er)] S = some (.int l.length, S) := fun l => by
    show some (PV.int ((l.map er).length : Nat), S) = _
    rw [List.length_map]
  exact es_seqR (es_ret (ee_cmp (ee_blt (f := .len) (ea_cons (ee_cal (ea_cons (ee_idx (ee_var rfl) ee_con (idx_tup (j := 0) rfl)) (ea_cons (ee_bin (op := .Add) (m := false) (ee_blt (f := .lst false) (ea_cons (ee_idx (ee_var rfl) ee_con (idx_tup (j := 1) rfl)) ea_nil) rfl) (ee_lst (m := false) (ea_cons (ee_var rfl) ea_nil) (lim_ok (by simp))) (cat_lst _ _ S (by simp; omega))) ea_nil)) h21) ea_nil) (hlen _)) (ee_blt (f := .len) (ea_cons (ee_idx (ee_var rfl) ee_con (idx_tup (j := 1) rfl)) ea_nil) (hlen _)) he))
end Ev
namespace Ev
open PySem PySem.Spec PyProof.Rows L2

/-! ### the law's other code -/
theorem r_llead (k : Nat) (S : Sto) {F : List Row} (hF : ∀ r ∈ F, true ∈ r) (hl : F.length ≤ 1000) : run ds 100 (k + 1) 30 [.tup (F.map er)] S = some (.tup (F.map fun r => .int (ld r)), S) := by
  refine run_rt0 (d := df30) rfl rfl rfl ?_ (by rw [ltB_tup]; exact no_ints F _)
  exact es_seqR (es_ret (ee_blt (f := .tup) (ea_cons (ee_lcN (m := false) (l := F) er (fun r => .int (ld r)) (ei_seq (ee_var rfl) rfl) rfl (its_seq rfl) (by omega) (fun r hr => ⟨_, rfl, ee_met (f := .idx) (ee_var rfl) (ea_cons ee_con ea_nil) rfl (index_er (hF r hr) S)⟩)) ea_nil) rfl))
theorem r_lfree (k : Nat) (S : Sto) {n : Nat} {rows : List Row} {v : PV} (h1 : 1 ≤ n) (hn : n ≤ 100) (hr : Len n rows) (hl : rows.length ≤ 1000) (hv : seqOf S v = some (rows.map er)) :
    run ds 100 (k + 3) 31 [.int n, v] S = some (.tup ((freeF n (lawT n rows)).map er), S) := by
  have hrun := r_ltold k S h1 hn hr hl hv
  obtain ⟨hE, _, _, hlen⟩ := lawT_ok hr
  have hrow := hE.row
  generalize lawT n rows = F at *
  have hfl : (freeF n F).length ≤ n := freeF_card
  suffices h : ES (run ds 100 (k + 2)) 100 S.length bd31 [some (.int n), some v, none, none, none, none, none, none, none] S (.rt (.tup ((freeF n F).map er)) (S ++ [.lst ((freeF n F).map er)])) by
    have := run_rt (ds := ds) (W := 100) (k := k + 2) (f := 31) (args := [.int n, v]) (S := S) (v := .tup ((freeF n F).map er)) (S1 := S ++ [SObj.lst ((freeF n F).map er)]) (d := df31) rfl rfl rfl h (by rw [ltB_tup]; exact no_ers _)
    rw [this]
    simp
  have hll : ((List.range n).filter fun p => !isL F p).length ≤ n := Nat.le_trans (List.length_filter_le _ _) (by simp)
  have hfe : freeF n F = ((List.range n).filter fun p => !isL F p).map (fvec n F) := rfl
  have hmem : ∀ p ∈ (List.range n).filter fun p => !isL F p, p < n := fun p hp => by simpa using (List.mem_filter.mp hp).1
  have hit := ee_lcM (R := run ds 100 (k + 2)) (tp := S.length) (m := false) (one := true) (tg := [5]) (us := [5]) (it := .rng (.var 0)) (q := .so (.cmp .NotIn (.var 5) (.var 4))) (e := .var 5)
    (en := [some (.int n), some v, some (.tup (F.map er)), some (.ref S.length), some (.tup (F.map fun r => .int (ld r))), none, none, none, none]) (S := S ++ [.lst []]) (S1 := S ++ [.lst []]) (J := .rng 0 n) (l := List.range n) (fun (i : Nat) => .int i) (fun (i : Nat) => .int i) (fun p => !isL F p)
    (ei_rng (j := n) (ee_var rfl) (by simp only [rngOk, Bool.and_eq_true, decide_eq_true_eq]; omega)) rfl its_rng (by simp; omega) (fun p hp => by
      have hin := (in_ints (l := F) (h := fun r => ((ld r : Nat) : Int)) (a := p) (v := .tup (F.map fun r => .int (ld r))) (S := S ++ [.lst []]) rfl).2
      have hisl : (F.any fun r => ((ld r : Nat) : Int) == ((p : Nat) : Int)) = isL F p := by
        unfold isL; congr 1; funext r; exact int_beq _ _
      rw [hisl] at hin
      exact ⟨_, rfl, eq_so (et_cmp (ee_var rfl) (ee_var rfl) hin), fun _ => ee_var rfl⟩)
  have hit2 : EE (run ds 100 (k + 2)) S.length (.lc false (.rng (.var 0)) [5] true [5] (.so (.cmp .NotIn (.var 5) (.var 4))) (.var 5)) [some (.int n), some v, some (.tup (F.map er)), some (.ref S.length), some (.tup (F.map fun r => .int (ld r))), none, none, none, none] (S ++ [.lst []]) (.lst (((List.range n).filter fun p => !isL F p).map fun (i : Nat) => PV.int i)) (S ++ [.lst []]) := hit
  clear hit
  rw [hfe] at hfl ⊢
  clear hfe
  generalize (List.range n).filter (fun p => !isL F p) = l at hfl hll hmem hit2 ⊢
  have hit3 := ei_seq (xs := l.map fun (i : Nat) => PV.int i) hit2 rfl
  clear hit2
  generalize hit4 : (MI.seq (.lc false (.rng (.var 0)) [5] true [5] (.so (.cmp .NotIn (.var 5) (.var 4))) (.var 5))) = it0 at hit3
  obtain ⟨en', S', h, ⟨y5, y6, y7, y8, rfl, rfl⟩⟩ := es_forM (R := run ds 100 (k + 2)) (W := 100) (tp := S.length) (it := it0) (tg := [5]) (one := true) (J := .seq (.lst (l.map fun (i : Nat) => PV.int i))) (l := l)
    (s := (.seq (.asg [6] true (.bin .Add false (.lst false (.cons (.var 5) .nil)) (.lc false (.seq (.var 2)) [7] true [7] (.so (.cmp .Eq (.idx (.var 7) (.var 5)) (.con (.int 1)))) (.met .idx (.var 7) (.cons (.con (.int 1)) .nil))))) (.seq (.exp (.met .app (.var 3) (.cons (.blt .tup (.cons (.lc false (.rng (.var 0)) [8] true [8] .no (.blt .int (.cons (.cmp .In (.var 8) (.var 6)) .nil))) .nil)) .nil))) .nop)))
    (en := [some (.int n), some v, some (.tup (F.map er)), some (.ref S.length), some (.tup (F.map fun r => .int (ld r))), none, none, none, none]) (S := S ++ [.lst []]) (S1 := S ++ [.lst []]) (fun (i : Nat) => PV.int i)
    (fun i e T => ∃ y5 y6 y7 y8, e = [some (.int n), some v, some (.tup (F.map er)), some (.ref S.length), some (.tup (F.map fun r => .int (ld r))), y5, y6, y7, y8] ∧ T = S ++ [.lst (((l.take i).map (fvec n F)).map er)])
    hit3 rfl (fun i e T h => its_seq rfl) ⟨none, none, none, none, rfl, rfl⟩
    (fun i p e T hi hI => by
      obtain ⟨y5, y6, y7, y8, rfl, rfl⟩ := hI
      have hp : p < n := hmem p (List.mem_of_getElem? hi)
      have ht : l.take (i + 1) = l.take i ++ [p] := by rw [List.take_succ, hi]; rfl
      rw [ht, List.map_append]
      have hlim : (((l.take i).map (fvec n F)).map er).length ≤ 1000 := by
        rw [List.length_map, List.length_map, List.length_take]; omega
      generalize (l.take i).map (fvec n F) = A at hlim ⊢
      have hx := fun (S' : Sto) (a : Int) => (in_ints (a := a) (l := [none] ++ (F.filter fun r => at' r p).map some) (h := onesV p) (v := .lst ([.int p] ++ (F.filter fun r => at' r p).map fun r => .int (ld r))) (S := S') (by
        simp only [seqOf, List.map_append, List.map_map, List.map_cons, List.map_nil]; rfl))
      refine ⟨_, _, _, rfl, es_seq (es_asg (ee_bin (op := .Add) (m := false) (ee_lst (m := false) (ea_cons (ee_var rfl) ea_nil) (lim_ok (by simp)))
          (ee_lcM (m := false) (l := F) er (fun r => .int (ld r)) (fun r => at' r p) (ei_seq (ee_var rfl) rfl) rfl (its_seq rfl) (by omega) (fun r hr => ?_))
          (cat_lst _ _ _ (by simp only [List.length_cons, List.length_nil, List.length_map]; exact Nat.le_trans (Nat.add_le_add_left (List.length_filter_le _ _) _) (by omega)))) rfl)
          (es_seq (es_exp (ee_met (f := .app) (ee_var rfl) (ea_cons (ee_blt (f := .tup) (ea_cons (ee_lcN (m := false) (l := List.range n) (fun (i : Nat) => PV.int i) (fun (i : Nat) => eb (i == p || F.any fun r => (ld r == i) && at' r p)) (ei_rng (j := n) (ee_var rfl) (by simp only [rngOk, Bool.and_eq_true, decide_eq_true_eq]; omega)) rfl its_rng (by simp; omega) (fun q hq => ?_)) ea_nil) rfl) ea_nil) rfl (append_top S _ _ (by omega)))) es_nop), some (.int p), some (.lst ([.int p] ++ (F.filter fun r => at' r p).map fun r => .int (ld r))), y7, y8, rfl, ?_⟩
      · exact ⟨_, rfl, eq_so (et_cmp (ee_idx (ee_var rfl) (ee_var rfl) (idx_er (by rw [(hrow r hr).1]; exact hp) _)) ee_con (eq_one _ _)), fun _ => ee_met (f := .idx) (ee_var rfl) (ea_cons ee_con ea_nil) rfl (index_er (hrow r hr).2 _)⟩
      · refine ⟨_, rfl, ee_blt (f := .int) (ea_cons (ee_cmp (ee_var rfl) (ee_var rfl) (hx _ _).1) ea_nil) ?_⟩
        rw [ones_any]; rfl
      · simp only [List.map_append, List.map_cons, List.map_nil]
        have : er (fvec n F p) = .tup ((List.range n).map fun (i : Nat) => eb (i == p || F.any fun r => (ld r == i) && at' r p)) := by
          unfold er fvec; rw [List.map_map]; rfl
        rw [this])
  rw [List.take_of_length_le (Nat.le_refl _)] at h
  subst hit4
  refine es_seq (es_par (ea_cons (ee_cal (ea_cons (ee_var rfl) (ea_cons (ee_var rfl) ea_nil)) hrun) (ea_cons (ee_lst (m := true) ea_nil (by decide)) ea_nil)) rfl)
    (es_seq (es_asg (ee_cal (ea_cons (ee_var rfl) ea_nil) (r_llead (k + 1) _ (fun r hr => (hrow r hr).2) (by omega))) rfl)
      (es_seq h (es_seqR (es_ret (ee_blt (f := .tup) (ea_cons (ee_var rfl) ea_nil) ?_)))))
  simp only [bltF, pTuple, seq_top, Option.map_some]
def oth (n : Nat) (rows : List Row) : List Row := lawT n (freeF n (lawT n rows))
theorem oth_ok {n : Nat} {rows : List Row} : Len n (oth n rows) ∧ (oth n rows).length ≤ n := by
  have hL : Len n (freeF n (lawT n rows)) := freeF_len
  obtain ⟨h1, _, _, h2⟩ := lawT_ok hL
  exact ⟨fun r hr => (h1.row r hr).1, h2⟩
theorem r_lother (k : Nat) (S : Sto) {n : Nat} {rows : List Row} (h1 : 1 ≤ n) (hn : n ≤ 100) (hr : Len n rows) (hl : rows.length ≤ 1000) :
    run ds 100 (k + 4) 32 [code n rows] S = some (code n (oth n rows), S) := by
  have hL : Len n (freeF n (lawT n rows)) := freeF_len
  have hc : (freeF n (lawT n rows)).length ≤ n := freeF_card
  refine run_rt0 (d := df32) rfl rfl rfl ?_ (by
    unfold code
    rw [ltB_tup]
    have := no_ers (oth n rows)
    simp [no_int, ltB_tup, this])
  have h28 := r_lfree k S (v := .tup (rows.map er)) h1 hn hr hl rfl
  have h21 := r_ltold (k + 1) S (v := .tup ((freeF n (lawT n rows)).map er)) h1 hn hL (by omega) rfl
  exact es_seqR (es_ret (ee_tup (ea_cons (ee_idx (ee_var rfl) ee_con (idx_tup (j := 0) rfl)) (ea_cons (ee_cal (ea_cons (ee_idx (ee_var rfl) ee_con (idx_tup (j := 0) rfl)) (ea_cons (ee_cal (ea_cons (ee_idx (ee_var rfl) ee_con (idx_tup (j := 0) rfl)) (ea_cons (ee_idx (ee_var rfl) ee_con (idx_tup (j := 1) rfl)) ea_nil)) h28) ea_nil)) h21) ea_nil)) (lim_ok (by simp))))
end Ev
namespace Ev
open PySem PySem.Spec PyProof.Rows L2

/-! ### what draws -/
def Qs.ok (q : Qs) : Prop := q.cells.length ≤ 63
theorem Qs.cut (q q' : Qs) (T U : Sto) : (q'.st ++ (T ++ U)).take (q.st ++ T).length = q'.st ++ T := by
  have h : (q.st ++ T).length = (q'.st ++ T).length := by simp [Qs.st]
  rw [h, ← List.append_assoc, List.take_left]
theorem pick (k : Nat) (T : Sto) {q : Qs} (hq : q.ok) {many : Nat} (hm : many ≤ 1000000) (h1 : 1 ≤ many) :
    ∃ (r : Nat) (q' : Qs), run ds 100 (k + 1) 20 [.ref 2, .int many] (q.st ++ T) = some (.int r, q'.st ++ T) ∧ r < many ∧ q'.ok := by
  obtain ⟨r, q', h, h2, h3⟩ := r_pick k T q hq hm
  exact ⟨r, q', h, by rw [Nat.max_eq_right h1] at h2; exact h2, h3⟩
theorem erase_perm {α : Type} : ∀ (l : List α) (i : Nat) (h : i < l.length), (l[i] :: l.eraseIdx i).Perm l
  | a :: l, 0, _ => List.Perm.refl _
  | a :: l, i + 1, h => (List.Perm.swap a _ _).trans ((erase_perm l i (by simpa using h)).cons a)
theorem r_of (k : Nat) (T : Sto) {q : Qs} (hq : q.ok) {xs : List PV} (hn : xs ≠ []) (hl : xs.length ≤ 1000) (hx : ∀ x ∈ xs, ltB 0 x = true) :
    ∃ (x : PV) (q' : Qs), x ∈ xs ∧ run ds 100 (k + 2) 21 [.ref 2, .lst xs] (q.st ++ T) = some (x, q'.st ++ T) ∧ q'.ok := by
  have hpos : 1 ≤ xs.length := by cases xs with | nil => exact absurd rfl hn | cons a r => simp
  obtain ⟨r, q', h, h2, h3⟩ := pick k T hq (show xs.length ≤ 1000000 by omega) hpos
  have hg : xs[r]? = some xs[r] := List.getElem?_eq_getElem h2
  refine ⟨xs[r], q', List.getElem_mem _, ?_, h3⟩
  have hb : df21.b.dn (run ds 100 (k + 1)) 100 (q.st ++ T).length (enOf df21 [.ref 2, .lst xs]) (q.st ++ T) = some (.rt xs[r] (q'.st ++ T)) :=
    es_seqR (es_ret (ee_idx (ee_var rfl) (ee_cal (ea_cons (ee_var rfl) (ea_cons (ee_blt (f := .len) (ea_cons (ee_var rfl) ea_nil) rfl) ea_nil)) h) ((idx_lst (j := r) rfl).trans (by rw [hg]; rfl))))
  rw [run_rt (d := df21) rfl rfl rfl hb (hx _ (List.getElem_mem _)), Qs.len]
theorem r_mixed (k : Nat) (T : Sto) {q : Qs} (hq : q.ok) {xs : List PV} {v : PV} (hl : xs.length ≤ 1000) (hx : ∀ x ∈ xs, ltB 0 x = true) (hv : seqOf (q.st ++ T) v = some xs) :
    ∃ (ys : List PV) (q' : Qs), ys.Perm xs ∧ run ds 100 (k + 2) 22 [.ref 2, v] (q.st ++ T) = some (.lst ys, q'.st ++ T) ∧ q'.ok := by
  have hrl : ∀ q' : Qs, (q'.st ++ T).length = (q.st ++ T).length := fun q' => by simp [Qs.st]
  have hget : ∀ (q' : Qs) (o : SObj), (q'.st ++ (T ++ [o]))[(q.st ++ T).length]? = some o := fun q' o => by
    rw [← List.append_assoc, ← hrl q', get_top]
  have hset : ∀ (q' : Qs) (o o' : SObj), (q'.st ++ (T ++ [o])).set (q.st ++ T).length o' = q'.st ++ (T ++ [o']) := fun q' o o' => by
    rw [← List.append_assoc, ← hrl q', set_top, List.append_assoc]
  obtain ⟨acc, S', ⟨q', rest, rfl, hp, hal, hq'⟩, he⟩ := ee_lcI (R := run ds 100 (k + 1)) (tp := (q.st ++ T).length) (m := false) (one := true) (tg := [3]) (us := [3]) (it := .rng (.blt .len (.cons (.var 2) .nil))) (q := .no) (e := .met .pop (.var 2) (.cons (.cal 20 (.cons (.var 0) (.cons (.blt .len (.cons (.var 2) .nil)) .nil))) .nil))
    (en := [some (.ref 2), some v, some (.ref (q.st ++ T).length), none]) (S := q.st ++ (T ++ [.lst xs])) (S1 := q.st ++ (T ++ [.lst xs])) (J := .rng 0 xs.length)
    (fun i acc S => ∃ (q' : Qs) (rest : List PV), S = q'.st ++ (T ++ [.lst rest]) ∧ (acc ++ rest).Perm xs ∧ acc.length = i ∧ q'.ok) xs.length
    (ei_rng (j := xs.length) (ee_blt (f := .len) (ea_cons (ee_var rfl) ea_nil) (by simp only [bltF, pLen, seqOf, hget, Option.map_some])) (by simp only [rngOk, Bool.and_eq_true, decide_eq_true_eq]; omega)) rfl rfl ⟨q, xs, rfl, List.Perm.refl _, rfl, hq⟩ (fun acc S h => rfl)
    (fun i acc S hi hI => by
      obtain ⟨q', rest, rfl, hp, hal, hq'⟩ := hI
      have hlen := hp.length_eq
      rw [List.length_append] at hlen
      obtain ⟨r, q2, h, h2, h3⟩ := pick k (T ++ [.lst rest]) hq' (show rest.length ≤ 1000000 by omega) (by omega)
      have hg : rest[r]? = some rest[r] := List.getElem?_eq_getElem h2
      have hsi : seqIndex? (r : Int) rest.length = some r := by
        have hn : ¬ ((r : Int) < 0) := by omega
        simp only [seqIndex?, if_neg hn]
        rw [if_pos (by simp; omega)]
        simp
      refine ⟨_, _, true, _, by simp [ItV.item, hi]; rfl, rfl, eq_no, fun _ => ⟨rest[r], q2.st ++ (T ++ [.lst (rest.eraseIdx r)]), ee_met (f := .pop) (ee_var rfl) (ea_cons (ee_cal (ea_cons (ee_var rfl) (ea_cons (ee_blt (f := .len) (ea_cons (ee_var rfl) ea_nil) (by simp only [bltF, pLen, seqOf, hget, Option.map_some])) ea_nil)) h) ea_nil) ?_ ?_, by rw [sizeLine_eq]; omega, q2, rest.eraseIdx r, rfl, ?_, by simp [hal], h3⟩, fun z => by cases z⟩
      · simp only [tyName, hget]
      · simp only [metF, pPop, hget, hset, hsi, Option.bind_some, hg, Option.map_some]
        rw [if_pos (by omega)]
      · refine List.Perm.trans ?_ hp
        rw [List.append_assoc, List.singleton_append]
        exact (erase_perm rest r h2).append_left acc)
  have hlen := hp.length_eq
  rw [List.length_append] at hlen
  have hr0 : rest = [] := List.length_eq_zero_iff.mp (by omega)
  subst hr0
  rw [List.append_nil] at hp
  refine ⟨acc, q', hp, ?_, hq'⟩
  have hb : df22.b.dn (run ds 100 (k + 1)) 100 (q.st ++ T).length (enOf df22 [.ref 2, v]) (q.st ++ T) = some (.rt (.lst acc) (q'.st ++ (T ++ [.lst []]))) :=
    es_seq (es_asg (ee_blt (f := .lst true) (ea_cons (ee_var rfl) ea_nil) (by simp only [bltF, pList, hv, Option.map_some, mkL, if_true, List.append_assoc])) rfl) (es_seqR (es_ret he))
  have hno : ltB 0 (.lst acc) = true := by
    rw [ltB_lst, List.all_eq_true]
    exact fun x hxm => hx x (hp.mem_iff.mp hxm)
  rw [run_rt (d := df22) rfl rfl rfl hb hno, Qs.cut]
theorem r_lrow (k : Nat) (T : Sto) {q : Qs} (hq : q.ok) {n : Nat} (hn : n ≤ 1000) :
    ∃ (row : Row) (q' : Qs), row.length = n ∧ run ds 100 (k + 3) 25 [.ref 2, .int n] (q.st ++ T) = some (er row, q'.st ++ T) ∧ q'.ok := by
  obtain ⟨x, q1, hx, h1, h2⟩ := r_of k T hq (xs := [.int 1, .int 2, .int 2, .int 3]) (by simp) (by simp) (by
    intro x hx
    simp only [List.mem_cons, List.not_mem_nil, or_false] at hx
    rcases hx with rfl | rfl | rfl | rfl <;> exact no_int _)
  obtain ⟨sh, rfl⟩ : ∃ sh : Int, x = .int sh := by
    simp only [List.mem_cons, List.not_mem_nil, or_false] at hx
    rcases hx with rfl | rfl | rfl | rfl <;> exact ⟨_, rfl⟩
  obtain ⟨acc, S', ⟨q', row, rfl, rfl, hal, hq'⟩, he⟩ := ee_lcI (R := run ds 100 (k + 2)) (tp := (q.st ++ T).length) (m := false) (one := true) (tg := [3]) (us := [3]) (it := .rng (.var 1)) (q := .no) (e := .blt .int (.cons (.cmp .Lt (.cal 20 (.cons (.var 0) (.cons (.con (.int 4)) .nil))) (.var 2)) .nil))
    (en := [some (.ref 2), some (.int n), some (.int sh), none]) (S := q1.st ++ T) (S1 := q1.st ++ T) (J := .rng 0 n)
    (fun i acc S => ∃ (q' : Qs) (row : Row), S = q'.st ++ T ∧ acc = row.map eb ∧ row.length = i ∧ q'.ok) n
    (ei_rng (j := n) (ee_var rfl) (by simp only [rngOk, Bool.and_eq_true, decide_eq_true_eq]; omega)) rfl rfl ⟨q1, [], rfl, rfl, rfl, h2⟩ (fun acc S h => rfl)
    (fun i acc S hi hI => by
      obtain ⟨q', row, rfl, rfl, hal, hq'⟩ := hI
      obtain ⟨r, q2, h, h2, h3⟩ := pick (k + 1) T hq' (many := 4) (by omega) (by omega)
      refine ⟨_, _, true, _, by simp [ItV.item, hi]; rfl, rfl, eq_no, fun _ => ⟨eb (decide ((r : Int) < sh)), q2.st ++ T, ee_blt (f := .int) (ea_cons (ee_cmp (ee_cal (ea_cons (ee_var rfl) (ea_cons ee_con ea_nil)) h) (ee_var rfl) rfl) ea_nil) ?_, by rw [sizeLine_eq, List.length_map]; omega, q2, row ++ [decide ((r : Int) < sh)], rfl, by simp, by simp [hal], h3⟩, fun z => by cases z⟩
      cases decide ((r : Int) < sh) <;> rfl)
  refine ⟨row, q', hal, ?_, hq'⟩
  have hb : df25.b.dn (run ds 100 (k + 2)) 100 (q.st ++ T).length (enOf df25 [.ref 2, .int n]) (q.st ++ T) = some (.rt (er row) (q'.st ++ T)) :=
    es_seq (es_asg (ee_cal (ea_cons (ee_var rfl) (ea_cons (ee_lst (m := false) (ea_cons ee_con (ea_cons ee_con (ea_cons ee_con (ea_cons ee_con ea_nil)))) (lim_ok (by simp))) ea_nil)) h1) rfl) (es_seqR (es_ret (ee_blt (f := .tup) (ea_cons he ea_nil) rfl)))
  rw [run_rt (d := df25) rfl rfl rfl hb (no_er _), Qs.len]
end Ev
namespace Ev
open PySem PySem.Spec PyProof.Rows L2

/-! ### the law's codes -/
theorem perm_map {α β : Type} (f : α → β) {ys zs : List β} (h : ys.Perm zs) : ∀ {l : List α}, zs = l.map f → ∃ l' : List α, ys = l'.map f ∧ l'.Perm l := by
  induction h with
  | nil =>
    intro l e
    exact ⟨l, e, List.Perm.refl _⟩
  | cons x _ ih =>
    intro l e
    cases l with
    | nil => cases e
    | cons a l =>
      rw [List.map_cons] at e
      injection e with e1 e2
      obtain ⟨l', h1, h2⟩ := ih e2
      exact ⟨a :: l', by rw [List.map_cons, h1, e1], h2.cons a⟩
  | swap x y t =>
    intro l e
    match l, e with
    | [], e => cases e
    | [a], e => cases e
    | a :: b :: l, e =>
      rw [List.map_cons, List.map_cons] at e
      injection e with e1 e2
      injection e2 with e2 e3
      exact ⟨b :: a :: l, by rw [List.map_cons, List.map_cons, e1, e2, e3], List.Perm.swap _ _ _⟩
  | trans _ _ ih1 ih2 =>
    intro l e
    obtain ⟨l1, h1, h2⟩ := ih2 e
    obtain ⟨l2, h3, h4⟩ := ih1 h1
    exact ⟨l2, h3, h4.trans h2⟩
section
variable (q q' : Qs) (T : Sto) (xs : List PV)
theorem st_get (o : SObj) : (q'.st ++ (T ++ [o]))[(q.st ++ T).length]? = some o := by
  have hrl : (q'.st ++ T).length = (q.st ++ T).length := by simp [Qs.st]
  rw [← List.append_assoc, ← hrl, get_top]
theorem st_set (o o' : SObj) : (q'.st ++ (T ++ [o])).set (q.st ++ T).length o' = q'.st ++ (T ++ [o']) := by
  have hrl : (q'.st ++ T).length = (q.st ++ T).length := by simp [Qs.st]
  rw [← List.append_assoc, ← hrl, set_top, List.append_assoc]
theorem st_seq : seqOf (q'.st ++ (T ++ [.lst xs])) (.ref (q.st ++ T).length) = some xs := by simp only [seqOf, st_get]
theorem st_len : bltF .len [.ref (q.st ++ T).length] (q'.st ++ (T ++ [.lst xs])) = some (.int xs.length, q'.st ++ (T ++ [.lst xs])) := by simp only [bltF, pLen, st_seq, Option.map_some]
theorem st_app (v : PV) (h : xs.length ≤ 1000000) : pAppend (q.st ++ T).length (.ref (q.st ++ T).length) [v] (q'.st ++ (T ++ [.lst xs])) = some (.non, q'.st ++ (T ++ [.lst (xs ++ [v])])) := by
  simp only [pAppend, Nat.le_refl, decide_true, Bool.true_or, if_true, st_get, st_set]
  rw [if_pos (by rw [sizeLine_eq]; omega)]
theorem st_cat (ys : List PV) (h : xs.length + ys.length ≤ 1000000) : pAdd false (.ref (q.st ++ T).length) (.lst ys) (q'.st ++ (T ++ [.lst xs])) = some (.lst (xs ++ ys), q'.st ++ (T ++ [.lst xs])) := by
  have h1 : lstOf (q'.st ++ (T ++ [.lst xs])) (.ref (q.st ++ T).length) = some xs := by simp only [lstOf, st_get]
  show (match lstOf (q'.st ++ (T ++ [.lst xs])) (.ref (q.st ++ T).length), lstOf (q'.st ++ (T ++ [.lst xs])) (.lst ys) with
    | some xs, some ys => if xs.length + ys.length ≤ sizeLine then some (mkL false (xs ++ ys) _) else none
    | _, _ => none) = _
  rw [h1]
  show (if xs.length + ys.length ≤ sizeLine then some (mkL false (xs ++ ys) _) else none) = _
  rw [if_pos (lim_ok h)]; rfl
end
theorem len_ers (l : List Row) (S : Sto) : bltF .len [.tup (l.map er)] S = some (.int l.length, S) := by
  show some (PV.int ((l.map er).length : Nat), S) = _
  rw [List.length_map]
def s23 : MS := .ifS (.and (.cmp .Lt (.blt .len (.cons (.var 3) .nil)) (.var 2)) (.cmp .Gt (.blt .len (.cons (.cal 24 (.cons (.var 1) (.cons (.bin .Add false (.var 3) (.lst false (.cons (.var 5) .nil))) .nil))) .nil)) (.blt .len (.cons (.var 3) .nil)))) (.seq (.exp (.met .app (.var 3) (.cons (.var 5) .nil))) .nop) .nop
theorem step23 (k : Nat) (T : Sto) (q q' : Qs) {n k0 : Nat} {rows : List Row} {row : Row} {e : En} (h1 : 1 ≤ n) (hn : n ≤ 100) (hb : Bas n rows) (hw : row.length = n)
    (e1 : e[1]? = some (some (.int n))) (e2 : e[2]? = some (some (.int k0))) (e3 : e[3]? = some (some (.ref (q.st ++ T).length))) (e5 : e[5]? = some (some (er row))) :
    ∃ rows', Bas n rows' ∧ ES (run ds 100 (k + 3)) 100 (q.st ++ T).length s23 e (q'.st ++ (T ++ [.lst (rows.map er)])) (.nx e (q'.st ++ (T ++ [.lst (rows'.map er)]))) := by
  have hl := hb.le
  have hL : Len n (rows ++ [row]) := hb.1.append fun x hx => by rw [List.mem_singleton.mp hx]; exact hw
  have h21 := r_ltold (k + 1) (q'.st ++ (T ++ [.lst (rows.map er)])) (v := .lst (rows.map er ++ [er row])) h1 hn hL (by simp; omega) (by simp [seqOf])
  have hlen := st_len q q' T (rows.map er)
  rw [List.length_map] at hlen
  have ht : ET (run ds 100 (k + 3)) (q.st ++ T).length (.and (.cmp .Lt (.blt .len (.cons (.var 3) .nil)) (.var 2)) (.cmp .Gt (.blt .len (.cons (.cal 24 (.cons (.var 1) (.cons (.bin .Add false (.var 3) (.lst false (.cons (.var 5) .nil))) .nil))) .nil)) (.blt .len (.cons (.var 3) .nil)))) e (q'.st ++ (T ++ [.lst (rows.map er)]))
      (decide ((rows.length : Int) < k0) && decide ((rows.length : Int) < (lawT n (rows ++ [row])).length)) (q'.st ++ (T ++ [.lst (rows.map er)])) := by
    refine et_and (k := decide ((rows.length : Int) < k0)) (et_cmp (ee_blt (f := .len) (ea_cons (ee_var e3) ea_nil) hlen) (ee_var e2) rfl) (fun z => ?_) fun z => ⟨by rw [z]; rfl, rfl⟩
    rw [z, Bool.true_and]
    exact et_cmp (ee_blt (f := .len) (ea_cons (ee_cal (ea_cons (ee_var e1) (ea_cons (ee_bin (op := .Add) (m := false) (ee_var e3) (ee_lst (m := false) (ea_cons (ee_var e5) ea_nil) (lim_ok (by simp))) (st_cat q q' T (rows.map er) [er row] (by simp; omega))) ea_nil)) h21) ea_nil) (len_ers _ _)) (ee_blt (f := .len) (ea_cons (ee_var e3) ea_nil) hlen) rfl
  cases hc : decide ((rows.length : Int) < k0) && decide ((rows.length : Int) < (lawT n (rows ++ [row])).length) with
  | true =>
    rw [hc] at ht
    rw [Bool.and_eq_true, decide_eq_true_eq, decide_eq_true_eq] at hc
    refine ⟨rows ++ [row], hb.add hw (by omega), ?_⟩
    rw [List.map_append]
    exact es_if (k := true) ht (fun _ => es_seq (es_exp (ee_met (f := .app) (ee_var e3) (ea_cons (ee_var e5) ea_nil) rfl (st_app q q' T (rows.map er) (er row) (by simp; omega)))) es_nop) fun z => by cases z
  | false =>
    rw [hc] at ht
    exact ⟨rows, hb, es_if (k := false) ht (fun z => by cases z) fun _ => es_nop⟩
theorem r_lbase (k : Nat) (T : Sto) {q : Qs} (hq : q.ok) {n k0 : Nat} (h1 : 1 ≤ n) (hn : n ≤ 100) (hk : k0 ≤ 100) :
    ∃ (rows : List Row) (q' : Qs), Bas n rows ∧ run ds 100 (k + 4) 26 [.ref 2, .int n, .int k0] (q.st ++ T) = some (.tup (rows.map er), q'.st ++ T) ∧ q'.ok := by
  have hrl : ∀ q' : Qs, (q'.st ++ T).length = (q.st ++ T).length := fun q' => by simp [Qs.st]
  have hj : (3 * (k0 : Int)).toNat = 3 * k0 := by omega
  obtain ⟨en1, S1, hA, ⟨qa, ra, y4, y5, y6, y7, rfl, rfl, hba, hqa⟩⟩ := es_forM (R := run ds 100 (k + 3)) (W := 100) (tp := (q.st ++ T).length) (it := .rng (.bin .Mult false (.con (.int 3)) (.var 2))) (tg := [4]) (one := true) (J := .rng 0 (3 * (k0 : Int)).toNat) (l := List.range (3 * k0))
    (s := .seq (.asg [5] true (.cal 25 (.cons (.var 0) (.cons (.var 1) .nil)))) (.seq s23 .nop))
    (en := [some (.ref 2), some (.int n), some (.int k0), some (.ref (q.st ++ T).length), none, none, none, none]) (S := q.st ++ (T ++ [.lst []])) (S1 := q.st ++ (T ++ [.lst []])) (fun (i : Nat) => .int i)
    (fun i e S => ∃ (q' : Qs) (rows : List Row) (y4 y5 y6 y7 : Option PV), e = [some (.ref 2), some (.int n), some (.int k0), some (.ref (q.st ++ T).length), y4, y5, y6, y7] ∧ S = q'.st ++ (T ++ [.lst (rows.map er)]) ∧ Bas n rows ∧ q'.ok)
    (ei_rng (j := 3 * (k0 : Int)) (ee_bin (op := .Mult) (m := false) (v := .int 3) (w := .int k0) ee_con (ee_var rfl) (by
      show (if (3 : Int).natAbs < 2 ^ 64 ∨ (k0 : Int).natAbs < 2 ^ 64 then some (PV.int (3 * (k0 : Int)), _) else none) = _
      rw [if_pos (Or.inl (by decide))])) (by simp only [rngOk, Bool.and_eq_true, decide_eq_true_eq]; omega)) rfl (fun i e T h => by rw [hj]; exact its_rng) ⟨q, [], none, none, none, none, rfl, rfl, Bas.nil n, hq⟩
    (fun i p e S hi hI => by
      obtain ⟨q', rows, y4, y5, y6, y7, rfl, rfl, hb, hq'⟩ := hI
      obtain ⟨row, q2, hw, hrun, hq2⟩ := r_lrow k (T ++ [.lst (rows.map er)]) hq' (n := n) (by omega)
      obtain ⟨rows', hb', hs⟩ := step23 k T q q2 (k0 := k0) (e := [some (.ref 2), some (.int n), some (.int k0), some (.ref (q.st ++ T).length), some (.int p), some (er row), y6, y7]) h1 hn hb hw rfl rfl rfl rfl
      exact ⟨_, _, _, rfl, es_seq (es_asg (ee_cal (ea_cons (ee_var rfl) (ea_cons (ee_var rfl) ea_nil)) hrun) rfl) (es_seq hs es_nop), q2, rows', some (.int p), some (er row), y6, y7, rfl, rfl, hb', hq2⟩)
  obtain ⟨ys, qb, hys, hrun, hqb⟩ := r_mixed (k + 1) (T ++ [.lst (ra.map er)]) hqa (xs := (List.range n).map fun (i : Nat) => PV.int i) (v := .lst ((List.range n).map fun (i : Nat) => PV.int i)) (by simp; omega) (fun x hx => by
    obtain ⟨i, _, rfl⟩ := List.mem_map.mp hx
    exact no_int _) rfl
  have hit : EI (run ds 100 (k + 3)) (q.st ++ T).length (.seq (.cal 22 (.cons (.var 0) (.cons (.lrg false (.var 1)) .nil)))) [some (.ref 2), some (.int n), some (.int k0), some (.ref (q.st ++ T).length), y4, y5, y6, y7] (qa.st ++ (T ++ [.lst (ra.map er)])) (.seq (.lst ys)) (qb.st ++ (T ++ [.lst (ra.map er)])) :=
    ei_seq (xs := ys) (ee_cal (ea_cons (ee_var rfl) (ea_cons (ee_lrg (m := false) (j := n) (ee_var rfl) (by omega)) ea_nil)) hrun) rfl
  generalize hit4 : (MI.seq (.cal 22 (.cons (.var 0) (.cons (.lrg false (.var 1)) .nil)))) = it0 at hit
  obtain ⟨en2, S2, hB, ⟨qc, rc, z4, z5, z6, z7, rfl, rfl, hbc, hqc⟩⟩ := es_forM (R := run ds 100 (k + 3)) (W := 100) (tp := (q.st ++ T).length) (it := it0) (tg := [6]) (one := true) (J := .seq (.lst ys)) (l := ys)
    (s := .seq (.asg [5] true (.blt .tup (.cons (.lc false (.rng (.var 1)) [7] true [7] .no (.blt .int (.cons (.cmp .Eq (.var 7) (.var 6)) .nil))) .nil))) (.seq s23 .nop))
    (en := [some (.ref 2), some (.int n), some (.int k0), some (.ref (q.st ++ T).length), y4, y5, y6, y7]) (S := qa.st ++ (T ++ [.lst (ra.map er)])) (S1 := qb.st ++ (T ++ [.lst (ra.map er)])) (fun x => x)
    (fun i e S => ∃ (q' : Qs) (rows : List Row) (y4 y5 y6 y7 : Option PV), e = [some (.ref 2), some (.int n), some (.int k0), some (.ref (q.st ++ T).length), y4, y5, y6, y7] ∧ S = q'.st ++ (T ++ [.lst (rows.map er)]) ∧ Bas n rows ∧ q'.ok)
    hit rfl (fun i e S h => its_id rfl) ⟨qb, ra, y4, y5, y6, y7, rfl, rfl, hba, hqb⟩
    (fun i x e S hi hI => by
      obtain ⟨q', rows, y4, y5, y6, y7, rfl, rfl, hb, hq'⟩ := hI
      obtain ⟨p, _, rfl⟩ := List.mem_map.mp (hys.mem_iff.mp (List.mem_of_getElem? hi))
      have hw : ((List.range n).map fun (j : Nat) => decide ((j : Int) = p)).length = n := by simp
      have her : er ((List.range n).map fun (j : Nat) => decide ((j : Int) = p)) = .tup ((List.range n).map fun (j : Nat) => eb (decide ((j : Int) = p))) := by
        unfold er; rw [List.map_map]; rfl
      obtain ⟨rows', hb', hs⟩ := step23 k T q q' (k0 := k0) (e := [some (.ref 2), some (.int n), some (.int k0), some (.ref (q.st ++ T).length), y4, some (er ((List.range n).map fun (j : Nat) => decide ((j : Int) = p))), some (.int p), y7]) h1 hn hb hw rfl rfl rfl rfl
      have hasg : EE (run ds 100 (k + 3)) (q.st ++ T).length (.blt .tup (.cons (.lc false (.rng (.var 1)) [7] true [7] .no (.blt .int (.cons (.cmp .Eq (.var 7) (.var 6)) .nil))) .nil)) [some (.ref 2), some (.int n), some (.int k0), some (.ref (q.st ++ T).length), y4, y5, some (.int p), y7] (q'.st ++ (T ++ [.lst (rows.map er)])) (er ((List.range n).map fun (j : Nat) => decide ((j : Int) = p))) (q'.st ++ (T ++ [.lst (rows.map er)])) := by
        rw [her]
        refine ee_blt (f := .tup) (ea_cons (ee_lcN (m := false) (l := List.range n) (fun (i : Nat) => .int i) (fun (j : Nat) => eb (decide ((j : Int) = p))) (ei_rng (j := n) (ee_var rfl) (by simp only [rngOk, Bool.and_eq_true, decide_eq_true_eq]; omega)) rfl its_rng (by simp; omega) (fun j hj => ⟨_, rfl, ee_blt (f := .int) (ea_cons (ee_cmp (ee_var rfl) (ee_var rfl) (eq_int .Eq (j : Int) (p : Int) _).1) ea_nil) ?_⟩)) ea_nil) rfl
        cases decide ((j : Int) = p) <;> rfl
      exact ⟨_, _, _, rfl, es_seq (es_asg hasg rfl) (es_seq hs es_nop), q', rows', y4, some (er ((List.range n).map fun (j : Nat) => decide ((j : Int) = p))), some (.int p), y7, rfl, rfl, hb', hq'⟩)
  subst hit4
  obtain ⟨r4, qd, hrun4, hlt4, hqd⟩ := pick (k + 2) (T ++ [.lst (rc.map er)]) hqc (many := 4) (by omega) (by omega)
  have hcl := hbc.le
  have hno : ∀ l : List Row, ltB 0 (.tup (l.map er)) = true := fun l => by rw [ltB_tup]; exact no_ers _
  have hnr : ∀ (l : List Row), ∀ x ∈ l.map er, ltB 0 x = true := fun l x hx => by
    obtain ⟨r, _, rfl⟩ := List.mem_map.mp hx
    exact no_er r
  have hbin : bltF (.lst false) [.int n] = bltF (.lst false) [.int n] := rfl
  suffices hb : ∃ (rows : List Row) (q' : Qs) (U : Sto), Bas n rows ∧ q'.ok ∧ ES (run ds 100 (k + 3)) 100 (q.st ++ T).length (.seq (.ifS (.cmp .Eq (.cal 20 (.cons (.var 0) (.cons (.con (.int 4)) .nil))) (.con (.int 0))) (.seq (.asg [3] true (.blt (.lst true) (.cons (.cal 24 (.cons (.var 1) (.cons (.var 3) .nil))) .nil))) .nop) .nop) (.seq (.ret (.blt .tup (.cons (.cal 22 (.cons (.var 0) (.cons (.var 3) .nil))) .nil))) .nop))
      [some (.ref 2), some (.int n), some (.int k0), some (.ref (q.st ++ T).length), z4, z5, z6, z7] (qc.st ++ (T ++ [.lst (rc.map er)])) (.rt (.tup (rows.map er)) (q'.st ++ (T ++ U))) by
    obtain ⟨rows, q', U, hb1, hb2, hb3⟩ := hb
    refine ⟨rows, q', hb1, ?_, hb2⟩
    have h0 : EE (run ds 100 (k + 3)) (q.st ++ T).length (.lst true .nil) (enOf df26 [.ref 2, .int n, .int k0]) (q.st ++ T) (.ref (q.st ++ T).length) (q.st ++ (T ++ [.lst []])) := by
      rw [← List.append_assoc]
      exact ee_lst (m := true) ea_nil (lim_ok (by simp))
    have hbody : df26.b.dn (run ds 100 (k + 3)) 100 (q.st ++ T).length (enOf df26 [.ref 2, .int n, .int k0]) (q.st ++ T) = some (.rt (.tup (rows.map er)) (q'.st ++ (T ++ U))) :=
      es_seq (es_asg h0 rfl) (es_seq hA (es_seq hB hb3))
    rw [run_rt (d := df26) rfl rfl rfl hbody (hno rows), Qs.cut]
  have hend : ∀ (U : Sto) (rows : List Row) (q1 : Qs) (rf : Nat), Bas n rows → q1.ok → seqOf (q1.st ++ (T ++ U)) (.ref rf) = some (rows.map er) → ∃ (rows' : List Row) (q' : Qs), Bas n rows' ∧ q'.ok ∧ ES (run ds 100 (k + 3)) 100 (q.st ++ T).length (.seq (.ret (.blt .tup (.cons (.cal 22 (.cons (.var 0) (.cons (.var 3) .nil))) .nil))) .nop)
      [some (.ref 2), some (.int n), some (.int k0), some (.ref rf), z4, z5, z6, z7] (q1.st ++ (T ++ U)) (.rt (.tup (rows'.map er)) (q'.st ++ (T ++ U))) := fun U rows q1 rf hb1 hq1 hv => by
    have hle := hb1.le
    obtain ⟨ys, q2, hp, hr, hq2⟩ := r_mixed (k + 1) (T ++ U) hq1 (xs := rows.map er) (v := .ref rf) (by simp; omega) (hnr rows) hv
    obtain ⟨l', rfl, hp'⟩ := perm_map er hp rfl
    exact ⟨l', q2, hb1.perm hp', hq2, es_seqR (es_ret (ee_blt (f := .tup) (ea_cons (ee_cal (ea_cons (ee_var rfl) (ea_cons (ee_var rfl) ea_nil)) hr) ea_nil) rfl))⟩
  have he := (eq_int .Eq (r4 : Int) 0 (qd.st ++ (T ++ [.lst (rc.map er)]))).1
  cases hc : decide ((r4 : Int) = 0) with
  | false =>
    rw [hc] at he
    obtain ⟨rows', q', g1, g2, g3⟩ := hend [SObj.lst (rc.map er)] rc qd (q.st ++ T).length hbc hqd (st_seq q qd T _)
    exact ⟨rows', q', _, g1, g2, es_seq (es_if (k := false) (et_cmp (ee_cal (ea_cons (ee_var rfl) (ea_cons ee_con ea_nil)) hrun4) ee_con he) (fun z => by cases z) fun _ => es_nop) g3⟩
  | true =>
    rw [hc] at he
    have h21 := r_ltold (k + 1) (qd.st ++ (T ++ [.lst (rc.map er)])) (v := .ref (q.st ++ T).length) h1 hn hbc.1 (by omega) (st_seq q qd T _)
    have hlen2 : (qd.st ++ (T ++ [SObj.lst (rc.map er)])).length = (q.st ++ T).length + 1 := by simp [Qs.st]
    have hs2 : ∀ (q1 : Qs), seqOf (q1.st ++ (T ++ ([SObj.lst (rc.map er)] ++ [SObj.lst ((lawT n rc).map er)]))) (.ref ((q.st ++ T).length + 1)) = some ((lawT n rc).map er) := fun q1 => by
      have := st_seq qd q1 (T ++ [.lst (rc.map er)]) ((lawT n rc).map er)
      rw [hlen2, List.append_assoc] at this
      exact this
    obtain ⟨rows', q', g1, g2, g3⟩ := hend ([SObj.lst (rc.map er)] ++ [SObj.lst ((lawT n rc).map er)]) (lawT n rc) qd ((q.st ++ T).length + 1) hbc.told.1 hqd (hs2 qd)
    refine ⟨rows', q', _, g1, g2, es_seq (es_if (k := true) (et_cmp (ee_cal (ea_cons (ee_var rfl) (ea_cons ee_con ea_nil)) hrun4) ee_con he) (fun _ => es_seq (es_asg (v := .ref ((q.st ++ T).length + 1)) (S1 := qd.st ++ (T ++ ([SObj.lst (rc.map er)] ++ [SObj.lst ((lawT n rc).map er)]))) (ee_blt (f := .lst true) (ea_cons (ee_cal (ea_cons (ee_var rfl) (ea_cons (ee_var rfl) ea_nil)) h21) ea_nil) ?_) rfl) es_nop) fun z => by cases z) g3⟩
    show some (PV.ref (qd.st ++ (T ++ [SObj.lst (rc.map er)])).length, (qd.st ++ (T ++ [SObj.lst (rc.map er)])) ++ [SObj.lst ((lawT n rc).map er)]) = _
    rw [hlen2, List.append_assoc, List.append_assoc]
theorem r_lcode (k : Nat) (T : Sto) {q : Qs} (hq : q.ok) {most : Nat} (h1 : 1 ≤ most) (hm : most ≤ 90) :
    ∃ (n : Nat) (rows : List Row) (q' : Qs), 1 ≤ n ∧ n ≤ most ∧ Bas n rows ∧ run ds 100 (k + 5) 27 [.ref 2, .int most] (q.st ++ T) = some (code n rows, q'.st ++ T) ∧ q'.ok := by
  obtain ⟨r, q1, hr1, hlt1, hq1⟩ := pick (k + 3) T hq (show most ≤ 1000000 by omega) h1
  have hcast : (1 : Int) + (r : Int) = ((1 + r : Nat) : Int) := by omega
  obtain ⟨n, hn⟩ : ∃ n, n = 1 + r := ⟨_, rfl⟩
  rw [← hn] at hcast
  obtain ⟨r2, q2, hr2, hlt2, hq2⟩ := pick (k + 3) T hq1 (show n + 1 ≤ 1000000 by omega) (by omega)
  obtain ⟨r3, q3, hr3, hlt3, hq3⟩ := pick (k + 3) T hq2 (show n + 1 ≤ 1000000 by omega) (by omega)
  have hdv : (n : Int).fdiv 2 = ((n / 2 : Nat) : Int) := by
    rw [Int.fdiv_eq_ediv_of_nonneg _ (by omega)]; omega
  obtain ⟨x, q4, hx, hr4, hq4⟩ := r_of (k + 2) T hq3 (xs := [.int (0 : Nat), .int n, .int r2, .int r3, .int (n / 2 : Nat)]) (by simp) (by simp) (by
    intro x hx
    simp only [List.mem_cons, List.not_mem_nil, or_false] at hx
    rcases hx with rfl | rfl | rfl | rfl | rfl <;> exact no_int _)
  obtain ⟨k0, rfl, hk0⟩ : ∃ k0 : Nat, x = .int k0 ∧ k0 ≤ n := by
    simp only [List.mem_cons, List.not_mem_nil, or_false] at hx
    rcases hx with rfl | rfl | rfl | rfl | rfl
    · exact ⟨0, rfl, by omega⟩
    · exact ⟨n, rfl, by omega⟩
    · exact ⟨r2, rfl, by omega⟩
    · exact ⟨r3, rfl, by omega⟩
    · exact ⟨n / 2, rfl, by omega⟩
  obtain ⟨rows, q5, hb, hr5, hq5⟩ := r_lbase k T hq4 (n := n) (k0 := k0) (by omega) (by omega) (by omega)
  refine ⟨n, rows, q5, by omega, by omega, hb, ?_, hq5⟩
  have hle := hb.le
  have g1 : opF false .Add (.int 1) (.int (r : Nat)) (q1.st ++ T) = some (.int n, q1.st ++ T) := by
    show some (PV.int (1 + (r : Int)), _) = _
    rw [hcast]
  have g2 : ∀ S : Sto, opF false .Add (.int n) (.int 1) S = some (.int ((n + 1 : Nat) : Int), S) := fun S => by
    show some (PV.int ((n : Int) + 1), S) = _
    rfl
  have g3 : ∀ S : Sto, opF false .FloorDiv (.int n) (.int 2) S = some (.int ((n / 2 : Nat) : Int), S) := fun S => by
    show (if (2 : Int) ≠ 0 ∧ (2 : Int).natAbs < 1073741824 then some (PV.int ((n : Int).fdiv 2), S) else none) = _
    rw [if_pos ⟨by decide, by decide⟩, hdv]
  have hbody : df27.b.dn (run ds 100 (k + 4)) 100 (q.st ++ T).length (enOf df27 [.ref 2, .int most]) (q.st ++ T) = some (.rt (code n rows) (q5.st ++ T)) :=
    es_seq (es_asg (ee_bin (op := .Add) (m := false) ee_con (ee_cal (ea_cons (ee_var rfl) (ea_cons (ee_var rfl) ea_nil)) hr1) g1) rfl)
      (es_seqR (es_ret (ee_tup (ea_cons (ee_var rfl) (ea_cons (ee_cal (ea_cons (ee_var rfl) (ea_cons (ee_var rfl) (ea_cons (ee_cal (ea_cons (ee_var rfl) (ea_cons (ee_lst (m := false) (ea_cons ee_con (ea_cons (ee_var rfl) (ea_cons (ee_cal (ea_cons (ee_var rfl) (ea_cons (ee_bin (op := .Add) (m := false) (ee_var rfl) ee_con (g2 _)) ea_nil)) hr2) (ea_cons (ee_cal (ea_cons (ee_var rfl) (ea_cons (ee_bin (op := .Add) (m := false) (ee_var rfl) ee_con (g2 _)) ea_nil)) hr3) (ea_cons (ee_bin (op := .FloorDiv) (m := false) (ee_var rfl) ee_con (g3 _)) ea_nil))))) (lim_ok (by simp))) ea_nil)) hr4) ea_nil))) hr5) ea_nil)) (lim_ok (by simp)))))
  have hno : ltB 0 (code n rows) = true := by
    unfold code
    rw [ltB_tup]
    have := no_ers rows
    simp [no_int, ltB_tup, this]
  rw [run_rt (d := df27) rfl rfl rfl hbody hno, Qs.len]
theorem r_lsome (k : Nat) (T : Sto) {q : Qs} (hq : q.ok) {n : Nat} {rows : List Row} (h1 : 1 ≤ n) (hn : n ≤ 100) (hr : Len n rows) :
    ∃ (row : Row) (q' : Qs), row.length = n ∧ run ds 100 (k + 2) 28 [.ref 2, code n rows] (q.st ++ T) = some (er row, q'.st ++ T) ∧ q'.ok := by
  obtain ⟨en', S', h, ⟨q', f, y3, rfl, rfl, hf, hq'⟩⟩ := es_forM (R := run ds 100 (k + 1)) (W := 100) (tp := (q.st ++ T).length) (it := .seq (.idx (.var 1) (.con (.int 1)))) (tg := [3]) (one := true) (J := .seq (.tup (rows.map er))) (l := rows)
    (s := .seq (.asg [2] true (.ite (.cmp .Eq (.cal 20 (.cons (.var 0) (.cons (.con (.int 2)) .nil))) (.con (.int 0))) (.cal 23 (.cons (.var 2) (.cons (.var 3) .nil))) (.var 2))) .nop)
    (en := [some (.ref 2), some (code n rows), some (er (List.replicate n false)), none]) (S := q.st ++ T) (S1 := q.st ++ T) er
    (fun i e S => ∃ (q' : Qs) (f : Row) (y3 : Option PV), e = [some (.ref 2), some (code n rows), some (er f), y3] ∧ S = q'.st ++ T ∧ f.length = n ∧ q'.ok)
    (ei_seq (ee_idx (ee_var rfl) ee_con (idx_tup (j := 1) rfl)) rfl) rfl (fun i e S h => its_seq rfl) ⟨q, _, none, rfl, rfl, by simp, hq⟩
    (fun i a e S hi hI => by
      obtain ⟨q', f, y3, rfl, rfl, hf, hq'⟩ := hI
      have ha : a.length = n := hr a (List.mem_of_getElem? hi)
      obtain ⟨r, q2, h, h2, h3⟩ := pick k T hq' (many := 2) (by omega) (by omega)
      have he := (eq_int .Eq (r : Int) 0 (q2.st ++ T)).1
      cases hc : decide ((r : Int) = 0) with
      | true =>
        rw [hc] at he
        exact ⟨_, _, _, rfl, es_seq (es_asg (ee_ite (k := true) (et_cmp (ee_cal (ea_cons (ee_var rfl) (ea_cons ee_con ea_nil)) h) ee_con he) (fun _ => ee_cal (ea_cons (ee_var rfl) (ea_cons (ee_var rfl) ea_nil)) (r_lsum k _ (by rw [hf, ha]) (by omega))) fun z => by cases z) rfl) es_nop, q2, xr f a, some (er a), rfl, rfl, by rw [xr_len (by rw [hf, ha]), hf], h3⟩
      | false =>
        rw [hc] at he
        exact ⟨_, _, _, rfl, es_seq (es_asg (ee_ite (v := er f) (k := false) (et_cmp (ee_cal (ea_cons (ee_var rfl) (ea_cons ee_con ea_nil)) h) ee_con he) (fun z => by cases z) fun _ => ee_var rfl) rfl) es_nop, q2, f, some (er a), rfl, rfl, hf, h3⟩)
  refine ⟨f, q', hf, ?_, hq'⟩
  have hbody : df28.b.dn (run ds 100 (k + 1)) 100 (q.st ++ T).length (enOf df28 [.ref 2, code n rows]) (q.st ++ T) = some (.rt (er f) (q'.st ++ T)) :=
    es_seq (es_asg (ee_bin (op := .Mult) (m := false) (ee_tup (ea_cons ee_con ea_nil) (lim_ok (by simp))) (ee_idx (ee_var rfl) ee_con (idx_tup (j := 0) rfl)) (zeros1 false _ h1 (by omega))) rfl) (es_seq h (es_seqR (es_ret (ee_var rfl))))
  rw [run_rt (d := df28) rfl rfl rfl hbody (no_er _), Qs.len]
end Ev
namespace Ev
open PySem PySem.Spec PyProof.Rows L2

/-! ### the source -/
theorem ee_dct {R : Orc} {tp : Nat} {m : Bool} {ks : List Str} {as : MA} {en : En} {S S1 S2 : Sto} {vs : List PV} {u : PV} (h : EA R tp as en S vs S1) (hl : ks.length = vs.length) (h2 : mkD m ((kvsOf ks vs).foldl (fun acc kv => putP acc kv.1 kv.2) []) S1 = some (u, S2)) : EE R tp (.dct m ks as) en S u S2 := by
  simp only [EE, ME.dn, D2.of, dctD]
  exact bnd_of h (by simp only [Dn.lft, if_pos hl, h2])
def absI (i : Int) : Int := if i < 0 then -i else i
theorem r_source (k : Nat) {ns : List Int} (hn : ns.length ≤ 63) : ∃ q : Qs, q.ok ∧ run ds 100 (k + 1) 19 [.scr ns] [] = some (.ref 2, q.st ++ []) := by
  obtain ⟨en', S', h, ⟨m, y2, rfl, rfl⟩⟩ := es_forM (R := run ds 100 k) (W := 100) (tp := 0) (it := .seq (.var 0)) (tg := [2]) (one := true) (J := .seq (.scr ns)) (l := ns)
    (s := .seq (.asg [1] true (.bin .Mod true (.blt .int (.cons (.bin .Add true (.bin .Add true (.bin .Mult true (.var 1) (.con (.int 69069))) (.bin .Mult true (.var 2) (.con (.int 31)))) (.con (.int 5))) .nil)) (.con (.int 2147483629)))) .nop)
    (en := [some (.scr ns), some (.int 11), none]) (S := []) (S1 := []) PV.int
    (fun i e S => ∃ (m : Int) (y2 : Option PV), e = [some (.scr ns), some (.int m), y2] ∧ S = [])
    (ei_seq (ee_var rfl) rfl) rfl (fun i e S h => its_seq rfl) ⟨11, none, rfl, rfl⟩
    (fun i c e S hi hI => by
      obtain ⟨m, y2, rfl, rfl⟩ := hI
      have mul1 : ∀ (i : Int) (j : Int) (S : Sto), j.natAbs < 2 ^ 64 → opF true .Mult (.int i) (.int j) S = some (.int (i * j), S) := fun i j S h => by
        show (if i.natAbs < 2 ^ 64 ∨ j.natAbs < 2 ^ 64 then some (PV.int (i * j), S) else none) = _
        rw [if_pos (Or.inr h)]
      have mod1 : ∀ (i : Int) (S : Sto), opF true .Mod (.int i) (.int 2147483629) S = some (.int (i.fmod 2147483629), S) := fun i S => by
        show (if (2147483629 : Int) ≠ 0 then some (PV.int (i.fmod 2147483629), S) else none) = _
        rw [if_pos (by decide)]
      exact ⟨_, _, _, rfl, es_seq (es_asg (ee_bin (op := .Mod) (m := true) (ee_blt (f := .int) (ea_cons (ee_bin (op := .Add) (m := true) (ee_bin (op := .Add) (m := true) (ee_bin (op := .Mult) (m := true) (ee_var rfl) ee_con (mul1 _ _ _ (by decide))) (ee_bin (op := .Mult) (m := true) (ee_var rfl) ee_con (mul1 _ _ _ (by decide))) rfl) ee_con rfl) ea_nil) rfl) ee_con (mod1 _ _)) rfl) es_nop, _, some (.int c), rfl, rfl⟩)
  have hlc := ee_lcN (R := run ds 100 k) (tp := 0) (m := true) (one := true) (tg := [2]) (us := [2]) (it := .seq (.var 0)) (e := .blt .abs (.cons (.var 2) .nil)) (en := [some (.scr ns), some (.int m), y2]) (S := []) (S1 := []) (J := .seq (.scr ns)) (l := ns) PV.int (fun i => .int (absI i))
    (ei_seq (ee_var rfl) rfl) rfl (its_seq rfl) (by omega) (fun i hi => ⟨_, rfl, ee_blt (f := .abs) (ea_cons (ee_var rfl) ea_nil) rfl⟩)
  refine ⟨⟨(ns.map absI).map .int, (ns.map absI).reverse, 1, m, 0⟩, by show ((ns.map absI).reverse).length ≤ 63; simpa using hn, ?_⟩
  have hbody : df19.b.dn (run ds 100 k) 100 0 (enOf df19 [.scr ns]) [] = some (.rt (.ref 2) (Qs.st ⟨(ns.map absI).map .int, (ns.map absI).reverse, 1, m, 0⟩)) := by
    refine es_seq (es_asg ee_con rfl) (es_seq h (es_seqR (es_ret (ee_dct (ea_cons (ee_rev (m := true) hlc (u := .ref 1) (S2 := [.lst ((ns.map absI).map .int), .lst (((ns.map absI).reverse).map .int)]) ?_) (ea_cons ee_con (ea_cons (ee_var rfl) (ea_cons ee_con ea_nil)))) rfl ?_))))
    · have : ns.map (fun i => PV.int (absI i)) = (ns.map absI).map .int := by rw [List.map_map]; rfl
      rw [this]
      show some (PV.ref 1, [SObj.lst ((ns.map absI).map .int), SObj.lst ((ns.map absI).map PV.int).reverse]) = _
      rw [← List.map_reverse]
    · rfl
  rw [run_eq (d := df19) rfl]
  unfold runF
  rw [if_pos (show [PV.scr ns].length = df19.ps from rfl)]
  rw [show ([] : Sto).length = 0 from rfl, hbody, List.append_nil]
  rfl

/-! ### the values that are bent -/
def wrds : List Str := ["a", "in", "out", "row", "none", "place", "base", "even", "form"]
mutual
def gd (B : Nat) : PV → Bool
  | .ref _ => false | .scr _ => false
  | .tup xs => gds B xs
  | .lst xs => gds B xs
  | .int i => decide (i.natAbs ≤ B)
  | .str s => wrds.contains s
  | .non => true | .bl _ => true | .edct => true
def gds (B : Nat) : List PV → Bool
  | [] => true
  | x :: r => gd B x && gds B r
end
mutual
def dpt : PV → Nat
  | .tup xs => 1 + dpts xs
  | .lst xs => 1 + dpts xs
  | _ => 0
def dpts : List PV → Nat
  | [] => 0
  | x :: r => max (dpt x) (dpts r)
end
theorem gds_all {B : Nat} : ∀ {xs : List PV}, gds B xs = true ↔ ∀ x ∈ xs, gd B x = true
  | [] => by simp [gds]
  | y :: r => by
    rw [gds, Bool.and_eq_true, gds_all (xs := r)]
    simp
theorem dpts_le {d : Nat} : ∀ {xs : List PV}, dpts xs ≤ d ↔ ∀ x ∈ xs, dpt x ≤ d
  | [] => by simp [dpts]
  | y :: r => by
    rw [dpts, Nat.max_le, dpts_le (xs := r)]
    simp
theorem szs_append (xs ys : List PV) : szs (xs ++ ys) = szs xs + szs ys := by
  induction xs with
  | nil => simp [szs]
  | cons a r ih => rw [List.cons_append, szs, szs, ih]; omega
mutual
theorem gd_pl {B : Nat} : ∀ {v : PV}, gd B v = true → pl v = true
  | .tup xs, h => by rw [gd] at h; rw [pl]; exact gds_pl h
  | .lst xs, h => by rw [gd] at h; rw [pl]; exact gds_pl h
  | .non, _ => by rw [pl]
  | .bl _, _ => by rw [pl]
  | .int _, _ => by rw [pl]
  | .str _, _ => by rw [pl]
  | .edct, _ => by rw [pl]
  | .ref _, h => by rw [gd] at h; cases h
  | .scr _, h => by rw [gd] at h; cases h
theorem gds_pl {B : Nat} : ∀ {xs : List PV}, gds B xs = true → pls xs = true
  | [], _ => by rw [pls]
  | x :: r, h => by
    rw [gds, Bool.and_eq_true] at h
    rw [pls, gd_pl h.1, gds_pl h.2]; rfl
end
mutual
theorem pl_lt : ∀ {v : PV}, pl v = true → ltB 0 v = true
  | .tup xs, h => by rw [pl] at h; rw [ltB_tup]; exact pls_lt h
  | .lst xs, h => by rw [pl] at h; rw [ltB_lst]; exact pls_lt h
  | .non, _ => no_non
  | .bl _, _ => no_bl _
  | .int _, _ => no_int _
  | .str _, _ => no_str _
  | .edct, _ => by simp [ltB]
  | .ref _, h => by rw [pl] at h; cases h
  | .scr _, h => by rw [pl] at h; cases h
theorem pls_lt : ∀ {xs : List PV}, pls xs = true → xs.all (ltB 0) = true
  | [], _ => rfl
  | x :: r, h => by
    rw [pls, Bool.and_eq_true] at h
    rw [List.all_cons, pl_lt h.1, pls_lt h.2]; rfl
end
end Ev
namespace Ev
open PySem PySem.Spec PyProof.Rows L2

/-! ### bent values -/
structure Gv (B d s : Nat) (v : PV) : Prop where
  g : gd B v = true
  d : dpt v ≤ d
  s : sz v ≤ s
mutual
theorem gd_mono {B C : Nat} (h : B ≤ C) : ∀ {v : PV}, gd B v = true → gd C v = true
  | .tup xs, e => by rw [gd] at e ⊢; exact gds_mono h e
  | .lst xs, e => by rw [gd] at e ⊢; exact gds_mono h e
  | .int i, e => by rw [gd, decide_eq_true_eq] at e ⊢; omega
  | .non, _ => by rw [gd]
  | .bl _, _ => by rw [gd]
  | .str _, e => by rw [gd] at e ⊢; exact e
  | .edct, _ => by rw [gd]
  | .ref _, e => by rw [gd] at e; cases e
  | .scr _, e => by rw [gd] at e; cases e
theorem gds_mono {B C : Nat} (h : B ≤ C) : ∀ {xs : List PV}, gds B xs = true → gds C xs = true
  | [], _ => by rw [gds]
  | x :: r, e => by
    rw [gds, Bool.and_eq_true] at e
    rw [gds, gd_mono h e.1, gds_mono h e.2]; rfl
end
def oddV : List PV := [.non, .int 0, .int 1, .int 2, .bl true, .int (-1), .int 9, .str "a", .str "in", .str "out", .str "row", .str "none", .tup [], .tup [.int 0], .tup [.int 1, .int 0], .tup [.int 0, .int 1], .lst [], .edct, .tup [.tup [.int 0, .int 1]]]
def oddM : ME := (.lst false (.cons (.con .non) (.cons (.con (.int 0)) (.cons (.con (.int 1)) (.cons (.con (.int 2)) (.cons (.con (.bl true)) (.cons (.neg (.con (.int 1))) (.cons (.con (.int 9)) (.cons (.con (.str "a")) (.cons (.con (.str "in")) (.cons (.con (.str "out")) (.cons (.con (.str "row")) (.cons (.con (.str "none")) (.cons (.tup .nil) (.cons (.tup (.cons (.con (.int 0)) .nil)) (.cons (.tup (.cons (.con (.int 1)) (.cons (.con (.int 0)) .nil))) (.cons (.tup (.cons (.con (.int 0)) (.cons (.con (.int 1)) .nil))) (.cons (.lst false .nil) (.cons (.emp false) (.cons (.tup (.cons (.tup (.cons (.con (.int 0)) (.cons (.con (.int 1)) .nil))) .nil)) .nil))))))))))))))))))))
theorem ee_odd {R : Orc} {tp : Nat} {en : En} {S : Sto} : EE R tp oddM en S (.lst oddV) S :=
  ee_lst (m := false) (ea_cons ee_con (ea_cons ee_con (ea_cons ee_con (ea_cons ee_con (ea_cons ee_con (ea_cons (ee_neg ee_con) (ea_cons ee_con (ea_cons ee_con (ea_cons ee_con (ea_cons ee_con (ea_cons ee_con (ea_cons ee_con (ea_cons (ee_tup ea_nil (lim_ok (by simp))) (ea_cons (ee_tup (ea_cons ee_con ea_nil) (lim_ok (by simp))) (ea_cons (ee_tup (ea_cons ee_con (ea_cons ee_con ea_nil)) (lim_ok (by simp))) (ea_cons (ee_tup (ea_cons ee_con (ea_cons ee_con ea_nil)) (lim_ok (by simp))) (ea_cons (ee_lst (m := false) ea_nil (lim_ok (by simp))) (ea_cons ee_emp (ea_cons (ee_tup (ea_cons (ee_tup (ea_cons ee_con (ea_cons ee_con ea_nil)) (lim_ok (by simp))) ea_nil) (lim_ok (by simp))) ea_nil))))))))))))))))))) (lim_ok (by simp [oddV]))
theorem odd_ok {x : PV} (h : x ∈ oddV) : Gv 9 2 4 x := by
  simp only [oddV, List.mem_cons, List.not_mem_nil, or_false] at h
  rcases h with rfl | rfl | rfl | rfl | rfl | rfl | rfl | rfl | rfl | rfl | rfl | rfl | rfl | rfl | rfl | rfl | rfl | rfl | rfl <;> exact ⟨by first | rfl | decide | (simp [gd, gds, wrds]; done) | (simp [gd, gds, wrds]; decide), by first | decide | (simp [dpt, dpts]; done), by first | decide | (simp [sz, szs]; done)⟩
theorem cut_mem {xs : List PV} {lo hi : Option Int} {x : PV} (h : x ∈ cutP xs lo hi) : x ∈ xs := List.mem_of_mem_drop (List.mem_of_mem_take h)
theorem szs_split (xs : List PV) (i : Nat) : szs (xs.take i) + szs (xs.drop i) = szs xs := by
  rw [← szs_append, List.take_append_drop]
theorem szs_cut (xs : List PV) (lo hi : Option Int) : szs (cutP xs lo hi) ≤ szs xs := by
  unfold cutP
  have h1 := szs_split xs (HT.sIx xs.length 0 lo)
  have h2 := szs_split (xs.drop (HT.sIx xs.length 0 lo)) (HT.sIx xs.length xs.length hi - HT.sIx xs.length 0 lo)
  omega
theorem szs_rev (xs : List PV) : szs xs.reverse = szs xs := by
  induction xs with
  | nil => rfl
  | cons a r ih => rw [List.reverse_cons, szs_append, ih, szs, szs, szs]; omega
theorem gv_seq {B d s : Nat} {xs ys : List PV} (h : Gv B (d + 1) s (.tup xs)) (hm : ∀ y ∈ ys, y ∈ xs ∨ y = .int 0) : gds B ys = true ∧ dpts ys ≤ d := by
  have h1 := h.g
  have h2 := h.d
  rw [gd] at h1
  rw [dpt] at h2
  have h3 : dpts xs ≤ d := by omega
  rw [gds_all] at h1
  rw [dpts_le] at h3
  rw [gds_all, dpts_le]
  refine ⟨fun y hy => ?_, fun y hy => ?_⟩
  · rcases hm y hy with h | rfl
    · exact h1 y h
    · simp [gd]
  · rcases hm y hy with h | rfl
    · exact h3 y h
    · simp [dpt]
end Ev
namespace Ev
open PySem PySem.Spec PyProof.Rows L2

theorem slc_take {xs : List PV} {k : Nat} (S : Sto) (h : k ≤ xs.length) : pSlice false none (some (k : Int)) (.tup xs) S = some (.tup (xs.take k), S) := by
  show some (PV.tup (cutP xs none (some (k : Int))), S) = _
  unfold cutP
  rw [HT.sIx_none, HT.sIx_nat, Nat.min_eq_left h]
  simp
theorem slc_drop {xs : List PV} {k : Nat} (S : Sto) (h : k ≤ xs.length) : pSlice false (some (k : Int)) none (.tup xs) S = some (.tup (xs.drop k), S) := by
  show some (PV.tup (cutP xs (some (k : Int)) none), S) = _
  unfold cutP
  rw [HT.sIx_none, HT.sIx_nat, Nat.min_eq_left h, List.take_of_length_le (by simp)]
theorem add_tup (xs ys : List PV) (S : Sto) (h : xs.length + ys.length ≤ 1000000) : opF false .Add (.tup xs) (.tup ys) S = some (.tup (xs ++ ys), S) := by
  show (if xs.length + ys.length ≤ sizeLine then some (PV.tup (xs ++ ys), S) else none) = _
  rw [if_pos (lim_ok h)]
def L6 (xs : List PV) : List PV := [.tup (cutP xs (some 1) none), .tup (cutP xs none (some (-1))), .tup (xs ++ cutP xs none (some 1)), .lst xs, .tup xs.reverse, .tup (xs ++ [.int 0])]
theorem gv6 {B : Nat} {xs : List PV} (h : gd B (.tup xs) = true) : ∀ y ∈ L6 xs, gd B y = true ∧ dpt y ≤ dpt (.tup xs) ∧ sz y ≤ 2 * sz (.tup xs) + 10 := fun y hy => by
  have hv : Gv B (dpts xs + 1) (sz (.tup xs)) (.tup xs) := ⟨h, by rw [dpt]; omega, Nat.le_refl _⟩
  have key : ∀ ys : List PV, (∀ y ∈ ys, y ∈ xs ∨ y = .int 0) → szs ys ≤ 2 * szs xs + 5 → (gd B (.tup ys) = true ∧ dpt (.tup ys) ≤ dpt (.tup xs) ∧ sz (.tup ys) ≤ 2 * sz (.tup xs) + 10) ∧ (gd B (.lst ys) = true ∧ dpt (.lst ys) ≤ dpt (.tup xs) ∧ sz (.lst ys) ≤ 2 * sz (.tup xs) + 10) := fun ys hm hz => by
    obtain ⟨g1, g2⟩ := gv_seq hv hm
    simp only [gd, dpt, sz]
    exact ⟨⟨g1, by omega, by omega⟩, g1, by omega, by omega⟩
  have c := fun lo hi => szs_cut xs lo hi
  simp only [L6, List.mem_cons, List.not_mem_nil, or_false] at hy
  rcases hy with rfl | rfl | rfl | rfl | rfl | rfl
  · exact (key _ (fun y h => .inl (cut_mem h)) (by have := c (some 1) none; omega)).1
  · exact (key _ (fun y h => .inl (cut_mem h)) (by have := c none (some (-1)); omega)).1
  · refine (key _ (fun y h => ?_) (by rw [szs_append]; have := c none (some 1); omega)).1
    rcases List.mem_append.mp h with h | h
    · exact .inl h
    · exact .inl (cut_mem h)
  · exact (key _ (fun y h => .inl h) (by omega)).2
  · exact (key _ (fun y h => .inl (List.mem_reverse.mp h)) (by rw [szs_rev]; omega)).1
  · refine (key _ (fun y h => ?_) (by rw [szs_append]; simp [szs, sz]; omega)).1
    rcases List.mem_append.mp h with h | h
    · exact .inl h
    · exact .inr (List.mem_singleton.mp h)
def sA : MS := (.seq (.asg [3] true (.lst false (.cons (.cal 21 (.cons (.var 0) (.cons (.var 2) .nil))) .nil))) (.seq (.ifS (.isi "tuple" (.var 1)) (.seq (.asg [3] true (.bin .Add false (.var 3) (.lst false (.cons (.slc false (.var 1) (.so (.con (.int 1))) .no) (.cons (.slc false (.var 1) .no (.so (.neg (.con (.int 1))))) (.cons (.bin .Add false (.var 1) (.slc false (.var 1) .no (.so (.con (.int 1))))) (.cons (.blt (.lst false) (.cons (.var 1) .nil)) (.cons (.rev false (.var 1)) (.cons (.bin .Add false (.var 1) (.tup (.cons (.con (.int 0)) .nil))) .nil))))))))) .nop) .nop) (.seq (.ret (.cal 21 (.cons (.var 0) (.cons (.var 3) .nil)))) .nop)))
/-- what a bent value keeps -/
def Bn' (B : Nat) (v w : PV) : Prop := gd (B + 1) w = true ∧ dpt w ≤ dpt v + 2 ∧ sz w ≤ 2 * sz v + 10
theorem bentA (k : Nat) (T : Sto) {tp : Nat} {q : Qs} (hq : q.ok) {B : Nat} (hB : 9 ≤ B) {v : PV} (hv : gd B v = true) (hz : sz v ≤ 10000) :
    ∃ (w : PV) (q' : Qs), Bn' B v w ∧ ES (run ds 100 (k + 2)) 100 tp sA [some (.ref 2), some v, some (.lst oddV), none, none, none] (q.st ++ T) (.rt w (q'.st ++ T)) ∧ q'.ok := by
  obtain ⟨x, q1, hx, hr1, hq1⟩ := r_of k T hq (xs := oddV) (by simp [oddV]) (by simp [oddV]) (fun x hx => pl_lt (gd_pl (odd_ok hx).g))
  have ho := odd_ok hx
  have hx' : Bn' B v x := ⟨gd_mono (by omega) ho.g, by have := ho.d; omega, by have := ho.s; omega⟩
  have hi := isi_tup (pl_no (gd_pl hv)) (q1.st ++ T)
  have hasg : EE (run ds 100 (k + 2)) tp (.lst false (.cons (.cal 21 (.cons (.var 0) (.cons (.var 2) .nil))) .nil)) [some (.ref 2), some v, some (.lst oddV), none, none, none] (q.st ++ T) (.lst [x]) (q1.st ++ T) :=
    ee_lst (m := false) (ea_cons (ee_cal (ea_cons (ee_var rfl) (ea_cons (ee_var rfl) ea_nil)) hr1) ea_nil) (lim_ok (by simp))
  cases ht : isTupB v with
  | false =>
    rw [ht] at hi
    obtain ⟨w, q2, hw, hr2, hq2⟩ := r_of k T hq1 (xs := [x]) (by simp) (by simp) (fun y hy => by rw [List.mem_singleton.mp hy]; exact pl_lt (gd_pl ho.g))
    rw [List.mem_singleton.mp hw] at hr2
    exact ⟨x, q2, hx', es_seq (es_asg hasg rfl) (es_seq (es_if (k := false) (et_val rfl (ee_isi (ee_var rfl) hi) rfl) (fun z => by cases z) fun _ => es_nop) (es_seqR (es_ret (ee_cal (ea_cons (ee_var rfl) (ea_cons (ee_var rfl) ea_nil)) hr2)))), hq2⟩
  | true =>
    rw [ht] at hi
    cases v <;> first | (cases ht; done) | skip
    rename_i xs
    have hxl := szs_len xs
    rw [sz] at hz
    have h6 := gv6 hv
    have hcl : (cutP xs none (some 1)).length ≤ xs.length := by unfold cutP; rw [List.length_take, List.length_drop]; omega
    obtain ⟨w, q2, hw, hr2, hq2⟩ := r_of k T hq1 (xs := [x] ++ L6 xs) (by simp) (by simp [L6]) (fun y hy => by
      rcases List.mem_append.mp hy with h | h
      · rw [List.mem_singleton.mp h]; exact pl_lt (gd_pl ho.g)
      · exact pl_lt (gd_pl (h6 y h).1))
    have hw' : Bn' B (.tup xs) w := by
      rcases List.mem_append.mp hw with h | h
      · rw [List.mem_singleton.mp h]; exact hx'
      · obtain ⟨g1, g2, g3⟩ := h6 w h
        exact ⟨gd_mono (by omega) g1, by omega, g3⟩
    refine ⟨w, q2, hw', es_seq (es_asg hasg rfl) (es_seq (es_if (k := true) (et_val rfl (ee_isi (ee_var rfl) hi) rfl) (fun _ => es_seq (es_asg (v := .lst ([x] ++ L6 xs)) (S1 := q1.st ++ T) ?_ rfl) es_nop) fun z => by cases z) (es_seqR (es_ret (ee_cal (ea_cons (ee_var rfl) (ea_cons (ee_var rfl) ea_nil)) hr2)))), hq2⟩
    exact ee_bin (op := .Add) (m := false) (ee_var rfl) (ee_lst (m := false) (ea_cons (ee_slc (m := false) (ee_var rfl) (eo_so ee_con) eo_no rfl) (ea_cons (ee_slc (m := false) (ee_var rfl) eo_no (eo_so (ee_neg ee_con)) rfl) (ea_cons (ee_bin (op := .Add) (m := false) (ee_var rfl) (ee_slc (m := false) (ee_var rfl) eo_no (eo_so ee_con) rfl) (add_tup _ _ _ (by omega))) (ea_cons (ee_blt (f := (.lst false)) (ea_cons (ee_var rfl) ea_nil) rfl) (ea_cons (ee_rev (m := false) (ee_var rfl) rfl) (ea_cons (ee_bin (op := .Add) (m := false) (ee_var rfl) (ee_tup (ea_cons ee_con ea_nil) (lim_ok (by simp))) (add_tup _ _ _ (by simp; omega))) ea_nil)))))) (lim_ok (by simp))) (cat_lst [x] (L6 xs) (q1.st ++ T) (by simp [L6]))
end Ev
namespace Ev
open PySem PySem.Spec PyProof.Rows L2

theorem Bn'.no {B : Nat} {v w : PV} (h : Bn' B v w) : ltB 0 w = true := pl_lt (gd_pl h.1)
theorem eq_nil (xs : List PV) (S : Sto) : pCmp .Eq (.tup xs) (.tup []) S = some xs.isEmpty := by
  show eqPV S (.tup xs) (.tup []) = _
  unfold eqPV
  rfl
theorem szs_at {xs : List PV} {i : Nat} (h : i < xs.length) : szs (xs.take i) + sz xs[i] + szs (xs.drop (i + 1)) = szs xs := by
  have h1 := szs_split xs i
  rw [List.drop_eq_getElem_cons h, szs] at h1
  omega
/-- one part for another -/
theorem bn_part {B : Nat} {xs ys : List PV} {i : Nat} (hi : i < xs.length) (hv : gd B (.tup xs) = true) (h : ∀ y ∈ ys, gd (B + 1) y = true ∧ dpt y ≤ dpt xs[i] + 2) (hz : szs ys ≤ 2 * sz xs[i] + 10) : Bn' B (.tup xs) (.tup (xs.take i ++ ys ++ xs.drop (i + 1))) := by
  have h1 := gd_mono (Nat.le_succ B) hv
  rw [gd, gds_all] at h1
  have h2 : ∀ x ∈ xs, dpt x ≤ dpts xs := dpts_le.mp (Nat.le_refl _)
  have hs := szs_at hi
  have h3 := h2 _ (List.getElem_mem hi)
  refine ⟨?_, ?_, ?_⟩
  · rw [gd, gds_all]
    intro y hy
    rcases List.mem_append.mp hy with hy | hy
    · rcases List.mem_append.mp hy with hy | hy
      · exact h1 y (List.mem_of_mem_take hy)
      · exact (h y hy).1
    · exact h1 y (List.mem_of_mem_drop hy)
  · rw [dpt, dpt]
    have : dpts (xs.take i ++ ys ++ xs.drop (i + 1)) ≤ dpts xs + 2 := by
      rw [dpts_le]
      intro y hy
      rcases List.mem_append.mp hy with hy | hy
      · rcases List.mem_append.mp hy with hy | hy
        · have := h2 y (List.mem_of_mem_take hy); omega
        · have := (h y hy).2; omega
      · have := h2 y (List.mem_of_mem_drop hy); omega
    omega
  · rw [sz, sz, szs_append, szs_append]
    omega
theorem bent_step (m : Nat) (T : Sto) {q : Qs} (hq : q.ok) {B : Nat} (hB : 9 ≤ B) {v : PV} (hv : gd B v = true) (hz : sz v ≤ 10000)
    (rec : ∀ xs, v = .tup xs → ∀ x ∈ xs, ∀ q : Qs, q.ok → ∃ (w : PV) (q' : Qs), Bn' B x w ∧ run ds 100 (m + 2) 37 [.ref 2, x] (q.st ++ T) = some (w, q'.st ++ T) ∧ q'.ok) :
    ∃ (w : PV) (q' : Qs), Bn' B v w ∧ run ds 100 (m + 3) 37 [.ref 2, v] (q.st ++ T) = some (w, q'.st ++ T) ∧ q'.ok := by
  suffices hb : ∃ (w : PV) (q' : Qs), Bn' B v w ∧ df37.b.dn (run ds 100 (m + 2)) 100 (q.st ++ T).length (enOf df37 [.ref 2, v]) (q.st ++ T) = some (.rt w (q'.st ++ T)) ∧ q'.ok by
    obtain ⟨w, q', hw, hb, hq'⟩ := hb
    exact ⟨w, q', hw, by rw [run_rt (d := df37) rfl rfl rfl hb hw.no, Qs.len], hq'⟩
  generalize (q.st ++ T).length = tp
  have hst : ∀ {r : SR}, ES (run ds 100 (m + 2)) 100 tp _ [some (.ref 2), some v, some (.lst oddV), none, none, none] (q.st ++ T) r → ES (run ds 100 (m + 2)) 100 tp bd37 (enOf df37 [.ref 2, v]) (q.st ++ T) r := fun h => es_seq (es_asg ee_odd rfl) h
  have hi := isi_tup (pl_no (gd_pl hv)) (q.st ++ T)
  have hni : ET (run ds 100 (m + 2)) tp (.not (.isi "tuple" (.var 1))) [some (.ref 2), some v, some (.lst oddV), none, none, none] (q.st ++ T) (!isTupB v) (q.st ++ T) := et_not (tv rfl (ee_isi (ee_var rfl) hi))
  cases ht : isTupB v with
  | false =>
    obtain ⟨w, q2, hw, he, hq2⟩ := bentA (tp := tp) m T hq hB hv hz
    rw [ht] at hni
    exact ⟨w, q2, hw, hst (es_seqR (es_if (k := true) (et_or (k := true) (hni) (fun z => by cases z) fun _ => ⟨rfl, rfl⟩) (fun _ => he) fun z => by cases z)), hq2⟩
  | true =>
    rw [ht] at hni
    cases v <;> first | (cases ht; done) | skip
    rename_i xs
    have hnil := eq_nil xs (q.st ++ T)
    cases hx : xs.isEmpty with
    | true =>
      rw [hx] at hnil
      obtain ⟨w, q2, hw, he, hq2⟩ := bentA (tp := tp) m T hq hB hv hz
      exact ⟨w, q2, hw, hst (es_seqR (es_if (k := true) (et_or (k := false) (hni) (fun _ => et_or (k := true) (et_cmp (ee_var rfl) (ee_tup ea_nil (lim_ok (by simp))) hnil) (fun z => by cases z) fun _ => ⟨rfl, rfl⟩) fun z => by cases z) (fun _ => he) fun z => by cases z)), hq2⟩
    | false =>
      rw [hx] at hnil
      obtain ⟨r, q1, hr1, -, hq1⟩ := pick (m + 1) T hq (many := 4) (by omega) (by omega)
      have hr0 := (eq_int .Eq (r : Int) 0 (q1.st ++ T)).1
      have htest : ∀ b, decide ((r : Int) = 0) = b → ET (run ds 100 (m + 2)) tp (.or (.not (.isi "tuple" (.var 1))) (.or (.cmp .Eq (.var 1) (.tup .nil)) (.cmp .Eq (.cal 20 (.cons (.var 0) (.cons (.con (.int 4)) .nil))) (.con (.int 0))))) [some (.ref 2), some (.tup xs), some (.lst oddV), none, none, none] (q.st ++ T) b (q1.st ++ T) := fun b hb => by
        rw [hb] at hr0
        exact et_or (k := false) (hni) (fun _ => et_or (k := false) (et_cmp (ee_var rfl) (ee_tup ea_nil (lim_ok (by simp))) hnil) (fun _ => et_cmp (ee_cal (ea_cons (ee_var rfl) (ea_cons ee_con ea_nil)) hr1) ee_con hr0) fun z => by cases z) fun z => by cases z
      cases hc : decide ((r : Int) = 0) with
      | true =>
        obtain ⟨w, q2, hw, he, hq2⟩ := bentA (tp := tp) m T hq1 hB hv hz
        exact ⟨w, q2, hw, hst (es_seqR (es_if (k := true) (htest _ hc) (fun _ => he) fun z => by cases z)), hq2⟩
      | false =>
        have hpos : 1 ≤ xs.length := by cases xs with | nil => cases hx | cons a r => simp
        have hxl := szs_len xs
        have hz2 := hz
        rw [sz] at hz2
        obtain ⟨i, q2, hr2, hil, hq2⟩ := pick (m + 1) T hq1 (many := xs.length) (by omega) hpos
        obtain ⟨wy, q3, hr3, -, hq3⟩ := pick (m + 1) T hq2 (many := 6) (by omega) (by omega)
        have hrest : ∀ {r : SR}, ES (run ds 100 (m + 2)) 100 tp _ [some (.ref 2), some (.tup xs), some (.lst oddV), none, some (.int i), some (.int wy)] (q3.st ++ T) r → ES (run ds 100 (m + 2)) 100 tp bd37 (enOf df37 [.ref 2, .tup xs]) (q.st ++ T) r := fun h =>
          hst (es_seq (es_if (k := false) (htest _ hc) (fun z => by cases z) fun _ => es_nop) (es_seq (es_par (ea_cons (ee_cal (ea_cons (ee_var rfl) (ea_cons (ee_blt (f := .len) (ea_cons (ee_var rfl) ea_nil) rfl) ea_nil)) hr2) (ea_cons (ee_cal (ea_cons (ee_var rfl) (ea_cons ee_con ea_nil)) hr3) ea_nil)) rfl) h))
        have hat : ∀ S : Sto, pIdx (.tup xs) (.int i) S = some (xs[i], S) := fun S => by
          rw [idx_tup (j := i) rfl, List.getElem?_eq_getElem hil]; rfl
        have hgx : gd B xs[i] = true := by
          have h1 := hv
          rw [gd, gds_all] at h1
          exact h1 _ (List.getElem_mem hil)
        have hln := r_lnum (m + 1) (q3.st ++ T) (pl_no (gd_pl hgx))
        have hpl : ∀ S : Sto, opF false .Add (.int i) (.int 1) S = some (.int ((i + 1 : Nat) : Int), S) := fun S => rfl
        have hidx : EE (run ds 100 (m + 2)) tp (.idx (.var 1) (.var 4)) [some (.ref 2), some (.tup xs), some (.lst oddV), none, some (.int i), some (.int wy)] (q3.st ++ T) xs[i] (q3.st ++ T) := ee_idx (ee_var rfl) (ee_var rfl) (hat _)
        have hsl1 : ∀ S : Sto, EE (run ds 100 (m + 2)) tp (.slc false (.var 1) .no (.so (.var 4))) [some (.ref 2), some (.tup xs), some (.lst oddV), none, some (.int i), some (.int wy)] S (.tup (xs.take i)) S := fun S => ee_slc (m := false) (ee_var rfl) eo_no (eo_so (ee_var rfl)) (slc_take S (Nat.le_of_lt hil))
        have hsl2 : ∀ S : Sto, EE (run ds 100 (m + 2)) tp (.slc false (.var 1) (.so (.bin .Add false (.var 4) (.con (.int 1)))) .no) [some (.ref 2), some (.tup xs), some (.lst oddV), none, some (.int i), some (.int wy)] S (.tup (xs.drop (i + 1))) S := fun S => ee_slc (m := false) (ee_var rfl) (eo_so (ee_bin (op := .Add) (m := false) (ee_var rfl) ee_con (hpl S))) eo_no (slc_drop S hil)
        have htl : (xs.take i).length ≤ xs.length := by rw [List.length_take]; omega
        have hdl : (xs.drop (i + 1)).length ≤ xs.length := by rw [List.length_drop]; omega
        have hwy2 : pCmp .Lt (.int wy) (.int 2) (q3.st ++ T) = some (decide ((wy : Int) < 2)) := rfl
        have h31 : EE (run ds 100 (m + 2)) tp (.cal 34 (.cons (.idx (.var 1) (.var 4)) .nil)) [some (.ref 2), some (.tup xs), some (.lst oddV), none, some (.int i), some (.int wy)] (q3.st ++ T) (.bl (isIntB xs[i])) (q3.st ++ T) := ee_cal (ea_cons hidx ea_nil) hln
        have hcond : ET (run ds 100 (m + 2)) tp (.and (.cmp .Lt (.var 5) (.con (.int 2))) (.cal 34 (.cons (.idx (.var 1) (.var 4)) .nil))) [some (.ref 2), some (.tup xs), some (.lst oddV), none, some (.int i), some (.int wy)] (q3.st ++ T) (decide ((wy : Int) < 2) && isIntB xs[i]) (q3.st ++ T) := by
          refine et_and (k := decide ((wy : Int) < 2)) (et_cmp (ee_var rfl) ee_con hwy2) (fun z => ?_) fun z => ⟨by rw [z]; rfl, rfl⟩
          rw [z, Bool.true_and]
          exact tv rfl h31
        cases hcc : decide ((wy : Int) < 2) && isIntB xs[i] with
        | true =>
          rw [hcc] at hcond
          rw [Bool.and_eq_true] at hcc
          obtain ⟨j, hj⟩ : ∃ j, xs[i] = .int j := by
            have h9 := hcc.2
            generalize xs[i] = x at h9
            cases x <;> first | (cases h9; done) | exact ⟨_, rfl⟩
          have hjB : j.natAbs ≤ B := by
            rw [hj, gd, decide_eq_true_eq] at hgx
            exact hgx
          rw [hj] at hidx
          have o1 : ∀ S : Sto, opF false .Sub (.int 1) (.int j) S = some (.int (1 - j), S) := fun S => rfl
          have o2 : ∀ S : Sto, opF false .Add (.int j) (.int 1) S = some (.int (j + 1), S) := fun S => rfl
          have o3 : ∀ S : Sto, opF false .Sub (.int j) (.int 1) S = some (.int (j - 1), S) := fun S => rfl
          obtain ⟨x, q4, hx4, hr4, hq4⟩ := r_of m T hq3 (xs := [.int (1 - j), .int (j + 1), .int (j - 1)]) (by simp) (by simp) (by
            intro x hx
            simp only [List.mem_cons, List.not_mem_nil, or_false] at hx
            rcases hx with rfl | rfl | rfl <;> exact no_int _)
          have hxg : gd (B + 1) x = true ∧ dpt x ≤ dpt xs[i] + 2 ∧ sz x ≤ 4 := by
            simp only [List.mem_cons, List.not_mem_nil, or_false] at hx4
            rcases hx4 with rfl | rfl | rfl
            · exact ⟨by rw [gd, decide_eq_true_eq]; omega, by simp [dpt], by simp [sz]⟩
            · exact ⟨by rw [gd, decide_eq_true_eq]; omega, by simp [dpt], by simp [sz]⟩
            · exact ⟨by rw [gd, decide_eq_true_eq]; omega, by simp [dpt], by simp [sz]⟩
          have hw : Bn' B (.tup xs) (.tup (xs.take i ++ [x] ++ xs.drop (i + 1))) := bn_part hil hv (fun y hy => by rw [List.mem_singleton.mp hy]; exact ⟨hxg.1, hxg.2.1⟩) (by simp only [szs]; omega)
          refine ⟨_, q4, hw, hrest (es_seqR (es_if (k := true) hcond (fun _ => es_seqR (es_ret ?_)) fun z => by cases z)), hq4⟩
          refine ee_bin (op := .Add) (m := false) (ee_bin (op := .Add) (m := false) (hsl1 _) (ee_tup (ea_cons (ee_cal (ea_cons (ee_var rfl) (ea_cons (ee_lst (m := false) (ea_cons (ee_bin (op := .Sub) (m := false) ee_con hidx (o1 _)) (ea_cons (ee_bin (op := .Add) (m := false) hidx ee_con (o2 _)) (ea_cons (ee_bin (op := .Sub) (m := false) hidx ee_con (o3 _)) ea_nil))) (lim_ok (by simp))) ea_nil)) hr4) ea_nil) (lim_ok (by simp))) (add_tup _ _ _ (by simp only [List.length_singleton]; omega))) (hsl2 _) (add_tup _ _ _ (by rw [List.length_append, List.length_singleton]; omega))
        | false =>
          rw [hcc] at hcond
          have hr2' : ∀ {r : SR}, ES (run ds 100 (m + 2)) 100 tp _ [some (.ref 2), some (.tup xs), some (.lst oddV), none, some (.int i), some (.int wy)] (q3.st ++ T) r → ES (run ds 100 (m + 2)) 100 tp bd37 (enOf df37 [.ref 2, .tup xs]) (q.st ++ T) r := fun h => hrest (es_seq (es_if (k := false) hcond (fun z => by cases z) fun _ => es_nop) h)
          have h2 := (eq_int .Eq (wy : Int) 2 (q3.st ++ T)).1
          cases hc2 : decide ((wy : Int) = 2) with
          | true =>
            rw [hc2] at h2
            have hw : Bn' B (.tup xs) (.tup (xs.take i ++ [] ++ xs.drop (i + 1))) := bn_part hil hv (fun y hy => by cases hy) (by simp only [szs]; omega)
            rw [List.append_nil] at hw
            refine ⟨_, q3, hw, hr2' (es_seqR (es_if (k := true) (et_cmp (ee_var rfl) ee_con h2) (fun _ => es_seqR (es_ret ?_)) fun z => by cases z)), hq3⟩
            exact ee_bin (op := .Add) (m := false) (hsl1 _) (hsl2 _) (add_tup _ _ _ (by omega))
          | false =>
            rw [hc2] at h2
            obtain ⟨x, q4, hx4, hr4, hq4⟩ := rec xs rfl xs[i] (List.getElem_mem hil) q3 hq3
            have hw : Bn' B (.tup xs) (.tup (xs.take i ++ [x] ++ xs.drop (i + 1))) := bn_part hil hv (fun y hy => by rw [List.mem_singleton.mp hy]; exact ⟨hx4.1, hx4.2.1⟩) (by have := hx4.2.2; simp only [szs]; omega)
            refine ⟨_, q4, hw, hr2' (es_seq (es_if (k := false) (et_cmp (ee_var rfl) ee_con h2) (fun z => by cases z) fun _ => es_nop) (es_seqR (es_ret ?_))), hq4⟩
            exact ee_bin (op := .Add) (m := false) (ee_bin (op := .Add) (m := false) (hsl1 _) (ee_tup (ea_cons (ee_cal (ea_cons (ee_var rfl) (ea_cons hidx ea_nil)) hr4) ea_nil) (lim_ok (by simp))) (add_tup _ _ _ (by simp only [List.length_singleton]; omega))) (hsl2 _) (add_tup _ _ _ (by rw [List.length_append, List.length_singleton]; omega))
theorem r_bent : ∀ (d k : Nat) (T : Sto) {q : Qs} (hq : q.ok) {B : Nat} (hB : 9 ≤ B) {v : PV} (hv : gd B v = true) (hd : dpt v ≤ d) (hz : sz v ≤ 10000),
    ∃ (w : PV) (q' : Qs), Bn' B v w ∧ run ds 100 (k + d + 3) 37 [.ref 2, v] (q.st ++ T) = some (w, q'.st ++ T) ∧ q'.ok := by
  intro d
  induction d with
  | zero =>
    intro k T q hq B hB v hv hd hz
    refine bent_step (k + 0) T hq hB hv hz fun xs e x hx q2 hq2 => ?_
    subst e
    rw [dpt] at hd
    omega
  | succ d ih =>
    intro k T q hq B hB v hv hd hz
    refine bent_step (k + (d + 1)) T hq hB hv hz fun xs e x hx q2 hq2 => ?_
    subst e
    rw [gd, gds_all] at hv
    have hd2 : dpts xs ≤ d := by rw [dpt] at hd; omega
    have h3 := szs_mem hx
    rw [sz] at hz
    exact ih k T hq2 hB (hv x hx) (dpts_le.mp hd2 x hx) (by omega)
end Ev
namespace Ev
open PySem PySem.Spec PyProof.Rows L2

/-! ### the text of a bent value -/
theorem wrd_short {s : Str} (h : wrds.contains s = true) : s.cps.size ≤ 5 ∧ (s.cps.toList.all fun c => decide (c < 16 ^ 8)) = true := by
  have h1 : wrds.all (fun s => decide (s.cps.size ≤ 5) && s.cps.toList.all fun c => decide (c < 16 ^ 8)) = true := by decide +kernel
  rw [List.all_eq_true] at h1
  have h2 := h1 s (by simpa using h)
  rw [Bool.and_eq_true, decide_eq_true_eq] at h2
  exact h2
theorem sz_int (i : Int) : sz (.int i) = 1 := by simp [sz]
theorem sz_non : sz .non = 1 := by simp [sz]
theorem sz_bl (b : Bool) : sz (.bl b) = 1 := by simp [sz]
theorem sz_str (s : Str) : sz (.str s) = 1 := by simp [sz]
theorem sz_edct : sz .edct = 1 := by simp [sz]
mutual
theorem gd_rep {B : Nat} (hB : B ≤ 1000) : ∀ {v : PV}, gd B v = true → ∃ d, toR v = some d ∧ d.showable = true ∧ d.leavesShort 13 = true ∧ d.weight + 1 ≤ 12 * sz v ∧ d.depth ≤ dpt v + 1
  | .tup xs, h => by
    rw [gd] at h
    obtain ⟨ds, h1, h2, h3, h4, h5⟩ := gds_rep hB h
    refine ⟨.tuple ds, by rw [toR, h1]; rfl, by rw [PyData.showable]; exact h2, by rw [PyData.leavesShort]; exact h3, ?_, ?_⟩
    · rw [PyData.weight, sz]; omega
    · rw [PyData.depth, dpt]; omega
  | .lst xs, h => by
    rw [gd] at h
    obtain ⟨ds, h1, h2, h3, h4, h5⟩ := gds_rep hB h
    refine ⟨.list ds, by rw [toR, h1]; rfl, by rw [PyData.showable]; exact h2, by rw [PyData.leavesShort]; exact h3, ?_, ?_⟩
    · rw [PyData.weight, sz]; omega
    · rw [PyData.depth, dpt]; omega
  | .int i, h => by
    rw [gd, decide_eq_true_eq] at h
    have hl : i.natAbs.log2 < 10 := by
      by_cases h0 : i.natAbs = 0
      · rw [h0]; decide
      · exact (Nat.log2_lt h0).mpr (by omega)
    refine ⟨.int i, by rw [toR], by rw [PyData.showable, decide_eq_true_eq]; omega, by rw [PyData.leavesShort, decide_eq_true_eq]; exact PyData.shown_int_le (by omega), ?_, ?_⟩
    · rw [PyData.weight, sz_int]
      split <;> omega
    · rw [PyData.depth]; omega
  | .non, _ => ⟨.none, by rw [toR], by rw [PyData.showable], by rw [PyData.leavesShort], by rw [PyData.weight, sz_non]; omega, by rw [PyData.depth]; omega⟩
  | .bl b, _ => ⟨.bool b, by rw [toR], by rw [PyData.showable], by rw [PyData.leavesShort], by rw [PyData.weight, sz_bl]; omega, by rw [PyData.depth]; omega⟩
  | .str s, h => by
    rw [gd] at h
    obtain ⟨h1, h2⟩ := wrd_short h
    exact ⟨.str s, by rw [toR], by rw [PyData.showable], by rw [PyData.leavesShort]; exact h2, by rw [PyData.weight, sz_str]; omega, by rw [PyData.depth]; omega⟩
  | .edct, _ => ⟨.dict [], by rw [toR], by rw [PyData.showable, PyData.showableKv], by rw [PyData.leavesShort, PyData.leavesShortKv], by rw [PyData.weight, PyData.weightKv, sz_edct]; omega, by rw [PyData.depth, PyData.depthKv]; omega⟩
  | .ref _, h => by rw [gd] at h; cases h
  | .scr _, h => by rw [gd] at h; cases h
theorem gds_rep {B : Nat} (hB : B ≤ 1000) : ∀ {xs : List PV}, gds B xs = true → ∃ ds, toRs xs = some ds ∧ PyData.showableAll ds = true ∧ PyData.leavesShortAll 13 ds = true ∧ PyData.weightAll ds ≤ 12 * szs xs ∧ PyData.depthAll ds ≤ dpts xs + 1
  | [], _ => ⟨[], by rw [toRs], by rw [PyData.showableAll], by rw [PyData.leavesShortAll], by rw [PyData.weightAll]; omega, by rw [PyData.depthAll]; omega⟩
  | x :: r, h => by
    rw [gds, Bool.and_eq_true] at h
    obtain ⟨d, a1, a2, a3, a4, a5⟩ := gd_rep hB h.1
    obtain ⟨ds, h1, h2, h3, h4, h5⟩ := gds_rep hB h.2
    refine ⟨d :: ds, by rw [toRs, a1, h1], by rw [PyData.showableAll, a2, h2]; rfl, by rw [PyData.leavesShortAll, a3, h3]; rfl, ?_, ?_⟩
    · rw [PyData.weightAll, szs]; omega
    · rw [PyData.depthAll, dpts]; omega
end
theorem r_rep {B : Nat} (hB : B ≤ 1000) {v : PV} (h : gd B v = true) (hz : sz v ≤ 80000) (hd : dpt v ≤ 50) : ∃ s : Str, ∀ S : Sto, bltF .rep [v] S = some (.str s, S) := by
  obtain ⟨d, h1, h2, h3, h4, h5⟩ := gd_rep hB h
  refine ⟨d.shown, fun S => ?_⟩
  show ((toR v).bind fun d => if d.showable = true ∧ d.shown.length ≤ sizeLine ∧ d.depth ≤ 60 then some (PV.str d.shown, S) else none) = _
  rw [h1, Option.bind_some, if_pos ⟨h2, PyData.shown_fits (by decide) (by decide) h3 (by omega), by omega⟩]
theorem eq_strs (s : Str) (S : Sto) : pCmp .Eq (.str s) (.str s) S = some true ∧ pCmp .NotEq (.str s) (.str s) S = some false := by
  have h := eq_str s s S
  simpa using h

/-! ### the kinds that the law makes -/
theorem gd_er {B : Nat} (hB : 1 ≤ B) (v : Row) : gd B (er v) = true ∧ dpt (er v) ≤ 1 ∧ sz (er v) = 1 + v.length := by
  unfold er
  rw [gd, dpt, sz]
  have h1 : gds B (v.map eb) = true := by
    rw [gds_all]
    intro y hy
    obtain ⟨b, _, rfl⟩ := List.mem_map.mp hy
    unfold eb
    rw [gd, decide_eq_true_eq]
    cases b <;> simp <;> omega
  have h2 : dpts (v.map eb) ≤ 0 := by
    rw [dpts_le]
    intro y hy
    obtain ⟨b, _, rfl⟩ := List.mem_map.mp hy
    unfold eb
    simp [dpt]
  have h3 : ∀ v : Row, szs (v.map eb) = v.length := fun v => by
    induction v with
    | nil => rfl
    | cons a r ih => rw [List.map_cons, szs, ih]; unfold eb; rw [sz_int, List.length_cons]; omega
  have := h3 v
  exact ⟨h1, by omega, by omega⟩
theorem gd_en {B : Nat} {l : List Nat} (h : ∀ i ∈ l, i ≤ B) : gd B (en l) = true ∧ dpt (en l) ≤ 1 ∧ sz (en l) = 1 + l.length := by
  unfold en
  rw [gd, dpt, sz]
  have h1 : gds B (l.map fun (i : Nat) => PV.int i) = true := by
    rw [gds_all]
    intro y hy
    obtain ⟨i, hi, rfl⟩ := List.mem_map.mp hy
    have := h i hi
    rw [gd, decide_eq_true_eq]
    omega
  have h2 : dpts (l.map fun (i : Nat) => PV.int i) ≤ 0 := by
    rw [dpts_le]
    intro y hy
    obtain ⟨b, _, rfl⟩ := List.mem_map.mp hy
    simp [dpt]
  have h3 : ∀ l : List Nat, szs (l.map fun (i : Nat) => PV.int i) = l.length := fun l => by
    induction l with
    | nil => rfl
    | cons a r ih => rw [List.map_cons, szs, ih, sz_int, List.length_cons]; omega
  have := h3 l
  exact ⟨h1, by omega, by omega⟩
/-- a value that the law shows -/
structure Gw (d s : Nat) (v : PV) : Prop where
  g : gd 100 v = true
  d : dpt v ≤ d
  s : sz v ≤ s
theorem Gw.mono {d s d' s' : Nat} {v : PV} (h : Gw d s v) (hd : d ≤ d') (hs : s ≤ s') : Gw d' s' v := ⟨h.g, Nat.le_trans h.d hd, Nat.le_trans h.s hs⟩
theorem gw_pair {w : Str} {v : PV} {d s : Nat} (hw : wrds.contains w = true) (h : Gw d s v) : Gw (d + 1) (s + 2) (.tup [.str w, v]) := by
  refine ⟨?_, ?_, ?_⟩
  · simp only [gd, gds, h.g, hw, Bool.and_true]
  · have := h.d
    simp only [dpt, dpts]; omega
  · have := h.s
    simp only [sz, szs]; omega
theorem gw_er {v : Row} (h : v.length ≤ 100) : Gw 1 101 (er v) := by
  obtain ⟨h1, h2, h3⟩ := gd_er (B := 100) (by omega) v
  exact ⟨h1, h2, by omega⟩
theorem gw_en {l : List Nat} (h : ∀ i ∈ l, i < 100) (hl : l.length ≤ 100) : Gw 1 101 (en l) := by
  obtain ⟨h1, h2, h3⟩ := gd_en (B := 100) (l := l) fun i hi => Nat.le_of_lt (h i hi)
  exact ⟨h1, h2, by omega⟩
theorem gw_code {n : Nat} {rows : List Row} (hn : n ≤ 100) (hr : Len n rows) (hl : rows.length ≤ 100) : Gw 3 11000 (code n rows) := by
  have hx : ∀ x ∈ rows.map er, Gw 1 101 x := fun x hx => by
    obtain ⟨r, hr2, rfl⟩ := List.mem_map.mp hx
    exact gw_er (by rw [hr r hr2]; exact hn)
  have hs : ∀ l : List PV, (∀ x ∈ l, Gw 1 101 x) → szs l ≤ 101 * l.length := fun l => by
    induction l with
    | nil => intro _; simp [szs]
    | cons a r ih =>
      intro h
      have h1 := (h a List.mem_cons_self).s
      have h2 := ih fun x hx => h x (List.mem_cons_of_mem _ hx)
      rw [szs, List.length_cons]
      omega
  have h3 := hs _ hx
  rw [List.length_map] at h3
  unfold code
  refine ⟨?_, ?_, ?_⟩
  · have : gds 100 (rows.map er) = true := gds_all.mpr fun x h => (hx x h).g
    have hn' : decide ((n : Int).natAbs ≤ 100) = true := by rw [decide_eq_true_eq]; omega
    simp only [gd, gds, this, hn', Bool.and_true]
  · have : dpts (rows.map er) ≤ 1 := dpts_le.mpr fun x h => (hx x h).d
    simp only [dpt, dpts]; omega
  · simp only [sz, szs]; omega
theorem gw_tag {w : Str} {i : Nat} (hw : wrds.contains w = true) (hi : i ≤ 100) : Gw 2 3 (.tup [.str w, .int i]) :=
  ⟨by
    have : decide ((i : Int).natAbs ≤ 100) = true := by rw [decide_eq_true_eq]; omega
    simp only [gd, gds, hw, this, Bool.and_true], by simp [dpt, dpts], by simp [sz, szs]⟩
theorem gw_hd1 {w : Str} {l : List Nat} {o : PV} (hw : wrds.contains w = true) (h : ∀ i ∈ l, i ≤ 100) (ho : Gw 2 3 o) : Gw 2 3 (hd1 w l o) := by
  cases l with
  | nil => exact ho
  | cons p r => exact gw_tag hw (h p List.mem_cons_self)
theorem gw_non : Gw 2 3 .non := ⟨by simp [gd], by simp [dpt], by simp [sz]⟩
theorem gw_one {w : Str} (hw : wrds.contains w = true) : Gw 2 3 (.tup [.str w]) := ⟨by simp only [gd, gds, hw, Bool.and_true], by simp [dpt, dpts], by simp [sz, szs]⟩
theorem odds_lt {rows : List Row} {w : Row} {i : Nat} (h : i ∈ odds rows w) : i < rows.length := by
  unfold odds at h
  obtain ⟨p, hp, rfl⟩ := List.mem_map.mp h
  have := List.mem_zipIdx (List.mem_filter.mp hp).1
  omega
theorem gw_verd {n : Nat} {rows : List Row} {row : Row} {v : PV} (hn : n ≤ 100) (hl : rows.length ≤ 100) : Gw 2 3 (verd n rows row v) := by
  unfold verd
  split
  · exact gw_hd1 (by decide +kernel) (fun i hi => by have := List.mem_range.mp (List.mem_filter.mp hi).1; omega) gw_non
  · split
    · refine gw_hd1 (by decide +kernel) (fun i hi => by have := odds_lt hi; omega) ?_
      split
      · exact gw_non
      · exact gw_one (by decide +kernel)
    · exact gw_one (by decide +kernel)
end Ev
namespace Ev
open PySem PySem.Spec PyProof.Rows L2

/-! ### told papers are right -/
theorem lotB_en {m : Nat} {l : List Nat} (h : Lot m l) : lotB m (en l) = true := by
  unfold lotB
  rw [nats_en, growB_iff.mpr h.1, Bool.and_true]
  show (l.map fun (i : Nat) => PV.int i).all (below m) = true
  rw [List.all_eq_true]
  intro y hy
  obtain ⟨i, hi, rfl⟩ := List.mem_map.mp hy
  have := h.2 i hi
  show (decide (0 ≤ (i : Int)) && decide ((i : Int) < m)) = true
  rw [Bool.and_eq_true, decide_eq_true_eq, decide_eq_true_eq]
  omega
theorem rowOf_er (w : Row) : rowOf (er w) = w := by
  show (w.map eb).map (fun x => natOf x == 1) = w
  rw [List.map_map]
  refine (List.map_congr_left (g := id) fun b _ => ?_).trans (List.map_id w)
  cases b <;> rfl
theorem rowB_er {n : Nat} {w : Row} (h : w.length = n) : rowB n (er w) = true := by
  show (decide ((w.map eb).length = n) && (w.map eb).all (below 2)) = true
  rw [Bool.and_eq_true, decide_eq_true_eq, List.length_map, List.all_eq_true]
  refine ⟨h, fun y hy => ?_⟩
  obtain ⟨b, _, rfl⟩ := List.mem_map.mp hy
  cases b <;> rfl
theorem told_ok {n : Nat} {rows F : List Row} {row : Row} (hr : Len n rows) (hn : n ≤ 100) (hl : rows.length ≤ 100) (hF : F.Perm (toldF rows)) (hw : row.length = n) :
    ∃ (w : Str) (p : PV), paper n F rows row = .tup [.str w, p] ∧ verd n rows row (paper n F rows row) = .non ∧ Gw 1 101 p ∧ ((w = "in" ∧ Sp n rows row) ∨ (w = "out" ∧ ¬ Sp n rows row)) := by
  obtain ⟨h1, h2⟩ := her_ok hr hw
  by_cases hc : true ∈ (herP rows row).1
  · have hs : ¬ Sp n rows row := fun z => h2.mpr z hc
    obtain ⟨o1, o2, o3⟩ := out_ok hr hF hw hs
    unfold paper
    rw [if_pos hc]
    generalize ((freeF n F).filter fun w => dt row w).headD [] = w at *
    refine ⟨_, _, rfl, ?_, gw_er (by omega), .inr ⟨rfl, hs⟩⟩
    have e1 : wordB "in" (.tup [.str "out", er w]) = false := by
      show ((("out" : Str) == ("in" : Str))) = false
      decide +kernel
    have e2 : wordB "out" (.tup [.str "out", er w]) = true := by
      show ((("out" : Str) == ("out" : Str))) = true
      decide +kernel
    have e3 : snd' (.tup [.str "out", er w]) = er w := rfl
    have e4 : odds rows w = [] := by
      unfold odds
      rw [List.map_eq_nil_iff, List.filter_eq_nil_iff]
      intro p hp
      have := List.mem_zipIdx hp
      have hm : p.1 ∈ rows := by rw [this.2.2]; exact List.getElem_mem _
      rw [o3 _ hm]
      decide
    unfold verd
    rw [e1, e2, e3, rowB_er o1, rowOf_er, e4, o2]
    rfl
  · have hs : Sp n rows row := h2.mp hc
    have hp := her_in hr hw hc
    unfold paper
    rw [if_neg hc]
    have hL := h1.2.1
    generalize (herP rows row).2 = l at *
    have hll := hL.len
    refine ⟨_, _, rfl, ?_, gw_en (fun i hi => by have := hL.2 i hi; omega) (by omega), .inl ⟨rfl, hs⟩⟩
    have e1 : wordB "in" (.tup [.str "in", en l]) = true := by
      show ((("in" : Str) == ("in" : Str))) = true
      decide +kernel
    have e3 : snd' (.tup [.str "in", en l]) = en l := rfl
    have e4 : wrongs n row row = [] := by
      unfold wrongs
      rw [List.filter_eq_nil_iff]
      intro p _
      simp
    unfold verd
    rw [e1, e3, lotB_en hL, nats_en, hp, e4]
    rfl
theorem place_odd {n : Nat} {rows : List Row} {row : Row} (hr : Len n rows) (hw : row.length = n) : ∀ F : List Row, F.Perm (toldF rows) → true ∈ (herP rows row).1 → ∃ w ∈ freeF n F, dt row w = true := fun F hF h => by
  have hs : ¬ Sp n rows row := fun z => (her_ok hr hw).2.mpr z h
  obtain ⟨h1, h2⟩ := told_piv hr hF
  exact free_odd h1 hw fun z => hs ((h2 _).mp z)
/-- both answers of whether it is in -/
theorem has_same {n : Nat} {rows F : List Row} {row : Row} (hb : Bas n rows) (hF : F.Perm (toldF rows)) (hw : row.length = n) : hasB n F row = decide ((lawT n (rows ++ [row])).length = rows.length) := by
  rw [Bool.eq_iff_iff, decide_eq_true_eq, hb.has hw]
  exact hasB_iff hb.1 hF hw
end Ev
namespace Ev
open PySem PySem.Spec PyProof.Rows L2

/-! ### rows at lots of places -/
theorem piv_rk {n : Nat} {F : List Row} (h : Piv n F) : rk n F = F.length := by
  obtain ⟨G, hG⟩ : ∃ G, G = F.mergeSort fun a b => decide (ld a ≤ ld b) := ⟨_, rfl⟩
  have hp : G.Perm F := by rw [hG]; exact List.mergeSort_perm _ _
  have hs : G.Pairwise fun a b => ld a ≤ ld b := by
    have := List.pairwise_mergeSort (le := fun a b : Row => decide (ld a ≤ ld b)) (fun a b c h1 h2 => by simp only [decide_eq_true_eq] at *; omega) (fun a b => by simp only [Bool.or_eq_true, decide_eq_true_eq]; omega) F
    rw [← hG] at this
    exact this.imp fun h => by simpa using h
  have hn : F.Pairwise fun a b => ld a ≠ ld b := h.pw.imp_of_mem fun {a b} ha hb hab e => by
    have h1 := hab.1
    rw [e, at_ld (h.row b hb).2] at h1
    cases h1
  have hn2 : G.Pairwise fun a b => ld a ≠ ld b := (hp.symm.pairwise_iff (fun h e => h e.symm)).mp hn
  have hE : Ech n G := ⟨fun r hr => h.row r (hp.mem_iff.mp hr), (hs.and hn2).imp fun h => Nat.lt_of_le_of_ne h.1 h.2⟩
  rw [← rk_congr (G := G) (G' := F) (fun v => ⟨Sp.sub fun r hr => hp.mem_iff.mp hr, Sp.sub fun r hr => hp.mem_iff.mpr hr⟩), ech_rk hE, hp.length_eq]
theorem told_rk {n : Nat} {rows F : List Row} (hr : Len n rows) (hF : F.Perm (toldF rows)) : F.length = rk n rows := by
  obtain ⟨h1, h2⟩ := told_piv hr hF
  rw [← piv_rk h1, rk_congr h2]
def atr (P : List Nat) (r : Row) : Row := P.map (at' r)
theorem atr_len (P : List Nat) (r : Row) : (atr P r).length = P.length := by simp [atr]
def ats (P : List Nat) (rows : List Row) : List Row := rows.map (atr P)
theorem ats_len (P : List Nat) (rows : List Row) : Len P.length (ats P rows) := fun r hr => by
  obtain ⟨x, _, rfl⟩ := List.mem_map.mp hr
  exact atr_len P x
theorem at_atr {P : List Nat} {r : Row} {i : Nat} (h : i < P.length) : at' (atr P r) i = at' r P[i] := by
  show ((P.map (at' r))[i]?).getD false = _
  rw [List.getElem?_map, List.getElem?_eq_getElem h]; rfl
theorem atr_xr (P : List Nat) {a b : Row} (h : a.length = b.length) : atr P (xr a b) = xr (atr P a) (atr P b) := by
  have hl : (atr P a).length = (atr P b).length := by rw [atr_len, atr_len]
  refine at_ext (by rw [atr_len, xr_len hl, atr_len]) fun i hi => ?_
  rw [atr_len] at hi
  rw [at_xr hl, at_atr hi, at_atr hi, at_atr hi, at_xr h]
theorem atr_zero (P : List Nat) (n : Nat) : atr P (List.replicate n false) = List.replicate P.length false := by
  refine at_ext (by rw [atr_len]; simp) fun i hi => ?_
  rw [atr_len] at hi
  rw [at_atr hi, at_zero, at_zero]
theorem atr_foldl (P : List Nat) {n : Nat} : ∀ {A : List Row} {v : Row}, Len n A → v.length = n → atr P (A.foldl xr v) = (ats P A).foldl xr (atr P v)
  | [], v, _, _ => rfl
  | a :: A, v, hA, hv => by
    have ha : a.length = n := hA a List.mem_cons_self
    show atr P (A.foldl xr (xr v a)) = (ats P A).foldl xr (xr (atr P v) (atr P a))
    rw [atr_foldl P (fun x hx => hA x (List.mem_cons_of_mem _ hx)) (by rw [xr_len (by omega)]; exact hv), atr_xr P (by omega)]
theorem atr_pk (P : List Nat) {n : Nat} {rows : List Row} {l : List Nat} (hr : Len n rows) (hl : ∀ i ∈ l, i < rows.length) : atr P (pk n rows l) = pk P.length (ats P rows) l := by
  unfold pk sums
  rw [atr_foldl P (Lot.at hr (Nat.le_refl _) hl) (by simp), atr_zero]
  congr 1
  unfold ats
  rw [List.map_map]
  refine List.map_congr_left fun i hi => ?_
  have h := hl i hi
  show atr P (rows.getD i []) = (rows.map (atr P)).getD i []
  rw [List.getD_eq_getElem?_getD, List.getD_eq_getElem?_getD, List.getElem?_map, List.getElem?_eq_getElem h]; rfl
theorem sp_foldl {n : Nat} {G : List Row} (hG : Len n G) : ∀ {A : List Row} {v : Row}, (∀ r ∈ A, Sp n G r) → Sp n G v → Sp n G (A.foldl xr v)
  | [], _, _, hv => hv
  | a :: A, v, hA, hv => sp_foldl hG (A := A) (fun x hx => hA x (List.mem_cons_of_mem _ hx)) (hv.xr hG (hA a List.mem_cons_self))
theorem sp_pk {n : Nat} {rows : List Row} {l : List Nat} (hr : Len n rows) (hl : ∀ i ∈ l, i < rows.length) : Sp n rows (pk n rows l) := by
  unfold pk sums
  refine sp_foldl hr (fun r h => ?_) .zero
  obtain ⟨i, hi, rfl⟩ := List.mem_map.mp h
  have h := hl i hi
  rw [List.getD_eq_getElem?_getD, List.getElem?_eq_getElem h]
  exact Sp.of hr (List.getElem_mem h)
/-- marks laid at places -/
def lay (n : Nat) (P : List Nat) (w : Row) : Row := (List.range n).map fun p => if p ∈ P then at' w (P.idxOf p) else false
theorem lay_len (n : Nat) (P : List Nat) (w : Row) : (lay n P w).length = n := by simp [lay]
theorem at_lay {n : Nat} {P : List Nat} {w : Row} {p : Nat} (h : p < n) : at' (lay n P w) p = if p ∈ P then at' w (P.idxOf p) else false := by
  show (((List.range n).map fun p => if p ∈ P then at' w (P.idxOf p) else false)[p]?).getD false = _
  rw [List.getElem?_map, List.getElem?_range h]; rfl
def unit' (n p : Nat) (b : Bool) : Row := (List.range n).map fun q => q == p && b
theorem unit_len (n p : Nat) (b : Bool) : (unit' n p b).length = n := by simp [unit']
theorem at_unit {n p q : Nat} {b : Bool} (h : q < n) : at' (unit' n p b) q = (q == p && b) := by
  show (((List.range n).map fun q => q == p && b)[q]?).getD false = _
  rw [List.getElem?_map, List.getElem?_range h]; rfl
theorem lay_cons {n p : Nat} {P : List Nat} {b : Bool} {w : Row} (hp : p ∉ P) : lay n (p :: P) (b :: w) = xr (unit' n p b) (lay n P w) := by
  have hl : (unit' n p b).length = (lay n P w).length := by rw [unit_len, lay_len]
  refine at_ext (by rw [lay_len, xr_len hl, unit_len]) fun q hq => ?_
  rw [lay_len] at hq
  rw [at_lay hq, at_xr hl, at_unit hq, at_lay hq]
  by_cases e : q = p
  · subst e
    rw [if_pos List.mem_cons_self, if_neg hp]
    simp [at']
  · have h1 : (q == p) = false := by simpa using e
    have h2 : (p :: P).idxOf q = P.idxOf q + 1 := by rw [List.idxOf_cons]; simp [show (p == q) = false by simpa using fun h => e h.symm]
    rw [h1, h2]
    by_cases hm : q ∈ P
    · rw [if_pos (List.mem_cons_of_mem _ hm), if_pos hm]
      simp [at']
    · rw [if_neg (fun h => by rcases List.mem_cons.mp h with h | h; exact e h; exact hm h), if_neg hm]
      rfl
theorem dt_unit {n p : Nat} {b : Bool} {r : Row} (hr : r.length = n) (hp : p < n) : dt r (unit' n p b) = (at' r p && b) := by
  rw [dt_par (by rw [hr, unit_len]), hr, ← par_one (n := n) (p := p) (at' r p && b) hp]
  refine par_congr fun i hi => ?_
  rw [at_unit hi]
  by_cases e : i = p
  · subst e; simp
  · simp [show (i == p) = false by simpa using e]
theorem dt_lay {n : Nat} {r : Row} (hr : r.length = n) : ∀ {P : List Nat} {w : Row}, P.Nodup → (∀ p ∈ P, p < n) → w.length = P.length → dt r (lay n P w) = dt (atr P r) w
  | [], w, _, _, hw => by
    have e : lay n [] w = List.replicate n false := at_ext (by rw [lay_len]; simp) fun i hi => by
      rw [lay_len] at hi
      rw [at_lay hi, if_neg (by simp), at_zero]
    rw [e, dt_comm, dt_zero hr]
    cases w with
    | nil => rfl
    | cons a r => simp at hw
  | p :: P, w, hn, hP, hw => by
    cases w with
    | nil => simp at hw
    | cons b w =>
      have h1 := List.nodup_cons.mp hn
      rw [lay_cons h1.1, dt_comm, dt_xr (by rw [unit_len, lay_len]) (by rw [unit_len, hr]), dt_comm _ r, dt_comm _ r, dt_unit hr (hP p List.mem_cons_self),
        dt_lay hr h1.2 (fun q hq => hP q (List.mem_cons_of_mem _ hq)) (by simpa using hw)]
      rfl
/-! the paper of marks_paper -/
def mpaper (n : Nat) (rows : List Row) (P : List Nat) (marks : Row) (F : List Row) : PV :=
  if P = [] then .tup [.str "row", er (List.replicate n false)] else
  if true ∈ (herP (ats P rows) marks).1 then .tup [.str "none", er (lay n P (((freeF P.length F).filter fun w => dt w marks).headD []))] else
  .tup [.str "row", er (pk n rows (herP (ats P rows) marks).2)]
def inS (n : Nat) (rows : List Row) (r : Row) : Bool := decide ((lawT n (rows ++ [r])).length = rows.length)
def wrM (P : List Nat) (marks r : Row) : List Nat := ((P.zip marks).filter fun p => at' r p.1 != p.2).map Prod.fst
def outs (n : Nat) (P : List Nat) (r : Row) : List Nat := (List.range n).filter fun p => !P.contains p && at' r p
def wordM (v : PV) : Bool := wordB "row" v || wordB "none" v
/-- what both say of a value -/
def verdM (n : Nat) (rows : List Row) (P : List Nat) (marks : Row) (v : PV) : PV :=
  if wordM v && rowB n (snd' v) then
    if wordB "row" v then hd1 "place" (wrM P marks (rowOf (snd' v))) (if inS n rows (rowOf (snd' v)) then .non else .tup [.str "out"])
    else hd1 "place" (outs n P (rowOf (snd' v))) (hd1 "base" (odds rows (rowOf (snd' v))) (if dt (atr P (rowOf (snd' v))) marks then .non else .tup [.str "even"]))
  else .tup [.str "form"]
theorem wrM_nil {P : List Nat} {r : Row} : wrM P (atr P r) r = [] := by
  unfold wrM
  rw [List.map_eq_nil_iff, List.filter_eq_nil_iff]
  intro p hp
  have : p.2 = at' r p.1 := by
    unfold atr at hp
    induction P with
    | nil => simp at hp
    | cons a P ih =>
      rw [List.map_cons, List.zip_cons_cons] at hp
      rcases List.mem_cons.mp hp with rfl | hp
      · rfl
      · exact ih hp
  rw [this]
  simp
theorem mpaper_ok {n : Nat} {rows F0 F : List Row} {P : List Nat} {marks : Row} (hb : Bas n rows) (hP : P.Nodup) (hPn : ∀ p ∈ P, p < n) (hF0 : F0.Perm (toldF (ats P rows))) (hF : F.Perm (toldF F0)) (hm : marks.length = P.length) :
    ∃ (w : Str) (z : Row), mpaper n rows P marks F = .tup [.str w, er z] ∧ z.length = n ∧ verdM n rows P marks (mpaper n rows P marks F) = .non ∧ ((w = "row" ∧ (P = [] ∨ Sp P.length (ats P rows) marks)) ∨ (w = "none" ∧ P ≠ [] ∧ ¬ Sp P.length (ats P rows) marks)) := by
  have w1 : wordB "row" (.tup [.str "row", .non]) = true := by
    show ((("row" : Str) == ("row" : Str))) = true
    decide +kernel
  have w2 : wordB "row" (.tup [.str "none", .non]) = false := by
    show ((("none" : Str) == ("row" : Str))) = false
    decide +kernel
  have w3 : wordB "none" (.tup [.str "none", .non]) = true := by
    show ((("none" : Str) == ("none" : Str))) = true
    decide +kernel
  have hrow : ∀ z : Row, z.length = n → atr P z = marks → Sp n rows z → verdM n rows P marks (.tup [.str "row", er z]) = .non := fun z hz e hs => by
    have a1 : wordB "row" (.tup [.str "row", er z]) = true := w1
    have a2 : snd' (.tup [.str "row", er z]) = er z := rfl
    have a3 : inS n rows z = true := by unfold inS; rw [decide_eq_true_eq]; exact (hb.has hz).mpr hs
    unfold verdM wordM
    rw [a1, a2, rowB_er hz, rowOf_er, ← e, wrM_nil, a3]
    rfl
  by_cases hnil : P = []
  · subst hnil
    have hmn : marks = [] := List.length_eq_zero_iff.mp hm
    unfold mpaper
    rw [if_pos rfl]
    exact ⟨_, _, rfl, by simp, hrow _ (by simp) (by rw [hmn]; rfl) .zero, .inl ⟨rfl, .inl rfl⟩⟩
  · have hA := ats_len P rows
    obtain ⟨h1, h2⟩ := her_ok hA hm
    unfold mpaper
    rw [if_neg hnil]
    by_cases hc : true ∈ (herP (ats P rows) marks).1
    · rw [if_pos hc]
      have hs : ¬ Sp P.length (ats P rows) marks := fun z => h2.mpr z hc
      obtain ⟨g1, g2⟩ := told_piv hA hF0
      have hs0 : ¬ Sp P.length F0 marks := fun z => hs ((g2 _).mp z)
      obtain ⟨o1, o2, o3⟩ := out_ok g1.len hF hm hs0
      have e : ((freeF P.length F).filter fun w => dt w marks) = (freeF P.length F).filter fun w => dt marks w := by
        congr 1; funext w; exact dt_comm _ _
      rw [e]
      generalize ((freeF P.length F).filter fun w => dt marks w).headD [] = w at *
      refine ⟨_, _, rfl, lay_len _ _ _, ?_, .inr ⟨rfl, hnil, hs⟩⟩
      have a1 : wordB "row" (.tup [.str "none", er (lay n P w)]) = false := w2
      have a2 : wordB "none" (.tup [.str "none", er (lay n P w)]) = true := w3
      have a3 : snd' (.tup [.str "none", er (lay n P w)]) = er (lay n P w) := rfl
      have a4 : outs n P (lay n P w) = [] := by
        unfold outs
        rw [List.filter_eq_nil_iff]
        intro p hp
        have hp' : p < n := List.mem_range.mp hp
        rw [at_lay hp']
        by_cases h : p ∈ P
        · simp [h]
        · simp [h]
      have a5 : odds rows (lay n P w) = [] := by
        unfold odds
        rw [List.map_eq_nil_iff, List.filter_eq_nil_iff]
        intro p hp
        have := List.mem_zipIdx hp
        have hmm : p.1 ∈ rows := by rw [this.2.2]; exact List.getElem_mem _
        rw [dt_lay (hb.1 _ hmm) hP hPn o1]
        have : Sp P.length F0 (atr P p.1) := (g2 _).mpr (Sp.of hA (List.mem_map_of_mem hmm))
        rw [dt_sp g1.len o1 o3 this]
        decide
      have a6 : atr P (lay n P w) = w := by
        refine at_ext (by rw [atr_len, o1]) fun i hi => ?_
        rw [atr_len] at hi
        rw [at_atr hi, at_lay (hPn _ (List.getElem_mem hi)), if_pos (List.getElem_mem hi), hP.idxOf_getElem i hi]
      unfold verdM wordM
      rw [a1, a2, a3, rowB_er (lay_len _ _ _), rowOf_er, a4, a5, a6, dt_comm, o2]
      rfl
    · rw [if_neg hc]
      have hs : Sp P.length (ats P rows) marks := h2.mp hc
      have hp := her_in hA hm hc
      have hL := h1.2.1
      generalize (herP (ats P rows) marks).2 = l at *
      have hl : ∀ i ∈ l, i < rows.length := fun i hi => by have := hL.2 i hi; unfold ats at this; rwa [List.length_map] at this
      have hz : (pk n rows l).length = n := pk_len hb.1 (Nat.le_refl _) hl
      exact ⟨_, _, rfl, hz, hrow _ hz (by rw [atr_pk P hb.1 hl, hp]) (sp_pk hb.1 hl), .inl ⟨rfl, .inr hs⟩⟩
end Ev
namespace Ev
open PySem PySem.Spec PyProof.Rows L2

/-! ### walks of k77's own -/
theorem lc_at {R : Orc} {tp j : Nat} {en0 : En} {S : Sto} {n : Nat} {row : Row} {P : List Nat} (hw : row.length = n) (hP : ∀ p ∈ P, p < n) (hl : P.length ≤ 1000) (hi : en0[j]? = some (some (en P))) (h2 : en0.length = 3) (h0 : en0[0]? = some (some (er row))) (hj : j = 1) :
    EE R tp (.lc false (.seq (.var j)) [2] true [2] .no (.idx (.var 0) (.var 2))) en0 S (.lst ((atr P row).map eb)) S := by
  subst hj
  have h := ee_lcN (R := R) (tp := tp) (m := false) (one := true) (tg := [2]) (us := [2]) (it := .seq (.var 1)) (e := .idx (.var 0) (.var 2)) (en := en0) (S := S) (S1 := S) (J := .seq (en P)) (l := P) (fun (p : Nat) => .int p) (fun p => eb (at' row p))
    (ei_seq (ee_var hi) rfl) rfl (its_seq rfl) (by omega) (fun p hp => ⟨_, rfl, by
      match en0, h2, h0 with
      | [a, b, c], _, h0 =>
        refine ee_idx (ee_var (v := er row) ?_) (ee_var (v := .int p) rfl) (idx_er (by rw [hw]; exact hP p hp) S)
        exact h0⟩)
  have e : P.map (fun p => eb (at' row p)) = (atr P row).map eb := by unfold atr; rw [List.map_map]; rfl
  rw [e] at h
  exact h
theorem r_marks (k : Nat) (S : Sto) {n : Nat} {row : Row} {P : List Nat} (hw : row.length = n) (hP : ∀ p ∈ P, p < n) (hl : P.length ≤ 1000) : run ds 100 (k + 1) 13 [er row, en P] S = some (er (atr P row), S) :=
  run_rt0 (d := df13) rfl rfl rfl (es_seqR (es_ret (ee_blt (f := .tup) (ea_cons (lc_at hw hP hl rfl rfl rfl rfl) ea_nil) rfl))) (no_er _)
theorem r_lat (k : Nat) (S : Sto) {n : Nat} {row : Row} {P : List Nat} (hw : row.length = n) (hP : ∀ p ∈ P, p < n) (hl : P.length ≤ 1000) : run ds 100 (k + 1) 39 [er row, en P] S = some (er (atr P row), S) :=
  run_rt0 (d := df39) rfl rfl rfl (es_seqR (es_ret (ee_blt (f := .tup) (ea_cons (lc_at hw hP hl rfl rfl rfl rfl) ea_nil) rfl))) (no_er _)
theorem len_en (l : List Nat) (S : Sto) : bltF .len [en l] S = some (.int l.length, S) := by
  show some (PV.int ((l.map fun (i : Nat) => PV.int i).length : Nat), S) = _
  rw [List.length_map]
theorem no_code (n : Nat) (rows : List Row) : ltB 0 (code n rows) = true := by
  unfold code
  rw [ltB_tup]
  have := no_ers rows
  simp [no_int, ltB_tup, this]
theorem r_seen (k : Nat) (S : Sto) {n : Nat} {rows : List Row} {P : List Nat} (hr : Len n rows) (hl : rows.length ≤ 100) (hP : ∀ p ∈ P, p < n) (hPl : P.length ≤ 100) :
    ∃ F : List Row, F.Perm (toldF (ats P rows)) ∧ run ds 100 (k + 3) 14 [code n rows, en P] S = some (code P.length F, S) := by
  obtain ⟨F, hF, hrun⟩ := r_told k S (n := P.length) (rows := ats P rows) (v := .lst ((ats P rows).map er)) (by omega) (ats_len P rows) (by unfold ats; rw [List.length_map]; omega) rfl
  refine ⟨F, hF, run_rt0 (d := df14) rfl rfl rfl ?_ (no_code _ _)⟩
  have hlc := ee_lcN (R := run ds 100 (k + 2)) (tp := S.length) (m := false) (one := true) (tg := [2]) (us := [2]) (it := .seq (.idx (.var 0) (.con (.int 1)))) (e := .cal 13 (.cons (.var 2) (.cons (.var 1) .nil))) (en := [some (code n rows), some (en P), none]) (S := S) (S1 := S) (J := .seq (.tup (rows.map er))) (l := rows) er (fun r => er (atr P r))
    (ei_seq (ee_idx (ee_var rfl) ee_con (idx_tup (j := 1) rfl)) rfl) rfl (its_seq rfl) (by omega) (fun r hm => ⟨_, rfl, ee_cal (ea_cons (ee_var rfl) (ea_cons (ee_var rfl) ea_nil)) (r_marks (k + 1) S (hr r hm) hP (by omega))⟩)
  have e : rows.map (fun r => er (atr P r)) = (ats P rows).map er := by unfold ats; rw [List.map_map]; rfl
  rw [e] at hlc
  exact es_seqR (es_ret (ee_tup (ea_cons (ee_blt (f := .len) (ea_cons (ee_var rfl) ea_nil) (len_en _ _)) (ea_cons (ee_cal (ea_cons hlc ea_nil) hrun) ea_nil)) (lim_ok (by simp))))
theorem r_lseen (k : Nat) (S : Sto) {n : Nat} {rows : List Row} {P : List Nat} (h1 : 1 ≤ P.length) (hr : Len n rows) (hl : rows.length ≤ 100) (hP : ∀ p ∈ P, p < n) (hPl : P.length ≤ 100) :
    run ds 100 (k + 3) 40 [code n rows, en P] S = some (code P.length (lawT P.length (ats P rows)), S) := by
  have hrun := r_ltold k S (n := P.length) (rows := ats P rows) (v := .lst ((ats P rows).map er)) h1 hPl (ats_len P rows) (by unfold ats; rw [List.length_map]; omega) rfl
  refine run_rt0 (d := df40) rfl rfl rfl ?_ (no_code _ _)
  have hlc := ee_lcN (R := run ds 100 (k + 2)) (tp := S.length) (m := false) (one := true) (tg := [2]) (us := [2]) (it := .seq (.idx (.var 0) (.con (.int 1)))) (e := .cal 39 (.cons (.var 2) (.cons (.var 1) .nil))) (en := [some (code n rows), some (en P), none]) (S := S) (S1 := S) (J := .seq (.tup (rows.map er))) (l := rows) er (fun r => er (atr P r))
    (ei_seq (ee_idx (ee_var rfl) ee_con (idx_tup (j := 1) rfl)) rfl) rfl (its_seq rfl) (by omega) (fun r hm => ⟨_, rfl, ee_cal (ea_cons (ee_var rfl) (ea_cons (ee_var rfl) ea_nil)) (r_lat (k + 1) S (hr r hm) hP (by omega))⟩)
  have e : rows.map (fun r => er (atr P r)) = (ats P rows).map er := by unfold ats; rw [List.map_map]; rfl
  rw [e] at hlc
  exact es_seqR (es_ret (ee_tup (ea_cons (ee_blt (f := .len) (ea_cons (ee_var rfl) ea_nil) (len_en _ _)) (ea_cons (ee_cal (ea_cons (ee_blt (f := .len) (ea_cons (ee_var rfl) ea_nil) (len_en _ _)) (ea_cons hlc ea_nil)) hrun) ea_nil)) (lim_ok (by simp))))
/-- the rank of a lot of places -/
noncomputable def rkP (rows : List Row) (P : List Nat) : Nat := if P = [] then 0 else rk P.length (ats P rows)
theorem tru_en {P : List Nat} {S : Sto} : truthy S (en P) = some (decide (P ≠ [])) := by
  cases P <;> rfl
theorem r_rank (k : Nat) (S : Sto) {n : Nat} {rows : List Row} {P : List Nat} (hr : Len n rows) (hl : rows.length ≤ 100) (hP : ∀ p ∈ P, p < n) (hPl : P.length ≤ 100) :
    run ds 100 (k + 4) 15 [code n rows, en P] S = some (.int (rkP rows P), S) := by
  obtain ⟨F, hF, hrun⟩ := r_seen k S hr hl hP hPl
  refine run_rt0 (d := df15) rfl rfl rfl (es_seqR (es_ret (ee_ite (k := decide (P ≠ [])) (et_val rfl (ee_var rfl) tru_en) (fun z => ?_) fun z => ?_))) (no_int _)
  · have hz : P ≠ [] := of_decide_eq_true z
    have e : rkP rows P = F.length := by
      unfold rkP
      rw [if_neg hz, told_rk (ats_len P rows) hF]
    rw [e]
    exact ee_blt (f := .len) (ea_cons (ee_idx (ee_cal (ea_cons (ee_var rfl) (ea_cons (ee_var rfl) ea_nil)) hrun) ee_con (idx_tup (j := 1) rfl)) ea_nil) (by
      show some (PV.int ((F.map er).length : Nat), S) = _
      rw [List.length_map])
  · have hz : P = [] := by simpa using z
    have e : rkP rows P = 0 := by unfold rkP; rw [if_pos hz]
    rw [e]
    exact ee_con
theorem idxP {P : List Nat} {p : Nat} (h : p ∈ P) (S : Sto) : pIndex (en P) [.int p] S = some (.int (P.idxOf p), S) := by
  have hfl : (P.map fun (i : Nat) => PV.int i).all flat = true := flat_ints P fun i => (i : Int)
  have hfi : ∀ P : List Nat, p ∈ P → (P.map fun (i : Nat) => PV.int i).findIdx? (fun z => eqF z (.int p)) = some (P.idxOf p) := fun P => by
    induction P with
    | nil => intro h; cases h
    | cons a P ih =>
      intro h
      rw [List.map_cons, List.findIdx?_cons, List.idxOf_cons]
      have ha : eqF (.int a) (.int p) = (a == p) := by
        show eqV (V.int (a : Int)) (V.int (p : Int)) = _
        rw [Bool.eq_iff_iff]
        simp [eqV]
        omega
      rw [ha]
      by_cases e : a = p
      · subst e; simp
      · rw [show (a == p) = false by simpa using e]
        have := ih (by rcases List.mem_cons.mp h with h | h; exact absurd h.symm e; exact h)
        simp [this]
  show (match seqOf S (en P) with | some ys => if flat (.int p) && ys.all flat then (ys.findIdx? fun z => eqF z (.int p)).map fun j => (PV.int j, S) else none | none => none) = _
  have hs : seqOf S (en P) = some (P.map fun (i : Nat) => PV.int i) := rfl
  rw [hs]
  show (if flat (.int p) && (P.map fun (i : Nat) => PV.int i).all flat then ((P.map fun (i : Nat) => PV.int i).findIdx? fun z => eqF z (.int p)).map fun j => (PV.int j, S) else none) = _
  rw [hfl, hfi P h]
  rfl
theorem any_in (P : List Nat) (p : Nat) : (P.any fun x => (x : Int) == (p : Int)) = decide (p ∈ P) := by
  induction P with
  | nil => rfl
  | cons a P ih =>
    rw [List.any_cons, ih, int_beq, Bool.eq_iff_iff, Bool.or_eq_true, beq_iff_eq, decide_eq_true_eq, decide_eq_true_eq, List.mem_cons]
    exact or_congr eq_comm Iff.rfl
theorem r_mpaper (k : Nat) (S : Sto) {n : Nat} {rows : List Row} {P : List Nat} {marks : Row} (h1 : 1 ≤ n) (hn : n ≤ 100) (hr : Len n rows) (hl : rows.length ≤ 100) (hP : ∀ p ∈ P, p < n) (hPl : P.length ≤ 100) (hm : marks.length = P.length) :
    ∃ F0 F : List Row, F0.Perm (toldF (ats P rows)) ∧ F.Perm (toldF F0) ∧ run ds 100 (k + 4) 16 [code n rows, en P, er marks] S = some (mpaper n rows P marks F, S) := by
  obtain ⟨F0, hF0, hr14⟩ := r_seen k S hr hl hP hPl
  by_cases hnil : P = []
  · subst hnil
    refine ⟨F0, toldF F0, hF0, List.Perm.refl _, ?_⟩
    unfold mpaper
    rw [if_pos rfl]
    refine run_rt0 (d := df16) rfl rfl rfl ?_ (by rw [ltB_tup]; simp [no_er, no_str])
    exact es_seqR (es_if (k := true) (et_not (k := false) (et_val rfl (ee_var rfl) tru_en)) (fun _ => es_seqR (es_ret (ee_tup (ea_cons ee_con (ea_cons (ee_bin (op := .Mult) (m := false) (ee_tup (ea_cons ee_con ea_nil) (lim_ok (by simp))) (ee_idx (ee_var rfl) ee_con (idx_tup (j := 0) rfl)) (zeros1 false S h1 (by omega))) ea_nil)) (lim_ok (by simp))))) fun z => by cases z)
  · have hpos : 1 ≤ P.length := by cases P with | nil => exact absurd rfl hnil | cons a r => simp
    have hA := ats_len P rows
    obtain ⟨g1, g2⟩ := told_piv hA hF0
    have hF0l : F0.length ≤ 100 := by
      rw [told_rk hA hF0]
      exact Nat.le_trans (rk_le hA).1 (by unfold ats; rw [List.length_map]; exact hl)
    obtain ⟨F, hF, hr5⟩ := r_free k S (n := P.length) (rows := F0) hpos (by omega) g1.len (by omega)
    refine ⟨F0, F, hF0, hF, ?_⟩
    have htest : ∀ en0 : En, en0[1]? = some (some (en P)) → ET (run ds 100 (k + 3)) S.length (.not (.var 1)) en0 S false S := fun en0 h => by
      have := et_not (R := run ds 100 (k + 3)) (tp := S.length) (et_val (a := .var 1) rfl (ee_var h) (tru_en (P := P) (S := S)))
      rw [show decide (P ≠ []) = true by simpa using hnil] at this
      exact this
    have hlc := ee_lcN (R := run ds 100 (k + 3)) (tp := S.length) (m := false) (one := true) (tg := [4]) (us := [4]) (it := .seq (.idx (.var 0) (.con (.int 1)))) (e := .cal 13 (.cons (.var 4) (.cons (.var 1) .nil))) (en := [some (code n rows), some (en P), some (er marks), none, none, none, none, none, none]) (S := S) (S1 := S) (J := .seq (.tup (rows.map er))) (l := rows) er (fun r => er (atr P r))
      (ei_seq (ee_idx (ee_var rfl) ee_con (idx_tup (j := 1) rfl)) rfl) rfl (its_seq rfl) (by omega) (fun r hm => ⟨_, rfl, ee_cal (ea_cons (ee_var rfl) (ea_cons (ee_var rfl) ea_nil)) (r_marks (k + 2) S (hr r hm) hP (by omega))⟩)
    have e : rows.map (fun r => er (atr P r)) = (ats P rows).map er := by unfold ats; rw [List.map_map]; rfl
    rw [e] at hlc
    have h7 := r_lot k S (n := P.length) (rows := ats P rows) (row := marks) (v := .lst ((ats P rows).map er)) (by omega) hA (by unfold ats; rw [List.length_map]; omega) hm (fun _ => rfl)
    obtain ⟨q1, q2⟩ := her_ok hA hm
    unfold mpaper
    rw [if_neg hnil]
    by_cases hc : true ∈ (herP (ats P rows) marks).1
    · rw [if_pos hc] at h7 ⊢
      have hs : ¬ Sp P.length (ats P rows) marks := fun z => q2.mpr z hc
      have hs0 : ¬ Sp P.length F0 marks := fun z => hs ((g2 _).mp z)
      obtain ⟨t1, t2⟩ := told_piv g1.len hF
      obtain ⟨w, hw1, hw2⟩ := free_odd t1 hm fun z => hs0 ((t2 _).mp z)
      rw [dt_comm] at hw2
      have hfl := freeF_card (n := P.length) (F := F)
      have hne : ((freeF P.length F).filter fun w => dt w marks).map er ≠ [] := fun e => by
        have : w ∈ (freeF P.length F).filter fun w => dt w marks := List.mem_filter.mpr ⟨hw1, hw2⟩
        rw [List.map_eq_nil_iff.mp e] at this; cases this
      have hmem : ((freeF P.length F).filter fun w => dt w marks).headD [] ∈ freeF P.length F := by
        cases q : (freeF P.length F).filter fun w => dt w marks with
        | nil => rw [q] at hne; exact absurd rfl hne
        | cons a r => exact (List.mem_filter.mp (show a ∈ (freeF P.length F).filter fun w => dt w marks by rw [q]; simp)).1
      have hat : (((freeF P.length F).filter fun w => dt w marks).map er)[0]? = some (er (((freeF P.length F).filter fun w => dt w marks).headD [])) := by
        cases q : (freeF P.length F).filter fun w => dt w marks with
        | nil => rw [q] at hne; exact absurd rfl hne
        | cons a r => rfl
      have hol := freeF_len _ hmem
      have h6 : EE (run ds 100 (k + 3)) S.length (.idx (.lc false (.seq (.cal 5 (.cons (.cal 14 (.cons (.var 0) (.cons (.var 1) .nil))) .nil))) [7] true [7] (.so (.not (.cal 1 (.cons (.var 7) (.cons (.var 2) .nil))))) (.var 7)) (.con (.int 0))) [some (code n rows), some (en P), some (er marks), some .non, none, none, none, none, none] S (er (((freeF P.length F).filter fun w => dt w marks).headD [])) S :=
        ee_idx (ee_lcM (m := false) (l := freeF P.length F) er er (fun w => dt w marks) (ei_seq (ee_cal (ea_cons (ee_cal (ea_cons (ee_var rfl) (ea_cons (ee_var rfl) ea_nil)) hr14) ea_nil) hr5) rfl) rfl (its_seq rfl) (by omega)
          (fun w hmw => ⟨_, rfl, by
            have := et_not (R := run ds 100 (k + 3)) (et_val (tp := S.length) (a := .cal 1 (.cons (.var 7) (.cons (.var 2) .nil))) (en := [some (code n rows), some (en P), some (er marks), some .non, none, none, none, some (er w), none]) rfl (ee_cal (ea_cons (ee_var rfl) (ea_cons (ee_var rfl) ea_nil)) (r_even (k + 2) S (by rw [hm, freeF_len w hmw]) (by rw [freeF_len w hmw]; omega))) rfl)
            rwa [Bool.not_not] at this, fun _ => ee_var rfl⟩)) ee_con ((idx_lst (j := 0) rfl).trans (by rw [hat]; rfl))
      generalize ((freeF P.length F).filter fun w => dt w marks).headD [] = o at *
      have hlc2 := ee_lcN (R := run ds 100 (k + 3)) (tp := S.length) (m := false) (one := true) (tg := [8]) (us := [8]) (it := .rng (.idx (.var 0) (.con (.int 0)))) (e := .ite (.cmp .In (.var 8) (.var 1)) (.idx (.var 6) (.met .idx (.var 1) (.cons (.var 8) .nil))) (.con (.int 0))) (en := [some (code n rows), some (en P), some (er marks), some .non, none, none, some (er o), none, none]) (S := S) (S1 := S) (J := .rng 0 n) (l := List.range n) (fun (p : Nat) => .int p) (fun p => eb (if p ∈ P then at' o (P.idxOf p) else false))
        (ei_rng (j := n) (ee_idx (ee_var rfl) ee_con (idx_tup (j := 0) rfl)) (by simp only [rngOk, Bool.and_eq_true, decide_eq_true_eq]; omega)) rfl its_rng (by simp; omega) (fun p hp => ⟨_, rfl, by
          have hin := (in_ints (l := P) (h := fun i => (i : Int)) (a := (p : Int)) (v := en P) (S := S) rfl).1
          rw [any_in] at hin
          refine ee_ite (k := decide (p ∈ P)) (et_cmp (ee_var rfl) (ee_var rfl) hin) (fun z => ?_) fun z => ?_
          · have hz := of_decide_eq_true z
            rw [if_pos hz]
            exact ee_idx (ee_var rfl) (ee_met (f := .idx) (ee_var rfl) (ea_cons (ee_var rfl) ea_nil) rfl (idxP hz S)) (idx_er (by rw [hol]; exact List.idxOf_lt_length_of_mem hz) S)
          · rw [if_neg (of_decide_eq_false z)]
            exact ee_con⟩)
      have e2 : (List.range n).map (fun p => eb (if p ∈ P then at' o (P.idxOf p) else false)) = (lay n P o).map eb := by unfold lay; rw [List.map_map]; rfl
      rw [e2] at hlc2
      refine run_rt0 (d := df16) rfl rfl rfl ?_ (by rw [ltB_tup]; simp [no_er, no_str])
      exact es_seq (es_if (k := false) (htest _ rfl) (fun z => by cases z) fun _ => es_nop) (es_seq (es_asg (ee_cal (ea_cons hlc (ea_cons (ee_var rfl) ea_nil)) h7) rfl) (es_seq (es_if (k := false) (et_cmp (ee_var rfl) ee_con rfl) (fun z => by cases z) fun _ => es_nop) (es_seq (es_asg h6 rfl) (es_seqR (es_ret (ee_tup (ea_cons ee_con (ea_cons (ee_blt (f := .tup) (ea_cons hlc2 ea_nil) rfl) ea_nil)) (lim_ok (by simp))))))))
    · rw [if_neg hc] at h7 ⊢
      have hL := q1.2.1
      generalize (herP (ats P rows) marks).2 = l at *
      have hll := hL.len
      have hal : (ats P rows).length = rows.length := by unfold ats; rw [List.length_map]
      have hli : ∀ i ∈ l, i < rows.length := fun i hi => by have := hL.2 i hi; omega
      have h4 := r_sums (k + 1) S (n := n) (rows := l.map fun i => rows.getD i []) (v := .lst (l.map fun i => er (rows.getD i []))) h1 (by omega) (Lot.at hr (Nat.le_refl _) hli) (by simp; omega) (by show some _ = _; rw [List.map_map]; rfl)
      have hlc2 := ee_lcN (R := run ds 100 (k + 3)) (tp := S.length) (m := false) (one := true) (tg := [5]) (us := [5]) (it := .seq (.var 3)) (e := .idx (.idx (.var 0) (.con (.int 1))) (.var 5)) (en := [some (code n rows), some (en P), some (er marks), some (en l), none, none, none, none, none]) (S := S) (S1 := S) (J := .seq (en l)) (l := l) (fun (p : Nat) => .int p) (fun i => er (rows.getD i []))
        (ei_seq (ee_var rfl) rfl) rfl (its_seq rfl) (by omega) (fun i hi => ⟨_, rfl, ee_idx (ee_idx (ee_var rfl) ee_con (idx_tup (j := 1) rfl)) (ee_var rfl) (by
          rw [idx_tup (j := i) rfl, List.getElem?_map, List.getD_eq_getElem?_getD, List.getElem?_eq_getElem (hli i hi)]; rfl)⟩)
      refine run_rt0 (d := df16) rfl rfl rfl ?_ (by rw [ltB_tup]; simp [no_er, no_str])
      exact es_seq (es_if (k := false) (htest _ rfl) (fun z => by cases z) fun _ => es_nop) (es_seq (es_asg (ee_cal (ea_cons hlc (ea_cons (ee_var rfl) ea_nil)) h7) rfl) (es_seqR (es_if (k := true) (et_cmp (ee_var rfl) ee_con rfl) (fun _ => es_seqR (es_ret (ee_tup (ea_cons ee_con (ea_cons (ee_cal (ea_cons (ee_idx (ee_var rfl) ee_con (idx_tup (j := 0) rfl)) (ea_cons hlc2 ea_nil)) h4) ea_nil)) (lim_ok (by simp))))) fun z => by cases z)))
end Ev
namespace Ev
open PySem PySem.Spec PyProof.Rows L2

/-! ### what both say of a value -/
theorem in_word2 (s a b : Str) (S : Sto) : pCmp .In (.str s) (.tup [.str a, .str b]) S = some (s == a || s == b) ∧ pCmp .NotIn (.str s) (.tup [.str a, .str b]) S = some (!(s == a || s == b)) := by
  have h : inV (.str s) [.str a, .str b] = (s == a || s == b) := by
    simp only [inV, eqV, List.any_cons, List.any_nil, Bool.or_false]
    rw [Bool.eq_iff_iff, Bool.or_eq_true, Bool.or_eq_true, beq_iff_eq, beq_iff_eq, beq_iff_eq, beq_iff_eq]
    exact ⟨fun h => h.imp Eq.symm Eq.symm, fun h => h.imp Eq.symm Eq.symm⟩
  have h1 : pCmp .In (.str s) (.tup [.str a, .str b]) S = some (inV (.str s) [.str a, .str b]) := rfl
  have h2 : pCmp .NotIn (.str s) (.tup [.str a, .str b]) S = some (!inV (.str s) [.str a, .str b]) := rfl
  exact ⟨by rw [h1, h], by rw [h2, h]⟩
theorem r_wordedM (k : Nat) (S : Sto) {v : PV} (hp : pl v = true) : run ds 100 (k + 1) 11 [v, .tup [.str "row", .str "none"]] S = some (.bl (wordM v), S) := by
  refine run_rt0 (d := df11) rfl rfl rfl ?_ (no_bl _)
  have hi := isi_tup (pl_no hp) S
  cases ht : isTupB v with
  | false =>
    rw [ht] at hi
    have e : wordM v = false := by cases v <;> first | rfl | cases ht
    rw [e]
    exact es_seqR (es_ret (ee_and (ee_isi (ee_var rfl) hi) (fun z => by cases z) fun _ => ⟨rfl, rfl⟩))
  | true =>
    rw [ht] at hi
    cases v <;> first | (cases ht; done) | skip
    rename_i xs
    rw [pl] at hp
    refine es_seqR (es_ret (ee_and (ee_isi (ee_var rfl) hi) (fun _ => ?_) fun z => by cases z))
    have he := (eq_int .Eq (xs.length : Int) 2 S).1
    match xs, hp, he with
    | [], _, he => exact ee_and (k := false) (ee_cmp (ee_blt (f := .len) (ea_cons (ee_var rfl) ea_nil) rfl) ee_con he) (fun z => by cases z) fun _ => ⟨rfl, rfl⟩
    | [a], _, he => exact ee_and (k := false) (ee_cmp (ee_blt (f := .len) (ea_cons (ee_var rfl) ea_nil) rfl) ee_con he) (fun z => by cases z) fun _ => ⟨by cases a <;> rfl, rfl⟩
    | a :: b :: c :: r, _, he =>
      have : decide (((a :: b :: c :: r).length : Int) = 2) = false := decide_eq_false (by simp only [List.length_cons]; omega)
      rw [this] at he
      exact ee_and (k := false) (ee_cmp (ee_blt (f := .len) (ea_cons (ee_var rfl) ea_nil) rfl) ee_con he) (fun z => by cases z) fun _ => ⟨by cases a <;> rfl, rfl⟩
    | [a, b], hp, he =>
      refine ee_and (k := true) (ee_cmp (ee_blt (f := .len) (ea_cons (ee_var rfl) ea_nil) rfl) ee_con he) (fun _ => ?_) fun z => by cases z
      have ha := isi_str (pl_no (pls_mem hp (show a ∈ [a, b] by simp))) S
      refine ee_and (ee_isi (ee_idx (ee_var rfl) ee_con (idx_tup (j := 0) rfl)) ha) (fun z => ?_) fun z => ⟨?_, rfl⟩
      · cases a <;> first | (cases z; done) | skip
        exact ee_cmp (ee_idx (ee_var rfl) ee_con (idx_tup (j := 0) rfl)) (ee_var rfl) (in_word2 _ _ _ S).1
      · cases a <;> first | rfl | (cases z; done)
theorem wordM_inv {v : PV} (h : wordM v = true) : ∃ s b, v = .tup [.str s, b] ∧ snd' v = b := by
  unfold wordM at h
  rcases Bool.or_eq_true_iff.mp h with h | h <;> obtain ⟨b, e, e2⟩ := word_inv h <;> exact ⟨_, b, e, e2⟩
/-- the marks that differ, as walked -/
theorem lc_wrM {R : Orc} {tp : Nat} {S : Sto} {st : Bool} {P : List Nat} {marks r : Row} {n : Nat} {i j : Nat} {en0 : En} {x : ME} (hm : marks.length = P.length) (hPl : P.length ≤ 100) (hP : ∀ p ∈ P, p < n) (hr : r.length = n)
    (h1 : en0[1]? = some (some (en P))) (h2 : en0[2]? = some (some (er marks))) (hi : i < (wipeE en0 [i, j]).length) (hj : j < (wipeE en0 [i, j]).length) (hij : i ≠ j) (hx : ∀ en2 : En, (∀ k, k ≠ i → k ≠ j → en2[k]? = en0[k]?) → EE R tp x en2 S (er r) S) :
    EE R tp (.lc false (.zip st (.var 1) (.var 2)) [i, j] false [i, j] (.so (.cmp .NotEq (.idx x (.var i)) (.var j))) (.var i)) en0 S (.lst ((wrM P marks r).map fun (i : Nat) => PV.int i)) S := by
  have h := ee_lcM (R := R) (tp := tp) (m := false) (one := false) (tg := [i, j]) (us := [i, j]) (it := .zip st (.var 1) (.var 2)) (q := .so (.cmp .NotEq (.idx x (.var i)) (.var j))) (e := .var i) (en := en0) (S := S) (S1 := S) (J := .zip st (en P) (er marks)) (l := P.zip marks)
    (fun p => .tup [.int p.1, eb p.2]) (fun p => .int (p.1 : Nat)) (fun p => at' r p.1 != p.2) (ei_zip (st := st) (ee_var h1) (ee_var h2) rfl rfl) rfl (its_zip (f := fun (i : Nat) => PV.int i) (f2 := eb) rfl rfl hm.symm) (by rw [List.length_zip]; omega)
    (fun p hp => by
      have hpP : p.1 ∈ P := (List.of_mem_zip hp).1
      have hset : ∀ k, (((wipeE en0 [i, j]).set i (some (.int p.1))).set j (some (eb p.2)))[k]? = if k = j then some (some (eb p.2)) else if k = i then some (some (.int p.1)) else (wipeE en0 [i, j])[k]? := fun k => by
        rw [List.getElem?_set, List.getElem?_set]
        by_cases e1 : k = j
        · subst e1; simp [hj]
        · rw [if_neg (fun h => e1 h.symm), if_neg e1]
          by_cases e2 : k = i
          · subst e2; simp [hi]
          · rw [if_neg (fun h => e2 h.symm), if_neg e2]
      have hvi : (((wipeE en0 [i, j]).set i (some (.int p.1))).set j (some (eb p.2)))[i]? = some (some (.int p.1)) := by rw [hset, if_neg hij, if_pos rfl]
      have hvj : (((wipeE en0 [i, j]).set i (some (.int p.1))).set j (some (eb p.2)))[j]? = some (some (eb p.2)) := by rw [hset, if_pos rfl]
      refine ⟨_, rfl, et_cmp (ee_idx (hx _ fun k h1 h2 => ?_) (ee_var hvi) (idx_er (by rw [hr]; exact hP _ hpP) S)) (ee_var hvj) (ne_eb _ _ S), fun _ => ee_var hvi⟩
      rw [hset, if_neg h2, if_neg h1]
      show ((en0.set j none).set i none)[k]? = en0[k]?
      rw [List.getElem?_set, if_neg (fun h => h1 h.symm), List.getElem?_set, if_neg (fun h => h2 h.symm)])
  have e : ((P.zip marks).filter fun p => at' r p.1 != p.2).map (fun p => PV.int (p.1 : Nat)) = (wrM P marks r).map fun (i : Nat) => PV.int i := by unfold wrM; rw [List.map_map]; rfl
  rw [e] at h
  exact h
theorem notin_P {P : List Nat} {p : Nat} {S : Sto} : pCmp .NotIn (.int p) (en P) S = some (!P.contains p) := by
  have h := (in_ints (l := P) (h := fun i => (i : Int)) (a := (p : Int)) (v := en P) (S := S) rfl).2
  rw [any_in] at h
  rw [h]
  congr 2
  rw [Bool.eq_iff_iff, decide_eq_true_eq]; simp
theorem outs_ints (n : Nat) (P : List Nat) (r : Row) : ((List.range n).filter fun p => !P.contains p && at' r p).map (fun (i : Nat) => PV.int i) = (outs n P r).map fun (i : Nat) => PV.int i := rfl
theorem no_verdM (n : Nat) (rows : List Row) (P : List Nat) (marks : Row) (v : PV) : ltB 0 (verdM n rows P marks v) = true := by
  unfold verdM
  have h1 : ∀ s : Str, ltB 0 (.tup [.str s]) = true := fun s => by rw [ltB_tup]; simp [no_str]
  have h2 : ∀ (c : Bool) (s : Str), ltB 0 (if c then PV.non else .tup [.str s]) = true := fun c s => by cases c; exact h1 s; exact no_non
  split
  · split
    · exact no_hd1 (h2 _ _)
    · exact no_hd1 (no_hd1 (h2 _ _))
  · exact h1 _
theorem hasB_inS {n : Nat} {rows F : List Row} {row : Row} (hb : Bas n rows) (hF : F.Perm (toldF rows)) (hw : row.length = n) : hasB n F row = inS n rows row := has_same hb hF hw
theorem r_mjudge (k : Nat) (S : Sto) {n : Nat} {rows : List Row} {P : List Nat} {marks : Row} {v : PV} (h1 : 1 ≤ n) (hn : n ≤ 100) (hb : Bas n rows) (hP : ∀ p ∈ P, p < n) (hPl : P.length ≤ 100) (hm : marks.length = P.length) (hp : pl v = true) (hz : sz v ≤ 100000) :
    run ds 100 (k + 5) 17 [code n rows, en P, er marks, v] S = some (verdM n rows P marks v, S) := by
  have hl : rows.length ≤ 100 := Nat.le_trans hb.le hn
  have hr := hb.1
  refine run_rt0 (d := df17) rfl rfl rfl ?_ (no_verdM _ _ _ _ _)
  have hix : wordM v = true → (∀ S, pIdx v (.int 1) S = some (snd' v, S)) ∧ pl (snd' v) = true ∧ sz (snd' v) ≤ 100000 := fun h => by
    obtain ⟨s, b, rfl, e2⟩ := wordM_inv h
    refine ⟨fun S => rfl, pls_mem (xs := [.str s, b]) hp (by simp [snd']), ?_⟩
    have := szs_mem (xs := [.str s, b]) (x := b) (by simp)
    rw [sz] at hz
    show sz b ≤ _
    omega
  have c1 : ET (run ds 100 (k + 4)) S.length (.or (.not (.cal 11 (.cons (.var 3) (.cons (.tup (.cons (.con (.str "row")) (.cons (.con (.str "none")) .nil))) .nil)))) (.not (.cal 10 (.cons (.idx (.var 0) (.con (.int 0))) (.cons (.idx (.var 3) (.con (.int 1))) .nil)))))
      [some (code n rows), some (en P), some (er marks), some v, none, none, none, none, none] S (!(wordM v && rowB n (snd' v))) S := by
    refine et_or (k := !wordM v) (et_not (tv rfl (ee_cal (ea_cons (ee_var rfl) (ea_cons (ee_tup (ea_cons ee_con (ea_cons ee_con ea_nil)) (lim_ok (by simp))) ea_nil)) (r_wordedM (k + 3) S hp)))) (fun z => ?_) fun z => ⟨by
      have : wordM v = false := by simpa using z
      rw [this]; rfl, rfl⟩
    have z' : wordM v = true := by simpa using z
    rw [z', Bool.true_and]
    obtain ⟨q0, q1, q2⟩ := hix z'
    exact et_not (tv rfl (ee_cal (ea_cons (ee_idx (ee_var rfl) ee_con (idx_tup (j := 0) rfl)) (ea_cons (ee_idx (ee_var rfl) ee_con (q0 S)) ea_nil)) (r_isrow (k + 2) S q1 q2)))
  unfold verdM
  cases hc : wordM v && rowB n (snd' v) with
  | false =>
    rw [hc] at c1
    simp only [Bool.false_eq_true, if_false]
    exact es_seqR (es_if (k := true) c1 (fun _ => es_seqR (es_ret (ee_tup (ea_cons ee_con ea_nil) (lim_ok (by simp))))) fun z => by cases z)
  | true =>
    rw [hc] at c1
    rw [Bool.and_eq_true] at hc
    simp only [if_true]
    refine es_seq (es_if (k := false) c1 (fun z => by cases z) fun _ => es_nop) ?_
    obtain ⟨e, hwl⟩ := row_ok hc.2
    have hx := (hix hc.1).1
    obtain ⟨s, b, rfl, -⟩ := wordM_inv hc.1
    rw [e] at hx
    generalize rowOf (snd' (.tup [.str s, b])) = r at *
    have hw1 : wordB "row" (.tup [.str s, b]) = (s == "row") := rfl
    rw [hw1]
    refine es_seq (es_asg (ee_idx (ee_var rfl) ee_con (hx S)) rfl) ?_
    have heq := (eq_str s "row" S).1
    cases hs : s == "row" with
    | true =>
      rw [hs] at heq
      simp only [if_true]
      refine es_seqR (es_if (k := true) (et_cmp (ee_idx (ee_var rfl) ee_con (idx_tup (j := 0) rfl)) ee_con heq) (fun _ => ?_) fun z => by cases z)
      refine es_seq (es_asg (lc_wrM (n := n) (r := r) hm hPl hP hwl rfl rfl (by show 6 < 9; decide) (by show 7 < 9; decide) (by decide) (fun en2 h => ee_var (by rw [h 4 (by decide) (by decide)]; rfl))) rfl) ?_
      cases ho : wrM P marks r with
      | cons p t =>
        exact es_seqR (es_if (k := true) (et_val rfl (ee_var rfl) rfl) (fun _ => es_seqR (es_ret (ee_tup (ea_cons ee_con (ea_cons (ee_idx (ee_var rfl) ee_con (idx_hd rfl S)) ea_nil)) (lim_ok (by simp))))) fun z => by cases z)
      | nil =>
        refine es_seq (es_if (k := false) (et_val rfl (ee_var rfl) rfl) (fun z => by cases z) fun _ => es_nop) (es_seqR (es_ret ?_))
        obtain ⟨F, hF, h6⟩ := r_has k S h1 (by omega) hr (by omega) hwl
        rw [hasB_inS hb hF hwl] at h6
        show EE _ _ _ _ S (if inS n rows r then PV.non else .tup [.str "out"]) S
        cases hh : inS n rows r with
        | true =>
          rw [hh] at h6
          exact ee_ite (k := true) (tv rfl (ee_cal (ea_cons (ee_var rfl) (ea_cons (ee_var rfl) ea_nil)) h6)) (fun _ => ee_con) fun z => by cases z
        | false =>
          rw [hh] at h6
          exact ee_ite (k := false) (tv rfl (ee_cal (ea_cons (ee_var rfl) (ea_cons (ee_var rfl) ea_nil)) h6)) (fun z => by cases z) fun _ => ee_tup (ea_cons ee_con ea_nil) (lim_ok (by simp))
    | false =>
      rw [hs] at heq
      simp only [Bool.false_eq_true, if_false]
      refine es_seq (es_if (k := false) (et_cmp (ee_idx (ee_var rfl) ee_con (idx_tup (j := 0) rfl)) ee_con heq) (fun z => by cases z) fun _ => es_nop) ?_
      have h7 := ee_lcM (R := run ds 100 (k + 4)) (tp := S.length) (m := false) (one := true) (tg := [6]) (us := [6]) (it := .rng (.idx (.var 0) (.con (.int 0)))) (q := .so (.and (.cmp .NotIn (.var 6) (.var 1)) (.cmp .Eq (.idx (.var 4) (.var 6)) (.con (.int 1))))) (e := .var 6)
        (en := [some (code n rows), some (en P), some (er marks), some (.tup [.str s, b]), some (er r), none, none, none, none]) (S := S) (S1 := S) (J := .rng 0 n) (l := List.range n) (fun (i : Nat) => .int i) (fun (i : Nat) => .int i) (fun p => !P.contains p && at' r p)
        (ei_rng (j := n) (ee_idx (ee_var rfl) ee_con (idx_tup (j := 0) rfl)) (by simp only [rngOk, Bool.and_eq_true, decide_eq_true_eq]; omega)) rfl its_rng (by simp; omega)
        (fun p hp => by
          have hp' : p < n := List.mem_range.mp hp
          refine ⟨_, rfl, et_and (k := !P.contains p) (et_cmp (ee_var rfl) (ee_var rfl) notin_P) (fun z => ?_) fun z => ⟨by rw [z]; rfl, rfl⟩, fun _ => ee_var rfl⟩
          rw [z, Bool.true_and]
          exact et_cmp (ee_idx (ee_var rfl) (ee_var rfl) (idx_er (by rw [hwl]; exact hp') S)) ee_con (eq_one _ S))
      rw [outs_ints] at h7
      refine es_seq (es_asg h7 rfl) ?_
      cases ho : outs n P r with
      | cons p t =>
        exact es_seqR (es_if (k := true) (et_val rfl (ee_var rfl) rfl) (fun _ => es_seqR (es_ret (ee_tup (ea_cons ee_con (ea_cons (ee_idx (ee_var rfl) ee_con (idx_hd rfl S)) ea_nil)) (lim_ok (by simp))))) fun z => by cases z)
      | nil =>
        refine es_seq (es_if (k := false) (et_val rfl (ee_var rfl) rfl) (fun z => by cases z) fun _ => es_nop) ?_
        refine es_seq (es_asg (ee_cal (ea_cons (ee_idx (ee_var rfl) ee_con (idx_tup (j := 1) rfl)) (ea_cons (ee_var rfl) ea_nil)) (r_fodd (k + 2) S (by omega) hr (by omega) hwl)) rfl) ?_
        cases ho2 : odds rows r with
        | cons p t =>
          exact es_seqR (es_if (k := true) (et_cmp (ee_var rfl) ee_con rfl) (fun _ => es_seqR (es_ret (ee_tup (ea_cons ee_con (ea_cons (ee_var rfl) ea_nil)) (lim_ok (by simp))))) fun z => by cases z)
        | nil =>
          refine es_seq (es_if (k := false) (et_cmp (ee_var rfl) ee_con rfl) (fun z => by cases z) fun _ => es_nop) (es_seqR (es_ret ?_))
          have h9 := r_even (k + 3) S (a := atr P r) (b := marks) (by rw [atr_len, hm]) (by rw [atr_len]; omega)
          have h13 := r_marks (k + 3) S (n := n) (row := r) (P := P) hwl hP (by omega)
          show EE _ _ _ _ S (if dt (atr P r) marks then PV.non else .tup [.str "even"]) S
          cases hdt : dt (atr P r) marks with
          | true =>
            rw [hdt] at h9
            exact ee_ite (k := false) (tv rfl (ee_cal (ea_cons (ee_cal (ea_cons (ee_var rfl) (ea_cons (ee_var rfl) ea_nil)) h13) (ea_cons (ee_var rfl) ea_nil)) h9)) (fun z => by cases z) fun _ => ee_con
          | false =>
            rw [hdt] at h9
            exact ee_ite (k := true) (tv rfl (ee_cal (ea_cons (ee_cal (ea_cons (ee_var rfl) (ea_cons (ee_var rfl) ea_nil)) h13) (ea_cons (ee_var rfl) ea_nil)) h9)) (fun _ => ee_tup (ea_cons ee_con ea_nil) (lim_ok (by simp))) fun z => by cases z
end Ev
namespace Ev
open PySem PySem.Spec PyProof.Rows L2

/-! ### the law's own verdict, how many, drawn places -/
theorem ne_nil_tup (xs : List PV) (S : Sto) : pCmp .NotEq (.tup xs) (.tup []) S = some (!xs.isEmpty) := by
  have h := eq_nil xs S
  have h2 : pCmp .NotEq (.tup xs) (.tup []) S = (pCmp .Eq (.tup xs) (.tup []) S).map (!·) := rfl
  rw [h2, h]; rfl
theorem sum_at {P : List Nat} {r marks : Row} : ((P.zip marks).map fun p => bi (at' r p.1 && p.2)) = (((atr P r).zip marks).map fun p => bi (p.1 && p.2)) := by
  unfold atr
  induction P generalizing marks with
  | nil => rfl
  | cons a P ih => cases marks with
    | nil => rfl
    | cons b m => rw [List.map_cons, List.zip_cons_cons, List.zip_cons_cons, List.map_cons, List.map_cons, ih]
theorem r_mfault (k : Nat) (S : Sto) {n : Nat} {rows : List Row} {P : List Nat} {marks : Row} {v : PV} (h1 : 1 ≤ n) (hn : n ≤ 100) (hb : Bas n rows) (hP : ∀ p ∈ P, p < n) (hPl : P.length ≤ 100) (hm : marks.length = P.length) (hp : pl v = true) (hz : sz v ≤ 100000) :
    run ds 100 (k + 4) 41 [code n rows, en P, er marks, v] S = some (verdM n rows P marks v, S) := by
  have hl : rows.length ≤ 100 := Nat.le_trans hb.le hn
  have hr := hb.1
  refine run_rt0 (d := df41) rfl rfl rfl ?_ (no_verdM _ _ _ _ _)
  refine es_seq (es_asg (ee_var rfl) rfl) ?_
  have c1 : ET (run ds 100 (k + 3)) S.length (.or (.not (.isi "tuple" (.var 3))) (.or (.cmp .NotEq (.blt .len (.cons (.var 3) .nil)) (.con (.int 2))) (.or (.not (.isi "str" (.idx (.var 3) (.con (.int 0))))) (.cmp .NotIn (.idx (.var 3) (.con (.int 0))) (.tup (.cons (.con (.str "row")) (.cons (.con (.str "none")) .nil)))))))
      [some (code n rows), some (en P), some (er marks), some v, some (.int n), some (.tup (rows.map er)), none, none, none, none, none] S (!wordM v) S := by
    have hi := isi_tup (pl_no hp) S
    refine et_or (k := !isTupB v) (et_not (tv rfl (ee_isi (ee_var rfl) hi))) (fun z => ?_) fun z => ⟨?_, rfl⟩
    · cases v <;> first | (cases z; done) | skip
      rename_i xs
      rw [pl] at hp
      have he := (eq_int .Eq (xs.length : Int) 2 S).2
      match xs, hp, he with
      | [], _, he => exact et_or (k := true) (et_cmp (ee_blt (f := .len) (ea_cons (ee_var rfl) ea_nil) rfl) ee_con he) (fun z => by cases z) fun _ => ⟨rfl, rfl⟩
      | [a], _, he => exact et_or (k := true) (et_cmp (ee_blt (f := .len) (ea_cons (ee_var rfl) ea_nil) rfl) ee_con he) (fun z => by cases z) fun _ => ⟨by cases a <;> rfl, rfl⟩
      | a :: b :: c :: r, _, he =>
        have : decide (((a :: b :: c :: r).length : Int) = 2) = false := decide_eq_false (by simp only [List.length_cons]; omega)
        rw [this] at he
        exact et_or (k := true) (et_cmp (ee_blt (f := .len) (ea_cons (ee_var rfl) ea_nil) rfl) ee_con he) (fun z => by cases z) fun _ => ⟨by cases a <;> rfl, rfl⟩
      | [a, b], hp, he =>
        refine et_or (k := false) (et_cmp (ee_blt (f := .len) (ea_cons (ee_var rfl) ea_nil) rfl) ee_con he) (fun _ => ?_) fun z => by cases z
        have ha := isi_str (pl_no (pls_mem hp (show a ∈ [a, b] by simp))) S
        refine et_or (k := !isStrB a) (et_not (tv rfl (ee_isi (ee_idx (ee_var rfl) ee_con (idx_tup (j := 0) rfl)) ha))) (fun z => ?_) fun z => ⟨?_, rfl⟩
        · cases a <;> first | (cases z; done) | skip
          rename_i s
          exact et_cmp (ee_idx (ee_var rfl) ee_con (idx_tup (j := 0) rfl)) (ee_tup (ea_cons ee_con (ea_cons ee_con ea_nil)) (lim_ok (by simp))) (in_word2 _ _ _ S).2
        · cases a <;> first | rfl | (cases z; done)
    · cases v <;> first | rfl | (cases z; done)
  unfold verdM
  cases hw : wordM v with
  | false =>
    rw [hw] at c1
    simp only [Bool.false_and, Bool.false_eq_true, if_false]
    exact es_seqR (es_if (k := true) c1 (fun _ => es_seqR (es_ret (ee_tup (ea_cons ee_con ea_nil) (lim_ok (by simp))))) fun z => by cases z)
  | true =>
    rw [hw] at c1
    refine es_seq (es_if (k := false) c1 (fun z => by cases z) fun _ => es_nop) ?_
    obtain ⟨s, b, rfl, e2⟩ := wordM_inv hw
    rw [e2, Bool.true_and]
    have hpb : pl b = true := by rw [pl] at hp; exact pls_mem hp (by simp)
    have hzb : sz b ≤ 100000 := by
      have := szs_mem (xs := [.str s, b]) (x := b) (by simp)
      rw [sz] at hz; omega
    have hb1 : ∀ (S : Sto), pIdx (.tup [.str s, b]) (.int 1) S = some (b, S) := fun S => rfl
    have hb0 : ∀ (S : Sto), pIdx (.tup [.str s, b]) (.int 0) S = some (.str s, S) := fun S => rfl
    have c2 := et_not (R := run ds 100 (k + 3)) (tv (tp := S.length) (a := .cal 36 (.cons (.var 4) (.cons (.idx (.var 3) (.con (.int 1))) .nil))) (en := [some (code n rows), some (en P), some (er marks), some (.tup [.str s, b]), some (.int n), some (.tup (rows.map er)), none, none, none, none, none]) (S := S) rfl (ee_cal (ea_cons (ee_var rfl) (ea_cons (ee_idx (ee_var rfl) ee_con (hb1 S)) ea_nil)) (r_lisrow k S hpb hzb)))
    cases hd : rowB n b with
    | false =>
      rw [hd] at c2
      simp only [Bool.false_eq_true, if_false]
      exact es_seqR (es_if (k := true) c2 (fun _ => es_seqR (es_ret (ee_tup (ea_cons ee_con ea_nil) (lim_ok (by simp))))) fun z => by cases z)
    | true =>
      rw [hd] at c2
      simp only [if_true]
      refine es_seq (es_if (k := false) c2 (fun z => by cases z) fun _ => es_nop) ?_
      obtain ⟨e, hwl⟩ := row_ok hd
      have hx : ∀ S : Sto, pIdx (.tup [.str s, b]) (.int 1) S = some (er (rowOf b), S) := fun S => by rw [← e]; rfl
      generalize rowOf b = r at *
      have hw1 : wordB "row" (.tup [.str s, b]) = (s == "row") := rfl
      rw [hw1]
      have heq := (eq_str s "row" S).1
      have hform : ∀ (tag : Str) (l : List Nat) (en0 : En), en0[6]? = some (some (.lst (l.map fun (i : Nat) => PV.int i))) → ∀ p t, l = p :: t → EE (run ds 100 (k + 3)) S.length (.tup (.cons (.con (.str tag)) (.cons (.idx (.var 6) (.con (.int 0))) .nil))) en0 S (.tup [.str tag, .int p]) S := fun tag l en0 h p t hl =>
        ee_tup (ea_cons ee_con (ea_cons (ee_idx (ee_var h) ee_con (idx_hd hl S)) ea_nil)) (lim_ok (by simp))
      cases hs : s == "row" with
      | true =>
        rw [hs] at heq
        simp only [if_true]
        refine es_seqR (es_if (k := true) (et_cmp (ee_idx (ee_var rfl) ee_con (hb0 S)) ee_con heq) (fun _ => ?_) fun z => by cases z)
        refine es_seq (es_asg (lc_wrM (n := n) (r := r) hm hPl hP hwl rfl rfl (by show 7 < 11; decide) (by show 8 < 11; decide) (by decide) (fun en2 h => ee_idx (ee_var (by rw [h 3 (by decide) (by decide)]; rfl)) ee_con (hx S))) rfl) (es_seqR (es_ret ?_))
        have hne := (eq_nil_ints (wrM P marks r) (fun (i : Nat) => (i : Int)) S).2
        cases ho : wrM P marks r with
        | cons p t =>
          rw [ho] at hne
          exact ee_ite (k := true) (et_cmp (ee_var rfl) (ee_lst (m := false) ea_nil (lim_ok (by simp))) hne) (fun _ => hform "place" (p :: t) _ rfl p t rfl) fun z => by cases z
        | nil =>
          rw [ho] at hne
          refine ee_ite (k := false) (et_cmp (ee_var rfl) (ee_lst (m := false) ea_nil (lim_ok (by simp))) hne) (fun z => by cases z) fun _ => ?_
          have h33 := r_lhas k S h1 hn hr hl hwl
          show EE _ _ _ _ S (if inS n rows r then PV.non else .tup [.str "out"]) S
          unfold inS
          cases hh : decide ((lawT n (rows ++ [r])).length = rows.length) with
          | true =>
            rw [hh] at h33
            exact ee_ite (k := true) (tv rfl (ee_cal (ea_cons (ee_var rfl) (ea_cons (ee_idx (ee_var rfl) ee_con (hx S)) ea_nil)) h33)) (fun _ => ee_con) fun z => by cases z
          | false =>
            rw [hh] at h33
            exact ee_ite (k := false) (tv rfl (ee_cal (ea_cons (ee_var rfl) (ea_cons (ee_idx (ee_var rfl) ee_con (hx S)) ea_nil)) h33)) (fun z => by cases z) fun _ => ee_tup (ea_cons ee_con ea_nil) (lim_ok (by simp))
      | false =>
        rw [hs] at heq
        simp only [Bool.false_eq_true, if_false]
        refine es_seq (es_if (k := false) (et_cmp (ee_idx (ee_var rfl) ee_con (hb0 S)) ee_con heq) (fun z => by cases z) fun _ => es_nop) ?_
        have h7 := ee_lcM (R := run ds 100 (k + 3)) (tp := S.length) (m := false) (one := true) (tg := [7]) (us := [7]) (it := .rng (.var 4)) (q := .so (.and (.cmp .NotIn (.var 7) (.var 1)) (.cmp .Eq (.idx (.idx (.var 3) (.con (.int 1))) (.var 7)) (.con (.int 1))))) (e := .var 7)
          (en := [some (code n rows), some (en P), some (er marks), some (.tup [.str s, b]), some (.int n), some (.tup (rows.map er)), none, none, none, none, none]) (S := S) (S1 := S) (J := .rng 0 n) (l := List.range n) (fun (i : Nat) => .int i) (fun (i : Nat) => .int i) (fun p => !P.contains p && at' r p)
          (ei_rng (j := n) (ee_var rfl) (by simp only [rngOk, Bool.and_eq_true, decide_eq_true_eq]; omega)) rfl its_rng (by simp; omega)
          (fun p hp => by
            have hp' : p < n := List.mem_range.mp hp
            refine ⟨_, rfl, et_and (k := !P.contains p) (et_cmp (ee_var rfl) (ee_var rfl) notin_P) (fun z => ?_) fun z => ⟨by rw [z]; rfl, rfl⟩, fun _ => ee_var rfl⟩
            rw [z, Bool.true_and]
            exact et_cmp (ee_idx (ee_idx (ee_var rfl) ee_con (hx S)) (ee_var rfl) (idx_er (by rw [hwl]; exact hp') S)) ee_con (eq_one _ S))
        rw [outs_ints] at h7
        refine es_seq (es_asg h7 rfl) ?_
        have hne := (eq_nil_ints (outs n P r) (fun (i : Nat) => (i : Int)) S).2
        cases ho : outs n P r with
        | cons p t =>
          rw [ho] at hne
          exact es_seqR (es_if (k := true) (et_cmp (ee_var rfl) (ee_lst (m := false) ea_nil (lim_ok (by simp))) hne) (fun _ => es_seqR (es_ret (hform "place" (p :: t) _ rfl p t rfl))) fun z => by cases z)
        | nil =>
          rw [ho] at hne
          refine es_seq (es_if (k := false) (et_cmp (ee_var rfl) (ee_lst (m := false) ea_nil (lim_ok (by simp))) hne) (fun z => by cases z) fun _ => es_nop) ?_
          have h5 := ee_lcM (R := run ds 100 (k + 3)) (tp := S.length) (m := false) (one := false) (tg := [9, 10]) (us := [9, 10]) (it := .enu (.var 5)) (q := .so (.cal 29 (.cons (.var 10) (.cons (.idx (.var 3) (.con (.int 1))) .nil)))) (e := .var 9)
            (en := [some (code n rows), some (en P), some (er marks), some (.tup [.str s, b]), some (.int n), some (.tup (rows.map er)), some (.lst (([] : List Nat).map fun (i : Nat) => PV.int i)), none, none, none, none]) (S := S) (S1 := S) (J := .enu (.tup (rows.map er)))
            (l := rows.zipIdx) (fun p => .tup [.int p.2, er p.1]) (fun p => .int (p.2 : Nat)) (fun p => dt p.1 r) (ei_enu (ee_var rfl) rfl) rfl (its_enu rfl) (by simp; omega) (fun p hp => by
              have hm : p.1 ∈ rows := by
                obtain ⟨a, i⟩ := p
                have := List.mem_zipIdx hp
                rw [this.2.2]; exact List.getElem_mem _
              exact ⟨_, rfl, tv rfl (ee_cal (ea_cons (ee_var rfl) (ea_cons (ee_idx (ee_var rfl) ee_con (hx S)) ea_nil)) (r_odd (k + 2) S (by rw [hwl, hr _ hm]) (by rw [hr _ hm]; omega))), fun _ => ee_var rfl⟩)
          rw [odds_ints] at h5
          refine es_seq (es_asg h5 rfl) ?_
          have hne2 := (eq_nil_ints (odds rows r) (fun (i : Nat) => (i : Int)) S).2
          show ES _ _ _ _ _ S (.rt (hd1 "base" (odds rows r) (if dt (atr P r) marks then .non else .tup [.str "even"])) S)
          cases ho2 : odds rows r with
          | cons p t =>
            rw [ho2] at hne2
            exact es_seqR (es_if (k := true) (et_cmp (ee_var rfl) (ee_lst (m := false) ea_nil (lim_ok (by simp))) hne2) (fun _ => es_seqR (es_ret (hform "base" (p :: t) _ rfl p t rfl))) fun z => by cases z)
          | nil =>
            rw [ho2] at hne2
            refine es_seq (es_if (k := false) (et_cmp (ee_var rfl) (ee_lst (m := false) ea_nil (lim_ok (by simp))) hne2) (fun z => by cases z) fun _ => es_nop) (es_seqR (es_ret ?_))
            have hsum := (zip_sum (atr P r) marks).2
            have hlc := ee_lcN (R := run ds 100 (k + 3)) (tp := S.length) (m := false) (one := false) (tg := [7, 8]) (us := [7, 8]) (it := .zip false (.var 1) (.var 2)) (e := .bin .Mult false (.idx (.idx (.var 3) (.con (.int 1))) (.var 7)) (.var 8)) (en := [some (code n rows), some (en P), some (er marks), some (.tup [.str s, b]), some (.int n), some (.tup (rows.map er)), some (.lst (([] : List Nat).map fun (i : Nat) => PV.int i)), none, none, none, none]) (S := S) (S1 := S) (J := .zip false (en P) (er marks)) (l := P.zip marks)
              (fun p => .tup [.int p.1, eb p.2]) (fun p => .int (bi (at' r p.1 && p.2))) (ei_zip (st := false) (ee_var rfl) (ee_var rfl) rfl rfl) rfl (its_zip (f := fun (i : Nat) => PV.int i) (f2 := eb) rfl rfl hm.symm) (by rw [List.length_zip]; omega)
              (fun p hp => ⟨_, rfl, ee_bin (op := .Mult) (m := false) (ee_idx (ee_idx (ee_var rfl) ee_con (hx S)) (ee_var rfl) (idx_er (by rw [hwl]; exact hP _ (List.of_mem_zip hp).1) S)) (ee_var rfl) (mul_eb _ _ false _)⟩)
            have hmod : EE (run ds 100 (k + 3)) S.length (.bin .Mod false (.blt .int (.cons (.blt .sum (.cons (.lc false (.zip false (.var 1) (.var 2)) [7, 8] false [7, 8] .no (.bin .Mult false (.idx (.idx (.var 3) (.con (.int 1))) (.var 7)) (.var 8))) .nil)) .nil)) (.con (.int 2))) [some (code n rows), some (en P), some (er marks), some (.tup [.str s, b]), some (.int n), some (.tup (rows.map er)), some (.lst (([] : List Nat).map fun (i : Nat) => PV.int i)), none, none, none, none] S (.int (bi (dt (atr P r) marks))) S := by
              refine ee_bin (op := .Mod) (m := false) (v := .int ((P.zip marks).map fun p => bi (at' r p.1 && p.2)).sum) (S1 := S) (ee_blt (f := .int) (ea_cons (ee_blt (f := .sum) (ea_cons hlc ea_nil) (sum_lst _ _ _)) ea_nil) rfl) ee_con ?_
              simp only [opF, pMod]
              rw [if_pos (by decide), Int.fmod_eq_emod_of_nonneg _ (by decide), sum_at, hsum]
            have h11 := (eq_int .Eq (bi (dt (atr P r) marks)) 1 S).1
            show EE _ _ _ _ S (if dt (atr P r) marks then PV.non else .tup [.str "even"]) S
            cases hdt : dt (atr P r) marks with
            | true =>
              rw [hdt] at h11 hmod
              exact ee_ite (k := true) (et_cmp hmod ee_con h11) (fun _ => ee_con) fun z => by cases z
            | false =>
              rw [hdt] at h11 hmod
              exact ee_ite (k := false) (et_cmp hmod ee_con h11) (fun z => by cases z) fun _ => ee_tup (ea_cons ee_con ea_nil) (lim_ok (by simp))
theorem r_count (k : Nat) (S : Sto) {n : Nat} {rows : List Row} {P : List Nat} {marks z : Row} {w : Str} (hr : Len n rows) (hl : rows.length ≤ 100) (hP : ∀ p ∈ P, p < n) (hPl : P.length ≤ 100) (hrun : run ds 100 (k + 4) 16 [code n rows, en P, er marks] S = some (.tup [.str w, er z], S)) :
    run ds 100 (k + 5) 18 [code n rows, en P, er marks] S = some (if w = "none" then .int 0 else .int ((2 ^ (rows.length - rkP rows P) : Nat) : Int), S) := by
  have heq := (eq_str w "none" S).1
  by_cases hw : w = "none"
  · rw [if_pos hw]
    rw [show (w == "none") = true by simpa using hw] at heq
    refine run_rt0 (d := df18) rfl rfl rfl ?_ (no_int _)
    exact es_seqR (es_if (k := true) (et_cmp (ee_idx (ee_cal (ea_cons (ee_var rfl) (ea_cons (ee_var rfl) (ea_cons (ee_var rfl) ea_nil))) hrun) ee_con (idx_tup (j := 0) rfl)) ee_con heq) (fun _ => es_seqR (es_ret ee_con)) fun z => by cases z)
  · rw [if_neg hw]
    rw [show (w == "none") = false by simpa using hw] at heq
    refine run_rt0 (d := df18) rfl rfl rfl ?_ (no_int _)
    have h15 := r_rank k S hr hl hP hPl
    have hrk : rkP rows P ≤ rows.length := by
      unfold rkP
      split
      · omega
      · exact Nat.le_trans (rk_le (ats_len P rows)).1 (by unfold ats; rw [List.length_map]; exact Nat.le_refl _)
    have hsub : opF false .Sub (.int rows.length) (.int (rkP rows P)) S = some (.int ((rows.length - rkP rows P : Nat) : Int), S) := by
      show some (PV.int ((rows.length : Int) - (rkP rows P : Int)), S) = _
      rw [show (rows.length : Int) - (rkP rows P : Int) = ((rows.length - rkP rows P : Nat) : Int) by omega]
    have hshl : opF false .LShift (.int 1) (.int ((rows.length - rkP rows P : Nat) : Int)) S = some (.int ((2 ^ (rows.length - rkP rows P) : Nat) : Int), S) := by
      show (if 0 ≤ ((rows.length - rkP rows P : Nat) : Int) ∧ ((rows.length - rkP rows P : Nat) : Int) ≤ 1000000 ∧ (1 : Int).natAbs < 2 ^ 64 then some (PV.int (1 * 2 ^ ((rows.length - rkP rows P : Nat) : Int).toNat), S) else none) = _
      rw [if_pos ⟨by omega, by omega, by decide⟩, Int.toNat_natCast]
      congr 3
      push_cast
      omega
    exact es_seq (es_if (k := false) (et_cmp (ee_idx (ee_cal (ea_cons (ee_var rfl) (ea_cons (ee_var rfl) (ea_cons (ee_var rfl) ea_nil))) hrun) ee_con (idx_tup (j := 0) rfl)) ee_con heq) (fun z => by cases z) fun _ => es_nop)
      (es_seqR (es_ret (ee_bin (op := .LShift) (m := false) ee_con (ee_bin (op := .Sub) (m := false) (ee_blt (f := .len) (ea_cons (ee_idx (ee_var rfl) ee_con (idx_tup (j := 1) rfl)) ea_nil) (by
        show some (PV.int ((rows.map er).length : Nat), S) = _
        rw [List.length_map])) (ee_cal (ea_cons (ee_var rfl) (ea_cons (ee_var rfl) ea_nil)) h15) hsub) hshl)))
/-- a lot of places -/
def PlaceLot (n : Nat) (P : List Nat) : Prop := P.Nodup ∧ (∀ p ∈ P, p < n) ∧ P.length ≤ n
theorem r_places (k : Nat) (T : Sto) {q : Qs} (hq : q.ok) {n : Nat} (h1 : 1 ≤ n) (hn : n ≤ 100) :
    ∃ (P : List Nat) (q' : Qs), PlaceLot n P ∧ P ≠ [] ∧ run ds 100 (k + 2) 38 [.ref 2, .int n] (q.st ++ T) = some (en P, q'.st ++ T) ∧ q'.ok := by
  obtain ⟨acc, S', ⟨q1, l, rfl, rfl, hs, hlt, hll, hq1⟩, he⟩ := ee_lcI (R := run ds 100 (k + 1)) (tp := (q.st ++ T).length) (m := false) (one := true) (tg := [3]) (us := [3]) (it := .rng (.var 1)) (q := .so (.cmp .Eq (.cal 20 (.cons (.var 0) (.cons (.con (.int 2)) .nil))) (.con (.int 0)))) (e := .var 3)
    (en := [some (.ref 2), some (.int n), none, none]) (S := q.st ++ T) (S1 := q.st ++ T) (J := .rng 0 n)
    (fun i acc S => ∃ (q' : Qs) (l : List Nat), S = q'.st ++ T ∧ acc = l.map (fun (i : Nat) => PV.int i) ∧ l.Pairwise (· < ·) ∧ (∀ j ∈ l, j < i) ∧ l.length ≤ i ∧ q'.ok) n
    (ei_rng (j := n) (ee_var rfl) (by simp only [rngOk, Bool.and_eq_true, decide_eq_true_eq]; omega)) rfl rfl ⟨q, [], rfl, rfl, List.Pairwise.nil, fun _ h => (nomatch h), Nat.le_refl _, hq⟩ (fun acc S h => rfl)
    (fun i acc S hi hI => by
      obtain ⟨q', l, rfl, rfl, hs, hlt, hll, hq'⟩ := hI
      obtain ⟨r, q2, h, h2, h3⟩ := pick k T hq' (many := 2) (by omega) (by omega)
      have h0 := (eq_int .Eq (r : Int) 0 (q2.st ++ T)).1
      have hsz : sizeLine ≥ 1000000 := by rw [sizeLine_eq]; omega
      exact ⟨.int i, _, decide ((r : Int) = 0), q2.st ++ T, by simp [ItV.item, hi], rfl, eq_so (et_cmp (ee_cal (ea_cons (ee_var rfl) (ea_cons ee_con ea_nil)) h) ee_con h0),
        fun _ => ⟨.int i, q2.st ++ T, ee_var rfl, by rw [List.length_map]; omega, q2, l ++ [i], rfl, by simp, List.pairwise_append.mpr ⟨hs, List.pairwise_singleton _ _, fun a ha b hb => by rw [List.mem_singleton.mp hb]; exact hlt a ha⟩, fun j hj => by
          rcases List.mem_append.mp hj with hj | hj
          · have := hlt j hj; omega
          · rw [List.mem_singleton.mp hj]; omega, by simp; omega, h3⟩,
        fun _ => ⟨q2, l, rfl, rfl, hs, fun j hj => by have := hlt j hj; omega, by omega, h3⟩⟩)
  have hne := ne_nil_tup (l.map fun (i : Nat) => PV.int i) (q1.st ++ T)
  by_cases hl : l = []
  · subst hl
    obtain ⟨r, q2, h, h2, h3⟩ := pick k T hq1 (many := n) (by omega) h1
    refine ⟨[r], q2, ⟨by simp, fun p hp => by rw [List.mem_singleton.mp hp]; exact h2, by simpa using h1⟩, by simp, ?_, h3⟩
    have hb : df38.b.dn (run ds 100 (k + 1)) 100 (q.st ++ T).length (enOf df38 [.ref 2, .int n]) (q.st ++ T) = some (.rt (en [r]) (q2.st ++ T)) :=
      es_seq (es_asg (ee_blt (f := .tup) (ea_cons he ea_nil) rfl) rfl) (es_seqR (es_ret (ee_ite (k := false) (et_cmp (ee_var rfl) (ee_tup ea_nil (lim_ok (by simp))) hne) (fun z => by cases z) fun _ => ee_tup (ea_cons (ee_cal (ea_cons (ee_var rfl) (ea_cons (ee_var rfl) ea_nil)) h) ea_nil) (lim_ok (by simp)))))
    rw [run_rt (d := df38) rfl rfl rfl hb (no_en _), Qs.len]
  · rw [show (l.map fun (i : Nat) => PV.int i).isEmpty = false by cases l with | nil => exact absurd rfl hl | cons a r => rfl] at hne
    refine ⟨l, q1, ⟨hs.imp fun h => Nat.ne_of_lt h, hlt, hll⟩, hl, ?_, hq1⟩
    have hb : df38.b.dn (run ds 100 (k + 1)) 100 (q.st ++ T).length (enOf df38 [.ref 2, .int n]) (q.st ++ T) = some (.rt (en l) (q1.st ++ T)) :=
      es_seq (es_asg (ee_blt (f := .tup) (ea_cons he ea_nil) rfl) rfl) (es_seqR (es_ret (ee_ite (k := true) (et_cmp (ee_var rfl) (ee_tup ea_nil (lim_ok (by simp))) hne) (fun _ => ee_var rfl) fun z => by cases z)))
    rw [run_rt (d := df38) rfl rfl rfl hb (no_en _), Qs.len]
end Ev
namespace Ev
open PySem PySem.Spec PyProof.Rows L2

/-! ### the laps of k77 -/
theorem r_repI {i : Int} (h : i.natAbs < 10 ^ 12) : ∃ s : Str, ∀ S : Sto, bltF .rep [.int i] S = some (.str s, S) := by
  refine ⟨(PyData.int i).shown, fun S => ?_⟩
  have hl : i.natAbs.log2 < 1920 := by
    by_cases h0 : i.natAbs = 0
    · rw [h0]; decide
    · have : i.natAbs.log2 < 40 := (Nat.log2_lt h0).mpr (by omega)
      omega
  show ((toR (.int i)).bind fun d => if d.showable = true ∧ d.shown.length ≤ sizeLine ∧ d.depth ≤ 60 then some (PV.str d.shown, S) else none) = _
  rw [show toR (.int i) = some (.int i) by rw [toR], Option.bind_some, if_pos ⟨by rw [PyData.showable, decide_eq_true_eq]; exact hl, by have := PyData.shown_int_le h; rw [sizeLine_eq]; omega, by rw [PyData.depth]; omega⟩]
theorem gw_verdM {n : Nat} {rows : List Row} {P : List Nat} {marks : Row} {v : PV} (hn : n ≤ 100) (hl : rows.length ≤ 100) (hP : ∀ p ∈ P, p < n) : Gw 2 3 (verdM n rows P marks v) := by
  have h2 : ∀ (c : Bool) (s : Str), wrds.contains s = true → Gw 2 3 (if c then PV.non else .tup [.str s]) := fun c s h => by cases c; exact gw_one h; exact gw_non
  unfold verdM
  split
  · split
    · refine gw_hd1 (by decide +kernel) (fun i hi => ?_) (h2 _ _ (by decide +kernel))
      unfold wrM at hi
      obtain ⟨p, hp, rfl⟩ := List.mem_map.mp hi
      have := hP _ (List.of_mem_zip (List.mem_filter.mp hp).1).1
      omega
    · refine gw_hd1 (by decide +kernel) (fun i hi => by have := List.mem_range.mp (List.mem_filter.mp hi).1; omega) ?_
      exact gw_hd1 (by decide +kernel) (fun i hi => by have := odds_lt hi; omega) (h2 _ _ (by decide +kernel))
  · exact gw_one (by decide +kernel)
/-- the base that the law sees -/
def seenB (rows : List Row) (P : List Nat) : List Row := if P = [] then [] else lawT P.length (ats P rows)
theorem seenB_ok {rows : List Row} {P : List Nat} : Bas P.length (seenB rows P) ∧ (seenB rows P).length = rkP rows P ∧ (seenB rows P).length ≤ rows.length := by
  unfold seenB rkP
  by_cases h : P = []
  · rw [if_pos h, if_pos h]
    exact ⟨Bas.nil _, rfl, Nat.zero_le _⟩
  · rw [if_neg h, if_neg h]
    obtain ⟨h1, h2, h3, h4⟩ := lawT_ok (ats_len P rows)
    refine ⟨⟨fun x hx => (h1.row x hx).1, ech_rk h1⟩, lawT_rk (ats_len P rows), ?_⟩
    unfold ats at h3
    rw [List.length_map] at h3
    exact h3
theorem seen_has {rows : List Row} {P : List Nat} {marks : Row} (h : P ≠ []) (hm : marks.length = P.length) : (lawT P.length (seenB rows P ++ [marks])).length = (seenB rows P).length ↔ Sp P.length (ats P rows) marks := by
  rw [(seenB_ok (rows := rows) (P := P)).1.has hm]
  unfold seenB
  rw [if_neg h]
  exact (lawT_ok (ats_len P rows)).2.1 _
abbrev E18 (ns : List Int) (y2 y3 y4 y5 y6 y7 y8 y9 y10 y11 y12 y13 y14 y15 y16 y17 : Option PV) : En := [some (.scr ns), some (.ref 2), y2, y3, y4, y5, y6, y7, y8, y9, y10, y11, y12, y13, y14, y15, y16, y17]
def gA1 : MS := (.asg [3] true (.cal 27 (.cons (.var 1) (.cons (.idx (.lst false (.cons (.con (.int 4)) (.cons (.con (.int 8)) (.cons (.con (.int 16)) (.cons (.con (.int 12)) (.cons (.con (.int 16)) .nil)))))) (.var 2)) .nil))))
def gA2 : MS := (.par [4, 5, 6] (.cons (.idx (.var 3) (.con (.int 0))) (.cons (.blt .rep (.cons (.var 3) .nil)) (.cons (.cal 28 (.cons (.var 1) (.cons (.var 3) .nil))) .nil))))
def gA3 : MS := (.asg [7] true (.ite (.cmp .Eq (.cal 20 (.cons (.var 1) (.cons (.con (.int 9)) .nil))) (.con (.int 0))) (.tup .nil) (.cal 38 (.cons (.var 1) (.cons (.var 4) .nil)))))
def gA4 : MS := (.asg [8] true (.cal 39 (.cons (.ite (.cmp .Eq (.cal 20 (.cons (.var 1) (.cons (.con (.int 2)) .nil))) (.con (.int 0))) (.var 6) (.cal 25 (.cons (.var 1) (.cons (.var 4) .nil)))) (.cons (.var 7) .nil))))
def gA5 : MS := (.asg [9] true (.ite (.cmp .NotEq (.var 7) (.tup .nil)) (.cal 40 (.cons (.var 3) (.cons (.var 7) .nil))) (.tup (.cons (.con (.int 0)) (.cons (.tup .nil) .nil)))))
def gA6 : MS := (.asg [10] true (.or (.cmp .Eq (.var 7) (.tup .nil)) (.cal 33 (.cons (.var 9) (.cons (.var 8) .nil)))))
def gA7 : MS := (.asg [11] true (.cal 16 (.cons (.var 3) (.cons (.var 7) (.cons (.var 8) .nil)))))
def gB1 : MS := (.ifS (.or (.cmp .IsNot (.cal 41 (.cons (.var 3) (.cons (.var 7) (.cons (.var 8) (.cons (.var 11) .nil))))) (.con .non)) (.cmp .NotEq (.idx (.var 11) (.con (.int 0))) (.idx (.lst false (.cons (.con (.str "none")) (.cons (.con (.str "row")) .nil))) (.blt .int (.cons (.var 10) .nil))))) (.seq (.ret (.con (.bl false))) .nop) .nop)
def gB2 : MS := (.asg [12] true (.con (.int 1)))
def gB3 : MS := (.forS (.rng (.bin .Sub false (.blt .len (.cons (.idx (.var 3) (.con (.int 1))) .nil)) (.blt .len (.cons (.idx (.var 9) (.con (.int 1))) .nil)))) [13] true (.seq (.asg [12] true (.bin .Mult false (.var 12) (.con (.int 2)))) .nop))
def gB4 : MS := (.ifS (.or (.cmp .NotEq (.blt .rep (.cons (.cal 18 (.cons (.var 3) (.cons (.var 7) (.cons (.var 8) .nil)))) .nil)) (.blt .rep (.cons (.ite (.var 10) (.var 12) (.con (.int 0))) .nil))) (.cmp .NotEq (.blt .rep (.cons (.cal 16 (.cons (.var 3) (.cons (.var 7) (.cons (.var 8) .nil)))) .nil)) (.blt .rep (.cons (.var 11) .nil)))) (.seq (.ret (.con (.bl false))) .nop) .nop)
theorem lapA {ns : List Int} {q : Qs} (hq : q.ok) {i : Nat} (hi : i < 5) (y3 y4 y5 y6 y7 y8 y9 y10 y11 y12 y13 y14 y15 y16 y17 : Option PV) :
    ∃ (n : Nat) (rows : List Row) (so : Row) (P : List Nat) (marks : Row) (kept : Str) (q' : Qs), 1 ≤ n ∧ n ≤ 16 ∧ Bas n rows ∧ so.length = n ∧ PlaceLot n P ∧ marks.length = P.length ∧ (∀ S, bltF .rep [code n rows] S = some (.str kept, S)) ∧ q'.ok ∧
      ∀ rest r, ES (run ds 100 20) 100 0 rest (E18 ns (some (.int i)) (some (code n rows)) (some (.int n)) (some (.str kept)) (some (er so)) (some (en P)) (some (er marks)) y9 y10 y11 y12 y13 y14 y15 y16 y17) (q'.st ++ []) r →
        ES (run ds 100 20) 100 0 (.seq gA1 (.seq gA2 (.seq gA3 (.seq gA4 rest)))) (E18 ns (some (.int i)) y3 y4 y5 y6 y7 y8 y9 y10 y11 y12 y13 y14 y15 y16 y17) (q.st ++ []) r := by
  obtain ⟨most, hm, hm1, hm2⟩ : ∃ most : Nat, ([.int 4, .int 8, .int 16, .int 12, .int 16] : List PV)[i]? = some (.int most) ∧ 1 ≤ most ∧ most ≤ 16 :=
    match i, hi with
    | 0, _ => ⟨4, rfl, by omega, by omega⟩
    | 1, _ => ⟨8, rfl, by omega, by omega⟩
    | 2, _ => ⟨16, rfl, by omega, by omega⟩
    | 3, _ => ⟨12, rfl, by omega, by omega⟩
    | 4, _ => ⟨16, rfl, by omega, by omega⟩
  obtain ⟨n, rows, q1, hn1, hn2, hb, hr1, hq1⟩ := r_lcode 15 [] hq hm1 (by omega)
  have hbl := hb.le
  obtain ⟨so, q2, hw0, hr2, hq2⟩ := r_lsome 18 [] hq1 hn1 (by omega) hb.1
  have hgc := gw_code (n := n) (rows := rows) (by omega) hb.1 (by omega)
  obtain ⟨kept, hk⟩ := r_rep (B := 100) (by omega) hgc.g (Nat.le_trans hgc.s (by omega)) (Nat.le_trans hgc.d (by omega))
  -- places
  have hpl : ∃ (P : List Nat) (q4 : Qs), PlaceLot n P ∧ q4.ok ∧ EE (run ds 100 20) 0 (.ite (.cmp .Eq (.cal 20 (.cons (.var 1) (.cons (.con (.int 9)) .nil))) (.con (.int 0))) (.tup .nil) (.cal 38 (.cons (.var 1) (.cons (.var 4) .nil)))) (E18 ns (some (.int i)) (some (code n rows)) (some (.int n)) (some (.str kept)) (some (er so)) y7 y8 y9 y10 y11 y12 y13 y14 y15 y16 y17) (q2.st ++ []) (en P) (q4.st ++ []) := by
    obtain ⟨r, q3, h, h2, h3⟩ := pick 19 [] hq2 (many := 9) (by omega) (by omega)
    have h0 := (eq_int .Eq (r : Int) 0 (q3.st ++ [])).1
    cases hc : decide ((r : Int) = 0) with
    | true =>
      rw [hc] at h0
      exact ⟨[], q3, ⟨List.nodup_nil, fun _ h => (nomatch h), by simp⟩, h3, ee_ite (k := true) (et_cmp (ee_cal (ea_cons (ee_var rfl) (ea_cons ee_con ea_nil)) h) ee_con h0) (fun _ => ee_tup ea_nil (lim_ok (by simp))) fun z => by cases z⟩
    | false =>
      rw [hc] at h0
      obtain ⟨P, q4, hP, -, hr, hq4⟩ := r_places 18 [] h3 hn1 (by omega)
      exact ⟨P, q4, hP, hq4, ee_ite (k := false) (et_cmp (ee_cal (ea_cons (ee_var rfl) (ea_cons ee_con ea_nil)) h) ee_con h0) (fun z => by cases z) fun _ => ee_cal (ea_cons (ee_var rfl) (ea_cons (ee_var rfl) ea_nil)) hr⟩
  obtain ⟨P, q4, hP, hq4, hPe⟩ := hpl
  -- marks
  have hmk : ∃ (row : Row) (q6 : Qs), row.length = n ∧ q6.ok ∧ EE (run ds 100 20) 0 (.ite (.cmp .Eq (.cal 20 (.cons (.var 1) (.cons (.con (.int 2)) .nil))) (.con (.int 0))) (.var 6) (.cal 25 (.cons (.var 1) (.cons (.var 4) .nil)))) (E18 ns (some (.int i)) (some (code n rows)) (some (.int n)) (some (.str kept)) (some (er so)) (some (en P)) y8 y9 y10 y11 y12 y13 y14 y15 y16 y17) (q4.st ++ []) (er row) (q6.st ++ []) := by
    obtain ⟨r, q5, h, h2, h3⟩ := pick 19 [] hq4 (many := 2) (by omega) (by omega)
    have h0 := (eq_int .Eq (r : Int) 0 (q5.st ++ [])).1
    cases hc : decide ((r : Int) = 0) with
    | true =>
      rw [hc] at h0
      exact ⟨so, q5, hw0, h3, ee_ite (k := true) (et_cmp (ee_cal (ea_cons (ee_var rfl) (ea_cons ee_con ea_nil)) h) ee_con h0) (fun _ => ee_var rfl) fun z => by cases z⟩
    | false =>
      rw [hc] at h0
      obtain ⟨row, q6, hw, hr, hq6⟩ := r_lrow 17 [] h3 (n := n) (by omega)
      exact ⟨row, q6, hw, hq6, ee_ite (k := false) (et_cmp (ee_cal (ea_cons (ee_var rfl) (ea_cons ee_con ea_nil)) h) ee_con h0) (fun z => by cases z) fun _ => ee_cal (ea_cons (ee_var rfl) (ea_cons (ee_var rfl) ea_nil)) hr⟩
  obtain ⟨row, q6, hrow, hq6, hrowe⟩ := hmk
  have h39 := r_lat 19 (q6.st ++ []) (n := n) (row := row) (P := P) hrow hP.2.1 (by have := hP.2.2; omega)
  refine ⟨n, rows, so, P, atr P row, kept, q6, hn1, by omega, hb, hw0, hP, atr_len P row, hk, hq6, fun rest r h => ?_⟩
  refine es_seq (es_asg (ee_cal (ea_cons (ee_var rfl) (ea_cons (ee_idx (ee_lst (m := false) (ea_cons ee_con (ea_cons ee_con (ea_cons ee_con (ea_cons ee_con (ea_cons ee_con ea_nil))))) (lim_ok (by simp))) (ee_var rfl) ((idx_lst (j := i) rfl).trans (by rw [hm]; rfl))) ea_nil)) hr1) rfl) ?_
  refine es_seq (es_par (ea_cons (ee_idx (ee_var rfl) ee_con (idx_tup (j := 0) rfl)) (ea_cons (ee_blt (f := .rep) (ea_cons (ee_var rfl) ea_nil) (hk _)) (ea_cons (ee_cal (ea_cons (ee_var rfl) (ea_cons (ee_var rfl) ea_nil)) hr2) ea_nil))) rfl) ?_
  exact es_seq (es_asg hPe rfl) (es_seq (es_asg (ee_cal (ea_cons hrowe (ea_cons (ee_var rfl) ea_nil)) h39) rfl) h)
theorem len_rows (l : List Row) (S : Sto) : bltF .len [.tup (l.map er)] S = some (.int l.length, S) := by
  show some (PV.int ((l.map er).length : Nat), S) = _
  rw [List.length_map]
theorem en_empty (P : List Nat) : ∃ xs, en P = .tup xs ∧ xs.isEmpty = decide (P = []) := ⟨_, rfl, by cases P <;> rfl⟩
theorem lapB {ns : List Int} {q : Qs} {n : Nat} {rows : List Row} {P : List Nat} {marks : Row} (h1 : 1 ≤ n) (hn : n ≤ 16) (hb : Bas n rows) (hP : PlaceLot n P) (hm : marks.length = P.length) (y2 y5 y6 y9 y10 y11 y12 y13 y14 y15 y16 y17 : Option PV) :
    ∃ (w : Str) (z : Row) (y9' y10' y12' y13' : Option PV), z.length = n ∧ wrds.contains w = true ∧
      ∀ rest r, ES (run ds 100 20) 100 0 rest (E18 ns y2 (some (code n rows)) (some (.int n)) y5 y6 (some (en P)) (some (er marks)) y9' y10' (some (.tup [.str w, er z])) y12' y13' y14 y15 y16 y17) (q.st ++ []) r →
        ES (run ds 100 20) 100 0 (.seq gA5 (.seq gA6 (.seq gA7 (.seq gB1 (.seq gB2 (.seq gB3 (.seq gB4 rest))))))) (E18 ns y2 (some (code n rows)) (some (.int n)) y5 y6 (some (en P)) (some (er marks)) y9 y10 y11 y12 y13 y14 y15 y16 y17) (q.st ++ []) r := by
  have hl := hb.le
  have hPn := hP.2.1
  have hPl := hP.2.2
  obtain ⟨F0, F, hF0, hF, hr16⟩ := r_mpaper 16 (q.st ++ []) h1 (by omega) hb.1 (by omega) hPn (by omega) hm
  obtain ⟨w, z, e, hz, hv, hwp⟩ := mpaper_ok hb hP.1 hPn hF0 hF hm
  have hwd : wrds.contains w = true := by rcases hwp with ⟨rfl, _⟩ | ⟨rfl, _⟩ <;> decide +kernel
  have hgp : Gw 2 103 (.tup [.str w, er z]) := gw_pair hwd (gw_er (by omega))
  obtain ⟨s11, hs11⟩ := r_rep (B := 100) (by omega) hgp.g (Nat.le_trans hgp.s (by omega)) (Nat.le_trans hgp.d (by omega))
  have hr41 := r_mfault 16 (q.st ++ []) (v := mpaper n rows P marks F) h1 (by omega) hb hPn (by omega) hm (by rw [e]; exact gd_pl hgp.g) (by rw [e]; exact Nat.le_trans hgp.s (by omega))
  rw [hv, e] at hr41
  rw [e] at hr16
  obtain ⟨F0', F', hF0', hF', hr16b⟩ := r_mpaper 15 (q.st ++ []) h1 (by omega) hb.1 (by omega) hPn (by omega) hm
  obtain ⟨w', z', e', hz', hv', hwp'⟩ := mpaper_ok hb hP.1 hPn hF0' hF' hm
  rw [e'] at hr16b
  have hr18 := r_count 15 (q.st ++ []) hb.1 (by omega) hPn (by omega) hr16b
  obtain ⟨g1, g2, g3⟩ := seenB_ok (rows := rows) (P := P)
  -- what the law sees, whether it is there
  obtain ⟨xs, hxs, hxe⟩ := en_empty P
  have hne := ne_nil_tup xs (q.st ++ [])
  have heq := eq_nil xs (q.st ++ [])
  rw [hxe] at hne heq
  rw [← hxs] at hne heq
  have hseen : EE (run ds 100 20) 0 (.ite (.cmp .NotEq (.var 7) (.tup .nil)) (.cal 40 (.cons (.var 3) (.cons (.var 7) .nil))) (.tup (.cons (.con (.int 0)) (.cons (.tup .nil) .nil)))) (E18 ns y2 (some (code n rows)) (some (.int n)) y5 y6 (some (en P)) (some (er marks)) y9 y10 y11 y12 y13 y14 y15 y16 y17) (q.st ++ []) (code P.length (seenB rows P)) (q.st ++ []) := by
    refine ee_ite (et_cmp (ee_var rfl) (ee_tup ea_nil (lim_ok (by simp))) hne) (fun hc => ?_) fun hc => ?_
    · have hP0 : P ≠ [] := by simpa using hc
      have h40 := r_lseen 17 (q.st ++ []) (n := n) (rows := rows) (P := P) (by cases P with | nil => exact absurd rfl hP0 | cons a r => simp) hb.1 (by omega) hPn (by omega)
      have e2 : seenB rows P = lawT P.length (ats P rows) := by unfold seenB; rw [if_neg hP0]
      rw [e2]
      exact ee_cal (ea_cons (ee_var rfl) (ea_cons (ee_var rfl) ea_nil)) h40
    · have hP0 : P = [] := by simpa using hc
      subst hP0
      exact ee_tup (vs := [.int 0, .tup []]) (ea_cons ee_con (ea_cons (ee_tup ea_nil (lim_ok (by simp))) ea_nil)) (lim_ok (by simp))
  obtain ⟨b, hbv⟩ : ∃ b, b = (decide (P = []) || decide ((lawT P.length (seenB rows P ++ [marks])).length = (seenB rows P).length)) := ⟨_, rfl⟩
  have hbs : b = true ↔ (P = [] ∨ Sp P.length (ats P rows) marks) := by
    rw [hbv, Bool.or_eq_true, decide_eq_true_eq, decide_eq_true_eq]
    by_cases h : P = []
    · simp [h]
    · rw [seen_has h hm]
  have hthere : EE (run ds 100 20) 0 (.or (.cmp .Eq (.var 7) (.tup .nil)) (.cal 33 (.cons (.var 9) (.cons (.var 8) .nil)))) (E18 ns y2 (some (code n rows)) (some (.int n)) y5 y6 (some (en P)) (some (er marks)) (some (code P.length (seenB rows P))) y10 y11 y12 y13 y14 y15 y16 y17) (q.st ++ []) (.bl b) (q.st ++ []) := by
    rw [hbv]
    refine ee_or (ee_cmp (ee_var rfl) (ee_tup ea_nil (lim_ok (by simp))) heq) (fun hc => ?_) fun hc => ⟨by rw [hc]; rfl, rfl⟩
    rw [hc, Bool.false_or]
    have hP0 : P ≠ [] := by simpa using hc
    exact ee_cal (ea_cons (ee_var rfl) (ea_cons (ee_var rfl) ea_nil)) (r_lhas 17 (q.st ++ []) (by cases P with | nil => exact absurd rfl hP0 | cons a r => simp) (by omega) g1.1 (by omega) hm)
  have hwb : w = (if b then "row" else "none" : Str) := by
    rcases hwp with ⟨rfl, hs⟩ | ⟨rfl, hs0, hs⟩
    · rw [hbs.mpr hs]; rfl
    · rw [show b = false by cases hbv2 : b with | false => rfl | true => exact absurd (hbs.mp hbv2) (by simp [hs0, hs])]; rfl
  have hix : pIdx (.lst [.str "none", .str "row"]) (.int (if b then 1 else 0)) (q.st ++ []) = some (.str w, q.st ++ []) := by
    rw [hwb]
    cases b <;> rfl
  have hwn : (w' = "none") ↔ b = false := by
    rcases hwp' with ⟨rfl, hs⟩ | ⟨rfl, hs0, hs⟩
    · rw [hbs.mpr hs]
      refine ⟨fun h => ?_, fun h => by cases h⟩
      have h2 : ((("row" : Str) == ("none" : Str))) = false := by decide +kernel
      rw [show (("row" : Str)) = (("none" : Str)) from h] at h2
      simp at h2
    · refine ⟨fun _ => ?_, fun _ => rfl⟩
      cases hbv2 : b with
      | false => rfl
      | true => exact absurd (hbs.mp hbv2) (by simp [hs0, hs])
  -- due
  obtain ⟨en', S', hloop, ⟨y13', rfl, rfl⟩⟩ := es_forM (R := run ds 100 20) (W := 100) (tp := 0) (tg := [13]) (one := true) (s := (.seq (.asg [12] true (.bin .Mult false (.var 12) (.con (.int 2)))) .nop)) (it := .rng (.bin .Sub false (.blt .len (.cons (.idx (.var 3) (.con (.int 1))) .nil)) (.blt .len (.cons (.idx (.var 9) (.con (.int 1))) .nil)))) (J := .rng 0 (rows.length - rkP rows P)) (l := List.range (rows.length - rkP rows P))
    (en := E18 ns y2 (some (code n rows)) (some (.int n)) y5 y6 (some (en P)) (some (er marks)) (some (code P.length (seenB rows P))) (some (.bl b)) (some (.tup [.str w, er z])) (some (.int 1)) y13 y14 y15 y16 y17) (S := q.st ++ []) (S1 := q.st ++ []) (fun (i : Nat) => .int i)
    (fun i e S => ∃ y13', e = E18 ns y2 (some (code n rows)) (some (.int n)) y5 y6 (some (en P)) (some (er marks)) (some (code P.length (seenB rows P))) (some (.bl b)) (some (.tup [.str w, er z])) (some (.int ((2 ^ i : Nat) : Int))) y13' y14 y15 y16 y17 ∧ S = q.st ++ [])
    (by
      have h : EI (run ds 100 20) 0 (.rng (.bin .Sub false (.blt .len (.cons (.idx (.var 3) (.con (.int 1))) .nil)) (.blt .len (.cons (.idx (.var 9) (.con (.int 1))) .nil)))) (E18 ns y2 (some (code n rows)) (some (.int n)) y5 y6 (some (en P)) (some (er marks)) (some (code P.length (seenB rows P))) (some (.bl b)) (some (.tup [.str w, er z])) (some (.int 1)) y13 y14 y15 y16 y17) (q.st ++ []) (.rng 0 (((rows.length - rkP rows P : Nat) : Int)).toNat) (q.st ++ []) := ei_rng (j := ((rows.length - rkP rows P : Nat) : Int)) (ee_bin (op := .Sub) (m := false) (ee_blt (f := .len) (ea_cons (ee_idx (ee_var rfl) ee_con (idx_tup (j := 1) rfl)) ea_nil) (len_rows rows _)) (ee_blt (f := .len) (ea_cons (ee_idx (ee_var (v := code P.length (seenB rows P)) rfl) ee_con (show pIdx (code P.length (seenB rows P)) (.int 1) (q.st ++ []) = some (.tup ((seenB rows P).map er), q.st ++ []) from (idx_tup (j := 1) rfl).trans rfl)) ea_nil) (len_rows (seenB rows P) _)) (by
        show some (PV.int ((rows.length : Int) - ((seenB rows P).length : Int)), _) = _
        rw [g2, show (rows.length : Int) - (rkP rows P : Int) = ((rows.length - rkP rows P : Nat) : Int) by omega])) (by simp only [rngOk, Bool.and_eq_true, decide_eq_true_eq]; omega)
      rwa [Int.toNat_natCast] at h) rfl (fun i e S h => its_rng) ⟨y13, rfl, rfl⟩
    (fun i a e S hi hI => by
      obtain ⟨y13', rfl, rfl⟩ := hI
      have hmul : opF false .Mult (.int ((2 ^ i : Nat) : Int)) (.int 2) (q.st ++ []) = some (.int ((2 ^ (i + 1) : Nat) : Int), q.st ++ []) := by
        show (if ((2 ^ i : Nat) : Int).natAbs < 2 ^ 64 ∨ (2 : Int).natAbs < 2 ^ 64 then some (PV.int (((2 ^ i : Nat) : Int) * 2), q.st ++ []) else none) = _
        rw [if_pos (Or.inr (by decide)), Nat.pow_succ]
        push_cast
        rfl
      exact ⟨_, _, _, rfl, es_seq (es_asg (ee_bin (op := .Mult) (m := false) (ee_var rfl) ee_con hmul) rfl) es_nop, some (.int a), rfl, rfl⟩)
  rw [List.length_range] at hloop
  -- both counts
  obtain ⟨cv, hcv⟩ : ∃ cv : Int, cv = if b then ((2 ^ (rows.length - rkP rows P) : Nat) : Int) else 0 := ⟨_, rfl⟩
  have hcs : cv.natAbs < 10 ^ 12 := by
    have h2 : 2 ^ (rows.length - rkP rows P) ≤ 2 ^ 16 := Nat.pow_le_pow_right (by omega) (by omega)
    rw [hcv]
    cases b
    · show (0 : Int).natAbs < _
      decide
    · show (((2 ^ (rows.length - rkP rows P) : Nat) : Int)).natAbs < _
      rw [Int.natAbs_natCast]
      omega
  obtain ⟨sc, hsc⟩ := r_repI hcs
  have hr18' : run ds 100 20 18 [code n rows, en P, er marks] (q.st ++ []) = some (.int cv, q.st ++ []) := by
    rw [show (15 + 5 : Nat) = 20 from rfl] at hr18
    rw [hr18, hcv]
    cases b
    · rw [if_pos (hwn.mpr rfl)]; rfl
    · rw [if_neg (fun h => by have := hwn.mp h; cases this)]; rfl
  have hite : ∀ y13', EE (run ds 100 20) 0 (.ite (.var 10) (.var 12) (.con (.int 0))) (E18 ns y2 (some (code n rows)) (some (.int n)) y5 y6 (some (en P)) (some (er marks)) (some (code P.length (seenB rows P))) (some (.bl b)) (some (.tup [.str w, er z])) (some (.int ((2 ^ (rows.length - rkP rows P) : Nat) : Int))) y13' y14 y15 y16 y17) (q.st ++ []) (.int cv) (q.st ++ []) := fun y13' => by
    rw [hcv]
    refine ee_ite (k := b) (tv rfl (ee_var rfl)) (fun h => ?_) fun h => ?_
    · rw [h]; exact ee_var rfl
    · rw [h]; exact ee_con
  refine ⟨w, z, some (code P.length (seenB rows P)), some (.bl b), some (.int ((2 ^ (rows.length - rkP rows P) : Nat) : Int)), y13', hz, hwd, fun rest r h => ?_⟩
  refine es_seq (es_asg hseen rfl) (es_seq (es_asg hthere rfl) (es_seq (es_asg (ee_cal (ea_cons (ee_var rfl) (ea_cons (ee_var rfl) (ea_cons (ee_var rfl) ea_nil))) hr16) rfl) ?_))
  refine es_seq (es_if (k := false) (et_or (k := false) (et_cmp (ee_cal (ea_cons (ee_var rfl) (ea_cons (ee_var rfl) (ea_cons (ee_var rfl) (ea_cons (ee_var rfl) ea_nil)))) hr41) ee_con rfl) (fun _ => et_cmp (ee_idx (ee_var rfl) ee_con (idx_tup (j := 0) rfl)) (ee_idx (ee_lst (m := false) (ea_cons ee_con (ea_cons ee_con ea_nil)) (lim_ok (by simp))) (ee_blt (f := .int) (ea_cons (ee_var rfl) ea_nil) (by cases b <;> rfl)) hix) (eq_strs w _).2) fun z => by cases z) (fun z => by cases z) fun _ => es_nop) ?_
  refine es_seq (es_asg ee_con rfl) (es_seq hloop ?_)
  exact es_seq (es_if (k := false) (et_or (k := false) (et_cmp (ee_blt (f := .rep) (ea_cons (ee_cal (ea_cons (ee_var rfl) (ea_cons (ee_var rfl) (ea_cons (ee_var rfl) ea_nil))) hr18') ea_nil) (hsc _)) (ee_blt (f := .rep) (ea_cons (hite _) ea_nil) (hsc _)) (eq_strs sc _).2) (fun _ => et_cmp (ee_blt (f := .rep) (ea_cons (ee_cal (ea_cons (ee_var rfl) (ea_cons (ee_var rfl) (ea_cons (ee_var rfl) ea_nil))) hr16) ea_nil) (hs11 _)) (ee_blt (f := .rep) (ea_cons (ee_var rfl) ea_nil) (hs11 _)) (eq_strs s11 _).2) fun z => by cases z) (fun z => by cases z) fun _ => es_nop) h
end Ev
namespace Ev
open PySem PySem.Spec PyProof.Rows L2

/-! ### the values that are judged -/
def gC3 : MS := (.asg [14] true (.lst false (.cons (.var 11) (.cons (.tup (.cons (.con (.str "row")) (.cons (.var 6) .nil))) (.cons (.tup (.cons (.con (.str "none")) (.cons (.cal 28 (.cons (.var 1) (.cons (.cal 32 (.cons (.var 3) .nil)) .nil))) .nil))) (.cons (.tup (.cons (.con (.str "none")) (.cons (.cal 25 (.cons (.var 1) (.cons (.var 4) .nil))) .nil))) (.cons (.tup (.cons (.con (.str "row")) (.cons (.cal 25 (.cons (.var 1) (.cons (.var 4) .nil))) .nil))) .nil)))))))
def gC4 : MS := (.asg [15] true (.bin .Add false (.bin .Add false (.var 14) (.lc false (.rng (.con (.int 8))) [13] true [13] .no (.cal 37 (.cons (.var 1) (.cons (.cal 21 (.cons (.var 1) (.cons (.bin .Add false (.var 14) (.bin .Mult false (.lst false (.cons (.var 11) .nil)) (.con (.int 4)))) .nil))) .nil))))) (.lst false (.cons (.con .non) (.cons (.tup .nil) (.cons (.idx (.var 11) (.con (.int 1))) (.cons (.con (.str "row")) (.cons (.blt (.lst false) (.cons (.var 11) .nil)) .nil))))))))
def gD1 : MS := (.forS (.seq (.bin .Add false (.var 15) (.lst false (.cons (.cal 37 (.cons (.var 1) (.cons (.cal 37 (.cons (.var 1) (.cons (.var 11) .nil))) .nil))) .nil)))) [16] true (.seq (.asg [17] true (.blt .rep (.cons (.var 16) .nil))) (.seq (.ifS (.or (.cmp .NotEq (.blt .rep (.cons (.cal 17 (.cons (.var 3) (.cons (.var 7) (.cons (.var 8) (.cons (.var 16) .nil))))) .nil)) (.blt .rep (.cons (.cal 41 (.cons (.var 3) (.cons (.var 7) (.cons (.var 8) (.cons (.var 16) .nil))))) .nil))) (.cmp .NotEq (.blt .rep (.cons (.var 16) .nil)) (.var 17))) (.seq (.ret (.con (.bl false))) .nop) .nop) .nop)))
def gD2 : MS := (.ifS (.cmp .NotEq (.blt .rep (.cons (.var 3) .nil)) (.var 5)) (.seq (.ret (.con (.bl false))) .nop) .nop)
def Vz (v : PV) : Prop := gd 102 v = true ∧ dpt v ≤ 6 ∧ sz v ≤ 500
theorem Gw.vz {d s : Nat} {v : PV} (h : Gw d s v) (hd : d ≤ 6) (hs : s ≤ 500) : Vz v := ⟨gd_mono (by omega) h.g, Nat.le_trans h.d hd, Nat.le_trans h.s hs⟩
theorem lapC {ns : List Int} {q : Qs} (hq : q.ok) {n : Nat} {rows : List Row} {so z : Row} (h1 : 1 ≤ n) (hn : n ≤ 16) (hb : Bas n rows) (hso : so.length = n) (hz : z.length = n) {w : Str} (hwd : wrds.contains w = true) (y2 y5 y7 y8 y9 y10 y12 y13 y14 y15 y16 y17 : Option PV) :
    ∃ (vs : List PV) (y14' : Option PV) (q' : Qs), (∀ v ∈ vs, Vz v) ∧ vs.length ≤ 100 ∧ q'.ok ∧
      ∀ rest r, ES (run ds 100 20) 100 0 rest (E18 ns y2 (some (code n rows)) (some (.int n)) y5 (some (er so)) y7 y8 y9 y10 (some (.tup [.str w, er z])) y12 y13 y14' (some (.lst vs)) y16 y17) (q'.st ++ []) r →
        ES (run ds 100 20) 100 0 (.seq gC3 (.seq gC4 rest)) (E18 ns y2 (some (code n rows)) (some (.int n)) y5 (some (er so)) y7 y8 y9 y10 (some (.tup [.str w, er z])) y12 y13 y14 y15 y16 y17) (q.st ++ []) r := by
  have hl := hb.le
  have hg : Gw 1 101 (er z) := gw_er (by omega)
  have hgp : Gw 2 103 (.tup [.str w, er z]) := gw_pair hwd hg
  have hr32 := r_lother 16 (q.st ++ []) h1 (by omega) hb.1 (by omega)
  obtain ⟨o1, o2⟩ := oth_ok (n := n) (rows := rows)
  obtain ⟨ot, q2, hot, hr28, hq2⟩ := r_lsome 18 [] hq h1 (by omega) o1
  obtain ⟨rw1, q3, hrw1, hr25, hq3⟩ := r_lrow 17 [] hq2 (n := n) (by omega)
  obtain ⟨rw2, q4, hrw2, hr25b, hq4⟩ := r_lrow 17 [] hq3 (n := n) (by omega)
  have hown : ∃ own : List PV, own = [.tup [.str w, er z], .tup [.str "row", er so], .tup [.str "none", er ot], .tup [.str "none", er rw1], .tup [.str "row", er rw2]] := ⟨_, rfl⟩
  obtain ⟨own, hown⟩ := hown
  have hog : ∀ v ∈ own, Gw 2 103 v := fun v hv => by
    rw [hown] at hv
    simp only [List.mem_cons, List.not_mem_nil, or_false] at hv
    rcases hv with rfl | rfl | rfl | rfl | rfl
    · exact hgp
    · exact gw_pair (by decide +kernel) (gw_er (by omega))
    · exact gw_pair (by decide +kernel) (gw_er (by omega))
    · exact gw_pair (by decide +kernel) (gw_er (by omega))
    · exact gw_pair (by decide +kernel) (gw_er (by omega))
  have hol : own.length = 5 := by rw [hown]; rfl
  have ht4 : ∀ S, opF false .Mult (.lst [.tup [.str w, er z]]) (.int 4) S = some (.lst (List.replicate 4 (.tup [.str w, er z])), S) := fun S => by
    show (if -(2 ^ 63) ≤ (4 : Int) ∧ (4 : Int) < 2 ^ 63 ∧ [PV.tup [.str w, er z]].length * (4 : Int).toNat ≤ sizeLine then some (mkL false (List.replicate (4 : Int).toNat [PV.tup [.str w, er z]]).flatten S) else none) = _
    rw [if_pos ⟨by decide, by decide, lim_ok (by simp)⟩]
    rfl
  have hm4 : ∀ v ∈ own ++ List.replicate 4 (PV.tup [.str w, er z]), Gw 2 103 v := fun v hv => by
    rcases List.mem_append.mp hv with hv | hv
    · exact hog v hv
    · rw [List.eq_of_mem_replicate hv]; exact hgp
  obtain ⟨acc2, S2, ⟨q5, rfl, hbz, hbl, hq5⟩, he2⟩ := ee_lcI (R := run ds 100 20) (tp := 0) (m := false) (one := true) (tg := [13]) (us := [13]) (it := .rng (.con (.int 8))) (q := .no) (e := .cal 37 (.cons (.var 1) (.cons (.cal 21 (.cons (.var 1) (.cons (.bin .Add false (.var 14) (.bin .Mult false (.lst false (.cons (.var 11) .nil)) (.con (.int 4)))) .nil))) .nil)))
    (en := E18 ns y2 (some (code n rows)) (some (.int n)) y5 (some (er so)) y7 y8 y9 y10 (some (.tup [.str w, er z])) y12 y13 (some (.lst own)) y15 y16 y17) (S := q4.st ++ []) (S1 := q4.st ++ []) (J := .rng 0 8)
    (fun i acc S => ∃ (q' : Qs), S = q'.st ++ [] ∧ (∀ v ∈ acc, Vz v) ∧ acc.length ≤ i ∧ q'.ok) 8
    (ei_rng (j := 8) ee_con (by decide)) rfl rfl ⟨q4, rfl, fun _ h => (nomatch h), Nat.le_refl _, hq4⟩ (fun acc S h => rfl)
    (fun i acc S hi hI => by
      obtain ⟨q', rfl, hz, hll, hq'⟩ := hI
      obtain ⟨x, q6, hx, hr18, hq6⟩ := r_of 18 [] hq' (xs := own ++ List.replicate 4 (.tup [.str w, er z])) (by simp) (by simp [hol]) (fun x hx => pl_lt (gd_pl (hm4 x hx).g))
      have hgx := hm4 x hx
      obtain ⟨b, q7, hz7, hr34, hq7⟩ := r_bent 2 15 [] hq6 (B := 100) (by omega) hgx.g hgx.d (Nat.le_trans hgx.s (by omega))
      have hs : sizeLine ≥ 1000000 := by rw [sizeLine_eq]; omega
      refine ⟨.int i, _, true, q'.st ++ [], by simp [ItV.item, hi], rfl, eq_no, fun _ => ⟨b, q7.st ++ [], ee_cal (ea_cons (ee_var rfl) (ea_cons (ee_cal (ea_cons (ee_var rfl) (ea_cons (ee_bin (op := .Add) (m := false) (ee_var rfl) (ee_bin (op := .Mult) (m := false) (ee_lst (m := false) (ea_cons (ee_var rfl) ea_nil) (lim_ok (by simp))) ee_con (ht4 _)) (cat_lst _ _ _ (by simp [hol]))) ea_nil)) hr18) ea_nil)) hr34, by omega, q7, rfl, fun v hv => ?_, by simp; omega, hq7⟩, fun z => by cases z⟩
      rcases List.mem_append.mp hv with hv | hv
      · exact hz v hv
      · rw [List.mem_singleton.mp hv]
        have a1 := hz7.1
        have a2 := hz7.2.1
        have a3 := hz7.2.2
        have b2 := hgx.d
        have b3 := hgx.s
        exact ⟨gd_mono (by omega) a1, by omega, by omega⟩)
  obtain ⟨vs, hvs⟩ : ∃ vs : List PV, vs = own ++ acc2 ++ [.non, .tup [], er z, .str "row", .lst [.str w, er z]] := ⟨_, rfl⟩
  refine ⟨vs, some (.lst own), q5, fun v hv => ?_, by rw [hvs]; simp [hol]; omega, hq5, fun rest r h => es_seq (S1 := q4.st ++ []) (es_asg ?_ rfl) (es_seq (es_asg ?_ rfl) h)⟩
  · rw [hvs] at hv
    rcases List.mem_append.mp hv with hv | hv
    · rcases List.mem_append.mp hv with hv | hv
      · exact (hog v hv).vz (by omega) (by omega)
      · exact hbz v hv
    · simp only [List.mem_cons, List.not_mem_nil, or_false] at hv
      rcases hv with rfl | rfl | rfl | rfl | rfl
      · exact gw_non.vz (by omega) (by omega)
      · exact (gw_en (l := []) (fun _ h => (nomatch h)) (by simp)).vz (by omega) (by omega)
      · exact hg.vz (by omega) (by omega)
      · exact ⟨by rw [gd]; decide +kernel, by simp [dpt], by simp [sz]⟩
      · have := hgp.vz (by omega) (by omega)
        obtain ⟨a1, a2, a3⟩ := this
        rw [gd] at a1; rw [dpt] at a2; rw [sz] at a3
        exact ⟨by rw [gd]; exact a1, by rw [dpt]; exact a2, by rw [sz]; exact a3⟩
  · rw [hown]
    exact ee_lst (m := false) (ea_cons (ee_var rfl) (ea_cons (ee_tup (ea_cons ee_con (ea_cons (ee_var rfl) ea_nil)) (lim_ok (by simp))) (ea_cons (ee_tup (ea_cons ee_con (ea_cons (ee_cal (ea_cons (ee_var rfl) (ea_cons (ee_cal (ea_cons (ee_var rfl) ea_nil) hr32) ea_nil)) hr28) ea_nil)) (lim_ok (by simp))) (ea_cons (ee_tup (ea_cons ee_con (ea_cons (ee_cal (ea_cons (ee_var rfl) (ea_cons (ee_var rfl) ea_nil)) hr25) ea_nil)) (lim_ok (by simp))) (ea_cons (ee_tup (ea_cons ee_con (ea_cons (ee_cal (ea_cons (ee_var rfl) (ea_cons (ee_var rfl) ea_nil)) hr25b) ea_nil)) (lim_ok (by simp))) ea_nil))))) (lim_ok (by simp))
  · rw [hvs]
    exact ee_bin (op := .Add) (m := false) (ee_bin (op := .Add) (m := false) (ee_var rfl) he2 (cat_lst _ _ _ (by omega))) (ee_lst (m := false) (ea_cons ee_con (ea_cons (ee_tup ea_nil (lim_ok (by simp))) (ea_cons (ee_idx (ee_var rfl) ee_con (idx_tup (j := 1) rfl)) (ea_cons ee_con (ea_cons (ee_blt (f := (.lst false)) (ea_cons (ee_var rfl) ea_nil) rfl) ea_nil))))) (lim_ok (by simp))) (cat_lst _ _ _ (by simp [hol]; omega))
theorem lapD {ns : List Int} {q : Qs} (hq : q.ok) {n : Nat} {rows : List Row} {P : List Nat} {marks z : Row} (h1 : 1 ≤ n) (hn : n ≤ 16) (hb : Bas n rows) (hP : PlaceLot n P) (hm : marks.length = P.length) (hz : z.length = n) {w : Str} (hwd : wrds.contains w = true) {vs : List PV} (hv : ∀ v ∈ vs, Vz v) (hvl : vs.length ≤ 100) {kept : Str} (hk : ∀ S, bltF .rep [code n rows] S = some (.str kept, S)) (y2 y4 y6 y9 y10 y12 y13 y14 y16 y17 : Option PV) :
    ∃ (y16' y17' : Option PV) (q' : Qs), q'.ok ∧
      ES (run ds 100 20) 100 0 (.seq gD1 (.seq gD2 .nop)) (E18 ns y2 (some (code n rows)) y4 (some (.str kept)) y6 (some (en P)) (some (er marks)) y9 y10 (some (.tup [.str w, er z])) y12 y13 y14 (some (.lst vs)) y16 y17) (q.st ++ []) (.nx (E18 ns y2 (some (code n rows)) y4 (some (.str kept)) y6 (some (en P)) (some (er marks)) y9 y10 (some (.tup [.str w, er z])) y12 y13 y14 (some (.lst vs)) y16' y17') (q'.st ++ [])) := by
  have hl := hb.le
  have hPn := hP.2.1
  have hPl := hP.2.2
  have hgp : Gw 2 103 (.tup [.str w, er z]) := gw_pair hwd (gw_er (by omega))
  obtain ⟨z1, q1, hz1, hr1, hq1⟩ := r_bent 2 15 [] hq (B := 100) (by omega) hgp.g hgp.d (Nat.le_trans hgp.s (by omega))
  have a1 := hz1.1
  have a2 := hz1.2.1
  have a3 := hz1.2.2
  have b2 := hgp.d
  have b3 := hgp.s
  obtain ⟨z2, q2, hz2, hr2, hq2⟩ := r_bent 4 13 [] hq1 (B := 101) (by omega) a1 (by omega) (by omega)
  have c1 := hz2.1
  have c2 := hz2.2.1
  have c3 := hz2.2.2
  have hz : Vz z2 := ⟨c1, by omega, by omega⟩
  have hall : ∀ v ∈ vs ++ [z2], Vz v := fun v hm => by
    rcases List.mem_append.mp hm with hm | hm
    · exact hv v hm
    · rw [List.mem_singleton.mp hm]; exact hz
  have hit : EI (run ds 100 20) 0 (.seq (.bin .Add false (.var 15) (.lst false (.cons (.cal 37 (.cons (.var 1) (.cons (.cal 37 (.cons (.var 1) (.cons (.var 11) .nil))) .nil))) .nil)))) (E18 ns y2 (some (code n rows)) y4 (some (.str kept)) y6 (some (en P)) (some (er marks)) y9 y10 (some (.tup [.str w, er z])) y12 y13 y14 (some (.lst vs)) y16 y17) (q.st ++ []) (.seq (.lst (vs ++ [z2]))) (q2.st ++ []) :=
    ei_seq (ee_bin (op := .Add) (m := false) (ee_var rfl) (ee_lst (m := false) (ea_cons (ee_cal (ea_cons (ee_var rfl) (ea_cons (ee_cal (ea_cons (ee_var rfl) (ea_cons (ee_var rfl) ea_nil)) hr1) ea_nil)) hr2) ea_nil) (lim_ok (by simp))) (cat_lst _ _ _ (by simp; omega))) rfl
  obtain ⟨en', S', h, ⟨y16', y17', rfl, rfl⟩⟩ := es_forM (R := run ds 100 20) (W := 100) (tp := 0) (tg := [16]) (one := true) (s := (.seq (.asg [17] true (.blt .rep (.cons (.var 16) .nil))) (.seq (.ifS (.or (.cmp .NotEq (.blt .rep (.cons (.cal 17 (.cons (.var 3) (.cons (.var 7) (.cons (.var 8) (.cons (.var 16) .nil))))) .nil)) (.blt .rep (.cons (.cal 41 (.cons (.var 3) (.cons (.var 7) (.cons (.var 8) (.cons (.var 16) .nil))))) .nil))) (.cmp .NotEq (.blt .rep (.cons (.var 16) .nil)) (.var 17))) (.seq (.ret (.con (.bl false))) .nop) .nop) .nop))) (l := vs ++ [z2]) (fun x => x)
    (fun i e S => ∃ (y16' y17' : Option PV), e = E18 ns y2 (some (code n rows)) y4 (some (.str kept)) y6 (some (en P)) (some (er marks)) y9 y10 (some (.tup [.str w, er z])) y12 y13 y14 (some (.lst vs)) y16' y17' ∧ S = q2.st ++ []) hit rfl (fun i e S h => its_id rfl) ⟨y16, y17, rfl, rfl⟩
    (fun i a e S hi hI => by
      obtain ⟨y16', y17', rfl, rfl⟩ := hI
      obtain ⟨g1, g2, g3⟩ := hall a (List.mem_of_getElem? hi)
      obtain ⟨s, hs⟩ := r_rep (B := 102) (by omega) g1 (by omega) (by omega)
      have hj := r_mjudge 15 (q2.st ++ []) (v := a) h1 (by omega) hb hPn (by omega) hm (gd_pl g1) (by omega)
      have hf := r_mfault 16 (q2.st ++ []) (v := a) h1 (by omega) hb hPn (by omega) hm (gd_pl g1) (by omega)
      have hgv := gw_verdM (n := n) (rows := rows) (P := P) (marks := marks) (v := a) (by omega) (by omega) (fun p hp => by have := hPn p hp; omega)
      obtain ⟨s2, hs2⟩ := r_rep (B := 100) (by omega) hgv.g (Nat.le_trans hgv.s (by omega)) (Nat.le_trans hgv.d (by omega))
      exact ⟨_, _, _, rfl, es_seq (es_asg (ee_blt (f := .rep) (ea_cons (ee_var rfl) ea_nil) (hs _)) rfl) (es_seq (es_if (k := false) (et_or (k := false) (et_cmp (ee_blt (f := .rep) (ea_cons (ee_cal (ea_cons (ee_var rfl) (ea_cons (ee_var rfl) (ea_cons (ee_var rfl) (ea_cons (ee_var rfl) ea_nil)))) hj) ea_nil) (hs2 _)) (ee_blt (f := .rep) (ea_cons (ee_cal (ea_cons (ee_var rfl) (ea_cons (ee_var rfl) (ea_cons (ee_var rfl) (ea_cons (ee_var rfl) ea_nil)))) hf) ea_nil) (hs2 _)) (eq_strs s2 _).2) (fun _ => et_cmp (ee_blt (f := .rep) (ea_cons (ee_var rfl) ea_nil) (hs _)) (ee_var rfl) (eq_strs s _).2) fun z => by cases z) (fun z => by cases z) fun _ => es_nop) es_nop), some a, some (.str s), rfl, rfl⟩)
  exact ⟨y16', y17', q2, hq2, es_seq h (es_seq (es_if (k := false) (et_cmp (ee_blt (f := .rep) (ea_cons (ee_var rfl) ea_nil) (hk _)) (ee_var rfl) (eq_strs kept _).2) (fun z => by cases z) fun _ => es_nop) es_nop)⟩
def lapM : MS := .seq gA1 (.seq gA2 (.seq gA3 (.seq gA4 (.seq gA5 (.seq gA6 (.seq gA7 (.seq gB1 (.seq gB2 (.seq gB3 (.seq gB4 (.seq gC3 (.seq gC4 (.seq gD1 (.seq gD2 .nop))))))))))))))
theorem laps {ns : List Int} {q : Qs} (hq : q.ok) : ∃ (y2 y3 y4 y5 y6 y7 y8 y9 y10 y11 y12 y13 y14 y15 y16 y17 : Option PV) (q' : Qs), q'.ok ∧
    ES (run ds 100 20) 100 0 (.forS (.rng (.con (.int 5))) [2] true lapM) (E18 ns none none none none none none none none none none none none none none none none) (q.st ++ []) (.nx (E18 ns y2 y3 y4 y5 y6 y7 y8 y9 y10 y11 y12 y13 y14 y15 y16 y17) (q'.st ++ [])) := by
  obtain ⟨en', S', h, ⟨q', y2, y3, y4, y5, y6, y7, y8, y9, y10, y11, y12, y13, y14, y15, y16, y17, rfl, rfl, hq'⟩⟩ := es_forM (R := run ds 100 20) (W := 100) (tp := 0) (tg := [2]) (one := true) (s := lapM) (it := .rng (.con (.int 5))) (J := .rng 0 5) (l := List.range 5) (en := E18 ns none none none none none none none none none none none none none none none none) (S := q.st ++ []) (S1 := q.st ++ []) (fun (i : Nat) => .int i)
    (fun i e S => ∃ (q' : Qs) (y2 y3 y4 y5 y6 y7 y8 y9 y10 y11 y12 y13 y14 y15 y16 y17 : Option PV), e = E18 ns y2 y3 y4 y5 y6 y7 y8 y9 y10 y11 y12 y13 y14 y15 y16 y17 ∧ S = q'.st ++ [] ∧ q'.ok)
    (ei_rng (j := 5) ee_con (by decide)) rfl (fun i e S h => its_rng) ⟨q, _, _, _, _, _, _, _, _, _, _, _, _, _, _, _, _, rfl, rfl, hq⟩
    (fun i a e S hi hI => by
      obtain ⟨q0, y2, y3, y4, y5, y6, y7, y8, y9, y10, y11, y12, y13, y14, y15, y16, y17, rfl, rfl, hq0⟩ := hI
      have ha : a < 5 := List.mem_range.mp (List.mem_of_getElem? hi)
      obtain ⟨n, rows, so, P, marks, kept, q1, h1, hn, hb, hso, hP, hm, hk, hq1, hA⟩ := lapA (ns := ns) hq0 ha y3 y4 y5 y6 y7 y8 y9 y10 y11 y12 y13 y14 y15 y16 y17
      obtain ⟨w, z, y9', y10', y12', y13', hz, hwd, hB⟩ := lapB (ns := ns) (q := q1) h1 hn hb hP hm (some (.int a)) (some (.str kept)) (some (er so)) y9 y10 y11 y12 y13 y14 y15 y16 y17
      obtain ⟨vs, y14', q2, hv, hvl, hq2, hC⟩ := lapC (ns := ns) hq1 h1 hn hb hso hz hwd (some (.int a)) (some (.str kept)) (some (en P)) (some (er marks)) y9' y10' y12' y13' y14 y15 y16 y17
      obtain ⟨y16', y17', q3, hq3, hD⟩ := lapD (ns := ns) hq2 h1 hn hb hP hm hz hwd hv hvl hk (some (.int a)) (some (.int n)) (some (er so)) y9' y10' y12' y13' y14' y16 y17
      exact ⟨_, _, _, rfl, hA _ _ (hB _ _ (hC _ _ hD)), q3, _, _, _, _, _, _, _, _, _, _, _, _, _, _, _, _, rfl, rfl, hq3⟩)
  exact ⟨y2, y3, y4, y5, y6, y7, y8, y9, y10, y11, y12, y13, y14, y15, y16, y17, q', hq', h⟩
/-! the last three -/
def cR : List Row := [[true, true, false, false], [false, true, true, false]]
theorem cR_ok : Bas 4 cR := by
  have hrows : Len 4 cR := fun r hr => by
    simp only [cR, List.mem_cons, List.not_mem_nil, or_false] at hr
    rcases hr with rfl | rfl <;> rfl
  exact ⟨hrows, by rw [← lawT_rk hrows]; rfl⟩
theorem last_count (S : Sto) {P : List Nat} {marks : Row} {v : Int} (hP : PlaceLot 4 P) (hne : P ≠ []) (hm : marks.length = P.length) (hv : v = if (lawT P.length (lawT P.length (ats P cR) ++ [marks])).length = (lawT P.length (ats P cR)).length then ((2 ^ (2 - (lawT P.length (ats P cR)).length) : Nat) : Int) else 0) :
    run ds 100 20 18 [code 4 cR, en P, er marks] S = some (.int v, S) := by
  have hPn := hP.2.1
  have hPl := hP.2.2
  obtain ⟨F0, F, hF0, hF, hr16⟩ := r_mpaper 15 S (n := 4) (by omega) (by omega) cR_ok.1 (by decide) hPn (by omega) hm
  obtain ⟨w, z, e, hz, -, hwp⟩ := mpaper_ok cR_ok hP.1 hPn hF0 hF hm
  rw [e] at hr16
  have hr18 := r_count 15 S cR_ok.1 (by decide) hPn (by omega) hr16
  have hrk : rkP cR P = (lawT P.length (ats P cR)).length := by unfold rkP; rw [if_neg hne, lawT_rk (ats_len P cR)]
  have hsp := seen_has (rows := cR) hne hm
  have hsb : seenB cR P = lawT P.length (ats P cR) := by unfold seenB; rw [if_neg hne]
  rw [hsb] at hsp
  rw [show (15 + 5 : Nat) = 20 from rfl] at hr18
  rw [hr18, hv]
  by_cases hs : Sp P.length (ats P cR) marks
  · rw [if_pos (hsp.mpr hs)]
    have hw : w = "row" := by rcases hwp with ⟨h, _⟩ | ⟨_, _, h⟩; exact h; exact absurd hs h
    have hne2 : ¬ (w = "none") := fun h => by
      have h2 : ((("row" : Str) == ("none" : Str))) = false := by decide +kernel
      rw [show (("row" : Str)) = (("none" : Str)) from hw.symm.trans h] at h2
      simp at h2
    rw [if_neg hne2, hrk]
    rfl
  · rw [if_neg (fun h => hs (hsp.mp h))]
    have hw : w = "none" := by rcases hwp with ⟨_, h⟩ | ⟨h, _, _⟩; exact absurd h (by simp [hne, hs]); exact h
    rw [if_pos hw]
theorem law_plain (ns : List Int) (h : ns.length ≤ 63) : ∃ S', run ds 100 21 42 [.scr ns] [] = some (.bl true, S') := by
  obtain ⟨q, hq, hr16⟩ := r_source 19 h
  obtain ⟨y2, y3, y4, y5, y6, y7, y8, y9, y10, y11, y12, y13, y14, y15, y16, y17, q', hq', hL⟩ := laps (ns := ns) hq
  have hc1 := last_count (q'.st ++ []) (P := [0, 1]) (marks := [true, true]) (v := 1) ⟨by decide, by decide, by decide⟩ (by decide) rfl (by rfl)
  have hc2 := last_count (q'.st ++ []) (P := [3]) (marks := [true]) (v := 0) ⟨by decide, by decide, by decide⟩ (by decide) rfl (by rfl)
  have hr17 := r_mjudge 15 (q'.st ++ []) (n := 4) (rows := cR) (P := [3]) (marks := [true]) (v := .tup [.str "none", er [false, false, false, true]]) (by omega) (by omega) cR_ok (by decide) (by decide) rfl (by simp [pl, pls, er, eb]) (by simp [sz, szs, er, eb])
  have hvd : verdM 4 cR [3] [true] (.tup [.str "none", er [false, false, false, true]]) = .non := by kernel_rfl
  rw [hvd] at hr17
  obtain ⟨s, hs⟩ := r_rep (B := 100) (v := .lst [.int 1, .int 0, .non]) (by omega) (by simp [gd, gds]) (by simp [sz, szs]) (by simp [dpt, dpts])
  have t4 : ∀ (en0 : En) (S : Sto) (a b c d : PV), EE (run ds 100 20) 0 (.tup (.cons (.con a) (.cons (.con b) (.cons (.con c) (.cons (.con d) .nil))))) en0 S (.tup [a, b, c, d]) S := fun en0 S a b c d => ee_tup (ea_cons ee_con (ea_cons ee_con (ea_cons ee_con (ea_cons ee_con ea_nil)))) (lim_ok (by simp))
  have t1 : ∀ (en0 : En) (S : Sto) (a : PV), EE (run ds 100 20) 0 (.tup (.cons (.con a) .nil)) en0 S (.tup [a]) S := fun en0 S a => ee_tup (ea_cons ee_con ea_nil) (lim_ok (by simp))
  have t2 : ∀ (en0 : En) (S : Sto) (a b : PV), EE (run ds 100 20) 0 (.tup (.cons (.con a) (.cons (.con b) .nil))) en0 S (.tup [a, b]) S := fun en0 S a b => ee_tup (ea_cons ee_con (ea_cons ee_con ea_nil)) (lim_ok (by simp))
  have hbody : df42.b.dn (run ds 100 20) 100 0 (enOf df42 [.scr ns]) [] = some (.rt (.bl true) (q'.st ++ [])) := by
    refine es_seq (es_asg (ee_cal (ea_cons (ee_var rfl) ea_nil) hr16) rfl) (es_seq hL ?_)
    refine es_seq (es_asg (v := code 4 cR) (S1 := q'.st ++ []) (ee_tup (ea_cons ee_con (ea_cons (ee_tup (ea_cons (t4 _ _ _ _ _ _) (ea_cons (t4 _ _ _ _ _ _) ea_nil)) (lim_ok (by simp [cR]))) ea_nil)) (lim_ok (by simp))) rfl) ?_
    refine es_seq (es_asg (v := .lst [.int 1, .int 0, .non]) (S1 := q'.st ++ []) (ee_lst (m := false) (ea_cons (ee_cal (ea_cons (ee_var rfl) (ea_cons (t2 _ _ _ _) (ea_cons (t2 _ _ _ _) ea_nil))) hc1) (ea_cons (ee_cal (ea_cons (ee_var rfl) (ea_cons (t1 _ _ _) (ea_cons (t1 _ _ _) ea_nil))) hc2) (ea_cons (ee_cal (ea_cons (ee_var rfl) (ea_cons (t1 _ _ _) (ea_cons (t1 _ _ _) (ea_cons (ee_tup (ea_cons ee_con (ea_cons (t4 _ _ _ _ _ _) ea_nil)) (lim_ok (by simp))) ea_nil)))) hr17) ea_nil))) (lim_ok (by simp))) rfl) ?_
    exact es_seqR (es_ret (ee_cmp (ee_blt (f := .rep) (ea_cons (ee_var rfl) ea_nil) (hs _)) (ee_blt (f := .rep) (ea_cons (ee_lst (m := false) (ea_cons ee_con (ea_cons ee_con (ea_cons ee_con ea_nil))) (lim_ok (by simp))) ea_nil) (hs _)) (eq_strs s _).1))
  exact ⟨_, run_rt (d := df42) rfl rfl rfl hbody (no_bl _)⟩
end Ev
namespace Ev
open PySem PySem.Spec PyProof.Rows L2
theorem dk0 {K : Frag} {h : Heap} {mg : Str → Option Value} {f : Addr} {od an : Option Addr} {sl : Array (Option Value)} {oc kV dc pm cd ct : Value} (X : K.In h) (G : h.Ns mainGlobals mg)
    (a : PySem.W.nsIn K mainGlobals "sum_of" = some (some (.ref f))) (l : K.lookup f = some ⟨oc, od, .func (PySem.W.fnOf "sum_of" "sum_of" (defArgs st0) (defBody st0) (defScope st0) .none kV dc pm an cd ct), sl⟩) (c : PySem.W.codeIn K cd "sum_of" = true) (kp : PySem.W.keepIn K (.ref f) = true) :
    DefOk K mg dfs "sum_of" df0 f (PySem.W.fnOf "sum_of" "sum_of" (defArgs st0) (defBody st0) (defScope st0) .none kV dc pm an cd ct) ps0 :=
  mkDf X G rfl rfl rfl sc0 co0 (fun _ _ _ _ _ _ us hl => match us, hl with | [_, _], _ => rfl) a l c kp
theorem dk1 {K : Frag} {h : Heap} {mg : Str → Option Value} {f : Addr} {od an : Option Addr} {sl : Array (Option Value)} {oc kV dc pm cd ct : Value} (X : K.In h) (G : h.Ns mainGlobals mg)
    (a : PySem.W.nsIn K mainGlobals "are_even" = some (some (.ref f))) (l : K.lookup f = some ⟨oc, od, .func (PySem.W.fnOf "are_even" "are_even" (defArgs st1) (defBody st1) (defScope st1) .none kV dc pm an cd ct), sl⟩) (c : PySem.W.codeIn K cd "are_even" = true) (kp : PySem.W.keepIn K (.ref f) = true) :
    DefOk K mg dfs "are_even" df1 f (PySem.W.fnOf "are_even" "are_even" (defArgs st1) (defBody st1) (defScope st1) .none kV dc pm an cd ct) ps1 :=
  mkDf X G rfl rfl rfl sc1 co1 (fun _ _ _ _ _ _ us hl => match us, hl with | [_, _], _ => rfl) a l c kp
theorem dk2 {K : Frag} {h : Heap} {mg : Str → Option Value} {f : Addr} {od an : Option Addr} {sl : Array (Option Value)} {oc kV dc pm cd ct : Value} (X : K.In h) (G : h.Ns mainGlobals mg)
    (a : PySem.W.nsIn K mainGlobals "first_one" = some (some (.ref f))) (l : K.lookup f = some ⟨oc, od, .func (PySem.W.fnOf "first_one" "first_one" (defArgs st2) (defBody st2) (defScope st2) .none kV dc pm an cd ct), sl⟩) (c : PySem.W.codeIn K cd "first_one" = true) (kp : PySem.W.keepIn K (.ref f) = true) :
    DefOk K mg dfs "first_one" df2 f (PySem.W.fnOf "first_one" "first_one" (defArgs st2) (defBody st2) (defScope st2) .none kV dc pm an cd ct) ps2 :=
  mkDf X G rfl rfl rfl sc2 co2 (fun _ _ _ _ _ _ us hl => match us, hl with | [_], _ => rfl) a l c kp
theorem dk3 {K : Frag} {h : Heap} {mg : Str → Option Value} {f : Addr} {od an : Option Addr} {sl : Array (Option Value)} {oc kV dc pm cd ct : Value} (X : K.In h) (G : h.Ns mainGlobals mg)
    (a : PySem.W.nsIn K mainGlobals "told_rows" = some (some (.ref f))) (l : K.lookup f = some ⟨oc, od, .func (PySem.W.fnOf "told_rows" "told_rows" (defArgs st3) (defBody st3) (defScope st3) .none kV dc pm an cd ct), sl⟩) (c : PySem.W.codeIn K cd "told_rows" = true) (kp : PySem.W.keepIn K (.ref f) = true) :
    DefOk K mg dfs "told_rows" df3 f (PySem.W.fnOf "told_rows" "told_rows" (defArgs st3) (defBody st3) (defScope st3) .none kV dc pm an cd ct) ps3 :=
  mkDf X G rfl rfl rfl sc3 co3 (fun _ _ _ _ _ _ us hl => match us, hl with | [_], _ => rfl) a l c kp
theorem dk4 {K : Frag} {h : Heap} {mg : Str → Option Value} {f : Addr} {od an : Option Addr} {sl : Array (Option Value)} {oc kV dc pm cd ct : Value} (X : K.In h) (G : h.Ns mainGlobals mg)
    (a : PySem.W.nsIn K mainGlobals "sum_of_rows" = some (some (.ref f))) (l : K.lookup f = some ⟨oc, od, .func (PySem.W.fnOf "sum_of_rows" "sum_of_rows" (defArgs st4) (defBody st4) (defScope st4) .none kV dc pm an cd ct), sl⟩) (c : PySem.W.codeIn K cd "sum_of_rows" = true) (kp : PySem.W.keepIn K (.ref f) = true) :
    DefOk K mg dfs "sum_of_rows" df4 f (PySem.W.fnOf "sum_of_rows" "sum_of_rows" (defArgs st4) (defBody st4) (defScope st4) .none kV dc pm an cd ct) ps4 :=
  mkDf X G rfl rfl rfl sc4 co4 (fun _ _ _ _ _ _ us hl => match us, hl with | [_, _], _ => rfl) a l c kp
theorem dk5 {K : Frag} {h : Heap} {mg : Str → Option Value} {f : Addr} {od an : Option Addr} {sl : Array (Option Value)} {oc kV dc pm cd ct : Value} (X : K.In h) (G : h.Ns mainGlobals mg)
    (a : PySem.W.nsIn K mainGlobals "free_base" = some (some (.ref f))) (l : K.lookup f = some ⟨oc, od, .func (PySem.W.fnOf "free_base" "free_base" (defArgs st5) (defBody st5) (defScope st5) .none kV dc pm an cd ct), sl⟩) (c : PySem.W.codeIn K cd "free_base" = true) (kp : PySem.W.keepIn K (.ref f) = true) :
    DefOk K mg dfs "free_base" df5 f (PySem.W.fnOf "free_base" "free_base" (defArgs st5) (defBody st5) (defScope st5) .none kV dc pm an cd ct) ps5 :=
  mkDf X G rfl rfl rfl sc5 co5 (fun _ _ _ _ _ _ us hl => match us, hl with | [_], _ => rfl) a l c kp
theorem dk6 {K : Frag} {h : Heap} {mg : Str → Option Value} {f : Addr} {od an : Option Addr} {sl : Array (Option Value)} {oc kV dc pm cd ct : Value} (X : K.In h) (G : h.Ns mainGlobals mg)
    (a : PySem.W.nsIn K mainGlobals "has_row" = some (some (.ref f))) (l : K.lookup f = some ⟨oc, od, .func (PySem.W.fnOf "has_row" "has_row" (defArgs st6) (defBody st6) (defScope st6) .none kV dc pm an cd ct), sl⟩) (c : PySem.W.codeIn K cd "has_row" = true) (kp : PySem.W.keepIn K (.ref f) = true) :
    DefOk K mg dfs "has_row" df6 f (PySem.W.fnOf "has_row" "has_row" (defArgs st6) (defBody st6) (defScope st6) .none kV dc pm an cd ct) ps6 :=
  mkDf X G rfl rfl rfl sc6 co6 (fun _ _ _ _ _ _ us hl => match us, hl with | [_, _], _ => rfl) a l c kp
theorem dk7 {K : Frag} {h : Heap} {mg : Str → Option Value} {f : Addr} {od an : Option Addr} {sl : Array (Option Value)} {oc kV dc pm cd ct : Value} (X : K.In h) (G : h.Ns mainGlobals mg)
    (a : PySem.W.nsIn K mainGlobals "lot_that_makes" = some (some (.ref f))) (l : K.lookup f = some ⟨oc, od, .func (PySem.W.fnOf "lot_that_makes" "lot_that_makes" (defArgs st7) (defBody st7) (defScope st7) .none kV dc pm an cd ct), sl⟩) (c : PySem.W.codeIn K cd "lot_that_makes" = true) (kp : PySem.W.keepIn K (.ref f) = true) :
    DefOk K mg dfs "lot_that_makes" df7 f (PySem.W.fnOf "lot_that_makes" "lot_that_makes" (defArgs st7) (defBody st7) (defScope st7) .none kV dc pm an cd ct) ps7 :=
  mkDf X G rfl rfl rfl sc7 co7 (fun _ _ _ _ _ _ us hl => match us, hl with | [_, _], _ => rfl) a l c kp
theorem dk8 {K : Frag} {h : Heap} {mg : Str → Option Value} {f : Addr} {od an : Option Addr} {sl : Array (Option Value)} {oc kV dc pm cd ct : Value} (X : K.In h) (G : h.Ns mainGlobals mg)
    (a : PySem.W.nsIn K mainGlobals "reduced" = some (some (.ref f))) (l : K.lookup f = some ⟨oc, od, .func (PySem.W.fnOf "reduced" "reduced" (defArgs st8) (defBody st8) (defScope st8) .none kV dc pm an cd ct), sl⟩) (c : PySem.W.codeIn K cd "reduced" = true) (kp : PySem.W.keepIn K (.ref f) = true) :
    DefOk K mg dfs "reduced" df8 f (PySem.W.fnOf "reduced" "reduced" (defArgs st8) (defBody st8) (defScope st8) .none kV dc pm an cd ct) ps8 :=
  mkDf X G rfl rfl rfl sc8 co8 (fun _ _ _ _ _ _ us hl => match us, hl with | [_, _], _ => rfl) a l c kp
theorem dk9 {K : Frag} {h : Heap} {mg : Str → Option Value} {f : Addr} {od an : Option Addr} {sl : Array (Option Value)} {oc kV dc pm cd ct : Value} (X : K.In h) (G : h.Ns mainGlobals mg)
    (a : PySem.W.nsIn K mainGlobals "is_integer" = some (some (.ref f))) (l : K.lookup f = some ⟨oc, od, .func (PySem.W.fnOf "is_integer" "is_integer" (defArgs st9) (defBody st9) (defScope st9) .none kV dc pm an cd ct), sl⟩) (c : PySem.W.codeIn K cd "is_integer" = true) (kp : PySem.W.keepIn K (.ref f) = true) :
    DefOk K mg dfs "is_integer" df9 f (PySem.W.fnOf "is_integer" "is_integer" (defArgs st9) (defBody st9) (defScope st9) .none kV dc pm an cd ct) ps9 :=
  mkDf X G rfl rfl rfl sc9 co9 (fun _ _ _ _ _ _ us hl => match us, hl with | [_], _ => rfl) a l c kp
theorem dk10 {K : Frag} {h : Heap} {mg : Str → Option Value} {f : Addr} {od an : Option Addr} {sl : Array (Option Value)} {oc kV dc pm cd ct : Value} (X : K.In h) (G : h.Ns mainGlobals mg)
    (a : PySem.W.nsIn K mainGlobals "is_row" = some (some (.ref f))) (l : K.lookup f = some ⟨oc, od, .func (PySem.W.fnOf "is_row" "is_row" (defArgs st10) (defBody st10) (defScope st10) .none kV dc pm an cd ct), sl⟩) (c : PySem.W.codeIn K cd "is_row" = true) (kp : PySem.W.keepIn K (.ref f) = true) :
    DefOk K mg dfs "is_row" df10 f (PySem.W.fnOf "is_row" "is_row" (defArgs st10) (defBody st10) (defScope st10) .none kV dc pm an cd ct) ps10 :=
  mkDf X G rfl rfl rfl sc10 co10 (fun _ _ _ _ _ _ us hl => match us, hl with | [_, _], _ => rfl) a l c kp
theorem dk11 {K : Frag} {h : Heap} {mg : Str → Option Value} {f : Addr} {od an : Option Addr} {sl : Array (Option Value)} {oc kV dc pm cd ct : Value} (X : K.In h) (G : h.Ns mainGlobals mg)
    (a : PySem.W.nsIn K mainGlobals "is_worded" = some (some (.ref f))) (l : K.lookup f = some ⟨oc, od, .func (PySem.W.fnOf "is_worded" "is_worded" (defArgs st11) (defBody st11) (defScope st11) .none kV dc pm an cd ct), sl⟩) (c : PySem.W.codeIn K cd "is_worded" = true) (kp : PySem.W.keepIn K (.ref f) = true) :
    DefOk K mg dfs "is_worded" df11 f (PySem.W.fnOf "is_worded" "is_worded" (defArgs st11) (defBody st11) (defScope st11) .none kV dc pm an cd ct) ps11 :=
  mkDf X G rfl rfl rfl sc11 co11 (fun _ _ _ _ _ _ us hl => match us, hl with | [_, _], _ => rfl) a l c kp
theorem dk12 {K : Frag} {h : Heap} {mg : Str → Option Value} {f : Addr} {od an : Option Addr} {sl : Array (Option Value)} {oc kV dc pm cd ct : Value} (X : K.In h) (G : h.Ns mainGlobals mg)
    (a : PySem.W.nsIn K mainGlobals "first_odd" = some (some (.ref f))) (l : K.lookup f = some ⟨oc, od, .func (PySem.W.fnOf "first_odd" "first_odd" (defArgs st12) (defBody st12) (defScope st12) .none kV dc pm an cd ct), sl⟩) (c : PySem.W.codeIn K cd "first_odd" = true) (kp : PySem.W.keepIn K (.ref f) = true) :
    DefOk K mg dfs "first_odd" df12 f (PySem.W.fnOf "first_odd" "first_odd" (defArgs st12) (defBody st12) (defScope st12) .none kV dc pm an cd ct) ps12 :=
  mkDf X G rfl rfl rfl sc12 co12 (fun _ _ _ _ _ _ us hl => match us, hl with | [_, _], _ => rfl) a l c kp
theorem dk13 {K : Frag} {h : Heap} {mg : Str → Option Value} {f : Addr} {od an : Option Addr} {sl : Array (Option Value)} {oc kV dc pm cd ct : Value} (X : K.In h) (G : h.Ns mainGlobals mg)
    (a : PySem.W.nsIn K mainGlobals "marks_at" = some (some (.ref f))) (l : K.lookup f = some ⟨oc, od, .func (PySem.W.fnOf "marks_at" "marks_at" (defArgs st13) (defBody st13) (defScope st13) .none kV dc pm an cd ct), sl⟩) (c : PySem.W.codeIn K cd "marks_at" = true) (kp : PySem.W.keepIn K (.ref f) = true) :
    DefOk K mg dfs "marks_at" df13 f (PySem.W.fnOf "marks_at" "marks_at" (defArgs st13) (defBody st13) (defScope st13) .none kV dc pm an cd ct) ps13 :=
  mkDf X G rfl rfl rfl sc13 co13 (fun _ _ _ _ _ _ us hl => match us, hl with | [_, _], _ => rfl) a l c kp
theorem dk14 {K : Frag} {h : Heap} {mg : Str → Option Value} {f : Addr} {od an : Option Addr} {sl : Array (Option Value)} {oc kV dc pm cd ct : Value} (X : K.In h) (G : h.Ns mainGlobals mg)
    (a : PySem.W.nsIn K mainGlobals "seen_at" = some (some (.ref f))) (l : K.lookup f = some ⟨oc, od, .func (PySem.W.fnOf "seen_at" "seen_at" (defArgs st14) (defBody st14) (defScope st14) .none kV dc pm an cd ct), sl⟩) (c : PySem.W.codeIn K cd "seen_at" = true) (kp : PySem.W.keepIn K (.ref f) = true) :
    DefOk K mg dfs "seen_at" df14 f (PySem.W.fnOf "seen_at" "seen_at" (defArgs st14) (defBody st14) (defScope st14) .none kV dc pm an cd ct) ps14 :=
  mkDf X G rfl rfl rfl sc14 co14 (fun _ _ _ _ _ _ us hl => match us, hl with | [_, _], _ => rfl) a l c kp
theorem dk15 {K : Frag} {h : Heap} {mg : Str → Option Value} {f : Addr} {od an : Option Addr} {sl : Array (Option Value)} {oc kV dc pm cd ct : Value} (X : K.In h) (G : h.Ns mainGlobals mg)
    (a : PySem.W.nsIn K mainGlobals "rank_at" = some (some (.ref f))) (l : K.lookup f = some ⟨oc, od, .func (PySem.W.fnOf "rank_at" "rank_at" (defArgs st15) (defBody st15) (defScope st15) .none kV dc pm an cd ct), sl⟩) (c : PySem.W.codeIn K cd "rank_at" = true) (kp : PySem.W.keepIn K (.ref f) = true) :
    DefOk K mg dfs "rank_at" df15 f (PySem.W.fnOf "rank_at" "rank_at" (defArgs st15) (defBody st15) (defScope st15) .none kV dc pm an cd ct) ps15 :=
  mkDf X G rfl rfl rfl sc15 co15 (fun _ _ _ _ _ _ us hl => match us, hl with | [_, _], _ => rfl) a l c kp
theorem dk16 {K : Frag} {h : Heap} {mg : Str → Option Value} {f : Addr} {od an : Option Addr} {sl : Array (Option Value)} {oc kV dc pm cd ct : Value} (X : K.In h) (G : h.Ns mainGlobals mg)
    (a : PySem.W.nsIn K mainGlobals "marks_paper" = some (some (.ref f))) (l : K.lookup f = some ⟨oc, od, .func (PySem.W.fnOf "marks_paper" "marks_paper" (defArgs st16) (defBody st16) (defScope st16) .none kV dc pm an cd ct), sl⟩) (c : PySem.W.codeIn K cd "marks_paper" = true) (kp : PySem.W.keepIn K (.ref f) = true) :
    DefOk K mg dfs "marks_paper" df16 f (PySem.W.fnOf "marks_paper" "marks_paper" (defArgs st16) (defBody st16) (defScope st16) .none kV dc pm an cd ct) ps16 :=
  mkDf X G rfl rfl rfl sc16 co16 (fun _ _ _ _ _ _ us hl => match us, hl with | [_, _, _], _ => rfl) a l c kp
theorem dk17 {K : Frag} {h : Heap} {mg : Str → Option Value} {f : Addr} {od an : Option Addr} {sl : Array (Option Value)} {oc kV dc pm cd ct : Value} (X : K.In h) (G : h.Ns mainGlobals mg)
    (a : PySem.W.nsIn K mainGlobals "judge_marks" = some (some (.ref f))) (l : K.lookup f = some ⟨oc, od, .func (PySem.W.fnOf "judge_marks" "judge_marks" (defArgs st17) (defBody st17) (defScope st17) .none kV dc pm an cd ct), sl⟩) (c : PySem.W.codeIn K cd "judge_marks" = true) (kp : PySem.W.keepIn K (.ref f) = true) :
    DefOk K mg dfs "judge_marks" df17 f (PySem.W.fnOf "judge_marks" "judge_marks" (defArgs st17) (defBody st17) (defScope st17) .none kV dc pm an cd ct) ps17 :=
  mkDf X G rfl rfl rfl sc17 co17 (fun _ _ _ _ _ _ us hl => match us, hl with | [_, _, _, _], _ => rfl) a l c kp
theorem dk18 {K : Frag} {h : Heap} {mg : Str → Option Value} {f : Addr} {od an : Option Addr} {sl : Array (Option Value)} {oc kV dc pm cd ct : Value} (X : K.In h) (G : h.Ns mainGlobals mg)
    (a : PySem.W.nsIn K mainGlobals "marks_count" = some (some (.ref f))) (l : K.lookup f = some ⟨oc, od, .func (PySem.W.fnOf "marks_count" "marks_count" (defArgs st18) (defBody st18) (defScope st18) .none kV dc pm an cd ct), sl⟩) (c : PySem.W.codeIn K cd "marks_count" = true) (kp : PySem.W.keepIn K (.ref f) = true) :
    DefOk K mg dfs "marks_count" df18 f (PySem.W.fnOf "marks_count" "marks_count" (defArgs st18) (defBody st18) (defScope st18) .none kV dc pm an cd ct) ps18 :=
  mkDf X G rfl rfl rfl sc18 co18 (fun _ _ _ _ _ _ us hl => match us, hl with | [_, _, _], _ => rfl) a l c kp
theorem dk19 {K : Frag} {h : Heap} {mg : Str → Option Value} {f : Addr} {od an : Option Addr} {sl : Array (Option Value)} {oc kV dc pm cd ct : Value} (X : K.In h) (G : h.Ns mainGlobals mg)
    (a : PySem.W.nsIn K mainGlobals "_law_source" = some (some (.ref f))) (l : K.lookup f = some ⟨oc, od, .func (PySem.W.fnOf "_law_source" "_law_source" (defArgs st19) (defBody st19) (defScope st19) .none kV dc pm an cd ct), sl⟩) (c : PySem.W.codeIn K cd "_law_source" = true) (kp : PySem.W.keepIn K (.ref f) = true) :
    DefOk K mg dfs "_law_source" df19 f (PySem.W.fnOf "_law_source" "_law_source" (defArgs st19) (defBody st19) (defScope st19) .none kV dc pm an cd ct) ps19 :=
  mkDf X G rfl rfl rfl sc19 co19 (fun _ _ _ _ _ _ us hl => match us, hl with | [_], _ => rfl) a l c kp
theorem dk20 {K : Frag} {h : Heap} {mg : Str → Option Value} {f : Addr} {od an : Option Addr} {sl : Array (Option Value)} {oc kV dc pm cd ct : Value} (X : K.In h) (G : h.Ns mainGlobals mg)
    (a : PySem.W.nsIn K mainGlobals "_law_pick" = some (some (.ref f))) (l : K.lookup f = some ⟨oc, od, .func (PySem.W.fnOf "_law_pick" "_law_pick" (defArgs st20) (defBody st20) (defScope st20) .none kV dc pm an cd ct), sl⟩) (c : PySem.W.codeIn K cd "_law_pick" = true) (kp : PySem.W.keepIn K (.ref f) = true) :
    DefOk K mg dfs "_law_pick" df20 f (PySem.W.fnOf "_law_pick" "_law_pick" (defArgs st20) (defBody st20) (defScope st20) .none kV dc pm an cd ct) ps20 :=
  mkDf X G rfl rfl rfl sc20 co20 (fun _ _ _ _ _ _ us hl => match us, hl with | [_, _], _ => rfl) a l c kp
theorem dk21 {K : Frag} {h : Heap} {mg : Str → Option Value} {f : Addr} {od an : Option Addr} {sl : Array (Option Value)} {oc kV dc pm cd ct : Value} (X : K.In h) (G : h.Ns mainGlobals mg)
    (a : PySem.W.nsIn K mainGlobals "_law_of" = some (some (.ref f))) (l : K.lookup f = some ⟨oc, od, .func (PySem.W.fnOf "_law_of" "_law_of" (defArgs st21) (defBody st21) (defScope st21) .none kV dc pm an cd ct), sl⟩) (c : PySem.W.codeIn K cd "_law_of" = true) (kp : PySem.W.keepIn K (.ref f) = true) :
    DefOk K mg dfs "_law_of" df21 f (PySem.W.fnOf "_law_of" "_law_of" (defArgs st21) (defBody st21) (defScope st21) .none kV dc pm an cd ct) ps21 :=
  mkDf X G rfl rfl rfl sc21 co21 (fun _ _ _ _ _ _ us hl => match us, hl with | [_, _], _ => rfl) a l c kp
theorem dk22 {K : Frag} {h : Heap} {mg : Str → Option Value} {f : Addr} {od an : Option Addr} {sl : Array (Option Value)} {oc kV dc pm cd ct : Value} (X : K.In h) (G : h.Ns mainGlobals mg)
    (a : PySem.W.nsIn K mainGlobals "_law_mixed" = some (some (.ref f))) (l : K.lookup f = some ⟨oc, od, .func (PySem.W.fnOf "_law_mixed" "_law_mixed" (defArgs st22) (defBody st22) (defScope st22) .none kV dc pm an cd ct), sl⟩) (c : PySem.W.codeIn K cd "_law_mixed" = true) (kp : PySem.W.keepIn K (.ref f) = true) :
    DefOk K mg dfs "_law_mixed" df22 f (PySem.W.fnOf "_law_mixed" "_law_mixed" (defArgs st22) (defBody st22) (defScope st22) .none kV dc pm an cd ct) ps22 :=
  mkDf X G rfl rfl rfl sc22 co22 (fun _ _ _ _ _ _ us hl => match us, hl with | [_, _], _ => rfl) a l c kp
theorem dk23 {K : Frag} {h : Heap} {mg : Str → Option Value} {f : Addr} {od an : Option Addr} {sl : Array (Option Value)} {oc kV dc pm cd ct : Value} (X : K.In h) (G : h.Ns mainGlobals mg)
    (a : PySem.W.nsIn K mainGlobals "_law_sum" = some (some (.ref f))) (l : K.lookup f = some ⟨oc, od, .func (PySem.W.fnOf "_law_sum" "_law_sum" (defArgs st23) (defBody st23) (defScope st23) .none kV dc pm an cd ct), sl⟩) (c : PySem.W.codeIn K cd "_law_sum" = true) (kp : PySem.W.keepIn K (.ref f) = true) :
    DefOk K mg dfs "_law_sum" df23 f (PySem.W.fnOf "_law_sum" "_law_sum" (defArgs st23) (defBody st23) (defScope st23) .none kV dc pm an cd ct) ps23 :=
  mkDf X G rfl rfl rfl sc23 co23 (fun _ _ _ _ _ _ us hl => match us, hl with | [_, _], _ => rfl) a l c kp
theorem dk24 {K : Frag} {h : Heap} {mg : Str → Option Value} {f : Addr} {od an : Option Addr} {sl : Array (Option Value)} {oc kV dc pm cd ct : Value} (X : K.In h) (G : h.Ns mainGlobals mg)
    (a : PySem.W.nsIn K mainGlobals "_law_told" = some (some (.ref f))) (l : K.lookup f = some ⟨oc, od, .func (PySem.W.fnOf "_law_told" "_law_told" (defArgs st24) (defBody st24) (defScope st24) .none kV dc pm an cd ct), sl⟩) (c : PySem.W.codeIn K cd "_law_told" = true) (kp : PySem.W.keepIn K (.ref f) = true) :
    DefOk K mg dfs "_law_told" df24 f (PySem.W.fnOf "_law_told" "_law_told" (defArgs st24) (defBody st24) (defScope st24) .none kV dc pm an cd ct) ps24 :=
  mkDf X G rfl rfl rfl sc24 co24 (fun _ _ _ _ _ _ us hl => match us, hl with | [_, _], _ => rfl) a l c kp
theorem dk25 {K : Frag} {h : Heap} {mg : Str → Option Value} {f : Addr} {od an : Option Addr} {sl : Array (Option Value)} {oc kV dc pm cd ct : Value} (X : K.In h) (G : h.Ns mainGlobals mg)
    (a : PySem.W.nsIn K mainGlobals "_law_row" = some (some (.ref f))) (l : K.lookup f = some ⟨oc, od, .func (PySem.W.fnOf "_law_row" "_law_row" (defArgs st25) (defBody st25) (defScope st25) .none kV dc pm an cd ct), sl⟩) (c : PySem.W.codeIn K cd "_law_row" = true) (kp : PySem.W.keepIn K (.ref f) = true) :
    DefOk K mg dfs "_law_row" df25 f (PySem.W.fnOf "_law_row" "_law_row" (defArgs st25) (defBody st25) (defScope st25) .none kV dc pm an cd ct) ps25 :=
  mkDf X G rfl rfl rfl sc25 co25 (fun _ _ _ _ _ _ us hl => match us, hl with | [_, _], _ => rfl) a l c kp
theorem dk26 {K : Frag} {h : Heap} {mg : Str → Option Value} {f : Addr} {od an : Option Addr} {sl : Array (Option Value)} {oc kV dc pm cd ct : Value} (X : K.In h) (G : h.Ns mainGlobals mg)
    (a : PySem.W.nsIn K mainGlobals "_law_base" = some (some (.ref f))) (l : K.lookup f = some ⟨oc, od, .func (PySem.W.fnOf "_law_base" "_law_base" (defArgs st26) (defBody st26) (defScope st26) .none kV dc pm an cd ct), sl⟩) (c : PySem.W.codeIn K cd "_law_base" = true) (kp : PySem.W.keepIn K (.ref f) = true) :
    DefOk K mg dfs "_law_base" df26 f (PySem.W.fnOf "_law_base" "_law_base" (defArgs st26) (defBody st26) (defScope st26) .none kV dc pm an cd ct) ps26 :=
  mkDf X G rfl rfl rfl sc26 co26 (fun _ _ _ _ _ _ us hl => match us, hl with | [_, _, _], _ => rfl) a l c kp
theorem dk27 {K : Frag} {h : Heap} {mg : Str → Option Value} {f : Addr} {od an : Option Addr} {sl : Array (Option Value)} {oc kV dc pm cd ct : Value} (X : K.In h) (G : h.Ns mainGlobals mg)
    (a : PySem.W.nsIn K mainGlobals "_law_code" = some (some (.ref f))) (l : K.lookup f = some ⟨oc, od, .func (PySem.W.fnOf "_law_code" "_law_code" (defArgs st27) (defBody st27) (defScope st27) .none kV dc pm an cd ct), sl⟩) (c : PySem.W.codeIn K cd "_law_code" = true) (kp : PySem.W.keepIn K (.ref f) = true) :
    DefOk K mg dfs "_law_code" df27 f (PySem.W.fnOf "_law_code" "_law_code" (defArgs st27) (defBody st27) (defScope st27) .none kV dc pm an cd ct) ps27 :=
  mkDf X G rfl rfl rfl sc27 co27 (fun _ _ _ _ _ _ us hl => match us, hl with | [_, _], _ => rfl) a l c kp
theorem dk28 {K : Frag} {h : Heap} {mg : Str → Option Value} {f : Addr} {od an : Option Addr} {sl : Array (Option Value)} {oc kV dc pm cd ct : Value} (X : K.In h) (G : h.Ns mainGlobals mg)
    (a : PySem.W.nsIn K mainGlobals "_law_some_row" = some (some (.ref f))) (l : K.lookup f = some ⟨oc, od, .func (PySem.W.fnOf "_law_some_row" "_law_some_row" (defArgs st28) (defBody st28) (defScope st28) .none kV dc pm an cd ct), sl⟩) (c : PySem.W.codeIn K cd "_law_some_row" = true) (kp : PySem.W.keepIn K (.ref f) = true) :
    DefOk K mg dfs "_law_some_row" df28 f (PySem.W.fnOf "_law_some_row" "_law_some_row" (defArgs st28) (defBody st28) (defScope st28) .none kV dc pm an cd ct) ps28 :=
  mkDf X G rfl rfl rfl sc28 co28 (fun _ _ _ _ _ _ us hl => match us, hl with | [_, _], _ => rfl) a l c kp
theorem dk29 {K : Frag} {h : Heap} {mg : Str → Option Value} {f : Addr} {od an : Option Addr} {sl : Array (Option Value)} {oc kV dc pm cd ct : Value} (X : K.In h) (G : h.Ns mainGlobals mg)
    (a : PySem.W.nsIn K mainGlobals "_law_is_odd" = some (some (.ref f))) (l : K.lookup f = some ⟨oc, od, .func (PySem.W.fnOf "_law_is_odd" "_law_is_odd" (defArgs st29) (defBody st29) (defScope st29) .none kV dc pm an cd ct), sl⟩) (c : PySem.W.codeIn K cd "_law_is_odd" = true) (kp : PySem.W.keepIn K (.ref f) = true) :
    DefOk K mg dfs "_law_is_odd" df29 f (PySem.W.fnOf "_law_is_odd" "_law_is_odd" (defArgs st29) (defBody st29) (defScope st29) .none kV dc pm an cd ct) ps29 :=
  mkDf X G rfl rfl rfl sc29 co29 (fun _ _ _ _ _ _ us hl => match us, hl with | [_, _], _ => rfl) a l c kp
theorem dk30 {K : Frag} {h : Heap} {mg : Str → Option Value} {f : Addr} {od an : Option Addr} {sl : Array (Option Value)} {oc kV dc pm cd ct : Value} (X : K.In h) (G : h.Ns mainGlobals mg)
    (a : PySem.W.nsIn K mainGlobals "_law_leading" = some (some (.ref f))) (l : K.lookup f = some ⟨oc, od, .func (PySem.W.fnOf "_law_leading" "_law_leading" (defArgs st30) (defBody st30) (defScope st30) .none kV dc pm an cd ct), sl⟩) (c : PySem.W.codeIn K cd "_law_leading" = true) (kp : PySem.W.keepIn K (.ref f) = true) :
    DefOk K mg dfs "_law_leading" df30 f (PySem.W.fnOf "_law_leading" "_law_leading" (defArgs st30) (defBody st30) (defScope st30) .none kV dc pm an cd ct) ps30 :=
  mkDf X G rfl rfl rfl sc30 co30 (fun _ _ _ _ _ _ us hl => match us, hl with | [_], _ => rfl) a l c kp
theorem dk31 {K : Frag} {h : Heap} {mg : Str → Option Value} {f : Addr} {od an : Option Addr} {sl : Array (Option Value)} {oc kV dc pm cd ct : Value} (X : K.In h) (G : h.Ns mainGlobals mg)
    (a : PySem.W.nsIn K mainGlobals "_law_free" = some (some (.ref f))) (l : K.lookup f = some ⟨oc, od, .func (PySem.W.fnOf "_law_free" "_law_free" (defArgs st31) (defBody st31) (defScope st31) .none kV dc pm an cd ct), sl⟩) (c : PySem.W.codeIn K cd "_law_free" = true) (kp : PySem.W.keepIn K (.ref f) = true) :
    DefOk K mg dfs "_law_free" df31 f (PySem.W.fnOf "_law_free" "_law_free" (defArgs st31) (defBody st31) (defScope st31) .none kV dc pm an cd ct) ps31 :=
  mkDf X G rfl rfl rfl sc31 co31 (fun _ _ _ _ _ _ us hl => match us, hl with | [_, _], _ => rfl) a l c kp
theorem dk32 {K : Frag} {h : Heap} {mg : Str → Option Value} {f : Addr} {od an : Option Addr} {sl : Array (Option Value)} {oc kV dc pm cd ct : Value} (X : K.In h) (G : h.Ns mainGlobals mg)
    (a : PySem.W.nsIn K mainGlobals "_law_other" = some (some (.ref f))) (l : K.lookup f = some ⟨oc, od, .func (PySem.W.fnOf "_law_other" "_law_other" (defArgs st32) (defBody st32) (defScope st32) .none kV dc pm an cd ct), sl⟩) (c : PySem.W.codeIn K cd "_law_other" = true) (kp : PySem.W.keepIn K (.ref f) = true) :
    DefOk K mg dfs "_law_other" df32 f (PySem.W.fnOf "_law_other" "_law_other" (defArgs st32) (defBody st32) (defScope st32) .none kV dc pm an cd ct) ps32 :=
  mkDf X G rfl rfl rfl sc32 co32 (fun _ _ _ _ _ _ us hl => match us, hl with | [_], _ => rfl) a l c kp
theorem dk33 {K : Frag} {h : Heap} {mg : Str → Option Value} {f : Addr} {od an : Option Addr} {sl : Array (Option Value)} {oc kV dc pm cd ct : Value} (X : K.In h) (G : h.Ns mainGlobals mg)
    (a : PySem.W.nsIn K mainGlobals "_law_has" = some (some (.ref f))) (l : K.lookup f = some ⟨oc, od, .func (PySem.W.fnOf "_law_has" "_law_has" (defArgs st33) (defBody st33) (defScope st33) .none kV dc pm an cd ct), sl⟩) (c : PySem.W.codeIn K cd "_law_has" = true) (kp : PySem.W.keepIn K (.ref f) = true) :
    DefOk K mg dfs "_law_has" df33 f (PySem.W.fnOf "_law_has" "_law_has" (defArgs st33) (defBody st33) (defScope st33) .none kV dc pm an cd ct) ps33 :=
  mkDf X G rfl rfl rfl sc33 co33 (fun _ _ _ _ _ _ us hl => match us, hl with | [_, _], _ => rfl) a l c kp
theorem dk34 {K : Frag} {h : Heap} {mg : Str → Option Value} {f : Addr} {od an : Option Addr} {sl : Array (Option Value)} {oc kV dc pm cd ct : Value} (X : K.In h) (G : h.Ns mainGlobals mg)
    (a : PySem.W.nsIn K mainGlobals "_law_number" = some (some (.ref f))) (l : K.lookup f = some ⟨oc, od, .func (PySem.W.fnOf "_law_number" "_law_number" (defArgs st34) (defBody st34) (defScope st34) .none kV dc pm an cd ct), sl⟩) (c : PySem.W.codeIn K cd "_law_number" = true) (kp : PySem.W.keepIn K (.ref f) = true) :
    DefOk K mg dfs "_law_number" df34 f (PySem.W.fnOf "_law_number" "_law_number" (defArgs st34) (defBody st34) (defScope st34) .none kV dc pm an cd ct) ps34 :=
  mkDf X G rfl rfl rfl sc34 co34 (fun _ _ _ _ _ _ us hl => match us, hl with | [_], _ => rfl) a l c kp
theorem dk35 {K : Frag} {h : Heap} {mg : Str → Option Value} {f : Addr} {od an : Option Addr} {sl : Array (Option Value)} {oc kV dc pm cd ct : Value} (X : K.In h) (G : h.Ns mainGlobals mg)
    (a : PySem.W.nsIn K mainGlobals "_law_are_below" = some (some (.ref f))) (l : K.lookup f = some ⟨oc, od, .func (PySem.W.fnOf "_law_are_below" "_law_are_below" (defArgs st35) (defBody st35) (defScope st35) .none kV dc pm an cd ct), sl⟩) (c : PySem.W.codeIn K cd "_law_are_below" = true) (kp : PySem.W.keepIn K (.ref f) = true) :
    DefOk K mg dfs "_law_are_below" df35 f (PySem.W.fnOf "_law_are_below" "_law_are_below" (defArgs st35) (defBody st35) (defScope st35) .none kV dc pm an cd ct) ps35 :=
  mkDf X G rfl rfl rfl sc35 co35 (fun _ _ _ _ _ _ us hl => match us, hl with | [_, _], _ => rfl) a l c kp
theorem dk36 {K : Frag} {h : Heap} {mg : Str → Option Value} {f : Addr} {od an : Option Addr} {sl : Array (Option Value)} {oc kV dc pm cd ct : Value} (X : K.In h) (G : h.Ns mainGlobals mg)
    (a : PySem.W.nsIn K mainGlobals "_law_is_row" = some (some (.ref f))) (l : K.lookup f = some ⟨oc, od, .func (PySem.W.fnOf "_law_is_row" "_law_is_row" (defArgs st36) (defBody st36) (defScope st36) .none kV dc pm an cd ct), sl⟩) (c : PySem.W.codeIn K cd "_law_is_row" = true) (kp : PySem.W.keepIn K (.ref f) = true) :
    DefOk K mg dfs "_law_is_row" df36 f (PySem.W.fnOf "_law_is_row" "_law_is_row" (defArgs st36) (defBody st36) (defScope st36) .none kV dc pm an cd ct) ps36 :=
  mkDf X G rfl rfl rfl sc36 co36 (fun _ _ _ _ _ _ us hl => match us, hl with | [_, _], _ => rfl) a l c kp
theorem dk37 {K : Frag} {h : Heap} {mg : Str → Option Value} {f : Addr} {od an : Option Addr} {sl : Array (Option Value)} {oc kV dc pm cd ct : Value} (X : K.In h) (G : h.Ns mainGlobals mg)
    (a : PySem.W.nsIn K mainGlobals "_law_bent" = some (some (.ref f))) (l : K.lookup f = some ⟨oc, od, .func (PySem.W.fnOf "_law_bent" "_law_bent" (defArgs st37) (defBody st37) (defScope st37) .none kV dc pm an cd ct), sl⟩) (c : PySem.W.codeIn K cd "_law_bent" = true) (kp : PySem.W.keepIn K (.ref f) = true) :
    DefOk K mg dfs "_law_bent" df37 f (PySem.W.fnOf "_law_bent" "_law_bent" (defArgs st37) (defBody st37) (defScope st37) .none kV dc pm an cd ct) ps37 :=
  mkDf X G rfl rfl rfl sc37 co37 (fun _ _ _ _ _ _ us hl => match us, hl with | [_, _], _ => rfl) a l c kp
theorem dk38 {K : Frag} {h : Heap} {mg : Str → Option Value} {f : Addr} {od an : Option Addr} {sl : Array (Option Value)} {oc kV dc pm cd ct : Value} (X : K.In h) (G : h.Ns mainGlobals mg)
    (a : PySem.W.nsIn K mainGlobals "_law_places" = some (some (.ref f))) (l : K.lookup f = some ⟨oc, od, .func (PySem.W.fnOf "_law_places" "_law_places" (defArgs st38) (defBody st38) (defScope st38) .none kV dc pm an cd ct), sl⟩) (c : PySem.W.codeIn K cd "_law_places" = true) (kp : PySem.W.keepIn K (.ref f) = true) :
    DefOk K mg dfs "_law_places" df38 f (PySem.W.fnOf "_law_places" "_law_places" (defArgs st38) (defBody st38) (defScope st38) .none kV dc pm an cd ct) ps38 :=
  mkDf X G rfl rfl rfl sc38 co38 (fun _ _ _ _ _ _ us hl => match us, hl with | [_, _], _ => rfl) a l c kp
theorem dk39 {K : Frag} {h : Heap} {mg : Str → Option Value} {f : Addr} {od an : Option Addr} {sl : Array (Option Value)} {oc kV dc pm cd ct : Value} (X : K.In h) (G : h.Ns mainGlobals mg)
    (a : PySem.W.nsIn K mainGlobals "_law_at" = some (some (.ref f))) (l : K.lookup f = some ⟨oc, od, .func (PySem.W.fnOf "_law_at" "_law_at" (defArgs st39) (defBody st39) (defScope st39) .none kV dc pm an cd ct), sl⟩) (c : PySem.W.codeIn K cd "_law_at" = true) (kp : PySem.W.keepIn K (.ref f) = true) :
    DefOk K mg dfs "_law_at" df39 f (PySem.W.fnOf "_law_at" "_law_at" (defArgs st39) (defBody st39) (defScope st39) .none kV dc pm an cd ct) ps39 :=
  mkDf X G rfl rfl rfl sc39 co39 (fun _ _ _ _ _ _ us hl => match us, hl with | [_, _], _ => rfl) a l c kp
theorem dk40 {K : Frag} {h : Heap} {mg : Str → Option Value} {f : Addr} {od an : Option Addr} {sl : Array (Option Value)} {oc kV dc pm cd ct : Value} (X : K.In h) (G : h.Ns mainGlobals mg)
    (a : PySem.W.nsIn K mainGlobals "_law_seen" = some (some (.ref f))) (l : K.lookup f = some ⟨oc, od, .func (PySem.W.fnOf "_law_seen" "_law_seen" (defArgs st40) (defBody st40) (defScope st40) .none kV dc pm an cd ct), sl⟩) (c : PySem.W.codeIn K cd "_law_seen" = true) (kp : PySem.W.keepIn K (.ref f) = true) :
    DefOk K mg dfs "_law_seen" df40 f (PySem.W.fnOf "_law_seen" "_law_seen" (defArgs st40) (defBody st40) (defScope st40) .none kV dc pm an cd ct) ps40 :=
  mkDf X G rfl rfl rfl sc40 co40 (fun _ _ _ _ _ _ us hl => match us, hl with | [_, _], _ => rfl) a l c kp
theorem dk41 {K : Frag} {h : Heap} {mg : Str → Option Value} {f : Addr} {od an : Option Addr} {sl : Array (Option Value)} {oc kV dc pm cd ct : Value} (X : K.In h) (G : h.Ns mainGlobals mg)
    (a : PySem.W.nsIn K mainGlobals "_law_fault" = some (some (.ref f))) (l : K.lookup f = some ⟨oc, od, .func (PySem.W.fnOf "_law_fault" "_law_fault" (defArgs st41) (defBody st41) (defScope st41) .none kV dc pm an cd ct), sl⟩) (c : PySem.W.codeIn K cd "_law_fault" = true) (kp : PySem.W.keepIn K (.ref f) = true) :
    DefOk K mg dfs "_law_fault" df41 f (PySem.W.fnOf "_law_fault" "_law_fault" (defArgs st41) (defBody st41) (defScope st41) .none kV dc pm an cd ct) ps41 :=
  mkDf X G rfl rfl rfl sc41 co41 (fun _ _ _ _ _ _ us hl => match us, hl with | [_, _, _, _], _ => rfl) a l c kp
theorem dk42 {K : Frag} {h : Heap} {mg : Str → Option Value} {f : Addr} {od an : Option Addr} {sl : Array (Option Value)} {oc kV dc pm cd ct : Value} (X : K.In h) (G : h.Ns mainGlobals mg)
    (a : PySem.W.nsIn K mainGlobals "law" = some (some (.ref f))) (l : K.lookup f = some ⟨oc, od, .func (PySem.W.fnOf "law" "law" (defArgs st42) (defBody st42) (defScope st42) .none kV dc pm an cd ct), sl⟩) (c : PySem.W.codeIn K cd "law" = true) (kp : PySem.W.keepIn K (.ref f) = true) :
    DefOk K mg dfs "law" df42 f (PySem.W.fnOf "law" "law" (defArgs st42) (defBody st42) (defScope st42) .none kV dc pm an cd ct) ps42 :=
  mkDf X G rfl rfl rfl sc42 co42 (fun _ _ _ _ _ _ us hl => match us, hl with | [_], _ => rfl) a l c kp
theorem all_mk {P : Program} {w : World} {K : Frag} {h : Heap} {mg : Str → Option Value} {fa : Addr} (X : K.In h) (G : h.Ns mainGlobals mg) (hfa : mg "law" = some (.ref fa))
    {f0 : Addr} {od0 an0 : Option Addr} {sl0 : Array (Option Value)} {oc0 kV0 dc0 pm0 cd0 ct0 : Value} (a0 : PySem.W.nsIn K mainGlobals "sum_of" = some (some (.ref f0))) (l0 : K.lookup f0 = some ⟨oc0, od0, .func (PySem.W.fnOf "sum_of" "sum_of" (defArgs st0) (defBody st0) (defScope st0) .none kV0 dc0 pm0 an0 cd0 ct0), sl0⟩) (c0 : PySem.W.codeIn K cd0 "sum_of" = true) (k0 : PySem.W.keepIn K (.ref f0) = true)
    {f1 : Addr} {od1 an1 : Option Addr} {sl1 : Array (Option Value)} {oc1 kV1 dc1 pm1 cd1 ct1 : Value} (a1 : PySem.W.nsIn K mainGlobals "are_even" = some (some (.ref f1))) (l1 : K.lookup f1 = some ⟨oc1, od1, .func (PySem.W.fnOf "are_even" "are_even" (defArgs st1) (defBody st1) (defScope st1) .none kV1 dc1 pm1 an1 cd1 ct1), sl1⟩) (c1 : PySem.W.codeIn K cd1 "are_even" = true) (k1 : PySem.W.keepIn K (.ref f1) = true)
    {f2 : Addr} {od2 an2 : Option Addr} {sl2 : Array (Option Value)} {oc2 kV2 dc2 pm2 cd2 ct2 : Value} (a2 : PySem.W.nsIn K mainGlobals "first_one" = some (some (.ref f2))) (l2 : K.lookup f2 = some ⟨oc2, od2, .func (PySem.W.fnOf "first_one" "first_one" (defArgs st2) (defBody st2) (defScope st2) .none kV2 dc2 pm2 an2 cd2 ct2), sl2⟩) (c2 : PySem.W.codeIn K cd2 "first_one" = true) (k2 : PySem.W.keepIn K (.ref f2) = true)
    {f3 : Addr} {od3 an3 : Option Addr} {sl3 : Array (Option Value)} {oc3 kV3 dc3 pm3 cd3 ct3 : Value} (a3 : PySem.W.nsIn K mainGlobals "told_rows" = some (some (.ref f3))) (l3 : K.lookup f3 = some ⟨oc3, od3, .func (PySem.W.fnOf "told_rows" "told_rows" (defArgs st3) (defBody st3) (defScope st3) .none kV3 dc3 pm3 an3 cd3 ct3), sl3⟩) (c3 : PySem.W.codeIn K cd3 "told_rows" = true) (k3 : PySem.W.keepIn K (.ref f3) = true)
    {f4 : Addr} {od4 an4 : Option Addr} {sl4 : Array (Option Value)} {oc4 kV4 dc4 pm4 cd4 ct4 : Value} (a4 : PySem.W.nsIn K mainGlobals "sum_of_rows" = some (some (.ref f4))) (l4 : K.lookup f4 = some ⟨oc4, od4, .func (PySem.W.fnOf "sum_of_rows" "sum_of_rows" (defArgs st4) (defBody st4) (defScope st4) .none kV4 dc4 pm4 an4 cd4 ct4), sl4⟩) (c4 : PySem.W.codeIn K cd4 "sum_of_rows" = true) (k4 : PySem.W.keepIn K (.ref f4) = true)
    {f5 : Addr} {od5 an5 : Option Addr} {sl5 : Array (Option Value)} {oc5 kV5 dc5 pm5 cd5 ct5 : Value} (a5 : PySem.W.nsIn K mainGlobals "free_base" = some (some (.ref f5))) (l5 : K.lookup f5 = some ⟨oc5, od5, .func (PySem.W.fnOf "free_base" "free_base" (defArgs st5) (defBody st5) (defScope st5) .none kV5 dc5 pm5 an5 cd5 ct5), sl5⟩) (c5 : PySem.W.codeIn K cd5 "free_base" = true) (k5 : PySem.W.keepIn K (.ref f5) = true)
    {f6 : Addr} {od6 an6 : Option Addr} {sl6 : Array (Option Value)} {oc6 kV6 dc6 pm6 cd6 ct6 : Value} (a6 : PySem.W.nsIn K mainGlobals "has_row" = some (some (.ref f6))) (l6 : K.lookup f6 = some ⟨oc6, od6, .func (PySem.W.fnOf "has_row" "has_row" (defArgs st6) (defBody st6) (defScope st6) .none kV6 dc6 pm6 an6 cd6 ct6), sl6⟩) (c6 : PySem.W.codeIn K cd6 "has_row" = true) (k6 : PySem.W.keepIn K (.ref f6) = true)
    {f7 : Addr} {od7 an7 : Option Addr} {sl7 : Array (Option Value)} {oc7 kV7 dc7 pm7 cd7 ct7 : Value} (a7 : PySem.W.nsIn K mainGlobals "lot_that_makes" = some (some (.ref f7))) (l7 : K.lookup f7 = some ⟨oc7, od7, .func (PySem.W.fnOf "lot_that_makes" "lot_that_makes" (defArgs st7) (defBody st7) (defScope st7) .none kV7 dc7 pm7 an7 cd7 ct7), sl7⟩) (c7 : PySem.W.codeIn K cd7 "lot_that_makes" = true) (k7 : PySem.W.keepIn K (.ref f7) = true)
    {f8 : Addr} {od8 an8 : Option Addr} {sl8 : Array (Option Value)} {oc8 kV8 dc8 pm8 cd8 ct8 : Value} (a8 : PySem.W.nsIn K mainGlobals "reduced" = some (some (.ref f8))) (l8 : K.lookup f8 = some ⟨oc8, od8, .func (PySem.W.fnOf "reduced" "reduced" (defArgs st8) (defBody st8) (defScope st8) .none kV8 dc8 pm8 an8 cd8 ct8), sl8⟩) (c8 : PySem.W.codeIn K cd8 "reduced" = true) (k8 : PySem.W.keepIn K (.ref f8) = true)
    {f9 : Addr} {od9 an9 : Option Addr} {sl9 : Array (Option Value)} {oc9 kV9 dc9 pm9 cd9 ct9 : Value} (a9 : PySem.W.nsIn K mainGlobals "is_integer" = some (some (.ref f9))) (l9 : K.lookup f9 = some ⟨oc9, od9, .func (PySem.W.fnOf "is_integer" "is_integer" (defArgs st9) (defBody st9) (defScope st9) .none kV9 dc9 pm9 an9 cd9 ct9), sl9⟩) (c9 : PySem.W.codeIn K cd9 "is_integer" = true) (k9 : PySem.W.keepIn K (.ref f9) = true)
    {f10 : Addr} {od10 an10 : Option Addr} {sl10 : Array (Option Value)} {oc10 kV10 dc10 pm10 cd10 ct10 : Value} (a10 : PySem.W.nsIn K mainGlobals "is_row" = some (some (.ref f10))) (l10 : K.lookup f10 = some ⟨oc10, od10, .func (PySem.W.fnOf "is_row" "is_row" (defArgs st10) (defBody st10) (defScope st10) .none kV10 dc10 pm10 an10 cd10 ct10), sl10⟩) (c10 : PySem.W.codeIn K cd10 "is_row" = true) (k10 : PySem.W.keepIn K (.ref f10) = true)
    {f11 : Addr} {od11 an11 : Option Addr} {sl11 : Array (Option Value)} {oc11 kV11 dc11 pm11 cd11 ct11 : Value} (a11 : PySem.W.nsIn K mainGlobals "is_worded" = some (some (.ref f11))) (l11 : K.lookup f11 = some ⟨oc11, od11, .func (PySem.W.fnOf "is_worded" "is_worded" (defArgs st11) (defBody st11) (defScope st11) .none kV11 dc11 pm11 an11 cd11 ct11), sl11⟩) (c11 : PySem.W.codeIn K cd11 "is_worded" = true) (k11 : PySem.W.keepIn K (.ref f11) = true)
    {f12 : Addr} {od12 an12 : Option Addr} {sl12 : Array (Option Value)} {oc12 kV12 dc12 pm12 cd12 ct12 : Value} (a12 : PySem.W.nsIn K mainGlobals "first_odd" = some (some (.ref f12))) (l12 : K.lookup f12 = some ⟨oc12, od12, .func (PySem.W.fnOf "first_odd" "first_odd" (defArgs st12) (defBody st12) (defScope st12) .none kV12 dc12 pm12 an12 cd12 ct12), sl12⟩) (c12 : PySem.W.codeIn K cd12 "first_odd" = true) (k12 : PySem.W.keepIn K (.ref f12) = true)
    {f13 : Addr} {od13 an13 : Option Addr} {sl13 : Array (Option Value)} {oc13 kV13 dc13 pm13 cd13 ct13 : Value} (a13 : PySem.W.nsIn K mainGlobals "marks_at" = some (some (.ref f13))) (l13 : K.lookup f13 = some ⟨oc13, od13, .func (PySem.W.fnOf "marks_at" "marks_at" (defArgs st13) (defBody st13) (defScope st13) .none kV13 dc13 pm13 an13 cd13 ct13), sl13⟩) (c13 : PySem.W.codeIn K cd13 "marks_at" = true) (k13 : PySem.W.keepIn K (.ref f13) = true)
    {f14 : Addr} {od14 an14 : Option Addr} {sl14 : Array (Option Value)} {oc14 kV14 dc14 pm14 cd14 ct14 : Value} (a14 : PySem.W.nsIn K mainGlobals "seen_at" = some (some (.ref f14))) (l14 : K.lookup f14 = some ⟨oc14, od14, .func (PySem.W.fnOf "seen_at" "seen_at" (defArgs st14) (defBody st14) (defScope st14) .none kV14 dc14 pm14 an14 cd14 ct14), sl14⟩) (c14 : PySem.W.codeIn K cd14 "seen_at" = true) (k14 : PySem.W.keepIn K (.ref f14) = true)
    {f15 : Addr} {od15 an15 : Option Addr} {sl15 : Array (Option Value)} {oc15 kV15 dc15 pm15 cd15 ct15 : Value} (a15 : PySem.W.nsIn K mainGlobals "rank_at" = some (some (.ref f15))) (l15 : K.lookup f15 = some ⟨oc15, od15, .func (PySem.W.fnOf "rank_at" "rank_at" (defArgs st15) (defBody st15) (defScope st15) .none kV15 dc15 pm15 an15 cd15 ct15), sl15⟩) (c15 : PySem.W.codeIn K cd15 "rank_at" = true) (k15 : PySem.W.keepIn K (.ref f15) = true)
    {f16 : Addr} {od16 an16 : Option Addr} {sl16 : Array (Option Value)} {oc16 kV16 dc16 pm16 cd16 ct16 : Value} (a16 : PySem.W.nsIn K mainGlobals "marks_paper" = some (some (.ref f16))) (l16 : K.lookup f16 = some ⟨oc16, od16, .func (PySem.W.fnOf "marks_paper" "marks_paper" (defArgs st16) (defBody st16) (defScope st16) .none kV16 dc16 pm16 an16 cd16 ct16), sl16⟩) (c16 : PySem.W.codeIn K cd16 "marks_paper" = true) (k16 : PySem.W.keepIn K (.ref f16) = true)
    {f17 : Addr} {od17 an17 : Option Addr} {sl17 : Array (Option Value)} {oc17 kV17 dc17 pm17 cd17 ct17 : Value} (a17 : PySem.W.nsIn K mainGlobals "judge_marks" = some (some (.ref f17))) (l17 : K.lookup f17 = some ⟨oc17, od17, .func (PySem.W.fnOf "judge_marks" "judge_marks" (defArgs st17) (defBody st17) (defScope st17) .none kV17 dc17 pm17 an17 cd17 ct17), sl17⟩) (c17 : PySem.W.codeIn K cd17 "judge_marks" = true) (k17 : PySem.W.keepIn K (.ref f17) = true)
    {f18 : Addr} {od18 an18 : Option Addr} {sl18 : Array (Option Value)} {oc18 kV18 dc18 pm18 cd18 ct18 : Value} (a18 : PySem.W.nsIn K mainGlobals "marks_count" = some (some (.ref f18))) (l18 : K.lookup f18 = some ⟨oc18, od18, .func (PySem.W.fnOf "marks_count" "marks_count" (defArgs st18) (defBody st18) (defScope st18) .none kV18 dc18 pm18 an18 cd18 ct18), sl18⟩) (c18 : PySem.W.codeIn K cd18 "marks_count" = true) (k18 : PySem.W.keepIn K (.ref f18) = true)
    {f19 : Addr} {od19 an19 : Option Addr} {sl19 : Array (Option Value)} {oc19 kV19 dc19 pm19 cd19 ct19 : Value} (a19 : PySem.W.nsIn K mainGlobals "_law_source" = some (some (.ref f19))) (l19 : K.lookup f19 = some ⟨oc19, od19, .func (PySem.W.fnOf "_law_source" "_law_source" (defArgs st19) (defBody st19) (defScope st19) .none kV19 dc19 pm19 an19 cd19 ct19), sl19⟩) (c19 : PySem.W.codeIn K cd19 "_law_source" = true) (k19 : PySem.W.keepIn K (.ref f19) = true)
    {f20 : Addr} {od20 an20 : Option Addr} {sl20 : Array (Option Value)} {oc20 kV20 dc20 pm20 cd20 ct20 : Value} (a20 : PySem.W.nsIn K mainGlobals "_law_pick" = some (some (.ref f20))) (l20 : K.lookup f20 = some ⟨oc20, od20, .func (PySem.W.fnOf "_law_pick" "_law_pick" (defArgs st20) (defBody st20) (defScope st20) .none kV20 dc20 pm20 an20 cd20 ct20), sl20⟩) (c20 : PySem.W.codeIn K cd20 "_law_pick" = true) (k20 : PySem.W.keepIn K (.ref f20) = true)
    {f21 : Addr} {od21 an21 : Option Addr} {sl21 : Array (Option Value)} {oc21 kV21 dc21 pm21 cd21 ct21 : Value} (a21 : PySem.W.nsIn K mainGlobals "_law_of" = some (some (.ref f21))) (l21 : K.lookup f21 = some ⟨oc21, od21, .func (PySem.W.fnOf "_law_of" "_law_of" (defArgs st21) (defBody st21) (defScope st21) .none kV21 dc21 pm21 an21 cd21 ct21), sl21⟩) (c21 : PySem.W.codeIn K cd21 "_law_of" = true) (k21 : PySem.W.keepIn K (.ref f21) = true)
    {f22 : Addr} {od22 an22 : Option Addr} {sl22 : Array (Option Value)} {oc22 kV22 dc22 pm22 cd22 ct22 : Value} (a22 : PySem.W.nsIn K mainGlobals "_law_mixed" = some (some (.ref f22))) (l22 : K.lookup f22 = some ⟨oc22, od22, .func (PySem.W.fnOf "_law_mixed" "_law_mixed" (defArgs st22) (defBody st22) (defScope st22) .none kV22 dc22 pm22 an22 cd22 ct22), sl22⟩) (c22 : PySem.W.codeIn K cd22 "_law_mixed" = true) (k22 : PySem.W.keepIn K (.ref f22) = true)
    {f23 : Addr} {od23 an23 : Option Addr} {sl23 : Array (Option Value)} {oc23 kV23 dc23 pm23 cd23 ct23 : Value} (a23 : PySem.W.nsIn K mainGlobals "_law_sum" = some (some (.ref f23))) (l23 : K.lookup f23 = some ⟨oc23, od23, .func (PySem.W.fnOf "_law_sum" "_law_sum" (defArgs st23) (defBody st23) (defScope st23) .none kV23 dc23 pm23 an23 cd23 ct23), sl23⟩) (c23 : PySem.W.codeIn K cd23 "_law_sum" = true) (k23 : PySem.W.keepIn K (.ref f23) = true)
    {f24 : Addr} {od24 an24 : Option Addr} {sl24 : Array (Option Value)} {oc24 kV24 dc24 pm24 cd24 ct24 : Value} (a24 : PySem.W.nsIn K mainGlobals "_law_told" = some (some (.ref f24))) (l24 : K.lookup f24 = some ⟨oc24, od24, .func (PySem.W.fnOf "_law_told" "_law_told" (defArgs st24) (defBody st24) (defScope st24) .none kV24 dc24 pm24 an24 cd24 ct24), sl24⟩) (c24 : PySem.W.codeIn K cd24 "_law_told" = true) (k24 : PySem.W.keepIn K (.ref f24) = true)
    {f25 : Addr} {od25 an25 : Option Addr} {sl25 : Array (Option Value)} {oc25 kV25 dc25 pm25 cd25 ct25 : Value} (a25 : PySem.W.nsIn K mainGlobals "_law_row" = some (some (.ref f25))) (l25 : K.lookup f25 = some ⟨oc25, od25, .func (PySem.W.fnOf "_law_row" "_law_row" (defArgs st25) (defBody st25) (defScope st25) .none kV25 dc25 pm25 an25 cd25 ct25), sl25⟩) (c25 : PySem.W.codeIn K cd25 "_law_row" = true) (k25 : PySem.W.keepIn K (.ref f25) = true)
    {f26 : Addr} {od26 an26 : Option Addr} {sl26 : Array (Option Value)} {oc26 kV26 dc26 pm26 cd26 ct26 : Value} (a26 : PySem.W.nsIn K mainGlobals "_law_base" = some (some (.ref f26))) (l26 : K.lookup f26 = some ⟨oc26, od26, .func (PySem.W.fnOf "_law_base" "_law_base" (defArgs st26) (defBody st26) (defScope st26) .none kV26 dc26 pm26 an26 cd26 ct26), sl26⟩) (c26 : PySem.W.codeIn K cd26 "_law_base" = true) (k26 : PySem.W.keepIn K (.ref f26) = true)
    {f27 : Addr} {od27 an27 : Option Addr} {sl27 : Array (Option Value)} {oc27 kV27 dc27 pm27 cd27 ct27 : Value} (a27 : PySem.W.nsIn K mainGlobals "_law_code" = some (some (.ref f27))) (l27 : K.lookup f27 = some ⟨oc27, od27, .func (PySem.W.fnOf "_law_code" "_law_code" (defArgs st27) (defBody st27) (defScope st27) .none kV27 dc27 pm27 an27 cd27 ct27), sl27⟩) (c27 : PySem.W.codeIn K cd27 "_law_code" = true) (k27 : PySem.W.keepIn K (.ref f27) = true)
    {f28 : Addr} {od28 an28 : Option Addr} {sl28 : Array (Option Value)} {oc28 kV28 dc28 pm28 cd28 ct28 : Value} (a28 : PySem.W.nsIn K mainGlobals "_law_some_row" = some (some (.ref f28))) (l28 : K.lookup f28 = some ⟨oc28, od28, .func (PySem.W.fnOf "_law_some_row" "_law_some_row" (defArgs st28) (defBody st28) (defScope st28) .none kV28 dc28 pm28 an28 cd28 ct28), sl28⟩) (c28 : PySem.W.codeIn K cd28 "_law_some_row" = true) (k28 : PySem.W.keepIn K (.ref f28) = true)
    {f29 : Addr} {od29 an29 : Option Addr} {sl29 : Array (Option Value)} {oc29 kV29 dc29 pm29 cd29 ct29 : Value} (a29 : PySem.W.nsIn K mainGlobals "_law_is_odd" = some (some (.ref f29))) (l29 : K.lookup f29 = some ⟨oc29, od29, .func (PySem.W.fnOf "_law_is_odd" "_law_is_odd" (defArgs st29) (defBody st29) (defScope st29) .none kV29 dc29 pm29 an29 cd29 ct29), sl29⟩) (c29 : PySem.W.codeIn K cd29 "_law_is_odd" = true) (k29 : PySem.W.keepIn K (.ref f29) = true)
    {f30 : Addr} {od30 an30 : Option Addr} {sl30 : Array (Option Value)} {oc30 kV30 dc30 pm30 cd30 ct30 : Value} (a30 : PySem.W.nsIn K mainGlobals "_law_leading" = some (some (.ref f30))) (l30 : K.lookup f30 = some ⟨oc30, od30, .func (PySem.W.fnOf "_law_leading" "_law_leading" (defArgs st30) (defBody st30) (defScope st30) .none kV30 dc30 pm30 an30 cd30 ct30), sl30⟩) (c30 : PySem.W.codeIn K cd30 "_law_leading" = true) (k30 : PySem.W.keepIn K (.ref f30) = true)
    {f31 : Addr} {od31 an31 : Option Addr} {sl31 : Array (Option Value)} {oc31 kV31 dc31 pm31 cd31 ct31 : Value} (a31 : PySem.W.nsIn K mainGlobals "_law_free" = some (some (.ref f31))) (l31 : K.lookup f31 = some ⟨oc31, od31, .func (PySem.W.fnOf "_law_free" "_law_free" (defArgs st31) (defBody st31) (defScope st31) .none kV31 dc31 pm31 an31 cd31 ct31), sl31⟩) (c31 : PySem.W.codeIn K cd31 "_law_free" = true) (k31 : PySem.W.keepIn K (.ref f31) = true)
    {f32 : Addr} {od32 an32 : Option Addr} {sl32 : Array (Option Value)} {oc32 kV32 dc32 pm32 cd32 ct32 : Value} (a32 : PySem.W.nsIn K mainGlobals "_law_other" = some (some (.ref f32))) (l32 : K.lookup f32 = some ⟨oc32, od32, .func (PySem.W.fnOf "_law_other" "_law_other" (defArgs st32) (defBody st32) (defScope st32) .none kV32 dc32 pm32 an32 cd32 ct32), sl32⟩) (c32 : PySem.W.codeIn K cd32 "_law_other" = true) (k32 : PySem.W.keepIn K (.ref f32) = true)
    {f33 : Addr} {od33 an33 : Option Addr} {sl33 : Array (Option Value)} {oc33 kV33 dc33 pm33 cd33 ct33 : Value} (a33 : PySem.W.nsIn K mainGlobals "_law_has" = some (some (.ref f33))) (l33 : K.lookup f33 = some ⟨oc33, od33, .func (PySem.W.fnOf "_law_has" "_law_has" (defArgs st33) (defBody st33) (defScope st33) .none kV33 dc33 pm33 an33 cd33 ct33), sl33⟩) (c33 : PySem.W.codeIn K cd33 "_law_has" = true) (k33 : PySem.W.keepIn K (.ref f33) = true)
    {f34 : Addr} {od34 an34 : Option Addr} {sl34 : Array (Option Value)} {oc34 kV34 dc34 pm34 cd34 ct34 : Value} (a34 : PySem.W.nsIn K mainGlobals "_law_number" = some (some (.ref f34))) (l34 : K.lookup f34 = some ⟨oc34, od34, .func (PySem.W.fnOf "_law_number" "_law_number" (defArgs st34) (defBody st34) (defScope st34) .none kV34 dc34 pm34 an34 cd34 ct34), sl34⟩) (c34 : PySem.W.codeIn K cd34 "_law_number" = true) (k34 : PySem.W.keepIn K (.ref f34) = true)
    {f35 : Addr} {od35 an35 : Option Addr} {sl35 : Array (Option Value)} {oc35 kV35 dc35 pm35 cd35 ct35 : Value} (a35 : PySem.W.nsIn K mainGlobals "_law_are_below" = some (some (.ref f35))) (l35 : K.lookup f35 = some ⟨oc35, od35, .func (PySem.W.fnOf "_law_are_below" "_law_are_below" (defArgs st35) (defBody st35) (defScope st35) .none kV35 dc35 pm35 an35 cd35 ct35), sl35⟩) (c35 : PySem.W.codeIn K cd35 "_law_are_below" = true) (k35 : PySem.W.keepIn K (.ref f35) = true)
    {f36 : Addr} {od36 an36 : Option Addr} {sl36 : Array (Option Value)} {oc36 kV36 dc36 pm36 cd36 ct36 : Value} (a36 : PySem.W.nsIn K mainGlobals "_law_is_row" = some (some (.ref f36))) (l36 : K.lookup f36 = some ⟨oc36, od36, .func (PySem.W.fnOf "_law_is_row" "_law_is_row" (defArgs st36) (defBody st36) (defScope st36) .none kV36 dc36 pm36 an36 cd36 ct36), sl36⟩) (c36 : PySem.W.codeIn K cd36 "_law_is_row" = true) (k36 : PySem.W.keepIn K (.ref f36) = true)
    {f37 : Addr} {od37 an37 : Option Addr} {sl37 : Array (Option Value)} {oc37 kV37 dc37 pm37 cd37 ct37 : Value} (a37 : PySem.W.nsIn K mainGlobals "_law_bent" = some (some (.ref f37))) (l37 : K.lookup f37 = some ⟨oc37, od37, .func (PySem.W.fnOf "_law_bent" "_law_bent" (defArgs st37) (defBody st37) (defScope st37) .none kV37 dc37 pm37 an37 cd37 ct37), sl37⟩) (c37 : PySem.W.codeIn K cd37 "_law_bent" = true) (k37 : PySem.W.keepIn K (.ref f37) = true)
    {f38 : Addr} {od38 an38 : Option Addr} {sl38 : Array (Option Value)} {oc38 kV38 dc38 pm38 cd38 ct38 : Value} (a38 : PySem.W.nsIn K mainGlobals "_law_places" = some (some (.ref f38))) (l38 : K.lookup f38 = some ⟨oc38, od38, .func (PySem.W.fnOf "_law_places" "_law_places" (defArgs st38) (defBody st38) (defScope st38) .none kV38 dc38 pm38 an38 cd38 ct38), sl38⟩) (c38 : PySem.W.codeIn K cd38 "_law_places" = true) (k38 : PySem.W.keepIn K (.ref f38) = true)
    {f39 : Addr} {od39 an39 : Option Addr} {sl39 : Array (Option Value)} {oc39 kV39 dc39 pm39 cd39 ct39 : Value} (a39 : PySem.W.nsIn K mainGlobals "_law_at" = some (some (.ref f39))) (l39 : K.lookup f39 = some ⟨oc39, od39, .func (PySem.W.fnOf "_law_at" "_law_at" (defArgs st39) (defBody st39) (defScope st39) .none kV39 dc39 pm39 an39 cd39 ct39), sl39⟩) (c39 : PySem.W.codeIn K cd39 "_law_at" = true) (k39 : PySem.W.keepIn K (.ref f39) = true)
    {f40 : Addr} {od40 an40 : Option Addr} {sl40 : Array (Option Value)} {oc40 kV40 dc40 pm40 cd40 ct40 : Value} (a40 : PySem.W.nsIn K mainGlobals "_law_seen" = some (some (.ref f40))) (l40 : K.lookup f40 = some ⟨oc40, od40, .func (PySem.W.fnOf "_law_seen" "_law_seen" (defArgs st40) (defBody st40) (defScope st40) .none kV40 dc40 pm40 an40 cd40 ct40), sl40⟩) (c40 : PySem.W.codeIn K cd40 "_law_seen" = true) (k40 : PySem.W.keepIn K (.ref f40) = true)
    {f41 : Addr} {od41 an41 : Option Addr} {sl41 : Array (Option Value)} {oc41 kV41 dc41 pm41 cd41 ct41 : Value} (a41 : PySem.W.nsIn K mainGlobals "_law_fault" = some (some (.ref f41))) (l41 : K.lookup f41 = some ⟨oc41, od41, .func (PySem.W.fnOf "_law_fault" "_law_fault" (defArgs st41) (defBody st41) (defScope st41) .none kV41 dc41 pm41 an41 cd41 ct41), sl41⟩) (c41 : PySem.W.codeIn K cd41 "_law_fault" = true) (k41 : PySem.W.keepIn K (.ref f41) = true)
    {f42 : Addr} {od42 an42 : Option Addr} {sl42 : Array (Option Value)} {oc42 kV42 dc42 pm42 cd42 ct42 : Value} (a42 : PySem.W.nsIn K mainGlobals "law" = some (some (.ref f42))) (l42 : K.lookup f42 = some ⟨oc42, od42, .func (PySem.W.fnOf "law" "law" (defArgs st42) (defBody st42) (defScope st42) .none kV42 dc42 pm42 an42 cd42 ct42), sl42⟩) (c42 : PySem.W.codeIn K cd42 "law" = true) (k42 : PySem.W.keepIn K (.ref f42) = true)
    (z0 : PySem.W.nsIn K mainGlobals "len" = some none)
    (z1 : PySem.W.nsIn K mainGlobals "int" = some none)
    (z2 : PySem.W.nsIn K mainGlobals "abs" = some none)
    (z3 : PySem.W.nsIn K mainGlobals "max" = some none)
    (z4 : PySem.W.nsIn K mainGlobals "sum" = some none)
    (z5 : PySem.W.nsIn K mainGlobals "all" = some none)
    (z6 : PySem.W.nsIn K mainGlobals "tuple" = some none)
    (z7 : PySem.W.nsIn K mainGlobals "list" = some none)
    (z8 : PySem.W.nsIn K mainGlobals "repr" = some none)
    (z9 : PySem.W.nsIn K mainGlobals "sorted" = some none)
    (z10 : PySem.W.nsIn K mainGlobals "isinstance" = some none)
    (z11 : PySem.W.nsIn K mainGlobals "bool" = some none)
    (z12 : PySem.W.nsIn K mainGlobals "str" = some none)
    (z13 : PySem.W.nsIn K mainGlobals "dict" = some none)
    (z14 : PySem.W.nsIn K mainGlobals "range" = some none)
    (z15 : PySem.W.nsIn K mainGlobals "enumerate" = some none)
    (z16 : PySem.W.nsIn K mainGlobals "zip" = some none) :
    ∃ fd : FuncData, (∀ (s : Shared) (u : Value), BindsTo s fd ⟨[u], []⟩ [("script", u)]) ∧ ∀ base : Heap, K.In base → base.Ns mainGlobals mg → FnG P w K mg base (20 + 1) fa fd ["script"] (spV K 1 (run ds 100 (20 + 1) 42)) :=
  law_G (h := h) X G hfa (bl_cons X G z0 (bl_cons X G z1 (bl_cons X G z2 (bl_cons X G z3 (bl_cons X G z4 (bl_cons X G z5 (bl_cons X G z6 (bl_cons X G z7 (bl_cons X G z8 (bl_cons X G z9 (bl_cons X G z10 (bl_cons X G z11 (bl_cons X G z12 (bl_cons X G z13 (bl_cons X G z14 (bl_cons X G z15 (bl_cons X G z16 bl_nil))))))))))))))))) (dl_cons (dk0 X G a0 l0 c0 k0) rfl (dl_cons (dk1 X G a1 l1 c1 k1) rfl (dl_cons (dk2 X G a2 l2 c2 k2) rfl (dl_cons (dk3 X G a3 l3 c3 k3) rfl (dl_cons (dk4 X G a4 l4 c4 k4) rfl (dl_cons (dk5 X G a5 l5 c5 k5) rfl (dl_cons (dk6 X G a6 l6 c6 k6) rfl (dl_cons (dk7 X G a7 l7 c7 k7) rfl (dl_cons (dk8 X G a8 l8 c8 k8) rfl (dl_cons (dk9 X G a9 l9 c9 k9) rfl (dl_cons (dk10 X G a10 l10 c10 k10) rfl (dl_cons (dk11 X G a11 l11 c11 k11) rfl (dl_cons (dk12 X G a12 l12 c12 k12) rfl (dl_cons (dk13 X G a13 l13 c13 k13) rfl (dl_cons (dk14 X G a14 l14 c14 k14) rfl (dl_cons (dk15 X G a15 l15 c15 k15) rfl (dl_cons (dk16 X G a16 l16 c16 k16) rfl (dl_cons (dk17 X G a17 l17 c17 k17) rfl (dl_cons (dk18 X G a18 l18 c18 k18) rfl (dl_cons (dk19 X G a19 l19 c19 k19) rfl (dl_cons (dk20 X G a20 l20 c20 k20) rfl (dl_cons (dk21 X G a21 l21 c21 k21) rfl (dl_cons (dk22 X G a22 l22 c22 k22) rfl (dl_cons (dk23 X G a23 l23 c23 k23) rfl (dl_cons (dk24 X G a24 l24 c24 k24) rfl (dl_cons (dk25 X G a25 l25 c25 k25) rfl (dl_cons (dk26 X G a26 l26 c26 k26) rfl (dl_cons (dk27 X G a27 l27 c27 k27) rfl (dl_cons (dk28 X G a28 l28 c28 k28) rfl (dl_cons (dk29 X G a29 l29 c29 k29) rfl (dl_cons (dk30 X G a30 l30 c30 k30) rfl (dl_cons (dk31 X G a31 l31 c31 k31) rfl (dl_cons (dk32 X G a32 l32 c32 k32) rfl (dl_cons (dk33 X G a33 l33 c33 k33) rfl (dl_cons (dk34 X G a34 l34 c34 k34) rfl (dl_cons (dk35 X G a35 l35 c35 k35) rfl (dl_cons (dk36 X G a36 l36 c36 k36) rfl (dl_cons (dk37 X G a37 l37 c37 k37) rfl (dl_cons (dk38 X G a38 l38 c38 k38) rfl (dl_cons (dk39 X G a39 l39 c39 k39) rfl (dl_cons (dk40 X G a40 l40 c40 k40) rfl (dl_cons (dk41 X G a41 l41 c41 k41) rfl (dl_cons (dk42 X G a42 l42 c42 k42) rfl dl_nil))))))))))))))))))))))))))))))))))))))))))) rfl (dk42 X G a42 l42 c42 k42) (fun s u => .of_eq rfl)
end Ev
open PySem PySem.W PyProof.Rows
set_option maxHeartbeats 0 in
theorem PySem.Challenge.cw_lacednets_k77_rows_with_told_marks_holds : PySem.Challenge.rw_lacednets_k77_rows_with_told_marks.Holds := by
  w_on; o_law; k_head; (case hw => w_witness2)
  k_fill
  refine Ev.walk_G (l := PySem.Challenge.rw_lacednets_k77_rows_with_told_marks) (n := 63) (k := 20 + 1) (x := "script") (fl := Ev.run Ev.ds 100 (20 + 1) 42) rfl (by decide) rfl ⟨rfl, by decide, by decide⟩ (fun w h Y => PySem.W.kIn_of Y) ?F (fun ns h => Ev.law_plain ns h)
  case F =>
    intro w mg fa h KX G hmg
    refine' Ev.all_mk KX G hmg ?a0 ?l0 ?c0 ?k0 ?a1 ?l1 ?c1 ?k1 ?a2 ?l2 ?c2 ?k2 ?a3 ?l3 ?c3 ?k3 ?a4 ?l4 ?c4 ?k4 ?a5 ?l5 ?c5 ?k5 ?a6 ?l6 ?c6 ?k6 ?a7 ?l7 ?c7 ?k7 ?a8 ?l8 ?c8 ?k8 ?a9 ?l9 ?c9 ?k9 ?a10 ?l10 ?c10 ?k10 ?a11 ?l11 ?c11 ?k11 ?a12 ?l12 ?c12 ?k12 ?a13 ?l13 ?c13 ?k13 ?a14 ?l14 ?c14 ?k14 ?a15 ?l15 ?c15 ?k15 ?a16 ?l16 ?c16 ?k16 ?a17 ?l17 ?c17 ?k17 ?a18 ?l18 ?c18 ?k18 ?a19 ?l19 ?c19 ?k19 ?a20 ?l20 ?c20 ?k20 ?a21 ?l21 ?c21 ?k21 ?a22 ?l22 ?c22 ?k22 ?a23 ?l23 ?c23 ?k23 ?a24 ?l24 ?c24 ?k24 ?a25 ?l25 ?c25 ?k25 ?a26 ?l26 ?c26 ?k26 ?a27 ?l27 ?c27 ?k27 ?a28 ?l28 ?c28 ?k28 ?a29 ?l29 ?c29 ?k29 ?a30 ?l30 ?c30 ?k30 ?a31 ?l31 ?c31 ?k31 ?a32 ?l32 ?c32 ?k32 ?a33 ?l33 ?c33 ?k33 ?a34 ?l34 ?c34 ?k34 ?a35 ?l35 ?c35 ?k35 ?a36 ?l36 ?c36 ?k36 ?a37 ?l37 ?c37 ?k37 ?a38 ?l38 ?c38 ?k38 ?a39 ?l39 ?c39 ?k39 ?a40 ?l40 ?c40 ?k40 ?a41 ?l41 ?c41 ?k41 ?a42 ?l42 ?c42 ?k42 ?z0 ?z1 ?z2 ?z3 ?z4 ?z5 ?z6 ?z7 ?z8 ?z9 ?z10 ?z11 ?z12 ?z13 ?z14 ?z15 ?z16
    (case a0 => k_is); (case l0 => k_is); (case c0 => k_is); (case k0 => k_is); (case a1 => k_is); (case l1 => k_is); (case c1 => k_is); (case k1 => k_is); (case a2 => k_is); (case l2 => k_is); (case c2 => k_is); (case k2 => k_is); (case a3 => k_is); (case l3 => k_is); (case c3 => k_is); (case k3 => k_is); (case a4 => k_is); (case l4 => k_is); (case c4 => k_is); (case k4 => k_is); (case a5 => k_is); (case l5 => k_is); (case c5 => k_is); (case k5 => k_is); (case a6 => k_is); (case l6 => k_is); (case c6 => k_is); (case k6 => k_is); (case a7 => k_is); (case l7 => k_is); (case c7 => k_is); (case k7 => k_is); (case a8 => k_is); (case l8 => k_is); (case c8 => k_is); (case k8 => k_is); (case a9 => k_is); (case l9 => k_is); (case c9 => k_is); (case k9 => k_is); (case a10 => k_is); (case l10 => k_is); (case c10 => k_is); (case k10 => k_is); (case a11 => k_is); (case l11 => k_is); (case c11 => k_is); (case k11 => k_is); (case a12 => k_is); (case l12 => k_is); (case c12 => k_is); (case k12 => k_is); (case a13 => k_is); (case l13 => k_is); (case c13 => k_is); (case k13 => k_is); (case a14 => k_is); (case l14 => k_is); (case c14 => k_is); (case k14 => k_is); (case a15 => k_is); (case l15 => k_is); (case c15 => k_is); (case k15 => k_is); (case a16 => k_is); (case l16 => k_is); (case c16 => k_is); (case k16 => k_is); (case a17 => k_is); (case l17 => k_is); (case c17 => k_is); (case k17 => k_is); (case a18 => k_is); (case l18 => k_is); (case c18 => k_is); (case k18 => k_is); (case a19 => k_is); (case l19 => k_is); (case c19 => k_is); (case k19 => k_is); (case a20 => k_is); (case l20 => k_is); (case c20 => k_is); (case k20 => k_is); (case a21 => k_is); (case l21 => k_is); (case c21 => k_is); (case k21 => k_is); (case a22 => k_is); (case l22 => k_is); (case c22 => k_is); (case k22 => k_is); (case a23 => k_is); (case l23 => k_is); (case c23 => k_is); (case k23 => k_is); (case a24 => k_is); (case l24 => k_is); (case c24 => k_is); (case k24 => k_is); (case a25 => k_is); (case l25 => k_is); (case c25 => k_is); (case k25 => k_is); (case a26 => k_is); (case l26 => k_is); (case c26 => k_is); (case k26 => k_is); (case a27 => k_is); (case l27 => k_is); (case c27 => k_is); (case k27 => k_is); (case a28 => k_is); (case l28 => k_is); (case c28 => k_is); (case k28 => k_is); (case a29 => k_is); (case l29 => k_is); (case c29 => k_is); (case k29 => k_is); (case a30 => k_is); (case l30 => k_is); (case c30 => k_is); (case k30 => k_is); (case a31 => k_is); (case l31 => k_is); (case c31 => k_is); (case k31 => k_is); (case a32 => k_is); (case l32 => k_is); (case c32 => k_is); (case k32 => k_is); (case a33 => k_is); (case l33 => k_is); (case c33 => k_is); (case k33 => k_is); (case a34 => k_is); (case l34 => k_is); (case c34 => k_is); (case k34 => k_is); (case a35 => k_is); (case l35 => k_is); (case c35 => k_is); (case k35 => k_is); (case a36 => k_is); (case l36 => k_is); (case c36 => k_is); (case k36 => k_is); (case a37 => k_is); (case l37 => k_is); (case c37 => k_is); (case k37 => k_is); (case a38 => k_is); (case l38 => k_is); (case c38 => k_is); (case k38 => k_is); (case a39 => k_is); (case l39 => k_is); (case c39 => k_is); (case k39 => k_is); (case a40 => k_is); (case l40 => k_is); (case c40 => k_is); (case k40 => k_is); (case a41 => k_is); (case l41 => k_is); (case c41 => k_is); (case k41 => k_is); (case a42 => k_is); (case l42 => k_is); (case c42 => k_is); (case k42 => k_is); (case z0 => k_is); (case z1 => k_is); (case z2 => k_is); (case z3 => k_is); (case z4 => k_is); (case z5 => k_is); (case z6 => k_is); (case z7 => k_is); (case z8 => k_is); (case z9 => k_is); (case z10 => k_is); (case z11 => k_is); (case z12 => k_is); (case z13 => k_is); (case z14 => k_is); (case z15 => k_is); (case z16 => k_is)
