import PyProof.Rows.All
import Wide.All
import OpenK.AllK
import Wide.FinOn
import HandS.ForMost
import HandS.ForExc
import HandS.Deep
import HandS.TupAny
import HandS.TupMul
import HandS.IsInst
import HandS.Iter
import HandS.Text
import HandS.Flow
import HandS.RaiseMore
import HandS.Style
import PyProof.P3In
import HandS.Zip0
import PyProof.Draws
import KE.SortData
import KE.KRevSl
import PySem.Challenge.RW_burgeon_k14_types_of_kinds
set_option Elab.async false
set_option linter.all false
set_option maxRecDepth 100000
set_option maxHeartbeats 4000000
set_option autoImplicit false
/-! L3A: data by value (D), mutable objects by number in a store (Sto), and the judgements that tie the hand layer's readings to plain Lean functions over them. -/
namespace L3
open PySem PySem.Spec L2

/-! ### data, store, results -/
inductive D where
  | non | bl (b : Bool) | int (i : Int) | str (x : Str) | tup (l : List D) | fz (l : List D) | obj (n : Nat)
  deriving Inhabited
mutual
def D.dec : (a b : D) → Decidable (a = b)
  | .non, .non => .isTrue rfl
  | .bl a, .bl b => if h : a = b then .isTrue (h ▸ rfl) else .isFalse fun e => h (D.bl.inj e)
  | .int a, .int b => if h : a = b then .isTrue (h ▸ rfl) else .isFalse fun e => h (D.int.inj e)
  | .str a, .str b => if h : a = b then .isTrue (h ▸ rfl) else .isFalse fun e => h (D.str.inj e)
  | .obj a, .obj b => if h : a = b then .isTrue (h ▸ rfl) else .isFalse fun e => h (D.obj.inj e)
  | .tup a, .tup b => match D.decs a b with
    | .isTrue h => .isTrue (h ▸ rfl)
    | .isFalse h => .isFalse fun e => h (D.tup.inj e)
  | .fz a, .fz b => match D.decs a b with
    | .isTrue h => .isTrue (h ▸ rfl)
    | .isFalse h => .isFalse fun e => h (D.fz.inj e)
  | .non, .bl _ | .non, .int _ | .non, .str _ | .non, .tup _ | .non, .fz _ | .non, .obj _ => .isFalse fun e => by cases e
  | .bl _, .non | .bl _, .int _ | .bl _, .str _ | .bl _, .tup _ | .bl _, .fz _ | .bl _, .obj _ => .isFalse fun e => by cases e
  | .int _, .non | .int _, .bl _ | .int _, .str _ | .int _, .tup _ | .int _, .fz _ | .int _, .obj _ => .isFalse fun e => by cases e
  | .str _, .non | .str _, .bl _ | .str _, .int _ | .str _, .tup _ | .str _, .fz _ | .str _, .obj _ => .isFalse fun e => by cases e
  | .tup _, .non | .tup _, .bl _ | .tup _, .int _ | .tup _, .str _ | .tup _, .fz _ | .tup _, .obj _ => .isFalse fun e => by cases e
  | .fz _, .non | .fz _, .bl _ | .fz _, .int _ | .fz _, .str _ | .fz _, .tup _ | .fz _, .obj _ => .isFalse fun e => by cases e
  | .obj _, .non | .obj _, .bl _ | .obj _, .int _ | .obj _, .str _ | .obj _, .tup _ | .obj _, .fz _ => .isFalse fun e => by cases e
def D.decs : (a b : List D) → Decidable (a = b)
  | [], [] => .isTrue rfl
  | [], _ :: _ => .isFalse fun e => by cases e
  | _ :: _, [] => .isFalse fun e => by cases e
  | a :: as, b :: bs => match D.dec a b with
    | .isFalse h => .isFalse fun e => h (List.cons.inj e).1
    | .isTrue h => match D.decs as bs with
      | .isTrue h' => .isTrue (h ▸ h' ▸ rfl)
      | .isFalse h' => .isFalse fun e => h' (List.cons.inj e).2
end
instance : DecidableEq D := D.dec
inductive O where
  | lst (l : List D)
  | dct (kvs : List (Key × D))
  | ins (c : Nat) (fs : List (Str × D))
  deriving DecidableEq
abbrev Sto := List O
abbrev Sl := List (Option D)
structure Ex where
  c : Nat
  fs : List (Str × D)
inductive Rs (α : Type) where
  | ok (a : α) (S : Sto) | rse (x : Ex) (S : Sto) | bad
inductive Rt where
  | nx (e : Sl) (S : Sto) | rt (d : D) (S : Sto) | bk (e : Sl) (S : Sto) | ct (e : Sl) (S : Sto) | rse (x : Ex) (e : Sl) (S : Sto) | bad
abbrev ME := Sl → Sto → Rs D
abbrev MT := Sl → Sto → Rs Bool
abbrev MA := Sl → Sto → Rs (List D)
abbrev MS := Sl → Sto → Rt

/-! ### what stands for a datum -/
/-- a list that nothing writes -/
def FzL (K : PySem.W.Frag) (H : Hp) (a : Addr) (xs : List V) : Prop :=
  (∃ o, H a = some (.frz o (.lst xs))) ∨
    ∃ (o : Obj) (its : Array Value) (n : Nat), K.lookup a = some o ∧ o.cls = .type "list" ∧ o.dict = none ∧ o.data = .seq its n ∧ its.size ≤ sizeLine ∧ Vals xs its.toList
theorem FzL.sq {K : PySem.W.Frag} {H : Hp} {a : Addr} {xs : List V} (h : FzL K H a xs) : SqL K H a xs := by
  rcases h with h | h
  · exact .inl (.inr h)
  · exact .inr h
mutual
inductive Rep (K : PySem.W.Frag) (r : List Addr) (H : Hp) : V → D → Prop
  | non : Rep K r H .non .non
  | bl (b : Bool) : Rep K r H (.bl b) (.bl b)
  | int (i : Int) : Rep K r H (.int i) (.int i)
  | str (x : Str) : Rep K r H (.str x) (.str x)
  | tup {a : Addr} {xs : List V} {ds : List D} : SqT K H a xs → Reps K r H xs ds → Rep K r H (.ref a) (.tup ds)
  | fz {a : Addr} {xs : List V} {ds : List D} : FzL K H a xs → Reps K r H xs ds → Rep K r H (.ref a) (.fz ds)
  | obj {a : Addr} {n : Nat} : r[n]? = some a → Rep K r H (.ref a) (.obj n)
inductive Reps (K : PySem.W.Frag) (r : List Addr) (H : Hp) : List V → List D → Prop
  | nil : Reps K r H [] []
  | cons {v : V} {vs : List V} {d : D} {ds : List D} : Rep K r H v d → Reps K r H vs ds → Reps K r H (v :: vs) (d :: ds)
end
/-- the heap has grown: tuples and locked lists stand, addresses are kept -/
structure Grow (K : PySem.W.Frag) (r : List Addr) (H : Hp) (r' : List Addr) (H' : Hp) : Prop where
  pre : ∀ (n : Nat) (a : Addr), r[n]? = some a → r'[n]? = some a
  tup : ∀ a xs, SqT K H a xs → SqT K H' a xs
  fz : ∀ a xs, FzL K H a xs → FzL K H' a xs
  dom : ∀ a, H' a = none → H a = none
  keep : ∀ a u, H a = some u → a ∉ r → H' a = some u ∧ a ∉ r'
section
variable {K : PySem.W.Frag} {r r1 r2 : List Addr} {H H1 H2 : Hp}
theorem Grow.refl : Grow K r H r H := ⟨fun _ _ h => h, fun _ _ h => h, fun _ _ h => h, fun _ h => h, fun _ _ h n => ⟨h, n⟩⟩
theorem Grow.trans (a : Grow K r H r1 H1) (b : Grow K r1 H1 r2 H2) : Grow K r H r2 H2 :=
  ⟨fun n x h => b.pre n x (a.pre n x h), fun p xs h => b.tup p xs (a.tup p xs h), fun p xs h => b.fz p xs (a.fz p xs h), fun p h => a.dom p (b.dom p h), fun p u h n => let ⟨h1, n1⟩ := a.keep p u h n; b.keep p u h1 n1⟩
mutual
theorem Rep.grow (g : Grow K r H r1 H1) : ∀ {v : V} {d : D}, Rep K r H v d → Rep K r1 H1 v d
  | _, _, .non => .non
  | _, _, .bl b => .bl b
  | _, _, .int i => .int i
  | _, _, .str x => .str x
  | _, _, .tup h t => .tup (g.tup _ _ h) (Reps.grow g t)
  | _, _, .fz h t => .fz (g.fz _ _ h) (Reps.grow g t)
  | _, _, .obj h => .obj (g.pre _ _ h)
theorem Reps.grow (g : Grow K r H r1 H1) : ∀ {vs : List V} {ds : List D}, Reps K r H vs ds → Reps K r1 H1 vs ds
  | _, _, .nil => .nil
  | _, _, .cons a t => .cons (Rep.grow g a) (Reps.grow g t)
end
theorem Reps.length : ∀ {vs : List V} {ds : List D}, Reps K r H vs ds → vs.length = ds.length
  | _, _, .nil => rfl
  | _, _, .cons _ t => congrArg Nat.succ (Reps.length t)
theorem Reps.get : ∀ {vs : List V} {ds : List D} {i : Nat} {d : D}, Reps K r H vs ds → ds[i]? = some d → ∃ v, vs[i]? = some v ∧ Rep K r H v d
  | _, _, _, _, .nil, e => by simp at e
  | _, _, 0, _, .cons a _, e => by simp at e; subst e; exact ⟨_, rfl, a⟩
  | _, _, i + 1, d, .cons _ t, e => by
    obtain ⟨v, h1, h2⟩ := Reps.get (i := i) (d := d) t (by simpa using e)
    exact ⟨v, by simpa using h1, h2⟩
theorem Reps.get' : ∀ {vs : List V} {ds : List D} {i : Nat} {v : V}, Reps K r H vs ds → vs[i]? = some v → ∃ d, ds[i]? = some d ∧ Rep K r H v d
  | _, _, _, _, .nil, e => by simp at e
  | _, _, 0, _, .cons a _, e => by simp at e; subst e; exact ⟨_, rfl, a⟩
  | _, _, i + 1, d, .cons _ t, e => by
    obtain ⟨v, h1, h2⟩ := Reps.get' (i := i) (v := d) t (by simpa using e)
    exact ⟨v, by simpa using h1, h2⟩
theorem Reps.append : ∀ {vs ws : List V} {ds es : List D}, Reps K r H vs ds → Reps K r H ws es → Reps K r H (vs ++ ws) (ds ++ es)
  | _, _, _, _, .nil, s => s
  | _, _, _, _, .cons a t, s => .cons a (Reps.append t s)
theorem Reps.set {v : V} {d : D} (a : Rep K r H v d) : ∀ {vs : List V} {ds : List D} (i : Nat), Reps K r H vs ds → Reps K r H (vs.set i v) (ds.set i d)
  | _, _, _, .nil => .nil
  | _, _, 0, .cons _ t => .cons a t
  | _, _, i + 1, .cons q t => .cons q (Reps.set a i t)
theorem Reps.take : ∀ {vs : List V} {ds : List D} (n : Nat), Reps K r H vs ds → Reps K r H (vs.take n) (ds.take n)
  | _, _, 0, _ => .nil
  | _, _, _ + 1, .nil => .nil
  | _, _, n + 1, .cons a t => .cons a (Reps.take n t)
theorem Reps.drop : ∀ {vs : List V} {ds : List D} (n : Nat), Reps K r H vs ds → Reps K r H (vs.drop n) (ds.drop n)
  | _, _, 0, t => t
  | _, _, _ + 1, .nil => .nil
  | _, _, n + 1, .cons _ t => Reps.drop n t
theorem Reps.dropLast {vs : List V} {ds : List D} (h : Reps K r H vs ds) : Reps K r H vs.dropLast ds.dropLast := by
  rw [List.dropLast_eq_take, List.dropLast_eq_take, h.length]
  exact h.take _
theorem Reps.eraseIdx : ∀ {vs : List V} {ds : List D} (n : Nat), Reps K r H vs ds → Reps K r H (vs.eraseIdx n) (ds.eraseIdx n)
  | _, _, _, .nil => .nil
  | _, _, 0, .cons _ t => t
  | _, _, n + 1, .cons a t => .cons a (Reps.eraseIdx n t)
theorem Reps.reverse {vs : List V} {ds : List D} (h : Reps K r H vs ds) : Reps K r H vs.reverse ds.reverse := by
  induction h using Reps.rec (motive_1 := fun _ _ _ => True) with
  | nil => exact .nil
  | cons a t _ ih =>
    rw [List.reverse_cons, List.reverse_cons]
    exact ih.append (.cons a .nil)
  | _ => trivial
theorem Reps.nil_of {vs : List V} (h : Reps K r H vs []) : vs = [] := by cases h; rfl
theorem Reps.cons_of {vs : List V} {d : D} {ds : List D} (h : Reps K r H vs (d :: ds)) : ∃ v t, vs = v :: t ∧ Rep K r H v d ∧ Reps K r H t ds := by
  cases h with
  | cons a t => exact ⟨_, _, rfl, a, t⟩

theorem Rep.int_of {v : V} {i : Int} (h : Rep K r H v (.int i)) : v = .int i := by cases h; rfl
theorem Rep.bl_of {v : V} {b : Bool} (h : Rep K r H v (.bl b)) : v = .bl b := by cases h; rfl
theorem Rep.str_of {v : V} {x : Str} (h : Rep K r H v (.str x)) : v = .str x := by cases h; rfl
theorem Rep.non_of {v : V} (h : Rep K r H v .non) : v = .non := by cases h; rfl
theorem Rep.tup_of {v : V} {l : List D} (h : Rep K r H v (.tup l)) : ∃ a xs, v = .ref a ∧ SqT K H a xs ∧ Reps K r H xs l := by
  cases h with
  | tup h t => exact ⟨_, _, rfl, h, t⟩
theorem Rep.fz_of {v : V} {l : List D} (h : Rep K r H v (.fz l)) : ∃ a xs, v = .ref a ∧ FzL K H a xs ∧ Reps K r H xs l := by
  cases h with
  | fz h t => exact ⟨_, _, rfl, h, t⟩
theorem Rep.obj_of {v : V} {n : Nat} (h : Rep K r H v (.obj n)) : ∃ a, v = .ref a ∧ r[n]? = some a := by
  cases h with
  | obj h => exact ⟨_, rfl, h⟩
theorem Reps.ints {ns : List Int} : Reps K r H (ns.map V.int) (ns.map D.int) := by
  induction ns with
  | nil => exact .nil
  | cons n ns ih => exact .cons (.int n) ih
theorem Reps.to_ints : ∀ {ns : List Int} {vs : List V}, Reps K r H vs (ns.map D.int) → vs = ns.map V.int
  | [], _, h => h.nil_of
  | n :: ns, vs, h => by
    obtain ⟨v, t, rfl, a, b⟩ := h.cons_of
    rw [a.int_of, Reps.to_ints b]
    rfl
end

/-! ### the store -/
/-- pairs of a dict, of attributes -/
def RepsK {κ : Type} (K : PySem.W.Frag) (r : List Addr) (H : Hp) (kv : List (κ × V)) (kd : List (κ × D)) : Prop := kv.map (·.1) = kd.map (·.1) ∧ Reps K r H (kv.map (·.2)) (kd.map (·.2))
def ORep (K : PySem.W.Frag) (ca : Nat → Addr) (r : List Addr) (H : Hp) (a : Addr) : O → Prop
  | .lst l => ∃ vs, H a = some (.lst vs) ∧ Reps K r H vs l
  | .dct kd => ∃ kv, H a = some (.dK kv) ∧ RepsK K r H kv kd
  | .ins c fs => ∃ dx fv, H a = some (.ins (ca c) dx fv) ∧ RepsK K r H fv fs
structure StoOk (K : PySem.W.Frag) (ca : Nat → Addr) (r : List Addr) (H : Hp) (S : Sto) : Prop where
  len : r.length = S.length
  nd : r.Nodup
  ob : ∀ (n : Nat) o, S[n]? = some o → ∃ a, r[n]? = some a ∧ ORep K ca r H a o
/-- the mutable thing of a kind that o says stands at a -/
inductive MutO : HO → Prop
  | lst (l) : MutO (.lst l)
  | dK (l) : MutO (.dK l)
  | ins (c d f) : MutO (.ins c d f)
section
variable {K : PySem.W.Frag} {ca : Nat → Addr} {r r1 r2 : List Addr} {H H1 H2 : Hp} {S : Sto} {a p : Addr} {o : O} {u u' : HO} {n : Nat}
theorem ORep.there (h : ORep K ca r H a o) : ∃ u, H a = some u ∧ MutO u := by
  cases o with
  | lst l => obtain ⟨vs, e, _⟩ := h; exact ⟨_, e, .lst _⟩
  | dct l => obtain ⟨vs, e, _⟩ := h; exact ⟨_, e, .dK _⟩
  | ins c l => obtain ⟨dx, vs, e, _⟩ := h; exact ⟨_, e, .ins _ _ _⟩
theorem ORep.grow (g : Grow K r H r1 H1) (e : H1 a = H a) (h : ORep K ca r H a o) : ORep K ca r1 H1 a o := by
  cases o with
  | lst l => obtain ⟨vs, q, t⟩ := h; exact ⟨vs, e.trans q, t.grow g⟩
  | dct l => obtain ⟨vs, q, t1, t2⟩ := h; exact ⟨vs, e.trans q, t1, t2.grow g⟩
  | ins c l => obtain ⟨dx, vs, q, t1, t2⟩ := h; exact ⟨dx, vs, e.trans q, t1, t2.grow g⟩
theorem upd_none {b : Addr} (h : upd H p u b = none) : H b = none := by
  unfold upd at h
  split at h
  · cases h
  · exact h
theorem tup_laid (hp : H p = none) {b : Addr} {xs : List V} (h : SqT K H b xs) : SqT K (upd H p u) b xs := by
  rcases h with (h | ⟨ob, h⟩) | h
  · exact .inl (.inl (by rw [upd_ne (ne_of_none h hp)]; exact h))
  · exact .inl (.inr ⟨ob, by rw [upd_ne (ne_of_none h hp)]; exact h⟩)
  · exact .inr h
theorem fz_laid (hp : H p = none) {b : Addr} {xs : List V} (h : FzL K H b xs) : FzL K (upd H p u) b xs := by
  rcases h with ⟨ob, h⟩ | h
  · exact .inl ⟨ob, by rw [upd_ne (ne_of_none h hp)]; exact h⟩
  · exact .inr h
/-- a new thing of any kind laid at a free address -/
theorem Grow.laid (hp : H p = none) : Grow K r H r (upd H p u) :=
  ⟨fun _ _ h => h, fun _ _ h => tup_laid hp h, fun _ _ h => fz_laid hp h, fun _ h => upd_none h, fun b u' h n => ⟨by rw [upd_ne (ne_of_none h hp)]; exact h, n⟩⟩
theorem snoc_pre {n : Nat} {a : Addr} (h : r[n]? = some a) : (r ++ [p])[n]? = some a := by
  rw [List.getElem?_append_left (List.getElem?_eq_some_iff.mp h).1]
  exact h
/-- .. and numbered -/
theorem Grow.alloc (hp : H p = none) : Grow K r H (r ++ [p]) (upd H p u) :=
  ⟨fun _ _ h => snoc_pre h, fun _ _ h => tup_laid hp h, fun _ _ h => fz_laid hp h, fun _ h => upd_none h, fun b u' h n => ⟨by rw [upd_ne (ne_of_none h hp)]; exact h, fun m => by
    rcases List.mem_append.mp m with m | m
    · exact n m
    · exact ne_of_none h hp (by simpa using m)⟩⟩
/-- a thing that was laid since is numbered -/
theorem Grow.number (g : Grow K r H r1 H1) (hp : H p = none) : Grow K r H (r1 ++ [p]) H1 :=
  ⟨fun _ _ h => snoc_pre (g.pre _ _ h), g.tup, g.fz, g.dom, fun b u' h n => let ⟨h1, n1⟩ := g.keep b u' h n; ⟨h1, fun m => by
    rcases List.mem_append.mp m with m | m
    · exact n1 m
    · exact ne_of_none h hp (by simpa using m)⟩⟩
/-- a mutable thing of the store written -/
theorem Grow.written (hr : p ∈ r) (hp : H p = some u) (m : MutO u) : Grow K r H r (upd H p u') := by
  refine ⟨fun _ _ h => h, fun b xs h => ?_, fun b xs h => ?_, fun b h => upd_none h, fun b x h n => ⟨by rw [upd_ne (fun z : b = p => n (by rw [z]; exact hr))]; exact h, n⟩⟩
  · rcases h with (h | ⟨ob, h⟩) | h
    · refine .inl (.inl ?_)
      rw [upd_ne (fun z => by subst z; rw [hp] at h; cases h; cases m)]
      exact h
    · refine .inl (.inr ⟨ob, ?_⟩)
      rw [upd_ne (fun z => by subst z; rw [hp] at h; cases h; cases m)]
      exact h
    · exact .inr h
  · rcases h with ⟨ob, h⟩ | h
    · refine .inl ⟨ob, ?_⟩
      rw [upd_ne (fun z => by subst z; rw [hp] at h; cases h; cases m)]
      exact h
    · exact .inr h
/-- a list that is no part of the store is written -/
theorem tup_over {A : Addr} {l : List V} (hA : H A = some (.lst l)) {b : Addr} {xs : List V} (h : SqT K H b xs) : SqT K (upd H A u) b xs := by
  rcases h with (h | ⟨ob, h⟩) | h
  · exact .inl (.inl (by rw [upd_ne (fun z => by subst z; rw [hA] at h; cases h)]; exact h))
  · exact .inl (.inr ⟨ob, by rw [upd_ne (fun z => by subst z; rw [hA] at h; cases h)]; exact h⟩)
  · exact .inr h
theorem fz_over {A : Addr} {l : List V} (hA : H A = some (.lst l)) {b : Addr} {xs : List V} (h : FzL K H b xs) : FzL K (upd H A u) b xs := by
  rcases h with ⟨ob, h⟩ | h
  · exact .inl ⟨ob, by rw [upd_ne (fun z => by subst z; rw [hA] at h; cases h)]; exact h⟩
  · exact .inr h
mutual
theorem Rep.over {A : Addr} {l : List V} (hA : H A = some (.lst l)) : ∀ {v : V} {d : D}, Rep K r H v d → Rep K r (upd H A u) v d
  | _, _, .non => .non
  | _, _, .bl b => .bl b
  | _, _, .int i => .int i
  | _, _, .str x => .str x
  | _, _, .tup h t => .tup (tup_over hA h) (Reps.over hA t)
  | _, _, .fz h t => .fz (fz_over hA h) (Reps.over hA t)
  | _, _, .obj h => .obj h
theorem Reps.over {A : Addr} {l : List V} (hA : H A = some (.lst l)) : ∀ {vs : List V} {ds : List D}, Reps K r H vs ds → Reps K r (upd H A u) vs ds
  | _, _, .nil => .nil
  | _, _, .cons a t => .cons (Rep.over hA a) (Reps.over hA t)
end
theorem StoOk.over {A : Addr} {l : List V} (s : StoOk K ca r H S) (hq : A ∉ r) (hA : H A = some (.lst l)) : StoOk K ca r (upd H A u) S :=
  ⟨s.len, s.nd, fun n o h => by
    obtain ⟨a, q, t⟩ := s.ob n o h
    have ne : a ≠ A := fun z => hq (by rw [← z]; exact List.mem_of_getElem? q)
    refine ⟨a, q, ?_⟩
    cases o with
    | lst l => obtain ⟨vs, q, t⟩ := t; exact ⟨vs, by rw [upd_ne ne]; exact q, t.over hA⟩
    | dct l => obtain ⟨vs, q, t1, t2⟩ := t; exact ⟨vs, by rw [upd_ne ne]; exact q, t1, t2.over hA⟩
    | ins c l => obtain ⟨dx, vs, q, t1, t2⟩ := t; exact ⟨dx, vs, by rw [upd_ne ne]; exact q, t1, t2.over hA⟩⟩
theorem Grow.over {A : Addr} {l : List V} (g : Grow K r H r1 H1) (h0 : H A = none) (hA : H1 A = some (.lst l)) : Grow K r H r1 (upd H1 A u) :=
  ⟨g.pre, fun b xs h => tup_over hA (g.tup b xs h), fun b xs h => fz_over hA (g.fz b xs h), fun b h => g.dom b (upd_none h), fun b x h n => let ⟨h1, n1⟩ := g.keep b x h n; ⟨by rw [upd_ne (ne_of_none h h0)]; exact h1, n1⟩⟩
theorem StoOk.at (s : StoOk K ca r H S) (h : r[n]? = some a) (e : S[n]? = some o) : ORep K ca r H a o := by
  obtain ⟨b, q, t⟩ := s.ob n o e
  rw [h] at q
  cases q
  exact t
theorem StoOk.there (s : StoOk K ca r H S) (h : r[n]? = some a) : ∃ u, H a = some u ∧ MutO u := by
  have hl : n < S.length := by rw [← s.len]; exact (List.getElem?_eq_some_iff.mp h).1
  exact (s.at h (List.getElem?_eq_getElem hl)).there
/-- the store over a heap in which nothing of its own has changed -/
theorem StoOk.grow (s : StoOk K ca r H S) (g : Grow K r H r H1) (e : ∀ a ∈ r, H1 a = H a) : StoOk K ca r H1 S :=
  ⟨s.len, s.nd, fun n o h => by
    obtain ⟨a, q, t⟩ := s.ob n o h
    exact ⟨a, q, t.grow g (e a (List.mem_of_getElem? q))⟩⟩
theorem StoOk.free (s : StoOk K ca r H S) (hp : H p = none) : p ∉ r := fun hm => by
  obtain ⟨n, hn⟩ := List.mem_iff_getElem?.mp hm
  obtain ⟨u, e, _⟩ := s.there hn
  rw [hp] at e
  cases e
/-- laid, not in the store (a tuple, a thing that is thrown away) -/
theorem StoOk.laid (s : StoOk K ca r H S) (hp : H p = none) : StoOk K ca r (upd H p u) S :=
  s.grow (Grow.laid hp) fun a ha => upd_ne fun z => s.free hp (z ▸ ha)
theorem Rep.snoc {v : V} {d : D} (h : Rep K r H v d) : Rep K (r ++ [p]) H v d := snocR h
where
  snocR : ∀ {v : V} {d : D}, Rep K r H v d → Rep K (r ++ [p]) H v d
    | _, _, .non => .non
    | _, _, .bl b => .bl b
    | _, _, .int i => .int i
    | _, _, .str x => .str x
    | _, _, .tup h t => .tup h (snocs t)
    | _, _, .fz h t => .fz h (snocs t)
    | _, _, .obj h => .obj (snoc_pre h)
  snocs : ∀ {vs : List V} {ds : List D}, Reps K r H vs ds → Reps K (r ++ [p]) H vs ds
    | _, _, .nil => .nil
    | _, _, .cons a t => .cons (snocR a) (snocs t)
theorem ORep.snoc (h : ORep K ca r H a o) : ORep K ca (r ++ [p]) H a o := by
  cases o with
  | lst l => obtain ⟨vs, q, t⟩ := h; exact ⟨vs, q, Rep.snoc.snocs t⟩
  | dct l => obtain ⟨vs, q, t1, t2⟩ := h; exact ⟨vs, q, t1, Rep.snoc.snocs t2⟩
  | ins c l => obtain ⟨dx, vs, q, t1, t2⟩ := h; exact ⟨dx, vs, q, t1, Rep.snoc.snocs t2⟩
/-- a new object of the store -/
theorem StoOk.alloc (s : StoOk K ca r H S) (hp : H p = none) (ho : ORep K ca (r ++ [p]) (upd H p u) p o) : StoOk K ca (r ++ [p]) (upd H p u) (S ++ [o]) := by
  have s1 : StoOk K ca r (upd H p u) S := s.laid hp
  refine ⟨by simp [s.len], ?_, fun n o' h => ?_⟩
  · rw [List.nodup_append]
    exact ⟨s.nd, by simp, fun x hx y hy z => by
      have hy' : y = p := by simpa using hy
      subst hy'
      exact s.free hp (z ▸ hx)⟩
  · by_cases hn : n < S.length
    · rw [List.getElem?_append_left hn] at h
      obtain ⟨a, q, t⟩ := s1.ob n o' h
      exact ⟨a, snoc_pre q, t.snoc⟩
    · rw [List.getElem?_append_right (by omega)] at h
      have e : n = S.length := by
        cases q : n - S.length with
        | zero => omega
        | succ k => rw [q] at h; simp at h
      subst e
      simp at h
      subst h
      exact ⟨p, by rw [List.getElem?_append_right (by rw [s.len]; exact Nat.le_refl _), s.len]; simp, ho⟩
/-- a thing that was laid since, and that nothing else names, becomes an object of the store -/
theorem StoOk.adopt (s : StoOk K ca r H S) (hp : p ∉ r) (ho : ORep K ca r H p o) : StoOk K ca (r ++ [p]) H (S ++ [o]) := by
  refine ⟨by simp [s.len], ?_, fun n o' h => ?_⟩
  · rw [List.nodup_append]
    exact ⟨s.nd, by simp, fun x hx y hy z => by
      have hy' : y = p := by simpa using hy
      subst hy'
      exact hp (z ▸ hx)⟩
  · by_cases hn : n < S.length
    · rw [List.getElem?_append_left hn] at h
      obtain ⟨a, q, t⟩ := s.ob n o' h
      exact ⟨a, snoc_pre q, t.snoc⟩
    · rw [List.getElem?_append_right (by omega)] at h
      have e : n = S.length := by
        cases q : n - S.length with
        | zero => omega
        | succ k => rw [q] at h; simp at h
      subst e
      simp at h
      subst h
      exact ⟨p, by rw [List.getElem?_append_right (by rw [s.len]; exact Nat.le_refl _), s.len]; simp, ho.snoc⟩
/-- an object of the store is written -/
theorem StoOk.write (s : StoOk K ca r H S) (hn : r[n]? = some p) (hp : H p = some u) (m : MutO u) (ho : ORep K ca r (upd H p u') p o) : StoOk K ca r (upd H p u') (S.set n o) := by
  have g : Grow K r H r (upd H p u') := Grow.written (List.mem_of_getElem? hn) hp m
  refine ⟨by simp [s.len], s.nd, fun k o' h => ?_⟩
  by_cases hk : k = n
  · subst hk
    have hl : k < S.length := by rw [← s.len]; exact (List.getElem?_eq_some_iff.mp hn).1
    rw [List.getElem?_set_self hl] at h
    cases h
    exact ⟨p, hn, ho⟩
  · rw [List.getElem?_set_ne (Ne.symm hk)] at h
    obtain ⟨a, q, t⟩ := s.ob k o' h
    refine ⟨a, q, t.grow g (upd_ne fun z => ?_)⟩
    subst z
    exact hk (nd_ix s.nd q hn)
end

/-! ### slots -/
def SlOk (K : PySem.W.Frag) (r : List Addr) (H : Hp) (s : L2.St) (e : Sl) : Prop := s.length = e.length ∧ ∀ (i : Nat) (d : D), e[i]? = some (some d) → ∃ v, s[i]? = some (some v) ∧ Rep K r H v d
section
variable {K : PySem.W.Frag} {r r1 : List Addr} {H H1 : Hp} {s : St} {e : Sl}
theorem SlOk.grow (h : SlOk K r H s e) (g : Grow K r H r1 H1) : SlOk K r1 H1 s e := ⟨h.1, fun i d q => by
  obtain ⟨v, h1, h2⟩ := h.2 i d q
  exact ⟨v, h1, h2.grow g⟩⟩
end

/-! ### what a function's result promises -/
/-- an exception, as the layer tells it -/
def XRep (K : PySem.W.Frag) (ca : Nat → Addr) (r : List Addr) (H : Hp) (x : Ex) (cls : Value) (dd : Option Addr) : Prop :=
  cls = .ref (ca x.c) ∧ (x.fs = [] ∨ ∃ a fv, dd = some a ∧ H a = some (.xd fv) ∧ RepsK K r H fv x.fs)
abbrev RelT (β α : Type) := Hp → List Addr → Hp → β → α → Prop
def PR {α β : Type} (Rel : RelT β α) (K : PySem.W.Frag) (ca : Nat → Addr) (W : Value → Option Addr → Hp → Prop) (r : List Addr) (H : Hp) (Q : β → Hp → Prop) : Rs α → Prop
  | .ok d S => ∀ r' H' v, Grow K r H r' H' → Rel H r' H' v d → StoOk K ca r' H' S → Q v H'
  | .rse x S => ∀ r' H' cls dd, Grow K r H r' H' → XRep K ca r' H' x cls dd → StoOk K ca r' H' S → W cls dd H'
  | .bad => False
/-- what was new behind a later point was new behind an earlier one -/
structure Anti {α β : Type} (K : PySem.W.Frag) (Rel : RelT β α) : Prop where
  back : ∀ {r : List Addr} {H : Hp} {r1 : List Addr} {H1 : Hp} {r' : List Addr} {H' : Hp} {v : β} {d : α}, Grow K r H r1 H1 → Rel H1 r' H' v d → Rel H r' H' v d
def PRt (K : PySem.W.Frag) (ca : Nat → Addr) (W : WX) (r : List Addr) (H : Hp) (D : Ends) : Rt → Prop
  | .nx e S => ∀ r' H' s, Grow K r H r' H' → SlOk K r' H' s e → StoOk K ca r' H' S → D.nx s H'
  | .rt d S => ∀ r' H' v, Grow K r H r' H' → Rep K r' H' v d → StoOk K ca r' H' S → D.rt v H'
  | .bk e S => ∀ r' H' s, Grow K r H r' H' → SlOk K r' H' s e → StoOk K ca r' H' S → D.bk s H'
  | .ct e S => ∀ r' H' s, Grow K r H r' H' → SlOk K r' H' s e → StoOk K ca r' H' S → D.ct s H'
  | .rse x e S => ∀ r' H' s cls dd, Grow K r H r' H' → SlOk K r' H' s e → XRep K ca r' H' x cls dd → StoOk K ca r' H' S → W cls dd s H'
  | .bad => False
section
variable {K : PySem.W.Frag} {ca : Nat → Addr} {r r1 : List Addr} {H H1 : Hp} {α β : Type} {Rel : RelT β α} {W : Value → Option Addr → Hp → Prop} {Q : β → Hp → Prop} {x : Rs α}
theorem PR.grow (an : Anti K Rel) (g : Grow K r H r1 H1) (h : PR Rel K ca W r H Q x) : PR Rel K ca W r1 H1 Q x := by
  cases x with
  | ok d S => exact fun r' H' v g' q => h r' H' v (g.trans g') (an.back g q)
  | rse x S => exact fun r' H' c d g' => h r' H' c d (g.trans g')
  | bad => exact h
theorem PRt.grow {W : WX} {D : Ends} {x : Rt} (g : Grow K r H r1 H1) (h : PRt K ca W r H D x) : PRt K ca W r1 H1 D x := by
  cases x with
  | nx e S => exact fun r' H' s g' => h r' H' s (g.trans g')
  | rt d S => exact fun r' H' v g' => h r' H' v (g.trans g')
  | bk e S => exact fun r' H' s g' => h r' H' s (g.trans g')
  | ct e S => exact fun r' H' s g' => h r' H' s (g.trans g')
  | rse x e S => exact fun r' H' s c d g' => h r' H' s c d (g.trans g')
  | bad => exact h
end
abbrev RelD (K : PySem.W.Frag) : RelT V D := fun _ r H v d => Rep K r H v d
abbrev RelDs (K : PySem.W.Frag) : RelT (List V) (List D) := fun _ r H v d => Reps K r H v d
abbrev RelB : RelT Bool Bool := fun _ _ _ v d => v = d
/-- a new list that nothing else names -/
abbrev RelL (K : PySem.W.Frag) : RelT V (List D) := fun H0 r H v l => ∃ a vs, v = .ref a ∧ H0 a = none ∧ a ∉ r ∧ H a = some (.lst vs) ∧ Reps K r H vs l
theorem antiD {K : PySem.W.Frag} : Anti K (RelD K) := ⟨fun _ h => h⟩
theorem antiDs {K : PySem.W.Frag} : Anti K (RelDs K) := ⟨fun _ h => h⟩
theorem antiB {K : PySem.W.Frag} : Anti K RelB := ⟨fun _ h => h⟩
theorem antiL {K : PySem.W.Frag} : Anti K (RelL K) := ⟨fun g ⟨a, vs, e, h0, h⟩ => ⟨a, vs, e, g.dom a h0, h⟩⟩
/-- the state at a point -/
structure At (K : PySem.W.Frag) (ca : Nat → Addr) (r : List Addr) (s : St) (H : Hp) (e : Sl) (S : Sto) : Prop where
  sl : SlOk K r H s e
  st : StoOk K ca r H S
def tM {α β : Type} (Rel : RelT β α) (K : PySem.W.Frag) (ca : Nat → Addr) (W : WX) (m : Sl → Sto → Rs α) : St → Hp → (β → Hp → Prop) → Prop := fun s H Q =>
  ∃ r e S, At K ca r s H e S ∧ PR Rel K ca (fun c d H' => W c d s H') r H Q (m e S)
def tS (K : PySem.W.Frag) (ca : Nat → Addr) (W : WX) (m : MS) : TS := fun D s H => ∃ r e S, At K ca r s H e S ∧ PRt K ca W r H D (m e S)

/-! ### the judgements -/
def EV (X : Cx) (ca : Nat → Addr) (e : Expr) (m : ME) : Prop := ∀ W, Takes X W → PE X e (tM (RelD X.K) X.K ca W m)
def TV (X : Cx) (ca : Nat → Addr) (e : Expr) (m : MT) : Prop := ∀ W, Takes X W → PT X e (tM RelB X.K ca W m)
def WV (X : Cx) (ca : Nat → Addr) (e : Expr) (m : MT) : Prop := ∀ W, Takes X W → PW X e (tM RelB X.K ca W m)
/-- an expression that makes a new list -/
def LV (X : Cx) (ca : Nat → Addr) (e : Expr) (m : MA) : Prop := ∀ W, Takes X W → PE X e (tM (RelL X.K) X.K ca W m)
def AV (X : Cx) (ca : Nat → Addr) (es : List Expr) (m : MA) : Prop := ∀ W, Takes X W → PA X es (tM (RelDs X.K) X.K ca W m)
def SV (X : Cx) (ca : Nat → Addr) (st : Stmt) (m : MS) : Prop := ∀ W, Takes X W → PS X st (tS X.K ca W m)
def BV (X : Cx) (ca : Nat → Addr) (st : List Stmt) (m : MS) : Prop := ∀ W, Takes X W → PSs X st (tS X.K ca W m)
section
variable {X : Cx} {e : Expr} {es : List Expr} {st : Stmt} {sts : List Stmt}
theorem weakE {t t' : TE} (h : PE X e t) (w : ∀ s H Q, t' s H Q → t s H Q) : PE X e t' := ⟨fun pins s σ H Q I q => h.run pins s σ H Q I (w _ _ _ q)⟩
theorem weakT {t t' : TT} (h : PT X e t) (w : ∀ s H Q, t' s H Q → t s H Q) : PT X e t' := ⟨fun pins s σ H Q I q => h.run pins s σ H Q I (w _ _ _ q)⟩
theorem weakW {t t' : TT} (h : PW X e t) (w : ∀ s H Q, t' s H Q → t s H Q) : PW X e t' := ⟨fun wh pins s σ H Q I q => h.run wh pins s σ H Q I (w _ _ _ q)⟩
theorem weakA {t t' : TA} (h : PA X es t) (w : ∀ s H Q, t' s H Q → t s H Q) : PA X es t' := ⟨fun pos pins s σ H Q I q => h.run pos pins s σ H Q I (w _ _ _ q)⟩
theorem weakS {t t' : TS} (h : PS X st t) (w : ∀ D s H, t' D s H → t D s H) : PS X st t' := ⟨fun pins s σ H D I q => h.run pins s σ H D I (w _ _ _ q)⟩
theorem weakB {t t' : TS} (h : PSs X sts t) (w : ∀ D s H, t' D s H → t D s H) : PSs X sts t' := ⟨fun pins s σ H D I q => h.run pins s σ H D I (w _ _ _ q)⟩
end

/-! ### results in a row -/
def bindR {α β : Type} (x : Rs α) (f : α → Sto → Rs β) : Rs β := match x with
  | .ok a S => f a S
  | .rse x S => .rse x S
  | .bad => .bad
def bindT {α : Type} (x : Rs α) (e : Sl) (f : α → Sto → Rt) : Rt := match x with
  | .ok a S => f a S
  | .rse x S => .rse x e S
  | .bad => .bad
section
variable {K : PySem.W.Frag} {ca : Nat → Addr} {r : List Addr} {H : Hp} {α β γ δ : Type} {Rel : RelT β α} {Rel' : RelT δ γ} {W : Value → Option Addr → Hp → Prop}
/-- the first's post, from the whole's -/
theorem PR.bind {x : Rs α} {f : α → Sto → Rs γ} {Q : δ → Hp → Prop} {R : β → Hp → Prop} (an : Anti K Rel') (h : PR Rel' K ca W r H Q (bindR x f))
    (k : ∀ r' H' v d S, Grow K r H r' H' → Rel H r' H' v d → StoOk K ca r' H' S → PR Rel' K ca W r' H' Q (f d S) → R v H') : PR Rel K ca W r H R x := by
  cases x with
  | ok d S => exact fun r' H' v g rel s => k r' H' v d S g rel s (PR.grow an g h)
  | rse x S => exact h
  | bad => exact h
/-- .. where what is new must be known as such from the start -/
theorem PR.bind0 {x : Rs α} {f : α → Sto → Rs γ} {Q : δ → Hp → Prop} {R : β → Hp → Prop} (h : PR Rel' K ca W r H Q (bindR x f))
    (k : ∀ r' H' v d S, Grow K r H r' H' → Rel H r' H' v d → StoOk K ca r' H' S → PR Rel' K ca W r H Q (f d S) → R v H') : PR Rel K ca W r H R x := by
  cases x with
  | ok d S => exact fun r' H' v g rel s => k r' H' v d S g rel s h
  | rse x S => exact h
  | bad => exact h
theorem PR.bindT {x : Rs α} {e : Sl} {f : α → Sto → Rt} {W : WX} {D : Ends} {R : β → Hp → Prop} {s : L2.St} (sl : SlOk K r H s e) (h : PRt K ca W r H D (bindT x e f))
    (k : ∀ r' H' v d S, Grow K r H r' H' → Rel H r' H' v d → StoOk K ca r' H' S → PRt K ca W r' H' D (f d S) → R v H') : PR Rel K ca (fun c d H' => W c d s H') r H R x := by
  cases x with
  | ok d S => exact fun r' H' v g rel s => k r' H' v d S g rel s (h.grow g)
  | rse x S => exact fun r' H' c d g xr so => h r' H' s c d g (sl.grow g) xr so
  | bad => exact h
theorem PR.map {x : Rs α} {Q Q' : β → Hp → Prop} (h : PR Rel K ca W r H Q x) (k : ∀ r' H' v d S, Grow K r H r' H' → Rel H r' H' v d → StoOk K ca r' H' S → Q v H' → Q' v H') : PR Rel K ca W r H Q' x := by
  cases x with
  | ok d S => exact fun r' H' v g rel s => k r' H' v d S g rel s (h r' H' v g rel s)
  | rse x S => exact h
  | bad => exact h
end
end L3

/-! L3B: expressions. -/
namespace L3
open PySem PySem.Spec L2

section
variable {X : Cx} {ca : Nat → Addr} {a b c e : Expr} {es : List Expr} {ma mb mc m : ME} {mt mu : MT} {ms : MA} {pos p apos : Pos}

/-! ### names and constants -/
def vM (i : Nat) : ME := fun e S => match e[i]? with
  | some (some d) => .ok d S
  | _ => .bad
def cM (d : D) : ME := fun _ S => .ok d S
theorem ev_of {t : TE} (h : PE X a t) (w : ∀ W s H Q, tM (RelD X.K) X.K ca W m s H Q → t s H Q) : EV X ca a m := fun W _ => weakE h (w W)
theorem ev_var {i : Nat} {x : Str} (h : PE X (.Name x pos) (tVar i)) : EV X ca (.Name x pos) (vM i) := ev_of h fun W s H Q ⟨r, e, S, at_, pr⟩ => by
  unfold vM at pr
  split at pr
  · rename_i d q
    obtain ⟨v, h1, h2⟩ := at_.sl.2 i d q
    exact ⟨v, h1, pr r H v .refl h2 at_.st⟩
  · exact pr.elim
theorem ev_v (i : Nat) {x : Str} (hN : X.N[i]? = some x := by rfl) (hv : Vis X.env.scope x := by first | exact Or.inl rfl | exact Or.inr (Or.inl rfl) | exact Or.inr (Or.inr rfl)) (hd : (x == ("__debug__" : Str)) = false := by decide)
    (hcd : (x == ("__classdict__" : Str)) = false := by decide) : EV X ca (.Name x pos) (vM i) := ev_var (pe_var hN hv hd hcd)
theorem ev_c {v : V} {d : D} (h : PE X a (tC v)) (hr : ∀ r H, Rep X.K r H v d) : EV X ca a (cM d) := ev_of h fun W s H Q ⟨r, e, S, at_, pr⟩ => pr r H v .refl (hr r H) at_.st
theorem ev_int {i : Int} {j : Nat} : EV X ca (.Constant (.int i) j pos) (cM (.int i)) := ev_c pe_int fun _ _ => .int i
theorem ev_bl {i : Bool} {j : Nat} : EV X ca (.Constant (.bool i) j pos) (cM (.bl i)) := ev_c pe_bl fun _ _ => .bl i
theorem ev_non {j : Nat} : EV X ca (.Constant .none j pos) (cM .non) := ev_c pe_non fun _ _ => .non
theorem ev_str {x : Str} {j : Nat} : EV X ca (.Constant (.str x) j pos) (cM (.str x)) := ev_c pe_str fun _ _ => .str x
theorem ev_glob {x : Str} {v : V} {u : Value} {d : D} (hg : Gl X x) (hm : X.mg x = some u) (r : RelV v u) (hr : ∀ r H, Rep X.K r H v d) (hd : (x == ("__debug__" : Str)) = false := by decide) : EV X ca (.Name x pos) (cM d) :=
  ev_c (pe_glob hg hm r hd) hr

/-! ### two values in a row -/
def opM (f : D → D → Sto → Rs D) (a b : ME) : ME := fun e S => bindR (a e S) fun x S1 => bindR (b e S1) fun y S2 => f x y S2
def unM (f : D → Sto → Rs D) (a : ME) : ME := fun e S => bindR (a e S) f
/-- f tells the rule r -/
def OpOk (K : PySem.W.Frag) (ca : Nat → Addr) (r : R2) (f : D → D → Sto → Rs D) : Prop :=
  ∀ (q : List Addr) (H : Hp) (S : Sto) (x y : V) (d e : D) (W : Value → Option Addr → Hp → Prop) (Q : VK), StoOk K ca q H S → Rep K q H x d → Rep K q H y e → PR (RelD K) K ca W q H Q (f d e S) → r x y H Q
def UnOk (K : PySem.W.Frag) (ca : Nat → Addr) (r : V → Hp → VK → Prop) (f : D → Sto → Rs D) : Prop :=
  ∀ (q : List Addr) (H : Hp) (S : Sto) (x : V) (d : D) (W : Value → Option Addr → Hp → Prop) (Q : VK), StoOk K ca q H S → Rep K q H x d → PR (RelD K) K ca W q H Q (f d S) → r x H Q
theorem two_ {W : WX} {s : L2.St} {H : Hp} {Q : VK} {r : R2} {f : D → D → Sto → Rs D} (hf : OpOk X.K ca r f) (h : tM (RelD X.K) X.K ca W (opM f ma mb) s H Q) :
    tOp r (tM (RelD X.K) X.K ca W ma) (tM (RelD X.K) X.K ca W mb) s H Q := by
  obtain ⟨q, e, S, at_, pr⟩ := h
  exact ⟨q, e, S, at_, PR.bind antiD pr fun q1 H1 x d S1 g1 rx s1 pr1 => ⟨q1, e, S1, ⟨at_.sl.grow g1, s1⟩, PR.bind antiD pr1 fun q2 H2 y d2 S2 g2 ry s2 pr2 => hf q2 H2 S2 x y d d2 _ Q s2 (rx.grow g2) ry pr2⟩⟩
theorem one_ {W : WX} {s : L2.St} {H : Hp} {Q : VK} {r : V → Hp → VK → Prop} {f : D → Sto → Rs D} (hf : UnOk X.K ca r f) (h : tM (RelD X.K) X.K ca W (unM f ma) s H Q) :
    tUn r (tM (RelD X.K) X.K ca W ma) s H Q := by
  obtain ⟨q, e, S, at_, pr⟩ := h
  exact ⟨q, e, S, at_, PR.bind antiD pr fun q1 H1 x d S1 g1 rx s1 pr1 => hf q1 H1 S1 x d _ Q s1 rx pr1⟩
theorem ev_op {op : Operator} {r : R2} {f : D → D → Sto → Rs D} (ho : OpR X (binaryOp op) r) (hf : OpOk X.K ca r f) (ha : EV X ca a ma) (hb : EV X ca b mb) : EV X ca (.BinOp a op b pos) (opM f ma mb) :=
  fun W tk => weakE (pe_op ho (ha W tk) (hb W tk)) fun _ _ _ h => two_ hf h
theorem ev_un {op : UnaryOp} {r : V → Hp → VK → Prop} {f : D → Sto → Rs D} (ho : UnR X (unaryOp op) r) (hf : UnOk X.K ca r f) (ha : EV X ca a ma) : EV X ca (.UnaryOp op a pos) (unM f ma) :=
  fun W tk => weakE (pe_un ho (ha W tk)) fun _ _ _ h => one_ hf h
theorem ev_cmp {op : CmpOp} {r : R2} {f : D → D → Sto → Rs D} (ho : OpR X (compareOp op) r) (hf : OpOk X.K ca r f) (ha : EV X ca a ma) (hb : EV X ca b mb) (hm : behindInMarks op b = false) : EV X ca (.Compare a [op] [b] pos) (opM f ma mb) :=
  fun W tk => weakE (pe_cmpR ho (ha W tk) (hb W tk) hm) fun _ _ _ h => two_ hf h
theorem ev_ix {r : R2} {f : D → D → Sto → Rs D} (ho : IxR X r) (hf : OpOk X.K ca r f) (ha : EV X ca a ma) (hb : EV X ca b mb) (hs : PlainIx b) : EV X ca (.Subscript a b pos) (opM f ma mb) :=
  fun W tk => weakE (pe_ix ho (ha W tk) (hb W tk) hs) fun _ _ _ h => two_ hf h

/-! ### tests -/
/-- a bool, as a test -/
def blT (m : ME) : MT := fun e S => bindR (m e S) fun d S1 => match d with
  | .bl k => .ok k S1
  | _ => .bad
theorem PR.blT {q : List Addr} {H : Hp} {W : Value → Option Addr → Hp → Prop} {Q : Bool → Hp → Prop} {e : Sl} {S : Sto} {K : PySem.W.Frag} (pr : PR RelB K ca W q H Q (blT m e S)) :
    PR (RelD K) K ca W q H (fun x H1 => ∃ k, x = .bl k ∧ Q k H1) (m e S) := PR.bind antiB pr fun q1 H1 x d S1 g1 rx s1 pr1 => by
  cases d with
  | bl k => exact ⟨k, rx.bl_of, pr1 q1 H1 k .refl rfl s1⟩
  | _ => exact pr1.elim
theorem tv_cmp {op : CmpOp} {r : R2} {f : D → D → Sto → Rs D} (ho : OpR X (compareOp op) r) (hf : OpOk X.K ca r f) (ha : EV X ca a ma) (hb : EV X ca b mb) (hm : behindInMarks op b = false) : TV X ca (.Compare a [op] [b] pos) (blT (opM f ma mb)) :=
  fun W tk => weakT (pt_cmpR ho (ha W tk) (hb W tk) hm) fun _ _ _ ⟨q, e, S, at_, pr⟩ => two_ hf ⟨q, e, S, at_, pr.blT⟩
/-- any expression whose value is a bool -/
theorem tv_bl (ha : EV X ca a ma) (he : ∀ whole, isTrue a X.env whole = (do let v ← whole; standAt a.pos; holding [v] (truthy v)) := by intro _; rfl) : TV X ca a (blT ma) :=
  fun W tk => weakT (pt_val (ha W tk) he) fun _ _ _ ⟨q, e, S, at_, pr⟩ => ⟨q, e, S, at_, pr.blT⟩
/-- a value's truth -/
def truD (d : D) (S : Sto) : Rs Bool := match d with
  | .non => .ok false S
  | .bl b => .ok b S
  | .int i => .ok (i != 0) S
  | .str y => if y.length ≤ sizeLine then .ok (decide (y.length ≠ 0)) S else .bad
  | .tup l => .ok (!l.isEmpty) S
  | .fz l => .ok (!l.isEmpty) S
  | .obj n => match S[n]? with
    | some (.lst l) => .ok (!l.isEmpty) S
    | some (.dct l) => .ok (!l.isEmpty) S
    | _ => .bad
def trT (m : ME) : MT := fun e S => bindR (m e S) truD
theorem Reps.empty {K : PySem.W.Frag} {q : List Addr} {H : Hp} {vs : List V} {l : List D} (h : Reps K q H vs l) : (!l.isEmpty) = !vs.isEmpty := by
  cases h <;> rfl
theorem RepsK.length {κ : Type} {K : PySem.W.Frag} {q : List Addr} {H : Hp} {kv : List (κ × V)} {kd : List (κ × D)} (h : RepsK K q H kv kd) : kv.length = kd.length := by
  have := congrArg List.length h.1
  simpa using this
theorem RepsK.empty {κ : Type} {K : PySem.W.Frag} {q : List Addr} {H : Hp} {kv : List (κ × V)} {kd : List (κ × D)} (h : RepsK K q H kv kd) : (!kd.isEmpty) = !kv.isEmpty := by
  have := h.length
  cases kv <;> cases kd <;> simp_all
theorem lst_at {K : PySem.W.Frag} {q : List Addr} {H : Hp} {S : Sto} {n : Nat} {l : List D} {p : Addr} (s : StoOk K ca q H S) (hn : q[n]? = some p) (e : S[n]? = some (.lst l)) : ∃ vs, H p = some (.lst vs) ∧ Reps K q H vs l := s.at hn e
theorem dct_at {K : PySem.W.Frag} {q : List Addr} {H : Hp} {S : Sto} {n : Nat} {l : List (Key × D)} {p : Addr} (s : StoOk K ca q H S) (hn : q[n]? = some p) (e : S[n]? = some (.dct l)) : ∃ kv, H p = some (.dK kv) ∧ RepsK K q H kv l := s.at hn e
theorem ins_at {K : PySem.W.Frag} {q : List Addr} {H : Hp} {S : Sto} {n c : Nat} {l : List (Str × D)} {p : Addr} (s : StoOk K ca q H S) (hn : q[n]? = some p) (e : S[n]? = some (.ins c l)) : ∃ dx fv, H p = some (.ins (ca c) dx fv) ∧ RepsK K q H fv l := s.at hn e
theorem tru_V {K : PySem.W.Frag} {q : List Addr} {H : Hp} {S : Sto} {x : V} {d : D} {W : Value → Option Addr → Hp → Prop} {Q : Bool → Hp → Prop} (s : StoOk K ca q H S) (rx : Rep K q H x d) (pr : PR RelB K ca W q H Q (truD d S)) : ∃ k, TruV K x H k ∧ Q k H := by
  cases d with
  | non => rw [rx.non_of]; exact ⟨false, rfl, pr q H false .refl rfl s⟩
  | bl b => rw [rx.bl_of]; exact ⟨b, rfl, pr q H b .refl rfl s⟩
  | int i => rw [rx.int_of]; exact ⟨_, rfl, pr q H _ .refl rfl s⟩
  | str y =>
    rw [rx.str_of]
    unfold truD at pr
    dsimp only at pr
    split at pr
    · rename_i hy
      refine ⟨_, ⟨hy, ?_⟩, pr q H _ .refl rfl s⟩
      rw [Bool.eq_iff_iff]
      simp
    · exact pr.elim
  | tup l =>
    obtain ⟨p, xs, rfl, h1, h2⟩ := rx.tup_of
    exact ⟨_, .inr (.inl ⟨xs, h1, h2.empty⟩), pr q H _ .refl rfl s⟩
  | fz l =>
    obtain ⟨p, xs, rfl, h1, h2⟩ := rx.fz_of
    exact ⟨_, .inl ⟨xs, h1.sq, h2.empty⟩, pr q H _ .refl rfl s⟩
  | obj n =>
    obtain ⟨p, rfl, hn⟩ := rx.obj_of
    unfold truD at pr
    dsimp only at pr
    split at pr
    · rename_i l e
      obtain ⟨vs, h1, h2⟩ := lst_at s hn e
      exact ⟨_, .inl ⟨vs, SqL.of h1, h2.empty⟩, pr q H _ .refl rfl s⟩
    · rename_i l e
      obtain ⟨vs, h1, h2⟩ := dct_at s hn e
      exact ⟨_, .inr (.inr ⟨vs, h1, h2.empty⟩), pr q H _ .refl rfl s⟩
    · exact pr.elim
theorem tv_tr (ha : EV X ca a ma) (he : ∀ whole, isTrue a X.env whole = (do let v ← whole; standAt a.pos; holding [v] (truthy v)) := by intro _; rfl) : TV X ca a (trT ma) :=
  fun W tk => weakT (pt_truth (ha W tk) he) fun _ _ _ ⟨q, e, S, at_, pr⟩ => ⟨q, e, S, at_, PR.bind antiB pr fun q1 H1 x d S1 g1 rx s1 pr1 => tru_V s1 rx pr1⟩
def andT (t u : MT) : MT := fun e S => bindR (t e S) fun c S1 => if c = true then u e S1 else .ok false S1
def orT (t u : MT) : MT := fun e S => bindR (t e S) fun c S1 => if c = true then .ok true S1 else u e S1
def notT (t : MT) : MT := fun e S => bindR (t e S) fun c S1 => .ok (!c) S1
theorem wv_and1 (ha : TV X ca a mt) : WV X ca (.BoolOp .And [a] pos) mt := fun W tk => pw_and1 (ha W tk)
theorem wv_or1 (ha : TV X ca a mt) : WV X ca (.BoolOp .Or [a] pos) mt := fun W tk => pw_or1 (ha W tk)
theorem wv_and (ha : TV X ca a mt) (hb : WV X ca (.BoolOp .And (b :: es) pos) mu) : WV X ca (.BoolOp .And (a :: b :: es) pos) (andT mt mu) :=
  fun W tk => weakW (pw_and (ha W tk) (hb W tk)) fun _ _ _ ⟨q, e, S, at_, pr⟩ => ⟨q, e, S, at_, PR.bind antiB pr fun q1 H1 x d S1 g1 rx s1 pr1 => by
    obtain rfl : x = d := rx
    cases x with
    | true => exact ⟨q1, e, S1, ⟨at_.sl.grow g1, s1⟩, pr1⟩
    | false => exact pr1 q1 H1 false .refl rfl s1⟩
theorem wv_or (ha : TV X ca a mt) (hb : WV X ca (.BoolOp .Or (b :: es) pos) mu) : WV X ca (.BoolOp .Or (a :: b :: es) pos) (orT mt mu) :=
  fun W tk => weakW (pw_or (ha W tk) (hb W tk)) fun _ _ _ ⟨q, e, S, at_, pr⟩ => ⟨q, e, S, at_, PR.bind antiB pr fun q1 H1 x d S1 g1 rx s1 pr1 => by
    obtain rfl : x = d := rx
    cases x with
    | false => exact ⟨q1, e, S1, ⟨at_.sl.grow g1, s1⟩, pr1⟩
    | true => exact pr1 q1 H1 true .refl rfl s1⟩
theorem tv_w (h : WV X ca a mt) : TV X ca a mt := fun W tk => (h W tk).pt
theorem tv_not (ha : TV X ca a mt) : TV X ca (.UnaryOp .Not a pos) (notT mt) :=
  fun W tk => weakT (pt_not (ha W tk)) fun _ _ _ ⟨q, e, S, at_, pr⟩ => ⟨q, e, S, at_, PR.bind antiB pr fun q1 H1 x d S1 g1 rx s1 pr1 => by
    obtain rfl : x = d := rx
    exact pr1 q1 H1 _ .refl rfl s1⟩
/-- and, or, not of bools as values -/
def andM (a b : ME) : ME := fun e S => bindR (a e S) fun x S1 => match x with
  | .bl true => b e S1
  | .bl false => .ok (.bl false) S1
  | _ => .bad
def orM (a b : ME) : ME := fun e S => bindR (a e S) fun x S1 => match x with
  | .bl true => .ok (.bl true) S1
  | .bl false => b e S1
  | _ => .bad
def notD (x : D) (S : Sto) : Rs D := match x with
  | .bl k => .ok (.bl (!k)) S
  | _ => .bad
theorem ev_one {op : BoolOp} (ha : EV X ca a ma) : EV X ca (.BoolOp op [a] pos) ma := fun W tk => pe_one (ha W tk)
theorem ev_and (ha : EV X ca a ma) (hb : EV X ca (.BoolOp .And (b :: es) pos) mb) : EV X ca (.BoolOp .And (a :: b :: es) pos) (andM ma mb) :=
  fun W tk => weakE (pe_and (ha W tk) (hb W tk)) fun _ _ _ ⟨q, e, S, at_, pr⟩ => ⟨q, e, S, at_, PR.bind antiD pr fun q1 H1 x d S1 g1 rx s1 pr1 => by
    split at pr1
    · exact ⟨true, rx.bl_of, q1, e, S1, ⟨at_.sl.grow g1, s1⟩, pr1⟩
    · exact ⟨false, rx.bl_of, pr1 q1 H1 _ .refl (.bl false) s1⟩
    · exact pr1.elim⟩
theorem ev_or (ha : EV X ca a ma) (hb : EV X ca (.BoolOp .Or (b :: es) pos) mb) : EV X ca (.BoolOp .Or (a :: b :: es) pos) (orM ma mb) :=
  fun W tk => weakE (pe_or (ha W tk) (hb W tk)) fun _ _ _ ⟨q, e, S, at_, pr⟩ => ⟨q, e, S, at_, PR.bind antiD pr fun q1 H1 x d S1 g1 rx s1 pr1 => by
    split at pr1
    · exact ⟨true, rx.bl_of, pr1 q1 H1 _ .refl (.bl true) s1⟩
    · exact ⟨false, rx.bl_of, q1, e, S1, ⟨at_.sl.grow g1, s1⟩, pr1⟩
    · exact pr1.elim⟩
theorem ev_not (ha : EV X ca a ma) : EV X ca (.UnaryOp .Not a pos) (unM notD ma) :=
  fun W tk => weakE (pe_not (ha W tk)) fun _ _ _ ⟨q, e, S, at_, pr⟩ => ⟨q, e, S, at_, PR.bind antiD pr fun q1 H1 x d S1 g1 rx s1 pr1 => by
    cases d with
    | bl k => exact ⟨k, rx.bl_of, pr1 q1 H1 _ .refl (.bl _) s1⟩
    | _ => exact pr1.elim⟩
def ifM (t : MT) (a b : ME) : ME := fun e S => bindR (t e S) fun c S1 => if c = true then a e S1 else b e S1
theorem ev_if (hc : TV X ca c mt) (ha : EV X ca a ma) (hb : EV X ca b mb) : EV X ca (.IfExp c a b pos) (ifM mt ma mb) :=
  fun W tk => weakE (pe_ifExp (hc W tk) (ha W tk) (hb W tk)) fun _ _ _ ⟨q, e, S, at_, pr⟩ => ⟨q, e, S, at_, PR.bind antiD pr fun q1 H1 x d S1 g1 rx s1 pr1 => by
    obtain rfl : x = d := rx
    cases x with
    | true => exact ⟨q1, e, S1, ⟨at_.sl.grow g1, s1⟩, pr1⟩
    | false => exact ⟨q1, e, S1, ⟨at_.sl.grow g1, s1⟩, pr1⟩⟩
/-- a op b op' c -/
def chM (f g : D → D → Sto → Rs D) (a b c : ME) : ME := fun e S => bindR (a e S) fun x S1 => bindR (b e S1) fun y S2 => bindR (f x y S2) fun z S3 => match z with
  | .bl true => bindR (c e S3) fun w S4 => g y w S4
  | .bl false => .ok (.bl false) S3
  | _ => .bad
theorem chain_ {W : WX} {s : L2.St} {H : Hp} {Q : VK} {r r' : R2} {f g : D → D → Sto → Rs D} (hf : OpOk X.K ca r f) (hg : OpOk X.K ca r' g) (h : tM (RelD X.K) X.K ca W (chM f g ma mb mc) s H Q) :
    tChain r r' (tM (RelD X.K) X.K ca W ma) (tM (RelD X.K) X.K ca W mb) (tM (RelD X.K) X.K ca W mc) s H Q := by
  obtain ⟨q, e, S, at_, pr⟩ := h
  refine ⟨q, e, S, at_, PR.bind antiD pr fun q1 H1 x d S1 g1 rx s1 pr1 => ⟨q1, e, S1, ⟨at_.sl.grow g1, s1⟩, PR.bind antiD pr1 fun q2 H2 y d2 S2 g2 ry s2 pr2 => hf q2 H2 S2 x y d d2 _ _ s2 (rx.grow g2) ry
    (PR.bind antiD pr2 fun q3 H3 z d3 S3 g3 rz s3 pr3 => ?_)⟩⟩
  split at pr3
  · refine ⟨true, rz.bl_of, ?_⟩
    rw [if_pos rfl]
    exact ⟨q3, e, S3, ⟨((at_.sl.grow g1).grow g2).grow g3, s3⟩, PR.bind antiD pr3 fun q4 H4 w d4 S4 g4 rw4 s4 pr4 => hg q4 H4 S4 y w d2 d4 _ _ s4 ((ry.grow g3).grow g4) rw4 pr4⟩
  · refine ⟨false, rz.bl_of, ?_⟩
    rw [if_neg Bool.false_ne_true]
    exact pr3 q3 H3 _ .refl (.bl false) s3
  · exact pr3.elim
theorem ev_chain {op op' : CmpOp} {r r' : R2} {f g : D → D → Sto → Rs D} (ho : OpR X (compareOp op) r) (ho' : OpR X (compareOp op') r') (hf : OpOk X.K ca r f) (hg : OpOk X.K ca r' g) (ha : EV X ca a ma) (hb : EV X ca b mb) (hc : EV X ca c mc)
    (hm : lastMarks [op, op'] [b, c] = false := by with_unfolding_all rfl) : EV X ca (.Compare a [op, op'] [b, c] pos) (chM f g ma mb mc) :=
  fun W tk => weakE (pe_chain ho ho' (ha W tk) (hb W tk) (hc W tk) hm) fun _ _ _ h => chain_ hf hg h
theorem tv_chain {op op' : CmpOp} {r r' : R2} {f g : D → D → Sto → Rs D} (ho : OpR X (compareOp op) r) (ho' : OpR X (compareOp op') r') (hf : OpOk X.K ca r f) (hg : OpOk X.K ca r' g) (ha : EV X ca a ma) (hb : EV X ca b mb) (hc : EV X ca c mc)
    (hm : lastMarks [op, op'] [b, c] = false := by with_unfolding_all rfl) : TV X ca (.Compare a [op, op'] [b, c] pos) (blT (chM f g ma mb mc)) :=
  fun W tk => weakT (pt_chain ho ho' (ha W tk) (hb W tk) (hc W tk) hm) fun _ _ _ ⟨q, e, S, at_, pr⟩ => chain_ hf hg ⟨q, e, S, at_, pr.blT⟩

/-! ### argument lists, displays -/
def nilA : MA := fun _ S => .ok [] S
def consA (a : ME) (r : MA) : MA := fun e S => bindR (a e S) fun x S1 => bindR (r e S1) fun xs S2 => .ok (x :: xs) S2
theorem av_nil : AV X ca [] nilA := fun W tk => weakA pa_nil fun _ H _ ⟨q, e, S, at_, pr⟩ => pr q H [] .refl .nil at_.st
theorem av_cons (ha : EV X ca a ma) (hr : AV X ca es ms) (hs : starEach (a :: es) X.env = (false, eval a X.env) :: starEach es X.env := by rfl) : AV X ca (a :: es) (consA ma ms) :=
  fun W tk => weakA (pa_cons (ha W tk) (hr W tk) hs) fun _ _ _ ⟨q, e, S, at_, pr⟩ => ⟨q, e, S, at_, PR.bind antiDs pr fun q1 H1 x d S1 g1 rx s1 pr1 => ⟨q1, e, S1, ⟨at_.sl.grow g1, s1⟩, PR.bind antiDs pr1 fun q2 H2 xs ds S2 g2 rxs s2 pr2 =>
    pr2 q2 H2 (x :: xs) .refl (.cons (rx.grow g2) rxs) s2⟩⟩
def tupM (m : MA) : ME := fun e S => bindR (m e S) fun l S1 => if l.length ≤ sizeLine then .ok (.tup l) S1 else .bad
theorem ev_tup {x1 : Nat} (h : AV X ca es ms) : EV X ca (.Tuple es x1 pos) (tupM ms) :=
  fun W tk => weakE (pe_tup (h W tk)) fun _ _ _ ⟨q, e, S, at_, pr⟩ => ⟨q, e, S, at_, PR.bind antiD pr fun q1 H1 xs l S1 g1 rx s1 pr1 => by
    split at pr1
    · rename_i hz
      refine ⟨by rw [rx.length]; exact hz, fun p hp => ?_⟩
      have g := Grow.laid (K := X.K) (r := q1) (u := .tup xs) hp
      exact pr1 q1 _ _ g (.tup (.inl (.inl upd_same)) (rx.grow g)) (s1.laid hp)
    · exact pr1.elim⟩
/-- a written list -/
def szA (m : MA) : MA := fun e S => bindR (m e S) fun l S1 => if l.length ≤ sizeLine then .ok l S1 else .bad
theorem lv_lst (h : AV X ca es ms) : LV X ca (.List es pos) (szA ms) :=
  fun W tk => weakE (pe_lst (h W tk)) fun _ _ _ ⟨q, e, S, at_, pr⟩ => ⟨q, e, S, at_, PR.bind0 pr fun q1 H1 xs l S1 g1 rx s1 pr1 => by
    split at pr1
    · rename_i hz
      refine ⟨by rw [rx.length]; exact hz, fun p hp => ?_⟩
      have g := Grow.laid (K := X.K) (r := q1) (u := .lst xs) hp
      exact pr1 q1 _ _ (g1.trans g) ⟨p, xs, rfl, g1.dom p hp, s1.free hp, upd_same, rx.grow g⟩ (s1.laid hp)
    · exact pr1.elim⟩
/-- a new list, kept -/
def newM (m : MA) : ME := fun e S => bindR (m e S) fun l S1 => .ok (.obj S1.length) (S1 ++ [.lst l])
theorem ev_new (h : LV X ca a ms) : EV X ca a (newM ms) :=
  fun W tk => weakE (h W tk) fun _ _ _ ⟨q, e, S, at_, pr⟩ => ⟨q, e, S, at_, PR.bind0 pr fun q1 H1 v l S1 g1 rel s1 pr1 => by
    obtain ⟨p, vs, rfl, h0, hq, hp, rs⟩ := rel
    refine pr1 (q1 ++ [p]) H1 (.ref p) (g1.number h0) (.obj ?_) (s1.adopt hq ⟨vs, hp, rs⟩)
    rw [List.getElem?_append_right (by rw [s1.len]; exact Nat.le_refl _), s1.len]
    simp⟩
end
end L3

/-! L3D: targets, what is walked, comprehensions, statements, calls. -/
namespace L3
open PySem PySem.Spec L2

/-! ### targets -/
/-- the slots that a target stores, the others as they were -/
structure Sets (is : List Nat) (s s' : L2.St) : Prop where
  len : s'.length = s.length
  other : ∀ (i : Nat), i ∉ is → s'[i]? = s[i]?
def tG (K : PySem.W.Frag) (is : List Nat) (g : D → Sl → Option Sl) : TG := fun v s H Q => ∃ r d e e', Rep K r H v d ∧ SlOk K r H s e ∧ g d e = some e' ∧ ∀ s', SlOk K r H s' e' → Sets is s s' → Q s' H
def tGs (K : PySem.W.Frag) (is : List Nat) (g : List D → Sl → Option Sl) : TGs := fun vs s H Q => ∃ r ds e e', Reps K r H vs ds ∧ SlOk K r H s e ∧ g ds e = some e' ∧ ∀ s', SlOk K r H s' e' → Sets is s s' → Q s' H
def GV (X : Cx) (tg : Expr) (is : List Nat) (g : D → Sl → Option Sl) : Prop := PG X tg (tG X.K is g)
def GVs (X : Cx) (ts : List Expr) (is : List Nat) (g : List D → Sl → Option Sl) : Prop := PGs X ts (tGs X.K is g)
def nmG (i : Nat) (d : D) (e : Sl) : Option Sl := some (e.set i (some d))
def nilG (l : List D) (e : Sl) : Option Sl := match l with
  | [] => some e
  | _ :: _ => none
def consG (g : D → Sl → Option Sl) (gs : List D → Sl → Option Sl) (l : List D) (e : Sl) : Option Sl := match l with
  | [] => none
  | d :: t => (g d e).bind fun e1 => gs t e1
def tupG (n : Nat) (gs : List D → Sl → Option Sl) (d : D) (e : Sl) : Option Sl := match d with
  | .tup l => if l.length = n then gs l e else none
  | _ => none
theorem Sets.refl {is : List Nat} {s : L2.St} : Sets is s s := ⟨rfl, fun _ _ => rfl⟩
theorem SlOk.set {K : PySem.W.Frag} {r : List Addr} {H : Hp} {s : L2.St} {e : Sl} {i : Nat} {v : V} {d : D} (h : SlOk K r H s e) (q : Rep K r H v d) : SlOk K r H (s.set i (some v)) (e.set i (some d)) := by
  refine ⟨by simp [h.1], fun j x hj => ?_⟩
  by_cases hij : i = j
  · subst hij
    by_cases hl : i < e.length
    · rw [List.getElem?_set_self hl] at hj
      cases hj
      exact ⟨v, List.getElem?_set_self (by rw [h.1]; exact hl), q⟩
    · rw [List.getElem?_eq_none (by simpa using hl)] at hj
      cases hj
  · rw [List.getElem?_set_ne hij] at hj
    obtain ⟨w, h1, h2⟩ := h.2 j x hj
    exact ⟨w, by rw [List.getElem?_set_ne hij]; exact h1, h2⟩
theorem Sets.set {s : L2.St} {i : Nat} {v : Option V} : Sets [i] s (s.set i v) := ⟨by simp, fun j hj => List.getElem?_set_ne (fun z => hj (by simp [z]))⟩
section
variable {X : Cx} {ca : Nat → Addr} {tg iter elt e a o : Expr} {es ts : List Expr} {is js own : List Nat} {g : D → Sl → Option Sl} {gs : List D → Sl → Option Sl} {m mo mi mv : ME} {ms : MA} {mt : MT} {pos pos' p : Pos}
theorem weakG {t t' : TG} (h : PG X tg t) (w : ∀ v s H Q, t' v s H Q → t v s H Q) : PG X tg t' := ⟨fun pins s σ H v u Q I r q => h.run pins s σ H v u Q I r (w _ _ _ _ q)⟩
theorem weakGs {t t' : TGs} (h : PGs X ts t) (w : ∀ v s H Q, t' v s H Q → t v s H Q) : PGs X ts t' := ⟨fun pins s σ H v u Q I r q => h.run pins s σ H v u Q I r (w _ _ _ _ q)⟩
theorem weakI {t t' : TI} (h : PI X tg iter t) (w : ∀ s H Q, t' s H Q → t s H Q) : PI X tg iter t' := ⟨fun pins s σ H Q I q => h.run pins s σ H Q I (w _ _ _ q)⟩
theorem gv_of {i : Nat} (h : PG X tg (gName i)) : GV X tg [i] (nmG i) := weakG h fun v s H Q ⟨r, d, e, e', rv, sl, ge, k⟩ => by
  cases ge
  exact k _ (sl.set rv) .set
theorem gv_name {i : Nat} {x : Str} (hN : X.N.Nodup) (hi : X.N[i]? = some x) (hx : Loc X.env.scope x) (hf : X.fn x = true ∨ X.env.scope.names.lookup x = some .local := by first | exact .inl rfl | exact .inr rfl | assumption) : GV X (.Name x pos) [i] (nmG i) :=
  gv_of (pg_name hN hi hx hf)
theorem gvs_nil : GVs X [] [] nilG := weakGs pgs_nil fun vs s H Q ⟨r, ds, e, e', rv, sl, ge, k⟩ => by
  cases ds with
  | nil =>
    cases ge
    exact ⟨rv.nil_of, k s sl .refl⟩
  | cons _ _ => cases ge
theorem gvs_cons (h1 : GV X e is g) (h2 : GVs X es js gs) (hs : (assignEach (e :: es) X.env).map (·.2) = assign e X.env :: (assignEach es X.env).map (·.2) := by rfl) : GVs X (e :: es) (is ++ js) (consG g gs) :=
  weakGs (pgs_cons h1 h2 hs) fun vs s H Q ⟨r, ds, e, e', rv, sl, ge, k⟩ => by
    cases ds with
    | nil => cases ge
    | cons d t =>
      obtain ⟨v, vt, rfl, r1, r2⟩ := rv.cons_of
      obtain ⟨e1, g1, g2⟩ := Option.bind_eq_some_iff.mp ge
      exact ⟨v, vt, rfl, r, d, e, e1, r1, sl, g1, fun s1 sl1 z1 => ⟨r, t, e1, e', r2, sl1, g2, fun s2 sl2 z2 => k s2 sl2 ⟨z2.len.trans z1.len, fun i hi => by
        rw [List.mem_append] at hi
        exact (z2.other i fun z => hi (.inr z)).trans (z1.other i fun z => hi (.inl z))⟩⟩⟩
theorem gv_tup {n k : Nat} (hc : X.calm = true) (h : GVs X es is gs) (hn : (assignEach es X.env).length = n := by rfl) (hst : (assignEach es X.env).findIdx? (·.1) = none := by rfl) : GV X (.Tuple es k pos) is (tupG n gs) :=
  weakG (pg_tup hc h hn hst) fun v s H Q ⟨r, d, e, e', rv, sl, ge, k⟩ => by
    unfold tupG at ge
    split at ge
    · rename_i l
      obtain ⟨p, xs, rfl, h1, h2⟩ := rv.tup_of
      split at ge
      · rename_i hl
        exact ⟨p, xs, rfl, h1, by rw [h2.length]; exact hl, r, l, e, e', h2, sl, ge, k⟩
      · cases ge
    · cases ge

/-! ### what is walked -/
/-- the iterator J yields l, as long as chk holds of the store -/
structure JOk (K : PySem.W.Frag) (ca : Nat → Addr) (J : It) (l : List D) (chk : Sto → Bool) (r0 : List Addr) (H0 : Hp) : Prop where
  go : ∀ (i : Nat) (r : List Addr) (H : Hp) (S : Sto) (x : D), Grow K r0 H0 r H → StoOk K ca r H S → chk S = true → l[i]? = some x → J.go i H ∧ ∀ v H', J.yld i H v H' → Grow K r H r H' ∧ StoOk K ca r H' S ∧ Rep K r H' v x
  stop : ∀ (i : Nat) (r : List Addr) (H : Hp) (S : Sto), Grow K r0 H0 r H → StoOk K ca r H S → chk S = true → l.length ≤ i → J.stop i H
abbrev RelJ (K : PySem.W.Frag) (ca : Nat → Addr) : RelT It (List D × (Sto → Bool)) := fun _ r H J x => JOk K ca J x.1 x.2 r H
abbrev IM := Sl → Sto → Rs (List D × (Sto → Bool))
def IV (X : Cx) (ca : Nat → Addr) (tg iter : Expr) (m : IM) : Prop := ∀ W, Takes X W → PI X tg iter (tM (RelJ X.K ca) X.K ca W m)
theorem antiJ {K : PySem.W.Frag} : Anti K (RelJ K ca) := ⟨fun _ h => h⟩
def fixC (_ : Sto) : Bool := true
def sameC (n : Nat) (l : List D) (S : Sto) : Bool := decide (S[n]? = some (.lst l))
/-- a list of any standing -/
theorem joL {K : PySem.W.Frag} {p : Addr} {l : List D} {chk : Sto → Bool} {r0 : List Addr} {H0 : Hp} (h : ∀ r H S, Grow K r0 H0 r H → StoOk K ca r H S → chk S = true → ∃ vs, SqL K H p vs ∧ Reps K r H vs l) : JOk K ca (Itl K p) l chk r0 H0 where
  go := fun i r H S x g s c q => by
    obtain ⟨vs, h1, h2⟩ := h r H S g s c
    obtain ⟨v, hv, rv⟩ := h2.get q
    refine ⟨⟨vs, v, h1, hv⟩, fun w H' y => ?_⟩
    obtain ⟨rfl, y⟩ := y
    have e := y vs h1
    rw [hv] at e
    cases e
    exact ⟨.refl, s, rv⟩
  stop := fun i r H S g s c q => by
    obtain ⟨vs, h1, h2⟩ := h r H S g s c
    exact ⟨vs, h1, by rw [h2.length]; exact q⟩
theorem joT {K : PySem.W.Frag} {p : Addr} {vs : List V} {l : List D} {r0 : List Addr} {H0 : Hp} (h1 : SqT K H0 p vs) (h2 : Reps K r0 H0 vs l) : JOk K ca (Itt K p) l fixC r0 H0 where
  go := fun i r H S x g s c q => by
    obtain ⟨v, hv, rv⟩ := (h2.grow g).get q
    refine ⟨⟨vs, v, g.tup _ _ h1, hv⟩, fun w H' y => ?_⟩
    obtain ⟨rfl, y⟩ := y
    have e := y vs (g.tup _ _ h1)
    rw [hv] at e
    cases e
    exact ⟨.refl, s, rv⟩
  stop := fun i r H S g s c q => ⟨vs, g.tup _ _ h1, by rw [h2.length]; exact q⟩
/-- a value as a thing to walk -/
def srcLD (d : D) (S : Sto) : Rs (List D × (Sto → Bool)) := match d with
  | .fz l => .ok (l, fixC) S
  | .obj n => match S[n]? with
    | some (.lst l) => .ok (l, sameC n l) S
    | _ => .bad
  | _ => .bad
def srcTD (d : D) (S : Sto) : Rs (List D × (Sto → Bool)) := match d with
  | .tup l => .ok (l, fixC) S
  | _ => .bad
def itM (f : D → Sto → Rs (List D × (Sto → Bool))) (m : ME) : IM := fun e S => bindR (m e S) f
def lvI (m : MA) : IM := fun e S => bindR (m e S) fun l S1 => .ok (l, fixC) S1
theorem iv_list (h : EV X ca iter m) : IV X ca tg iter (itM srcLD m) :=
  fun W tk => weakI (pi_list (h W tk)) fun _ _ _ ⟨q, e, S, at_, pr⟩ => ⟨q, e, S, at_, PR.bind antiJ pr fun q1 H1 x d S1 g1 rx s1 pr1 => by
    unfold srcLD at pr1
    split at pr1
    · obtain ⟨p, xs, rfl, h1, h2⟩ := rx.fz_of
      exact ⟨p, rfl, ⟨xs, h1.sq⟩, pr1 q1 H1 _ .refl (joL fun r H S g s _ => ⟨xs, (g.fz _ _ h1).sq, h2.grow g⟩) s1⟩
    · rename_i n
      obtain ⟨p, rfl, hn⟩ := rx.obj_of
      split at pr1
      · rename_i l el
        obtain ⟨vs, h1, h2⟩ := lst_at s1 hn el
        refine ⟨p, rfl, ⟨vs, SqL.of h1⟩, pr1 q1 H1 _ .refl (joL fun r H S g s c => ?_) s1⟩
        obtain ⟨vs', h1', h2'⟩ := lst_at s (g.pre _ _ hn) (of_decide_eq_true c)
        exact ⟨vs', SqL.of h1', h2'⟩
      · exact pr1.elim
    · exact pr1.elim⟩
theorem iv_lv (h : LV X ca iter ms) : IV X ca tg iter (lvI ms) :=
  fun W tk => weakI (pi_list (h W tk)) fun _ _ _ ⟨q, e, S, at_, pr⟩ => ⟨q, e, S, at_, PR.bind antiJ pr fun q1 H1 x d S1 g1 rx s1 pr1 => by
    obtain ⟨p, vs, rfl, h0, hq, hp, rs⟩ := rx
    exact ⟨p, rfl, ⟨vs, SqL.of hp⟩, pr1 q1 H1 _ .refl (joL fun r H S g s _ => ⟨vs, SqL.of (g.keep _ _ hp hq).1, rs.grow g⟩) s1⟩⟩
theorem iv_tup (h : EV X ca iter m) : IV X ca tg iter (itM srcTD m) :=
  fun W tk => weakI (pi_tup (h W tk)) fun _ _ _ ⟨q, e, S, at_, pr⟩ => ⟨q, e, S, at_, PR.bind antiJ pr fun q1 H1 x d S1 g1 rx s1 pr1 => by
    unfold srcTD at pr1
    split at pr1
    · obtain ⟨p, xs, rfl, h1, h2⟩ := rx.tup_of
      exact ⟨p, rfl, ⟨xs, h1⟩, pr1 q1 H1 _ .refl (joT h1 h2) s1⟩
    · exact pr1.elim⟩
/-- ints in a row -/
def upto (lo : Int) (n : Nat) : List D := (List.range n).map fun (i : Nat) => D.int (lo + (i : Int))
theorem upto_length (lo : Int) (n : Nat) : (upto lo n).length = n := by simp [upto]
theorem upto_get {lo : Int} {n i : Nat} (h : i < n) : (upto lo n)[i]? = some (.int (lo + (i : Int))) := by simp [upto, h]
theorem joR {K : PySem.W.Frag} {lo : Int} {n : Nat} {r0 : List Addr} {H0 : Hp} : JOk K ca (Itr lo n) (upto lo n) fixC r0 H0 where
  go := fun i r H S x g s c q => by
    have hi : i < n := by
      have := (List.getElem?_eq_some_iff.mp q).1
      rwa [upto_length] at this
    refine ⟨hi, fun w H' y => ?_⟩
    obtain ⟨rfl, rfl⟩ := y
    rw [upto_get hi] at q
    cases q
    exact ⟨.refl, s, .int _⟩
  stop := fun i r H S g s c q => by
    rw [upto_length] at q
    exact q
def rng1D (l : List D) (S : Sto) : Rs (List D × (Sto → Bool)) := match l with
  | [.int j] => if -(2 ^ 62) ≤ j ∧ j < 2 ^ 62 then .ok (upto 0 j.toNat, fixC) S else .bad
  | _ => .bad
def rng2D (l : List D) (S : Sto) : Rs (List D × (Sto → Bool)) := match l with
  | [.int i, .int j] => if -(2 ^ 62) ≤ i ∧ i < 2 ^ 62 ∧ -(2 ^ 62) ≤ j ∧ j < 2 ^ 62 then .ok (upto i (j - i).toNat, fixC) S else .bad
  | _ => .bad
def rngI (f : List D → Sto → Rs (List D × (Sto → Bool))) (m : MA) : IM := fun e S => bindR (m e S) f
theorem iv_rng1 {b : Expr} (hg : Gl X "range") (hm : X.mg "range" = none) (h : AV X ca [b] ms) (hs : starEach [b] X.env = [(false, eval b X.env)] := by rfl) : IV X ca tg (.Call (.Name "range" p) [b] [] pos) (rngI rng1D ms) :=
  fun W tk => weakI (pi_range1 hg hm (h W tk) hs) fun _ _ _ ⟨q, e, S, at_, pr⟩ => ⟨q, e, S, at_, PR.bind antiJ pr fun q1 H1 x d S1 g1 rx s1 pr1 => by
    unfold rng1D at pr1
    split at pr1
    · rename_i j
      split at pr1
      · rename_i hj
        obtain ⟨v, t, rfl, r1, r2⟩ := rx.cons_of
        rw [r1.int_of, r2.nil_of]
        exact ⟨j, rfl, hj.1, hj.2, pr1 q1 H1 _ .refl joR s1⟩
      · exact pr1.elim
    · exact pr1.elim⟩
theorem iv_rng2 {b c : Expr} (hg : Gl X "range") (hm : X.mg "range" = none) (h : AV X ca [b, c] ms) (hs : starEach [b, c] X.env = [(false, eval b X.env), (false, eval c X.env)] := by rfl) (hs2 : starEach [c] X.env = [(false, eval c X.env)] := by rfl) :
    IV X ca tg (.Call (.Name "range" p) [b, c] [] pos) (rngI rng2D ms) :=
  fun W tk => weakI (pi_range2 hg hm (h W tk) hs hs2) fun _ _ _ ⟨q, e, S, at_, pr⟩ => ⟨q, e, S, at_, PR.bind antiJ pr fun q1 H1 x d S1 g1 rx s1 pr1 => by
    unfold rng2D at pr1
    split at pr1
    · rename_i i j
      split at pr1
      · rename_i hj
        obtain ⟨v, t, rfl, r1, r2⟩ := rx.cons_of
        obtain ⟨v2, t2, rfl, r3, r4⟩ := r2.cons_of
        rw [r1.int_of, r3.int_of, r4.nil_of]
        exact ⟨i, j, rfl, hj, pr1 q1 H1 _ .refl joR s1⟩
      · exact pr1.elim
    · exact pr1.elim⟩

/-! ### comprehensions -/
def wipeD (e : Sl) : List Nat → Sl
  | [] => e
  | v :: vs => (wipeD e vs).set v none
theorem wipe_ok {K : PySem.W.Frag} {r : List Addr} {H : Hp} {s : L2.St} {e : Sl} (h : SlOk K r H s e) : ∀ vs : List Nat, SlOk K r H (wipe s vs) (wipeD e vs)
  | [] => h
  | v :: vs => by
    obtain ⟨h1, h2⟩ := wipe_ok h vs
    unfold wipe wipeD
    refine ⟨by simpa using h1, fun j x hj => ?_⟩
    by_cases hij : v = j
    · subst hij
      by_cases hl : v < (wipeD e vs).length
      · rw [List.getElem?_set_self hl] at hj
        cases hj
      · rw [List.getElem?_eq_none (by simpa using hl)] at hj
        cases hj
    · rw [List.getElem?_set_ne hij] at hj ⊢
      exact h2 j x hj
theorem wipe_get (s : L2.St) (i : Nat) : ∀ vs : List Nat, (wipe s vs)[i]? = if i ∈ vs then (if i < s.length then some none else none) else s[i]?
  | [] => by simp [wipe]
  | v :: vs => by
    unfold wipe
    have ih := wipe_get s i vs
    by_cases hij : v = i
    · subst hij
      rw [if_pos (by simp)]
      by_cases hl : v < s.length
      · rw [if_pos hl, List.getElem?_set_self (by rw [wipe_length]; exact hl)]
      · rw [if_neg hl, List.getElem?_eq_none (by rw [List.length_set, wipe_length]; omega)]
    · rw [List.getElem?_set_ne hij, ih]
      simp [Ne.symm hij]
theorem wipe_sets {s s' : L2.St} {is vs : List Nat} (z : Sets is s s') (h : ∀ i ∈ is, i ∈ vs) : wipe s' vs = wipe s vs := by
  apply List.ext_getElem?
  intro i
  rw [wipe_get, wipe_get, z.len]
  by_cases hi : i ∈ vs
  · rw [if_pos hi, if_pos hi]
  · rw [if_neg hi, if_neg hi, z.other i fun q => hi (h i q)]
theorem wipe_wipe {s : L2.St} {vs : List Nat} : wipe (wipe s vs) vs = wipe s vs := by
  apply List.ext_getElem?
  intro i
  rw [wipe_get, wipe_get, wipe_length]
  by_cases hi : i ∈ vs
  · rw [if_pos hi, if_pos hi]
  · rw [if_neg hi, if_neg hi]
def compL (chk : Sto → Bool) (g : D → Sl → Option Sl) (t : MT) (el : ME) : List D → Sl → Sto → Option (List D × Sto)
  | [], _, S => if chk S = true then some ([], S) else none
  | x :: r, e, S => if chk S = true then match g x e with
      | some e1 => match t e1 S with
        | .ok true S1 => match el e1 S1 with
          | .ok y S2 => match compL chk g t el r e S2 with
            | some (ys, S3) => some (y :: ys, S3)
            | none => none
          | _ => none
        | .ok false S1 => compL chk g t el r e S1
        | _ => none
      | none => none
    else none
def compM (im : IM) (g : D → Sl → Option Sl) (own : List Nat) (t : MT) (el : ME) : MA := fun e S => bindR (im e S) fun x S1 => if x.1.length ≤ sizeLine then match compL x.2 g t el x.1 (wipeD e own) S1 with
    | some (l, S2) => .ok l S2
    | none => .bad
  else .bad
theorem compL_nil {chk : Sto → Bool} {g : D → Sl → Option Sl} {t : MT} {el : ME} {e : Sl} {S S' : Sto} {ys : List D} (h : compL chk g t el [] e S = some (ys, S')) : chk S = true ∧ ys = [] ∧ S' = S := by
  unfold compL at h
  split at h
  · cases h
    exact ⟨by assumption, rfl, rfl⟩
  · cases h
theorem compL_cons {chk : Sto → Bool} {g : D → Sl → Option Sl} {t : MT} {el : ME} {x : D} {r : List D} {e : Sl} {S S' : Sto} {ys : List D} (h : compL chk g t el (x :: r) e S = some (ys, S')) :
    chk S = true ∧ ∃ e1, g x e = some e1 ∧ ((∃ S1 y S2 zs, t e1 S = .ok true S1 ∧ el e1 S1 = .ok y S2 ∧ compL chk g t el r e S2 = some (zs, S') ∧ ys = y :: zs) ∨ ∃ S1, t e1 S = .ok false S1 ∧ compL chk g t el r e S1 = some (ys, S')) := by
  unfold compL at h
  split at h
  · rename_i hc
    refine ⟨hc, ?_⟩
    split at h
    · rename_i e1 he
      refine ⟨e1, he, ?_⟩
      split at h
      · rename_i S1 ht
        split at h
        · rename_i y S2 hy
          split at h
          · rename_i zs S3 hr
            cases h
            exact .inl ⟨S1, y, S2, zs, ht, hy, hr, rfl⟩
          · cases h
        · cases h
      · rename_i S1 ht
        exact .inr ⟨S1, ht, h⟩
      · cases h
    · cases h
  · cases h
def yesT : MT := fun _ S => .ok true S
def TsV (X : Cx) (ca : Nat → Addr) (ifs : List Expr) (m : MT) : Prop := ∀ W, Takes X W → PTs X ifs (tM RelB X.K ca W m)
theorem tsv_nil : TsV X ca [] yesT := fun W tk => ⟨fun pins s σ H Q I ⟨q, e, S, at_, pr⟩ => pts_nil.run pins s σ H Q I (pr q H true .refl rfl at_.st)⟩
theorem tsv_one (h : TV X ca e mt) : TsV X ca [e] mt := fun W tk => pts_one (h W tk)
abbrev W0 : WX := fun _ _ _ _ => False
/-- a comprehension's reading, from its mirror's -/
theorem comp_ {W : WX} {s : L2.St} {H : Hp} {Q : VK} {im : IM} (hs : ∀ i ∈ is, i ∈ own) (h : tM (RelL X.K) X.K ca W (compM im g own mt m) s H Q) :
    tLc (tM (RelJ X.K ca) X.K ca W im) (tG X.K is g) (tM RelB X.K ca W0 mt) (tM (RelD X.K) X.K ca W0 m) own s H Q := by
  obtain ⟨q, e, S, at_, pr⟩ := h
  refine ⟨q, e, S, at_, PR.bind0 pr fun q1 H1 J x S1 g1 jo s1 pr1 => fun A hA => ?_⟩
  obtain ⟨l, chk⟩ := x
  have jo : JOk X.K ca J l chk q1 H1 := jo
  dsimp only at pr1
  split at pr1
  · rename_i hz
    have sl0 := wipe_ok (at_.sl.grow g1) own
    split at pr1
    · rename_i ys0 S0 hc0
      -- the invariant: what the rest gives, behind what stands at A
      refine ⟨fun i k H2 => k = l.length - i ∧ i ≤ l.length ∧ ∃ q2 S2 acc ad ys, Grow X.K q1 H1 q2 H2 ∧ StoOk X.K ca q2 H2 S2 ∧ A ∉ q2 ∧ H2 A = some (.lst acc) ∧ Reps X.K q2 H2 acc ad ∧ acc.length ≤ i ∧
          compL chk g mt m (l.drop i) (wipeD e own) S2 = some (ys, S0) ∧ ad ++ ys = ys0,
        ⟨l.length, by simp, Nat.zero_le _, q1, S1, [], [], ys0, Grow.laid hA, s1.laid hA, s1.free hA, upd_same, .nil, Nat.le_refl _, hc0, rfl⟩, ?_⟩
      rintro i k H2 ⟨rfl, hi, q2, S2, acc, ad, ys, g2, s2, hq, hA2, ra, hl, hc2, eys⟩
      by_cases hlt : i < l.length
      · have hx : l[i]? = some l[i] := List.getElem?_eq_getElem hlt
        rw [List.drop_eq_getElem_cons hlt] at hc2
        obtain ⟨hc, e1, he1, ht⟩ := compL_cons hc2
        obtain ⟨jg, jy⟩ := jo.go i q2 H2 S2 _ g2 s2 hc hx
        refine .inr ⟨jg, fun H' => ∃ q2 S2 acc ad ys, Grow X.K q1 H1 q2 H' ∧ StoOk X.K ca q2 H' S2 ∧ A ∉ q2 ∧ H' A = some (.lst acc) ∧ Reps X.K q2 H' acc ad ∧ acc.length ≤ i + 1 ∧
          compL chk g mt m (l.drop (i + 1)) (wipeD e own) S2 = some (ys, S0) ∧ ad ++ ys = ys0, fun H' n => ⟨l.length - (i + 1), by omega, rfl, hlt, n⟩, fun v H3 y => ?_⟩
        obtain ⟨g3, s3, rv⟩ := jy v H3 y
        have g23 := g2.trans g3
        have hA3 := (g3.keep A _ hA2 hq).1
        refine ⟨q2, _, _, e1, rv, sl0.grow g23, he1, fun s' sl1 z => ⟨(wipe_sets z hs).trans wipe_wipe, ?_⟩⟩
        refine ⟨q2, e1, S2, ⟨sl1, s3⟩, ?_⟩
        rcases ht with ⟨S4, y', S5, zs, ht, hel, hr, rfl⟩ | ⟨S4, ht, hr⟩
        · rw [ht]
          intro q4 H4 b g4 eb s4
          obtain rfl : b = true := eb
          rw [if_pos rfl]
          refine ⟨q4, e1, S4, ⟨sl1.grow g4, s4⟩, ?_⟩
          rw [hel]
          intro q5 H5 w g5 rw5 s5
          have g45 := g4.trans g5
          obtain ⟨hA5, hq5⟩ := g45.keep A _ hA3 hq
          refine ⟨acc, hA5, Nat.lt_of_le_of_lt hl (Nat.lt_of_lt_of_le hlt hz), q5, S5, acc ++ [w], ad ++ [y'], zs, (g23.trans g45).over hA hA5, s5.over hq5 hA5, hq5, upd_same,
            (((ra.grow g3).grow g45).append (.cons rw5 .nil)).over hA5, by simp; omega, hr, by rw [← eys]; simp⟩
        · rw [ht]
          intro q4 H4 b g4 eb s4
          obtain rfl : b = false := eb
          rw [if_neg Bool.false_ne_true]
          obtain ⟨hA4, hq4⟩ := g4.keep A _ hA3 hq
          exact ⟨q4, S4, acc, ad, ys, g23.trans g4, s4, hq4, hA4, (ra.grow g3).grow g4, by omega, hr, eys⟩
      · have e0 : i = l.length := by omega
        subst e0
        rw [List.drop_length] at hc2
        obtain ⟨hc, rfl, rfl⟩ := compL_nil hc2
        rw [List.append_nil] at eys
        subst eys
        refine .inl ⟨jo.stop _ q2 H2 S0 g2 s2 hc (Nat.le_refl _), ?_⟩
        exact pr1 q2 H2 (.ref A) (g1.trans g2) ⟨A, acc, rfl, g1.dom A hA, hq, hA2, ra⟩ s2
    · exact pr1.elim
  · exact pr1.elim
theorem lv_comp {ow : List Nat} {ifs : List Expr} {scope : Scope} {own' : List (Str × Nat)} {im : IM} (hc : X.calm = true) (hN : X.N.Nodup) (hi : IV X ca tg iter im) (ok : BlkOk X.N X.env.scope scope own')
    (hg : ∀ (s : Shared) (H : Hp) (C : Addr) (cl : List (Str × Addr)) (fp : List Addr), GV (X.blk s H scope (compEnvC scope cl C X.env) fp) tg is g)
    (ht : ∀ (s : Shared) (H : Hp) (C : Addr) (cl : List (Str × Addr)) (fp : List Addr), TsV (X.blk s H scope (compEnvC scope cl C X.env) fp) ca ifs mt)
    (he : ∀ (s : Shared) (H : Hp) (C : Addr) (cl : List (Str × Addr)) (fp : List Addr), EV (X.blk s H scope (compEnvC scope cl C X.env) fp) ca elt m)
    (how : own'.map (·.2) = ow := by rfl) (hs : ∀ i ∈ is, i ∈ own'.map (·.2) := by decide) (hf : ∀ x, foldedSetIterable iter X.env x = pure x := by intro _; rfl) :
    LV X ca (.ListComp elt [⟨tg, iter, ifs, 0⟩] scope pos) (compM im g ow mt m) := by
  subst how
  exact fun W tk => weakE (pe_lc (g := tG X.K is g) (tt := tM RelB X.K ca W0 mt) (te := tM (RelD X.K) X.K ca W0 m) hc hN (hi W tk) ok hg (fun s H C cl fp => ht s H C cl fp W0 takes0) (fun s H C cl fp => he s H C cl fp W0 takes0) hf) fun _ _ _ h => comp_ hs h

/-! ### statements -/
def seqM (a b : MS) : MS := fun e S => match a e S with
  | .nx e' S' => b e' S'
  | x => x
def nopM : MS := fun e S => .nx e S
theorem bv_nil : BV X ca [] nopM := fun W tk => weakB pss_nil fun D s H ⟨q, e, S, at_, pr⟩ => pr q H s .refl at_.sl at_.st
theorem bv_cons {st : Stmt} {sts : List Stmt} {a b : MS} (h1 : SV X ca st a) (h2 : BV X ca sts b) : BV X ca (st :: sts) (seqM a b) :=
  fun W tk => weakB (pss_cons (h1 W tk) (h2 W tk)) fun D s H ⟨q, e, S, at_, pr⟩ => ⟨q, e, S, at_, by
    unfold seqM at pr
    split at pr
    · rename_i e' S' ha
      rw [ha]
      exact fun q' H' s' g sl so => ⟨q', e', S', ⟨sl, so⟩, pr.grow g⟩
    · rename_i hx
      cases ha : a e S with
      | nx e' S' => exact (hx _ _ ha).elim
      | _ => rw [ha] at pr; exact pr⟩
theorem bv_one {st : Stmt} {a : MS} (h1 : SV X ca st a) : BV X ca [st] a := fun W tk => pss_one (h1 W tk)
theorem sv_pass : SV X ca (.Pass pos) nopM := fun W tk => weakS ps_pass fun D s H ⟨q, e, S, at_, pr⟩ => pr q H s .refl at_.sl at_.st
def brkM : MS := fun e S => .bk e S
def cntM : MS := fun e S => .ct e S
theorem sv_break : SV X ca (.Break pos) brkM := fun W tk => weakS ps_break fun D s H ⟨q, e, S, at_, pr⟩ => pr q H s .refl at_.sl at_.st
theorem sv_continue : SV X ca (.Continue pos) cntM := fun W tk => weakS ps_continue fun D s H ⟨q, e, S, at_, pr⟩ => pr q H s .refl at_.sl at_.st
def setM (i : Nat) (m : ME) : MS := fun e S => bindT (m e S) e fun d S1 => .nx (e.set i (some d)) S1
theorem sv_set {i : Nat} {x : Str} (hN : X.N.Nodup) (hi : X.N[i]? = some x) (hx : Loc X.env.scope x) (he : EV X ca a m) (hs : swapsWith a (some (.Name x pos')) pos.line X.env = pure false := by rfl)
    (hf : X.fn x = true ∨ X.env.scope.names.lookup x = some .local := by first | exact .inl rfl | exact .inr rfl | assumption) : SV X ca (.Assign [.Name x pos'] a pos) (setM i m) :=
  fun W tk => weakS (ps_set hN hi hx (he W tk) hs hf) fun D s H ⟨q, e, S, at_, pr⟩ => ⟨q, e, S, at_, PR.bindT at_.sl pr fun q1 H1 v d S1 g1 rv s1 pr1 => pr1 q1 H1 _ .refl ((at_.sl.grow g1).set rv) s1⟩
/-- a comprehension kept under a name -/
def setLM (i : Nat) (m : MA) : MS := fun e S => bindT (m e S) e fun l S1 => .nx (e.set i (some (.obj S1.length))) (S1 ++ [.lst l])
theorem sv_setLc {ow : List Nat} {i : Nat} {y : Str} {py spos : Pos} {ifs : List Expr} {scope : Scope} {own' : List (Str × Nat)} {im : IM} (hc : X.calm = true) (hN : X.N.Nodup) (hy : X.N[i]? = some y) (hyl : X.env.scope.names.lookup y = some .local)
    (hsw : swapsWith (.ListComp elt [⟨tg, iter, ifs, 0⟩] scope pos) (some (.Name y py)) spos.line X.env = pure true) (hi : IV X ca tg iter im) (ok : BlkOk X.N X.env.scope scope own')
    (hg : ∀ (s : Shared) (H : Hp) (C : Addr) (cl : List (Str × Addr)) (fp : List Addr), GV (X.blk s H scope (compEnvC scope cl C X.env) fp) tg is g)
    (ht : ∀ (s : Shared) (H : Hp) (C : Addr) (cl : List (Str × Addr)) (fp : List Addr), TsV (X.blk s H scope (compEnvC scope cl C X.env) fp) ca ifs mt)
    (he : ∀ (s : Shared) (H : Hp) (C : Addr) (cl : List (Str × Addr)) (fp : List Addr), EV (X.blk s H scope (compEnvC scope cl C X.env) fp) ca elt m)
    (how : own'.map (·.2) = ow := by rfl) (hs : ∀ i ∈ is, i ∈ own'.map (·.2) := by decide) (hf : ∀ x, foldedSetIterable iter X.env x = pure x := by intro _; rfl) :
    SV X ca (.Assign [.Name y py] (.ListComp elt [⟨tg, iter, ifs, 0⟩] scope pos) spos) (setLM i (compM im g ow mt m)) := by
  subst how
  exact fun W tk => weakS (ps_setLc (g := tG X.K is g) (tt := tM RelB X.K ca W0 mt) (te := tM (RelD X.K) X.K ca W0 m) hc hN hy hyl hsw (hi W tk) ok hg (fun s H C cl fp => ht s H C cl fp W0 takes0) (fun s H C cl fp => he s H C cl fp W0 takes0) hf) fun D s H ⟨q, e, S, at_, pr⟩ => comp_ hs ⟨q, e, S, at_, by
    unfold setLM at pr
    cases hr : compM im g (own'.map (·.2)) mt m e S with
    | ok l S1 =>
      rw [hr] at pr
      intro q1 H1 v g1 rel s1
      obtain ⟨p, vs, rfl, h0, hq, hp, rs⟩ := rel
      have g2 := g1.number h0
      refine pr (q1 ++ [p]) H1 _ g2 ((at_.sl.grow g2).set (.obj ?_)) (s1.adopt hq ⟨vs, hp, rs⟩)
      rw [List.getElem?_append_right (by rw [s1.len]; exact Nat.le_refl _), s1.len]
      simp
    | rse x S1 =>
      rw [hr] at pr
      exact fun q1 H1 c d g xr so => pr q1 H1 s c d g (at_.sl.grow g) xr so
    | bad =>
      rw [hr] at pr
      exact pr⟩
def dropM (m : ME) : MS := fun e S => bindT (m e S) e fun _ S1 => .nx e S1
theorem sv_expr (he : EV X ca a m) (hs : swapsWith a none pos.line X.env = pure false := by rfl) : SV X ca (.Expr a pos) (dropM m) :=
  fun W tk => weakS (ps_expr (he W tk) hs) fun D s H ⟨q, e, S, at_, pr⟩ => ⟨q, e, S, at_, PR.bindT at_.sl pr fun q1 H1 v d S1 g1 rv s1 pr1 => pr1 q1 H1 _ .refl (at_.sl.grow g1) s1⟩
def retM (m : ME) : MS := fun e S => bindT (m e S) e fun d S1 => .rt d S1
theorem sv_ret (he : EV X ca a m) : SV X ca (.Return (some a) pos) (retM m) :=
  fun W tk => weakS (ps_ret (he W tk)) fun D s H ⟨q, e, S, at_, pr⟩ => ⟨q, e, S, at_, PR.bindT at_.sl pr fun q1 H1 v d S1 g1 rv s1 pr1 => pr1 q1 H1 v .refl rv s1⟩
theorem sv_retN : SV X ca (.Return none pos) (retM (cM .non)) := fun W tk => weakS ps_retN fun D s H ⟨q, e, S, at_, pr⟩ => pr q H .non .refl .non at_.st
def ifS (t : MT) (a b : MS) : MS := fun e S => bindT (t e S) e fun c S1 => if c = true then a e S1 else b e S1
theorem sv_if {sa sb : List Stmt} {ma mb : MS} (hc : TV X ca e mt) (ha : BV X ca sa ma) (hb : BV X ca sb mb) : SV X ca (.If e sa sb pos) (ifS mt ma mb) :=
  fun W tk => weakS (ps_if (hc W tk) (ha W tk) (hb W tk)) fun D s H ⟨q, e, S, at_, pr⟩ => ⟨q, e, S, at_, PR.bindT at_.sl pr fun q1 H1 v d S1 g1 rv s1 pr1 => by
    obtain rfl : v = d := rv
    cases v with
    | true => exact ⟨q1, e, S1, ⟨at_.sl.grow g1, s1⟩, pr1⟩
    | false => exact ⟨q1, e, S1, ⟨at_.sl.grow g1, s1⟩, pr1⟩⟩
/-- a target of names -/
def asgM (g : D → Sl → Option Sl) (m : ME) : MS := fun e S => bindT (m e S) e fun d S1 => match g d e with
  | some e1 => .nx e1 S1
  | none => .bad
theorem sv_asg (he : EV X ca a m) (hg : GV X tg is g) (hs : swapsWithSole [tg] a pos.line X.env = pure false := by rfl) (hw : swappedStores [tg] a X.env = pure none := by rfl)
    (h1 : (assignEach [tg] X.env).map (·.2) = [assign tg X.env] := by rfl) : SV X ca (.Assign [tg] a pos) (asgM g m) :=
  fun W tk => weakS (ps_asg (he W tk) hg hs hw h1) fun D s H ⟨q, e, S, at_, pr⟩ => ⟨q, e, S, at_, PR.bindT at_.sl pr fun q1 H1 v d S1 g1 rv s1 pr1 => by
    split at pr1
    · rename_i e1 he1
      exact ⟨q1, d, e, e1, rv, at_.sl.grow g1, he1, fun s' sl' _ => pr1 q1 H1 s' .refl sl' s1⟩
    · exact pr1.elim⟩
/-- o[i] = v -/
def SetOk (K : PySem.W.Frag) (ca : Nat → Addr) (t : TSet) (f : D → D → D → Sto → Option Sto) : Prop :=
  ∀ (q : List Addr) (H : Hp) (S S' : Sto) (o i v : V) (od id d : D) (Q : Hp → Prop), StoOk K ca q H S → Rep K q H o od → Rep K q H i id → Rep K q H v d → f od id d S = some S' → (∀ H', Grow K q H q H' → StoOk K ca q H' S' → Q H') → t o i v H Q
def putM (f : D → D → D → Sto → Option Sto) (v o i : ME) : MS := fun e S => bindT (v e S) e fun d S1 => bindT (o e S1) e fun od S2 => bindT (i e S2) e fun id S3 => match f od id d S3 with
  | some S4 => .nx e S4
  | none => .bad
theorem sv_put {i : Expr} {t : TSet} {f : D → D → D → Sto → Option Sto} (hv : EV X ca a mv) (ho : EV X ca o mo) (hi : EV X ca i mi) (ht : PSet X t) (hf : SetOk X.K ca t f)
    (ha : ∀ v, assign (.Subscript o i p) X.env v = (do
      let ov ← holding [v] (eval o X.env)
      let iv ← holding [v, ov] (eval i X.env)
      standAt p
      holding [v, ov, iv] (setItem ov iv v)
      release [v, ov, iv] []) := by intro _; rfl)
    (hs : swapsWithSole [.Subscript o i p] a pos.line X.env = pure false := by rfl) (hw : swappedStores [.Subscript o i p] a X.env = pure none := by rfl)
    (h1 : (assignEach [.Subscript o i p] X.env).map (·.2) = [assign (.Subscript o i p) X.env] := by rfl) : SV X ca (.Assign [.Subscript o i p] a pos) (putM f mv mo mi) :=
  fun W tk => weakS (ps_asg (hv W tk) (pg_sub (ho W tk) (hi W tk) ht ha) hs hw h1) fun D s H ⟨q, e, S, at_, pr⟩ => ⟨q, e, S, at_, PR.bindT at_.sl pr fun q1 H1 v d S1 g1 rv s1 pr1 =>
    ⟨q1, e, S1, ⟨at_.sl.grow g1, s1⟩, PR.bindT (at_.sl.grow g1) pr1 fun q2 H2 ov od S2 g2 ro s2 pr2 => ⟨q2, e, S2, ⟨(at_.sl.grow g1).grow g2, s2⟩, PR.bindT ((at_.sl.grow g1).grow g2) pr2 fun q3 H3 iv id S3 g3 ri s3 pr3 => by
      split at pr3
      · rename_i S4 hS
        exact hf q3 H3 S3 S4 ov iv v od id d _ s3 (ro.grow g3) ri ((rv.grow g2).grow g3) hS fun H' g s' => pr3 q3 H' s g (((((at_.sl.grow g1).grow g2).grow g3)).grow g) s'
      · exact pr3.elim⟩⟩⟩
/-- name op= e -/
def augM (i : Nat) (f : D → D → Sto → Rs D) (m : ME) : MS := fun e S => match e[i]? with
  | some (some x) => bindT (m e S) e fun y S1 => bindT (f x y S1) e fun z S2 => .nx (e.set i (some z)) S2
  | _ => .bad
theorem sv_aug {i : Nat} {x : Str} {op : Operator} {r : R2} {f : D → D → Sto → Rs D} (hN : X.N.Nodup) (hi : X.N[i]? = some x) (hx : Loc X.env.scope x) (he : EV X ca a m) (ho : OpR X (inplaceOp op) r) (hf : OpOk X.K ca r f)
    (hfn : X.fn x = true ∨ X.env.scope.names.lookup x = some .local := by first | exact .inl rfl | exact .inr rfl | assumption) : SV X ca (.AugAssign (.Name x pos') op a pos) (augM i f m) :=
  fun W tk => weakS (ps_aug hN hi hx (he W tk) (fun pins s σ H x y v u Q I r1 r2 h => ho pins s σ H x y v u Q I r1 r2 h) hfn) fun D s H ⟨q, e, S, at_, pr⟩ => by
    unfold augM at pr
    split at pr
    · rename_i d hd
      obtain ⟨v, hv, rv⟩ := at_.sl.2 _ _ hd
      refine ⟨v, hv, q, e, S, at_, PR.bindT at_.sl pr fun q1 H1 w d1 S1 g1 rw1 s1 pr1 => hf q1 H1 S1 v w d d1 _ _ s1 (rv.grow g1) rw1 (PR.bindT (at_.sl.grow g1) pr1 fun q2 H2 z dz S2 g2 rz s2 pr2 => ?_)⟩
      exact pr2 q2 H2 _ .refl (((at_.sl.grow g1).grow g2).set rz) s2
    · exact pr.elim

/-! ### loops -/
def forL (chk : Sto → Bool) (g : D → Sl → Option Sl) (b : MS) : List D → Sl → Sto → Rt
  | [], e, S => if chk S = true then .nx e S else .bad
  | x :: r, e, S => if chk S = true then match g x e with
      | some e1 => match b e1 S with
        | .nx e2 S2 => forL chk g b r e2 S2
        | .ct e2 S2 => forL chk g b r e2 S2
        | .bk e2 S2 => .nx e2 S2
        | .rt d S2 => .rt d S2
        | .rse x e2 S2 => .rse x e2 S2
        | .bad => .bad
      | none => .bad
    else .bad
def forM (im : IM) (g : D → Sl → Option Sl) (b : MS) : MS := fun e S => bindT (im e S) e fun x S1 => forL x.2 g b x.1 e S1
theorem sv_for {body : List Stmt} {im : IM} {mb : MS} (hp : PassesOwn (model X.prog X.w) X.A X.env X.xe) (hc : X.calm = true) (hi : IV X ca tg iter im) (hg : GV X tg is g) (hb : BV X ca body mb)
    (hf : ∀ x, foldedSetIterable iter X.env x = pure x := by intro _; rfl) : SV X ca (.For tg iter body [] pos) (forM im g mb) :=
  fun W tk => weakS (ps_for hp hc (hi W tk) hg (hb W tk) hf) fun D s H ⟨q, e, S, at_, pr⟩ => ⟨q, e, S, at_, PR.bindT at_.sl pr fun q1 H1 J x S1 g1 jo s1 pr1 => by
    obtain ⟨l, chk⟩ := x
    have jo : JOk X.K ca J l chk q1 H1 := jo
    refine ⟨fun i k s2 H2 => k = l.length - i ∧ i ≤ l.length ∧ ∃ q2 S2 e2, Grow X.K q1 H1 q2 H2 ∧ SlOk X.K q2 H2 s2 e2 ∧ StoOk X.K ca q2 H2 S2 ∧ PRt X.K ca W q2 H2 D (forL chk g mb (l.drop i) e2 S2),
      ⟨l.length, by simp, Nat.zero_le _, q1, S1, e, .refl, at_.sl.grow g1, s1, pr1⟩, ?_⟩
    rintro i k s2 H2 ⟨rfl, hi, q2, S2, e2, g2, sl2, s2', pr2⟩
    by_cases hlt : i < l.length
    · have hx : l[i]? = some l[i] := List.getElem?_eq_getElem hlt
      rw [List.drop_eq_getElem_cons hlt] at pr2
      unfold forL at pr2
      split at pr2
      · rename_i hck
        obtain ⟨jg, jy⟩ := jo.go i q2 H2 S2 _ g2 s2' hck hx
        refine .inr ⟨jg, fun s3 H3 => ∃ q2 S2 e2, Grow X.K q1 H1 q2 H3 ∧ SlOk X.K q2 H3 s3 e2 ∧ StoOk X.K ca q2 H3 S2 ∧ PRt X.K ca W q2 H3 D (forL chk g mb (l.drop (i + 1)) e2 S2), fun s' H' n => ⟨l.length - (i + 1), by omega, rfl, hlt, n⟩, fun v H3 y => ?_⟩
        obtain ⟨g3, s3, rv⟩ := jy v H3 y
        split at pr2
        · rename_i e1 he1
          refine ⟨q2, _, e2, e1, rv, sl2.grow g3, he1, fun s' sl1 _ => ⟨q2, e1, S2, ⟨sl1, s3⟩, ?_⟩⟩
          have pr3 := PRt.grow g3 pr2
          cases hr : mb e1 S2 with
          | nx e4 S4 =>
            rw [hr] at pr3
            exact fun q4 H4 s4 g4 sl4 so4 => ⟨q4, S4, e4, (g2.trans g3).trans g4, sl4, so4, pr3.grow g4⟩
          | ct e4 S4 =>
            rw [hr] at pr3
            exact fun q4 H4 s4 g4 sl4 so4 => ⟨q4, S4, e4, (g2.trans g3).trans g4, sl4, so4, pr3.grow g4⟩
          | bk e4 S4 =>
            rw [hr] at pr3
            exact pr3
          | rt d S4 =>
            rw [hr] at pr3
            exact pr3
          | rse x e4 S4 =>
            rw [hr] at pr3
            exact pr3
          | bad =>
            rw [hr] at pr3
            exact pr3
        · exact pr2.elim
      · exact pr2.elim
    · have e0 : i = l.length := by omega
      subst e0
      rw [List.drop_length] at pr2
      unfold forL at pr2
      split at pr2
      · rename_i hck
        exact .inl ⟨jo.stop _ q2 H2 S2 g2 s2' hck (Nat.le_refl _), pr2 q2 H2 s2 .refl sl2 s2'⟩
      · exact pr2.elim⟩
/-- a while of at most n turns -/
def whF (c : MT) (b : MS) : Nat → Sl → Sto → Rt
  | 0, _, _ => .bad
  | n + 1, e, S => bindT (c e S) e fun k S1 => if k = true then match b e S1 with
      | .nx e2 S2 => whF c b n e2 S2
      | .ct e2 S2 => whF c b n e2 S2
      | .bk e2 S2 => .nx e2 S2
      | .rt d S2 => .rt d S2
      | .rse x e2 S2 => .rse x e2 S2
      | .bad => .bad
    else .nx e S1
/-- .. of any number: the least that ends -/
noncomputable def whM (c : MT) (b : MS) : MS := fun e S => open Classical in if h : ∃ n, whF c b n e S ≠ .bad then whF c b h.choose e S else .bad
theorem whF_succ {c : MT} {b : MS} {n : Nat} {e : Sl} {S : Sto} : whF c b (n + 1) e S = bindT (c e S) e fun k S1 => if k = true then match b e S1 with
      | .nx e2 S2 => whF c b n e2 S2
      | .ct e2 S2 => whF c b n e2 S2
      | .bk e2 S2 => .nx e2 S2
      | .rt d S2 => .rt d S2
      | .rse x e2 S2 => .rse x e2 S2
      | .bad => .bad
    else .nx e S1 := rfl
theorem whF_more {c : MT} {b : MS} : ∀ {n : Nat} {e : Sl} {S : Sto}, whF c b n e S ≠ .bad → whF c b (n + 1) e S = whF c b n e S
  | 0, e, S, h => (h rfl).elim
  | n + 1, e, S, h => by
    have key : ∀ k S1, (if k = true then match b e S1 with
        | .nx e2 S2 => whF c b n e2 S2
        | .ct e2 S2 => whF c b n e2 S2
        | .bk e2 S2 => .nx e2 S2
        | .rt d S2 => .rt d S2
        | .rse x e2 S2 => .rse x e2 S2
        | .bad => .bad
      else .nx e S1) ≠ Rt.bad → (if k = true then match b e S1 with
        | .nx e2 S2 => whF c b (n + 1) e2 S2
        | .ct e2 S2 => whF c b (n + 1) e2 S2
        | .bk e2 S2 => .nx e2 S2
        | .rt d S2 => .rt d S2
        | .rse x e2 S2 => .rse x e2 S2
        | .bad => .bad
      else .nx e S1) = (if k = true then match b e S1 with
        | .nx e2 S2 => whF c b n e2 S2
        | .ct e2 S2 => whF c b n e2 S2
        | .bk e2 S2 => .nx e2 S2
        | .rt d S2 => .rt d S2
        | .rse x e2 S2 => .rse x e2 S2
        | .bad => .bad
      else .nx e S1) := fun k S1 hk => by
      cases k with
      | false => rfl
      | true =>
        rw [if_pos rfl] at hk ⊢
        rw [if_pos rfl]
        cases hb : b e S1 with
        | nx e2 S2 => rw [hb] at hk; exact whF_more hk
        | ct e2 S2 => rw [hb] at hk; exact whF_more hk
        | _ => rfl
    unfold whF at h
    show bindT (c e S) e _ = bindT (c e S) e _
    cases hc : c e S with
    | ok k S1 => rw [hc] at h; exact key k S1 h
    | rse x S1 => rfl
    | bad => rfl
theorem whF_mono {c : MT} {b : MS} {n : Nat} {e : Sl} {S : Sto} (h : whF c b n e S ≠ .bad) : ∀ k : Nat, whF c b (n + k) e S = whF c b n e S
  | 0 => rfl
  | k + 1 => by
    have ih := whF_mono h k
    rw [← Nat.add_assoc, whF_more (by rw [ih]; exact h), ih]
theorem whM_eq {c : MT} {b : MS} {n : Nat} {e : Sl} {S : Sto} (h : whF c b n e S ≠ .bad) : whM c b e S = whF c b n e S := by
  have hx : ∃ n, whF c b n e S ≠ .bad := ⟨n, h⟩
  unfold whM
  rw [dif_pos hx]
  have h2 := hx.choose_spec
  rcases Nat.le_total n hx.choose with l | l
  · obtain ⟨k, hk⟩ := Nat.exists_eq_add_of_le l
    rw [hk, whF_mono h]
  · obtain ⟨k, hk⟩ := Nat.exists_eq_add_of_le l
    have := whF_mono h2 k
    rw [← hk] at this
    exact this.symm
theorem whM_some {c : MT} {b : MS} {e : Sl} {S : Sto} (h : whM c b e S ≠ .bad) : ∃ n, whF c b n e S ≠ .bad ∧ whM c b e S = whF c b n e S := by
  unfold whM at h ⊢
  split at h
  · rename_i hx
    rw [dif_pos hx]
    exact ⟨_, hx.choose_spec, rfl⟩
  · exact (h rfl).elim
/-- one turn -/
theorem whM_step {c : MT} {b : MS} {e e2 : Sl} {S S1 S2 : Sto} (hc : c e S = .ok true S1) (hb : b e S1 = .nx e2 S2 ∨ b e S1 = .ct e2 S2) : whM c b e S = whM c b e2 S2 := by
  have one : ∀ n, whF c b (n + 1) e S = whF c b n e2 S2 := fun n => by
    rw [whF_succ, hc]
    dsimp only [bindT]
    rw [if_pos rfl]
    rcases hb with h | h <;> rw [h]
  by_cases h : whM c b e2 S2 = .bad
  · by_cases h2 : whM c b e S = .bad
    · rw [h, h2]
    · obtain ⟨n, h3, h4⟩ := whM_some h2
      cases n with
      | zero => exact (h3 rfl).elim
      | succ n =>
        rw [one] at h3 h4
        rw [h4, whM_eq h3]
  · obtain ⟨n, h3, h4⟩ := whM_some h
    rw [h4, ← one n, whM_eq (n := n + 1) (by rw [one]; exact h3)]
theorem whM_end {c : MT} {b : MS} {e : Sl} {S S1 : Sto} (hc : c e S = .ok false S1) : whM c b e S = .nx e S1 := by
  have one : whF c b 1 e S = .nx e S1 := by
    show bindT (c e S) e _ = _
    rw [hc]
    rfl
  rw [whM_eq (n := 1) (by rw [one]; exact fun h => by cases h), one]
theorem whM_out {c : MT} {b : MS} {e : Sl} {S S1 : Sto} (hc : c e S = .ok true S1) : (∀ d S2, b e S1 = .rt d S2 → whM c b e S = .rt d S2) ∧ (∀ e2 S2, b e S1 = .bk e2 S2 → whM c b e S = .nx e2 S2) ∧ ∀ x e2 S2, b e S1 = .rse x e2 S2 → whM c b e S = .rse x e2 S2 := by
  have one : whF c b 1 e S = match b e S1 with
      | .nx e2 S2 => .bad
      | .ct e2 S2 => .bad
      | .bk e2 S2 => .nx e2 S2
      | .rt d S2 => .rt d S2
      | .rse x e2 S2 => .rse x e2 S2
      | .bad => .bad := by
    rw [whF_succ, hc]
    dsimp only [bindT]
    rw [if_pos rfl]
    rfl
  refine ⟨fun d S2 h => ?_, fun e2 S2 h => ?_, fun x e2 S2 h => ?_⟩ <;> (rw [h] at one; rw [whM_eq (n := 1) (by rw [one]; exact fun h => by cases h), one])
theorem sv_while {body : List Stmt} {mb : MS} (hp : PassesOwn (model X.prog X.w) X.A X.env X.xe) (hc : TV X ca e mt) (hb : BV X ca body mb) : SV X ca (.While e body [] pos) (whM mt mb) :=
  fun W tk => weakS (ps_while hp (hc W tk) (hb W tk)) fun D s H ⟨q, e, S, at_, pr⟩ => by
    have nb : whM mt mb e S ≠ .bad := fun z => by rw [z] at pr; exact pr.elim
    obtain ⟨n, hn, he⟩ := whM_some nb
    rw [he] at pr
    refine ⟨fun n s H => ∃ q e S, At X.K ca q s H e S ∧ PRt X.K ca W q H D (whF mt mb n e S), ⟨n, q, e, S, at_, pr⟩, ?_⟩
    rintro n s H ⟨q, e, S, at_, pr⟩
    cases n with
    | zero => exact pr.elim
    | succ n =>
      unfold whF at pr
      refine ⟨q, e, S, at_, PR.bindT at_.sl pr fun q1 H1 b b' S1 g1 eb s1 pr1 => ?_⟩
      obtain rfl : b = b' := eb
      cases b with
      | false => exact pr1 q1 H1 s .refl (at_.sl.grow g1) s1
      | true =>
        rw [if_pos rfl] at pr1 ⊢
        refine ⟨fun s H => ∃ q e S, At X.K ca q s H e S ∧ PRt X.K ca W q H D (whF mt mb n e S), fun s' H' h => ⟨n, Nat.lt_succ_self _, h⟩, q1, e, S1, ⟨at_.sl.grow g1, s1⟩, ?_⟩
        cases hr : mb e S1 with
        | nx e4 S4 =>
          rw [hr] at pr1
          exact fun q4 H4 s4 g4 sl4 so4 => ⟨q4, e4, S4, ⟨sl4, so4⟩, pr1.grow g4⟩
        | ct e4 S4 =>
          rw [hr] at pr1
          exact fun q4 H4 s4 g4 sl4 so4 => ⟨q4, e4, S4, ⟨sl4, so4⟩, pr1.grow g4⟩
        | bk e4 S4 => rw [hr] at pr1; exact pr1
        | rt d S4 => rw [hr] at pr1; exact pr1
        | rse x e4 S4 => rw [hr] at pr1; exact pr1
        | bad => rw [hr] at pr1; exact pr1

/-! ### calls -/
def clM (n : Nat) (f : List D → Sto → Rs D) (m : MA) : ME := fun e S => bindR (m e S) fun ds S1 => if ds.length = n then f ds S1 else .bad
/-- a def's promise: what it hands back is f's -/
def spM (K : PySem.W.Frag) (ca : Nat → Addr) (n : Nat) (f : List D → Sto → Rs D) : Sp := fun vs H Q E => vs.length = n ∧ ∃ q S ds, StoOk K ca q H S ∧ Reps K q H vs ds ∧ PR (RelD K) K ca E q H Q (f ds S)
theorem ev_call {f : Addr} {fd : FuncData} {ps : List Str} {n k : Nat} {x : Str} {mf : List D → Sto → Rs D} (F : FnOk X.prog X.w X.K X.mg X.base (L2.CX X.prog X.w) k f fd ps (spM X.K ca n mf)) (hr : Room k X.A) (hg : Gl X x) (hm : X.mg x = some (.ref f)) (hk : PySem.W.keepIn X.K (.ref f) = true)
    (hb : Binds X.K fd ps []) (ha : AV X ca (e :: es) ms) (hdb : (x == ("__debug__" : Str)) = false := by decide) (he : starEach (e :: es) X.env = (false, eval e X.env) :: starEach es X.env := by rfl) (hpl : (backTo pos (starEach es X.env)).any (·.1) = false := by rfl) :
    EV X ca (.Call (.Name x p) (e :: es) [] pos) (clM n mf ms) := fun W tk => weakE (pe_callS F hr hg hm hk hb (fun σ => passAt tk σ) (ha W tk) hdb he hpl) fun s H Q ⟨q, e, S, at_, pr⟩ => ⟨q, e, S, at_, PR.bind antiD pr fun q1 H1 vs ds S1 g1 rv s1 pr1 => by
  split at pr1
  · rename_i hl
    exact ⟨by rw [rv.length, hl], q1, S1, ds, s1, rv, pr1⟩
  · exact pr1.elim⟩
/-- the slots at the entry -/
def startD (n : Nat) (ds : List D) : Sl := ds.map some ++ List.replicate (n - ds.length) none
/-- a def, by its body -/
def fnM (n : Nat) (b : MS) (ds : List D) (S : Sto) : Rs D := match b (startD n ds) S with
  | .nx _ S1 => .ok .non S1
  | .rt d S1 => .ok d S1
  | .rse x _ S1 => .rse x S1
  | _ => .bad
theorem start_ok {K : PySem.W.Frag} {r : List Addr} {H : Hp} {N : List Str} {vs : List V} {ds : List D} (h : Reps K r H vs ds) : SlOk K r H (L2.start N vs) (startD N.length ds) := by
  unfold L2.start startD
  refine ⟨by simp [h.length], fun i d hi => ?_⟩
  by_cases hl : i < ds.length
  · rw [List.getElem?_append_left (by simpa using hl), List.getElem?_map] at hi
    obtain ⟨d', h1, h2⟩ := Option.map_eq_some_iff.mp hi
    cases h2
    obtain ⟨v, h3, h4⟩ := h.get h1
    exact ⟨v, by rw [List.getElem?_append_left (by rw [List.length_map, h.length]; exact hl), List.getElem?_map, h3]; rfl, h4⟩
  · rw [List.getElem?_append_right (by simpa using hl), List.getElem?_replicate] at hi
    split at hi <;> cases hi
theorem def_ok {P : Program} {w : World} {K : PySem.W.Frag} {mg : Str → Option Value} {base : Heap} {x qual : Str} {st : Stmt} {f : Addr} {fd : FuncData} {N ps : List Str} {k n : Nat} {b : MS} (F : Fun K x qual st f fd) (S : FnScope N ps (defScope st)) (hn : ps.length = n)
    (hb : ∀ (cdv : Value) (A : Around) (outer : List PySem.Env) (s : Shared) (H : Hp) (E : XK), Room k (A.deeper (PyProof.Rows.envOfC qual (defScope st) s.heap.objs.size f cdv)) →
      BV (cxOf (L2.CX P w) P w K mg base N qual (defScope st) f cdv A outer s H E) ca (defBody st) b) :
    FnOk P w K mg base (L2.CX P w) (k + 1) f fd ps (spM K ca n (fnM N.length b)) := by
  refine F.okX S (fun vs H Q E h => h.1.trans hn.symm) fun cdv A outer s H vs Q E hr h => ?_
  obtain ⟨hl, q, S, ds, so, rv, pr⟩ := h
  refine ⟨_, hb cdv A outer s H E hr (fun c d _ H => E c d H) (takes_of rfl rfl rfl rfl), q, startD N.length ds, S, ⟨start_ok rv, so⟩, ?_⟩
  show PRt K ca _ q H _ (b (startD N.length ds) S)
  unfold fnM at pr
  cases hr : b (startD N.length ds) S with
  | nx e S1 =>
    rw [hr] at pr
    exact fun r' H' s' g _ so => pr r' H' .non g .non so
  | rt d S1 =>
    rw [hr] at pr
    exact pr
  | rse x e S1 =>
    rw [hr] at pr
    exact fun r' H' s' c d g _ xr so => pr r' H' c d g xr so
  | bk e S1 => rw [hr] at pr; exact pr.elim
  | ct e S1 => rw [hr] at pr; exact pr.elim
  | bad => rw [hr] at pr; exact pr.elim
/-- at no level: nothing is promised -/
theorem def_zero {P : Program} {w : World} {K : PySem.W.Frag} {mg : Str → Option Value} {base : Heap} {f : Addr} {fd : FuncData} {ps : List Str} {n j : Nat} (hn : ps.length = n) : FnOk P w K mg base (L2.CX P w) j f fd ps (spM K ca n fun _ _ => .bad) :=
  ⟨fun vs H Q E h => h.1.trans hn.symm, fun A outer s H args us vs Q E _ _ _ _ h => by
    obtain ⟨_, _, _, _, _, _, z⟩ := h
    exact z.elim⟩
end
end L3

/-! L3J: tuple * int at every count. -/
namespace L3
open PySem PySem.Spec L2 PyProof.Rows
theorem tuple_mulSame (l : Addr) (items : Array Value) (n : Nat) (dd : Option Addr) (sl : Array (Option Value)) (x : Int) (u : Tok) (c0 : (decide (x < -(2 ^ 63)) || decide (x ≥ 2 ^ 63)) = false) (c1 : (items.isEmpty || x == 1) = true) :
    Meets (Builtin.«tuple.__mul__» ⟨[.ref l, .int x u], []⟩) (fun _ R s => s.heap.get? l = some { cls := .type "tuple", dict := dd, data := .seq items n, slots := sl } ∧ R (.ok (.ret (Value.ref l))) s) :=
  .of_wp fun prog w A R s h => by
    obtain ⟨hp, g, d, tk, os⟩ := s
    obtain ⟨hl, h⟩ := h
    have f1 := AutoSeq1.idx_int
    wp_walk using wpAny_loadPart' hl
    repeat (first
      | (refine wpAny_ite_false (decide_eq_false (by rw [c0]; exact Bool.false_ne_true)) ?_; wp_walk using wpAny_loadPart' hl)
      | (refine wpAny_ite_true (decide_eq_true (by rw [c1])) ?_; wp_walk using wpAny_loadPart' hl))
    exact ⟨_, rfl, h⟩
theorem tuple_mulNone (l : Addr) (items : Array Value) (n : Nat) (dd : Option Addr) (sl : Array (Option Value)) (x : Int) (u : Tok) (c0 : (decide (x < -(2 ^ 63)) || decide (x ≥ 2 ^ 63)) = false) (c1 : (items.isEmpty || x == 1) = false) (c2 : (decide (x ≤ 0) || items.isEmpty) = true) :
    Meets (Builtin.«tuple.__mul__» ⟨[.ref l, .int x u], []⟩) (fun _ R s => s.heap.get? l = some { cls := .type "tuple", dict := dd, data := .seq items n, slots := sl } ∧
      R (.ok (.ret (Value.ref s.heap.objs.size))) { s with heap := s.heap.push { cls := Value.type "tuple", data := Data.seq #[] }, toks := s.toks }) :=
  .of_wp fun prog w A R s h => by
    obtain ⟨hp, g, d, tk, os⟩ := s
    obtain ⟨hl, h⟩ := h
    have f1 := AutoSeq1.idx_int
    wp_walk using wpAny_loadPart' hl
    repeat (first
      | (refine wpAny_ite_false (decide_eq_false (by rw [c0]; exact Bool.false_ne_true)) ?_; wp_walk using wpAny_loadPart' hl)
      | (refine wpAny_ite_false (decide_eq_false (by rw [c1]; exact Bool.false_ne_true)) ?_; wp_walk using wpAny_loadPart' hl)
      | (refine wpAny_ite_true (decide_eq_true (by rw [c2])) ?_; wp_walk using wpAny_loadPart' hl))
    exact ⟨_, rfl, h⟩
section
variable {X : Cx}
def rRep1 (K : PySem.W.Frag) : R2 := fun x y H Q => ∃ l k xs, x = .ref l ∧ y = .int k ∧ SqT K H l xs ∧ -(2 ^ 63) ≤ k ∧ k < 2 ^ 63 ∧ (xs = [] ∨ k ≤ 1) ∧ (xs = [] ∨ k = 1 → Q (.ref l) H) ∧ (xs ≠ [] → k ≤ 0 → ∀ p, H p = none → Q (.ref p) (upd H p (.tup [])))
theorem op_rep1 : OpR X (binaryOp .Mult) (rRep1 X.K) := by
  intro pins s σ H x y v u Q I rx ry h
  obtain ⟨l, k, xs, rfl, rfl, hT, h1, h2, h3, q1, q2⟩ := h
  cases rx
  obtain ⟨t, rfl⟩ := ry
  obtain ⟨its, r, ⟨⟨cls, dd, data, sl⟩, ho, hc, n, hd⟩, hs⟩ := I.tuple hT
  simp only at hc hd
  subst hc hd
  have hle : its.length = xs.length := r.length.symm
  have c0 : (decide (k < -(2 ^ 63)) || decide (k ≥ 2 ^ 63)) = false := by
    rw [decide_eq_false (by omega), decide_eq_false (by omega)] <;> rfl
  by_cases hsame : xs = [] ∨ k = 1
  · have c1 : (its.toArray.isEmpty || k == 1) = true := by
      rcases hsame with e | e
      · subst e
        have : its = [] := List.eq_nil_of_length_eq_zero (by simpa using hle)
        subst this
        rfl
      · subst e
        simp
    exact wpAny_binaryOp_repeat_ref (T := "tuple") (U := "int") (by decide) ⟨_, ho, rfl⟩ (fun s' => typeIs_int s' k t) noFill_tuple_mul F.fills_int_mul F.slot_int_rmul repeat_tuple F.slot_int_index.lookup
      (call_meets F.slot_int_rmul (typeIs_int s k t) F.entry_int_rmul (F.args_int_rmul_2 _ _) (int_rmul_tuple k t l its.toArray n dd sl)
        ⟨ho, rfl, ⟨_, ho, rfl⟩, call_meets F.slot_tuple_mul ⟨_, ho, rfl⟩ F.entry_tuple_mul (F.args_tuple_mul_2 _ _) (tuple_mulSame l its.toArray n dd sl k t c0 c1) ⟨ho, .ref l, H, I, rfl, q1 hsame⟩⟩)
  · have hne : xs ≠ [] := fun e => hsame (.inl e)
    have hk : k ≤ 0 := by
      rcases h3 with e | e
      · exact (hne e).elim
      · have : k ≠ 1 := fun e => hsame (.inr e)
        omega
    have hn : its ≠ [] := fun e => hne (by
      rw [e] at hle
      exact List.eq_nil_of_length_eq_zero hle.symm)
    have hi : its.toArray.isEmpty = false := by
      cases its with
      | nil => exact absurd rfl hn
      | cons a b => rfl
    have c1 : (its.toArray.isEmpty || k == 1) = false := by
      rw [hi, Bool.false_or]
      exact beq_eq_false_iff_ne.mpr (by omega)
    have c2 : (decide (k ≤ 0) || its.toArray.isEmpty) = true := by rw [decide_eq_true hk]; rfl
    refine wpAny_binaryOp_repeat_ref (T := "tuple") (U := "int") (by decide) ⟨_, ho, rfl⟩ (fun s' => typeIs_int s' k t) noFill_tuple_mul F.fills_int_mul F.slot_int_rmul repeat_tuple F.slot_int_index.lookup
      (call_meets F.slot_int_rmul (typeIs_int s k t) F.entry_int_rmul (F.args_int_rmul_2 _ _) (int_rmul_tuple k t l its.toArray n dd sl)
        ⟨ho, rfl, ⟨_, ho, rfl⟩, call_meets F.slot_tuple_mul ⟨_, ho, rfl⟩ F.entry_tuple_mul (F.args_tuple_mul_2 _ _) (tuple_mulNone l its.toArray n dd sl k t c0 c1 c2) ⟨ho, ?_⟩⟩)
    refine ⟨.ref s.heap.objs.size, _, I.laid (t' := s.toks) (o := .tup []) (fun b ob q => Heap.get?_push_of_some _ q) (Nat.le_refl _) ?_, rfl, q2 hne hk _ (I.hok.fresh (Nat.le_refl _))⟩
    exact ⟨Nat.zero_le _, [], .nil, IsTup.new _ _⟩
end
end L3

/-! L3C: operators, comparisons, subscripts, built-ins, methods. -/
namespace L3
open PySem PySem.Spec L2
section
variable {X : Cx} {ca : Nat → Addr} {a b c o e : Expr} {es : List Expr} {ma mb mc m mo : ME} {mt : MT} {ms : MA} {pos p apos cpos : Pos}

/-! ### laying, writing, in one step -/
theorem PR.put {K : PySem.W.Frag} {q : List Addr} {H : Hp} {W : Value → Option Addr → Hp → Prop} {Q : VK} {S : Sto} {d : D} {v : V} (pr : PR (RelD K) K ca W q H Q (.ok d S)) (rv : Rep K q H v d) (s : StoOk K ca q H S) : Q v H := pr q H v .refl rv s
theorem PR.tupNew {K : PySem.W.Frag} {q : List Addr} {H : Hp} {W : Value → Option Addr → Hp → Prop} {Q : VK} {S : Sto} {l : List D} {vs : List V} {p : Addr} (pr : PR (RelD K) K ca W q H Q (.ok (.tup l) S)) (rv : Reps K q H vs l) (s : StoOk K ca q H S) (hp : H p = none) :
    Q (.ref p) (upd H p (.tup vs)) := pr q _ _ (Grow.laid hp) (.tup (.inl (.inl upd_same)) (rv.grow (Grow.laid hp))) (s.laid hp)
theorem PR.lstNew {K : PySem.W.Frag} {q : List Addr} {H : Hp} {W : Value → Option Addr → Hp → Prop} {Q : VK} {S : Sto} {l : List D} {vs : List V} {p : Addr} (pr : PR (RelL K) K ca W q H Q (.ok l S)) (rv : Reps K q H vs l) (s : StoOk K ca q H S) (hp : H p = none) :
    Q (.ref p) (upd H p (.lst vs)) := pr q _ _ (Grow.laid hp) ⟨p, vs, rfl, hp, s.free hp, upd_same, rv.grow (Grow.laid hp)⟩ (s.laid hp)
theorem sto_set {K : PySem.W.Frag} {q : List Addr} {H : Hp} {S : Sto} {l : List D} {n : Nat} {vs ws : List V} {p : Addr} (s : StoOk K ca q H S) (hn : q[n]? = some p) (hp : H p = some (.lst vs)) (rw' : Reps K q H ws l) :
    Grow K q H q (upd H p (.lst ws)) ∧ StoOk K ca q (upd H p (.lst ws)) (S.set n (.lst l)) := by
  have g : Grow K q H q (upd H p (.lst ws)) := Grow.written (List.mem_of_getElem? hn) hp (.lst vs)
  exact ⟨g, s.write hn hp (.lst vs) ⟨ws, upd_same, rw'.grow g⟩⟩

/-! ### numbers -/
def intD (C : Int → Int → Prop) [∀ i j, Decidable (C i j)] (g : Int → Int → D) (x y : D) (S : Sto) : Rs D := match x, y with
  | .int i, .int j => if C i j then .ok (g i j) S else .bad
  | _, _ => .bad
def intD0 (g : Int → Int → D) (x y : D) (S : Sto) : Rs D := match x, y with
  | .int i, .int j => .ok (g i j) S
  | _, _ => .bad
theorem ok_I0 {K : PySem.W.Frag} {g : Int → Int → V} {g' : Int → Int → D} (h : ∀ i j r H, Rep K r H (g i j) (g' i j)) : OpOk K ca (rI0 g) (intD0 g') := by
  intro q H S x y d e W Q s rx ry pr
  unfold intD0 at pr
  split at pr
  · rw [rx.int_of, ry.int_of]
    exact ⟨_, _, rfl, rfl, pr.put (h _ _ _ _) s⟩
  · exact pr.elim
theorem ok_I {K : PySem.W.Frag} {C : Int → Int → Prop} [∀ i j, Decidable (C i j)] {g : Int → Int → V} {g' : Int → Int → D} (h : ∀ i j r H, Rep K r H (g i j) (g' i j)) : OpOk K ca (rI C g) (intD C g') := by
  intro q H S x y d e W Q s rx ry pr
  unfold intD at pr
  split at pr
  · split at pr
    · rename_i hc
      rw [rx.int_of, ry.int_of]
      exact ⟨_, _, rfl, rfl, hc, pr.put (h _ _ _ _) s⟩
    · exact pr.elim
  · exact pr.elim
instance {i j : Int} : Decidable (CMul i j) := by unfold CMul; infer_instance
instance {i j : Int} : Decidable (CDiv i j) := by unfold CDiv; infer_instance
instance {i j : Int} : Decidable (CPow i j) := by unfold CPow; infer_instance
/-- two rules for one operation, by what the values are -/
theorem OpOk.or {K : PySem.W.Frag} {r r' : R2} {f f' : D → D → Sto → Rs D} (h : OpOk K ca r f) (h' : OpOk K ca r' f') (g : D → D → Sto → Rs D) (hg : ∀ d e S, g d e S = f d e S ∨ g d e S = f' d e S) :
    OpOk K ca (fun x y H Q => r x y H Q ∨ r' x y H Q) g := by
  intro q H S x y d e W Q s rx ry pr
  rcases hg d e S with z | z
  · rw [z] at pr
    exact .inl (h q H S x y d e W Q s rx ry pr)
  · rw [z] at pr
    exact .inr (h' q H S x y d e W Q s rx ry pr)

/-! #### + -/
def addSD (x y : D) (S : Sto) : Rs D := match x, y with
  | .str i, .str j => if i.length + j.length ≤ sizeLine then .ok (.str (i ++ j)) S else .bad
  | _, _ => .bad
def addTD (x y : D) (S : Sto) : Rs D := match x, y with
  | .tup i, .tup j => if i.length + j.length ≤ sizeLine then .ok (.tup (i ++ j)) S else .bad
  | _, _ => .bad
def lstO (d : D) (S : Sto) : Option (List D) := match d with
  | .obj n => match S[n]? with
    | some (.lst l) => some l
    | _ => none
  | _ => none
def addLD (x y : D) (S : Sto) : Rs D := match lstO x S, lstO y S with
  | some i, some j => if i.length + j.length ≤ sizeLine then .ok (.obj S.length) (S ++ [.lst (i ++ j)]) else .bad
  | _, _ => .bad
def addD (x y : D) (S : Sto) : Rs D := match x, y with
  | .int i, .int j => .ok (.int (i + j)) S
  | .str i, .str j => if i.length + j.length ≤ sizeLine then .ok (.str (i ++ j)) S else .bad
  | .tup i, .tup j => if i.length + j.length ≤ sizeLine then .ok (.tup (i ++ j)) S else .bad
  | .obj i, .obj j => addLD (.obj i) (.obj j) S
  | _, _ => .bad
theorem PR.objNew {K : PySem.W.Frag} {q : List Addr} {H : Hp} {W : Value → Option Addr → Hp → Prop} {Q : VK} {S : Sto} {l : List D} {vs : List V} {p : Addr} (pr : PR (RelD K) K ca W q H Q (.ok (.obj S.length) (S ++ [.lst l]))) (rv : Reps K q H vs l) (s : StoOk K ca q H S) (hp : H p = none) :
    Q (.ref p) (upd H p (.lst vs)) := by
  have g : Grow K q H (q ++ [p]) (upd H p (.lst vs)) := Grow.alloc hp
  refine pr _ _ _ g (.obj ?_) (s.alloc hp ⟨vs, upd_same, rv.grow g⟩)
  rw [List.getElem?_append_right (by rw [s.len]; exact Nat.le_refl _), s.len]
  simp
theorem lstO_ok {K : PySem.W.Frag} {q : List Addr} {H : Hp} {S : Sto} {x : V} {d : D} {l : List D} (s : StoOk K ca q H S) (rx : Rep K q H x d) (h : lstO d S = some l) : ∃ (p : Addr) (vs : List V), x = .ref p ∧ H p = some (.lst vs) ∧ Reps K q H vs l := by
  unfold lstO at h
  split at h
  · obtain ⟨p, rfl, hn⟩ := rx.obj_of
    split at h
    · rename_i l' el
      cases h
      obtain ⟨vs, h1, h2⟩ := lst_at s hn el
      exact ⟨p, vs, rfl, h1, h2⟩
    · cases h
  · cases h
theorem ok_addL {K : PySem.W.Frag} : OpOk K ca rCat addLD := by
  intro q H S x y d e W Q s rx ry pr
  unfold addLD at pr
  split at pr
  · rename_i i j e1 e2
    split at pr
    · rename_i hz
      obtain ⟨p, vs, rfl, h1, h2⟩ := lstO_ok s rx e1
      obtain ⟨p2, ws, rfl, h3, h4⟩ := lstO_ok s ry e2
      exact ⟨p, p2, vs, ws, rfl, rfl, h1, h3, by rw [h2.length, h4.length]; exact hz, fun a ha => pr.objNew (h2.append h4) s ha⟩
    · exact pr.elim
  · exact pr.elim
theorem ok_addS {K : PySem.W.Frag} : OpOk K ca (fun x y H Q => ∃ i j, x = .str i ∧ y = .str j ∧ i.length + j.length ≤ sizeLine ∧ Q (.str (i ++ j)) H) addSD := by
  intro q H S x y d e W Q s rx ry pr
  unfold addSD at pr
  split at pr
  · split at pr
    · rename_i hz
      rw [rx.str_of, ry.str_of]
      exact ⟨_, _, rfl, rfl, hz, pr.put (.str _) s⟩
    · exact pr.elim
  · exact pr.elim
theorem ok_addT {K : PySem.W.Frag} : OpOk K ca (rCatA K) addTD := by
  intro q H S x y d e W Q s rx ry pr
  unfold addTD at pr
  split at pr
  · rename_i l1 l2
    split at pr
    · rename_i hz
      obtain ⟨a, xs, rfl, h1, h2⟩ := rx.tup_of
      obtain ⟨b, ys, rfl, h3, h4⟩ := ry.tup_of
      refine ⟨a, b, xs, ys, rfl, rfl, h1, h3, by rw [h2.length, h4.length]; exact hz, fun ex => ?_, fun _ ey => ?_, fun _ _ p hp => pr.tupNew (h2.append h4) s hp⟩
      · subst ex
        have e0 : l1 = [] := by cases h2; rfl
        subst e0
        exact pr.put ry s
      · subst ey
        have e0 : l2 = [] := by cases h4; rfl
        subst e0
        rw [List.append_nil] at pr
        exact pr.put rx s
    · exact pr.elim
  · exact pr.elim

theorem ok_add {K : PySem.W.Frag} : OpOk K ca (fun x y H Q => rI0 (fun i j => .int (i + j)) x y H Q ∨ ((∃ i j, x = .str i ∧ y = .str j ∧ i.length + j.length ≤ sizeLine ∧ Q (.str (i ++ j)) H) ∨ (rCatA K x y H Q ∨ rCat x y H Q))) addD := by
  intro q H S x y d e W Q s rx ry pr
  cases d <;> cases e <;> first
    | exact .inl (ok_I0 (g' := fun i j => .int (i + j)) (fun _ _ _ _ => .int _) q H S x y _ _ W Q s rx ry pr)
    | exact .inr (.inl (ok_addS q H S x y _ _ W Q s rx ry pr))
    | exact .inr (.inr (.inl (ok_addT q H S x y _ _ W Q s rx ry pr)))
    | exact .inr (.inr (.inr (ok_addL q H S x y _ _ W Q s rx ry pr)))
    | exact pr.elim
theorem ev_add (ha : EV X ca a ma) (hb : EV X ca b mb) : EV X ca (.BinOp a .Add b pos) (opM addD ma mb) := ev_op (op_add.or (op_add_str.or (op_catA.or op_cat))) ok_add ha hb
def subD : D → D → Sto → Rs D := intD0 fun i j => .int (i - j)
def fdivD : D → D → Sto → Rs D := intD CDiv fun i j => .int (i / j)
def modD : D → D → Sto → Rs D := intD (fun _ j => 0 < j) fun i j => .int (i % j)
def powD : D → D → Sto → Rs D := intD CPow fun i j => .int (i ^ j.toNat)
def repL (n : Nat) (l : List D) : List D := (List.replicate n l).flatten
/-- ints, or a tuple of at most a thousand items so many times -/
def mulTD (x y : D) (S : Sto) : Rs D := match x, y with
  | .tup l, .int k => if l.length ≤ 1000 ∧ -1000 ≤ k ∧ k ≤ 1000 then .ok (.tup (repL k.toNat l)) S else .bad
  | _, _ => .bad
def mulD (x y : D) (S : Sto) : Rs D := match x, y with
  | .int i, .int j => if CMul i j then .ok (.int (i * j)) S else .bad
  | .tup l, .int k => mulTD (.tup l) (.int k) S
  | _, _ => .bad
theorem repL_nil {n : Nat} : repL n [] = [] := by
  unfold repL
  induction n with
  | zero => rfl
  | succ n ih => rw [List.replicate_succ, List.flatten_cons, ih]; rfl
theorem repL_one {l : List D} : repL 1 l = l := by simp [repL]
theorem Reps.repeated {K : PySem.W.Frag} {q : List Addr} {H : Hp} {vs : List V} {l : List D} (h : Reps K q H vs l) : ∀ n : Nat, Reps K q H (List.replicate n vs).flatten (repL n l)
  | 0 => .nil
  | n + 1 => by
    unfold repL
    rw [List.replicate_succ, List.replicate_succ, List.flatten_cons, List.flatten_cons]
    exact h.append (Reps.repeated h n)
theorem ok_mulT {K : PySem.W.Frag} : OpOk K ca (fun x y H Q => rRepT K x y H Q ∨ rRep1 K x y H Q) mulTD := by
  intro q H S x y d e W Q s rx ry pr
  unfold mulTD at pr
  split at pr
  · rename_i l k
    split at pr
    · rename_i hz
      obtain ⟨hz, hk1, hk2⟩ := hz
      obtain ⟨a, xs, rfl, h1, h2⟩ := rx.tup_of
      rw [ry.int_of]
      by_cases hb : xs ≠ [] ∧ 2 ≤ k
      · exact .inl ⟨a, k, xs, rfl, rfl, h1, hb.1, hb.2, hk2, by rw [h2.length]; exact hz, fun p hp => pr.tupNew (h2.repeated _) s hp⟩
      · refine .inr ⟨a, k, xs, rfl, rfl, h1, by omega, by omega, ?_, ?_, fun hne hk p hp => ?_⟩
        · by_cases he : xs = []
          · exact .inl he
          · exact .inr (by
              have : ¬ 2 ≤ k := fun z => hb ⟨he, z⟩
              omega)
        · rintro (rfl | rfl)
          · have e0 : l = [] := by cases h2; rfl
            subst e0
            rw [repL_nil] at pr
            exact pr.put rx s
          · rw [show (1 : Int).toNat = 1 from rfl, repL_one] at pr
            exact pr.put rx s
        · have e0 : k.toNat = 0 := by omega
          rw [e0] at pr
          exact pr.tupNew (vs := []) (l := []) .nil s hp
    · exact pr.elim
  · exact pr.elim
theorem ok_mul {K : PySem.W.Frag} : OpOk K ca (fun x y H Q => rI CMul (fun i j => .int (i * j)) x y H Q ∨ (rRepT K x y H Q ∨ rRep1 K x y H Q)) mulD := by
  intro q H S x y d e W Q s rx ry pr
  cases d <;> cases e <;> first
    | exact .inl (ok_I (C := CMul) (g' := fun i j => .int (i * j)) (fun _ _ _ _ => .int _) q H S x y _ _ W Q s rx ry pr)
    | exact .inr (ok_mulT q H S x y _ _ W Q s rx ry pr)
    | exact pr.elim
theorem ev_sub (ha : EV X ca a ma) (hb : EV X ca b mb) : EV X ca (.BinOp a .Sub b pos) (opM subD ma mb) := ev_op op_sub (ok_I0 fun _ _ _ _ => .int _) ha hb
theorem ev_fdiv (ha : EV X ca a ma) (hb : EV X ca b mb) : EV X ca (.BinOp a .FloorDiv b pos) (opM fdivD ma mb) := ev_op op_fdiv (ok_I fun _ _ _ _ => .int _) ha hb
theorem ev_mod (ha : EV X ca a ma) (hb : EV X ca b mb) : EV X ca (.BinOp a .Mod b pos) (opM modD ma mb) := ev_op op_mod (ok_I fun _ _ _ _ => .int _) ha hb
theorem ev_pow (ha : EV X ca a ma) (hb : EV X ca b mb) : EV X ca (.BinOp a .Pow b pos) (opM powD ma mb) := ev_op op_pow (ok_I fun _ _ _ _ => .int _) ha hb
theorem ev_mul (ha : EV X ca a ma) (hb : EV X ca b mb) : EV X ca (.BinOp a .Mult b pos) (opM mulD ma mb) := ev_op (op_mul.or (op_repT.or op_rep1)) ok_mul ha hb
def negD (x : D) (S : Sto) : Rs D := match x with
  | .int i => .ok (.int (-i)) S
  | _ => .bad
theorem ev_neg (ha : EV X ca a ma) : EV X ca (.UnaryOp .USub a pos) (unM negD ma) := ev_un un_neg (fun q H S x d W Q s rx pr => by
  cases d with
  | int i => rw [rx.int_of]; exact ⟨i, rfl, pr.put (.int _) s⟩
  | _ => exact pr.elim) ha
theorem sv_augI {i : Nat} {x : Str} {pos' : Pos} (hN : X.N.Nodup) (hi : X.N[i]? = some x) (hx : Loc X.env.scope x) (he : EV X ca a m)
    (hfn : X.fn x = true ∨ X.env.scope.names.lookup x = some .local := by first | exact .inl rfl | exact .inr rfl | assumption) : SV X ca (.AugAssign (.Name x pos') .Add a pos) (augM i (intD0 fun i j => .int (i + j)) m) := sv_aug hN hi hx he iop_add (ok_I0 fun _ _ _ _ => .int _) hfn
theorem sv_subI {i : Nat} {x : Str} {pos' : Pos} (hN : X.N.Nodup) (hi : X.N[i]? = some x) (hx : Loc X.env.scope x) (he : EV X ca a m)
    (hfn : X.fn x = true ∨ X.env.scope.names.lookup x = some .local := by first | exact .inl rfl | exact .inr rfl | assumption) : SV X ca (.AugAssign (.Name x pos') .Sub a pos) (augM i subD m) := sv_aug hN hi hx he iop_sub (ok_I0 fun _ _ _ _ => .int _) hfn

/-! #### comparisons -/
def ltD : D → D → Sto → Rs D := intD0 fun i j => .bl (decide (i < j))
def leD : D → D → Sto → Rs D := intD0 fun i j => .bl (decide (i ≤ j))
def gtD : D → D → Sto → Rs D := intD0 fun i j => .bl (decide (j < i))
def geD : D → D → Sto → Rs D := intD0 fun i j => .bl (decide (j ≤ i))
theorem ok_lt {K : PySem.W.Frag} : OpOk K ca (rI0 fun i j => .bl (decide (i < j))) ltD := ok_I0 fun _ _ _ _ => .bl _
theorem ok_le {K : PySem.W.Frag} : OpOk K ca (rI0 fun i j => .bl (decide (i ≤ j))) leD := ok_I0 fun _ _ _ _ => .bl _
theorem ok_gt {K : PySem.W.Frag} : OpOk K ca (rI0 fun i j => .bl (decide (j < i))) gtD := ok_I0 fun _ _ _ _ => .bl _
theorem ok_ge {K : PySem.W.Frag} : OpOk K ca (rI0 fun i j => .bl (decide (j ≤ i))) geD := ok_I0 fun _ _ _ _ => .bl _
def isND (x y : D) (S : Sto) : Rs D := match y with
  | .non => .ok (.bl (decide (x = .non))) S
  | _ => .bad
def notND (x y : D) (S : Sto) : Rs D := match y with
  | .non => .ok (.bl (!decide (x = .non))) S
  | _ => .bad
theorem Rep.non_iff {K : PySem.W.Frag} {q : List Addr} {H : Hp} {x : V} {d : D} (h : Rep K q H x d) : decide (x = .non) = decide (d = .non) := by
  cases h <;> simp
theorem ok_isN {K : PySem.W.Frag} : OpOk K ca (fun x y H Q => y = .non ∧ Q (.bl (decide (x = .non))) H) isND := by
  intro q H S x y d e W Q s rx ry pr
  cases e with
  | non => exact ⟨ry.non_of, pr.put (by rw [rx.non_iff]; exact .bl _) s⟩
  | _ => exact pr.elim
theorem ok_notN {K : PySem.W.Frag} : OpOk K ca (fun x y H Q => y = .non ∧ Q (.bl (!decide (x = .non))) H) notND := by
  intro q H S x y d e W Q s rx ry pr
  cases e with
  | non => exact ⟨ry.non_of, pr.put (by rw [rx.non_iff]; exact .bl _) s⟩
  | _ => exact pr.elim
def isBD (x y : D) (S : Sto) : Rs D := match x, y with
  | .bl a, .bl b => .ok (.bl (decide (a = b))) S
  | _, _ => .bad
def notBD (x y : D) (S : Sto) : Rs D := match x, y with
  | .bl a, .bl b => .ok (.bl (!decide (a = b))) S
  | _, _ => .bad

/-! #### == of data -/
mutual
def toP (f : Nat → Option PyData) : D → Option PyData
  | .non => some .none
  | .bl b => some (.bool b)
  | .int i => some (.int i)
  | .str x => some (.str x)
  | .tup l => (toPs f l).map .tuple
  | .fz l => (toPs f l).map .list
  | .obj n => f n
def toPs (f : Nat → Option PyData) : List D → Option (List PyData)
  | [] => some []
  | x :: r => match toP f x, toPs f r with
    | some p, some ps => some (p :: ps)
    | _, _ => none
end
def objP (S : Sto) : Nat → Nat → Option PyData
  | 0, _ => none
  | k + 1, n => match S[n]? with
    | some (.lst l) => (toPs (objP S k) l).map .list
    | _ => none
def datP (S : Sto) (d : D) : Option PyData := toP (objP S 8) d
section
variable {K : PySem.W.Frag} {q : List Addr} {H : Hp} {S : Sto}
mutual
theorem toP_ok {f : Nat → Option PyData} (hf : ∀ (n : Nat) p a, f n = some p → q[n]? = some a → Dp K H (.ref a) p) : ∀ (d : D) (v : V) (p : PyData), Rep K q H v d → toP f d = some p → Dp K H v p
  | .non, v, p, r, e => by
    rw [r.non_of]; unfold toP at e; cases e; exact .non
  | .bl b, v, p, r, e => by
    rw [r.bl_of]; unfold toP at e; cases e; exact .bl b
  | .int i, v, p, r, e => by
    rw [r.int_of]; unfold toP at e; cases e; exact .int i
  | .str x, v, p, r, e => by
    rw [r.str_of]; unfold toP at e; cases e; exact .str x
  | .tup l, v, p, r, e => by
    obtain ⟨a, xs, rfl, h1, h2⟩ := r.tup_of
    unfold toP at e
    obtain ⟨ps, e1, rfl⟩ := Option.map_eq_some_iff.mp e
    exact .tup h1 (toPs_ok hf l xs ps h2 e1)
  | .fz l, v, p, r, e => by
    obtain ⟨a, xs, rfl, h1, h2⟩ := r.fz_of
    unfold toP at e
    obtain ⟨ps, e1, rfl⟩ := Option.map_eq_some_iff.mp e
    exact .lst h1.sq (toPs_ok hf l xs ps h2 e1)
  | .obj n, v, p, r, e => by
    obtain ⟨a, rfl, h⟩ := r.obj_of
    unfold toP at e
    exact hf n p a e h
theorem toPs_ok {f : Nat → Option PyData} (hf : ∀ (n : Nat) p a, f n = some p → q[n]? = some a → Dp K H (.ref a) p) : ∀ (l : List D) (vs : List V) (ps : List PyData), Reps K q H vs l → toPs f l = some ps → DpAll K H vs ps
  | [], vs, ps, r, e => by
    rw [r.nil_of]; unfold toPs at e; cases e; exact .nil
  | d :: l, vs, ps, r, e => by
    obtain ⟨v, t, rfl, r1, r2⟩ := r.cons_of
    unfold toPs at e
    split at e
    · rename_i p1 p2 e1 e2
      cases e
      exact .cons (toP_ok hf d v p1 r1 e1) (toPs_ok hf l t p2 r2 e2)
    · cases e
end
theorem objP_ok (s : StoOk K ca q H S) : ∀ (k n : Nat) (p : PyData) (a : Addr), objP S k n = some p → q[n]? = some a → Dp K H (.ref a) p
  | 0, n, p, a, e, h => by cases e
  | k + 1, n, p, a, e, h => by
    unfold objP at e
    split at e
    · rename_i l el
      obtain ⟨ps, e1, rfl⟩ := Option.map_eq_some_iff.mp e
      obtain ⟨vs, h1, h2⟩ := lst_at s h el
      exact .lst (SqL.of h1) (toPs_ok (fun n p a => objP_ok s k n p a) l vs ps h2 e1)
    · cases e
theorem datP_ok (s : StoOk K ca q H S) {d : D} {v : V} {p : PyData} (r : Rep K q H v d) (e : datP S d = some p) : Dp K H v p := toP_ok (objP_ok s 8) d v p r e
end
def eqP (x y : D) (S : Sto) : Option Bool := match datP S x, datP S y with
  | some p, some r => if SeqAt.shaped p = true ∧ SeqAt.shaped r = true then some (PyData.eqv p r) else none
  | _, _ => none
def eqD (x y : D) (S : Sto) : Rs D := match eqP x y S with
  | some k => .ok (.bl k) S
  | none => .bad
def neD (x y : D) (S : Sto) : Rs D := match eqP x y S with
  | some k => .ok (.bl (!k)) S
  | none => .bad
theorem eqP_some {x y : D} {S : Sto} {k : Bool} (h : eqP x y S = some k) : ∃ p r, datP S x = some p ∧ datP S y = some r ∧ SeqAt.shaped p = true ∧ SeqAt.shaped r = true ∧ k = PyData.eqv p r := by
  unfold eqP at h
  split at h
  · rename_i p r e1 e2
    split at h
    · rename_i hs
      cases h
      exact ⟨p, r, e1, e2, hs.1, hs.2, rfl⟩
    · cases h
  · cases h
theorem ok_eqD {K : PySem.W.Frag} : OpOk K ca (rEqD K) eqD := by
  intro q H S x y d e W Q s rx ry pr
  unfold eqD at pr
  split at pr
  · rename_i k h
    obtain ⟨p, r, e1, e2, h1, h2, rfl⟩ := eqP_some h
    exact ⟨p, r, datP_ok s rx e1, datP_ok s ry e2, h1, h2, pr.put (.bl _) s⟩
  · exact pr.elim
theorem ok_neD {K : PySem.W.Frag} : OpOk K ca (rNeD K) neD := by
  intro q H S x y d e W Q s rx ry pr
  unfold neD at pr
  split at pr
  · rename_i k h
    obtain ⟨p, r, e1, e2, h1, h2, rfl⟩ := eqP_some h
    exact ⟨p, r, datP_ok s rx e1, datP_ok s ry e2, h1, h2, pr.put (.bl _) s⟩
  · exact pr.elim

/-! ### subscripts -/
def ixD (x y : D) (S : Sto) : Rs D := match x, y with
  | .obj n, .int i => match S[n]? with
    | some (.lst l) => match atI l i with
      | some v => .ok v S
      | none => .bad
    | _ => .bad
  | .fz l, .int i => match atI l i with
    | some v => .ok v S
    | none => .bad
  | .tup l, .int i => match atI l i with
    | some v => .ok v S
    | none => .bad
  | .str z, .int i => if z.length ≤ sizeLine then match atI z.cps.toList i with
      | some c => .ok (.str ⟨#[c]⟩) S
      | none => .bad
    else .bad
  | _, _ => .bad
theorem Reps.atI {K : PySem.W.Frag} {q : List Addr} {H : Hp} {vs : List V} {l : List D} {i : Int} {d : D} (h : Reps K q H vs l) (e : atI l i = some d) : ∃ v, L2.atI vs i = some v ∧ Rep K q H v d := by
  unfold L2.atI at e ⊢
  obtain ⟨j, h1, h2⟩ := Option.bind_eq_some_iff.mp e
  obtain ⟨v, h3, h4⟩ := h.get h2
  exact ⟨v, by rw [h.length, h1]; exact h3, h4⟩
theorem ok_ix {K : PySem.W.Frag} : OpOk K ca (rIx K) ixD := by
  intro q H S x y d e W Q s rx ry pr
  unfold ixD at pr
  split at pr
  · rename_i n i
    obtain ⟨p, rfl, hn⟩ := rx.obj_of
    split at pr
    · rename_i l el
      split at pr
      · rename_i v hv
        obtain ⟨vs, h1, h2⟩ := lst_at s hn el
        obtain ⟨w, h3, h4⟩ := h2.atI hv
        exact .inl ⟨p, vs, i, w, rfl, ry.int_of, SqL.of h1, h3, pr.put h4 s⟩
      · exact pr.elim
    · exact pr.elim
  · rename_i l i
    obtain ⟨p, xs, rfl, h1, h2⟩ := rx.fz_of
    split at pr
    · rename_i v hv
      obtain ⟨w, h3, h4⟩ := h2.atI hv
      exact .inl ⟨p, xs, i, w, rfl, ry.int_of, h1.sq, h3, pr.put h4 s⟩
    · exact pr.elim
  · rename_i l i
    obtain ⟨p, xs, rfl, h1, h2⟩ := rx.tup_of
    split at pr
    · rename_i v hv
      obtain ⟨w, h3, h4⟩ := h2.atI hv
      exact .inr (.inl ⟨p, xs, i, w, rfl, ry.int_of, h1, h3, pr.put h4 s⟩)
    · exact pr.elim
  · rename_i z i
    split at pr
    · rename_i hz
      split at pr
      · rename_i c hc
        exact .inr (.inr ⟨z, i, c, rx.str_of, ry.int_of, hz, hc, pr.put (.str _) s⟩)
      · exact pr.elim
    · exact pr.elim
  · exact pr.elim
theorem ev_at (ha : EV X ca a ma) (hb : EV X ca b mb) (hs : PlainIx b := by exact fun _ _ => rfl) : EV X ca (.Subscript a b pos) (opM ixD ma mb) := ev_ix ix_seq ok_ix ha hb hs
/-- o[i] = v, a list -/
def setD (o i v : D) (S : Sto) : Option Sto := match o, i with
  | .obj n, .int k => match S[n]? with
    | some (.lst l) => match ixN l.length k with
      | some j => some (S.set n (.lst (l.set j v)))
      | none => none
    | _ => none
  | _, _ => none
theorem ok_setL {K : PySem.W.Frag} : SetOk K ca rSetL setD := by
  intro q H S S' o i v od id d Q s ro ri rv h k
  unfold setD at h
  split at h
  · rename_i n z
    obtain ⟨p, rfl, hn⟩ := ro.obj_of
    split at h
    · rename_i l el
      split at h
      · rename_i j hj
        cases h
        obtain ⟨vs, h1, h2⟩ := lst_at s hn el
        obtain ⟨g, s'⟩ := sto_set s hn h1 (h2.set rv j)
        exact ⟨p, vs, z, j, rfl, ri.int_of, h1, by rw [h2.length]; exact hj, k _ g s'⟩
      · cases h
    · cases h
  · cases h
/-! ### slices -/
abbrev MO := Sl → Sto → Rs (Option Int)
abbrev RelO' : RelT (Option Int) (Option Int) := fun _ _ _ v d => v = d
theorem antiO {K : PySem.W.Frag} : Anti K RelO' := ⟨fun _ h => h⟩
def OV (X : Cx) (ca : Nat → Addr) (e : Option Expr) (m : MO) : Prop := ∀ W, Takes X W → PO X e (tM RelO' X.K ca W m)
theorem weakO {e : Option Expr} {t t' : TO} (h : PO X e t) (w : ∀ s H Q, t' s H Q → t s H Q) : PO X e t' := ⟨fun pins s σ H Q I q => h.run pins s σ H Q I (w _ _ _ q)⟩
def noO : MO := fun _ S => .ok none S
def someO (m : ME) : MO := fun e S => bindR (m e S) fun d S1 => match d with
  | .int i => .ok (some i) S1
  | _ => .bad
theorem ov_none : OV X ca none noO := fun W tk => weakO po_none fun s H Q ⟨q, e, S, at_, pr⟩ => pr q H none .refl rfl at_.st
theorem ov_some (ha : EV X ca a ma) : OV X ca (some a) (someO ma) := fun W tk => weakO (po_some (ha W tk)) fun s H Q ⟨q, e, S, at_, pr⟩ => ⟨q, e, S, at_, PR.bind antiO pr fun q1 H1 x d S1 g1 rx s1 pr1 => by
  cases d with
  | int i => exact ⟨i, rx.int_of, pr1 q1 H1 _ .refl rfl s1⟩
  | _ => exact pr1.elim⟩
def cutD (xs : List D) (lo hi : Option Int) : List D := (xs.drop (HT.sIx xs.length 0 lo)).take (HT.sIx xs.length xs.length hi - HT.sIx xs.length 0 lo)
theorem Reps.cut {K : PySem.W.Frag} {q : List Addr} {H : Hp} {vs : List V} {l : List D} (h : Reps K q H vs l) (lo hi : Option Int) : Reps K q H (cutV vs lo hi) (cutD l lo hi) := by
  unfold cutV cutD
  rw [h.length]
  exact (h.drop _).take _
/-- of a list: a new one -/
def slLM (m : ME) (lo hi : MO) : MA := fun e S => bindR (m e S) fun x S1 => bindR (lo e S1) fun l S2 => bindR (hi e S2) fun u S3 => match x with
  | .fz xs => .ok (cutD xs l u) S3
  | .obj n => match S3[n]? with
    | some (.lst xs) => .ok (cutD xs l u) S3
    | _ => .bad
  | _ => .bad
theorem lv_slice {lo hi : Option Expr} {ml mh : MO} {p2 : Pos} (ha : EV X ca a ma) (hl : OV X ca lo ml) (hu : OV X ca hi mh) : LV X ca (.Subscript a (.Slice lo hi none p2) pos) (slLM ma ml mh) :=
  fun W tk => weakE (pe_slice sl_list (ha W tk) (hl W tk) (hu W tk)) fun s H Q ⟨q, e, S, at_, pr⟩ => ⟨q, e, S, at_, PR.bind antiL pr fun q1 H1 x d S1 g1 rx s1 pr1 => ⟨q1, e, S1, ⟨at_.sl.grow g1, s1⟩, PR.bind antiL pr1 fun q2 H2 l l' S2 g2 el s2 pr2 =>
    ⟨q2, e, S2, ⟨(at_.sl.grow g1).grow g2, s2⟩, PR.bind antiL pr2 fun q3 H3 u u' S3 g3 eu s3 pr3 => by
      obtain rfl : l = l' := el
      obtain rfl : u = u' := eu
      have rx3 := (rx.grow g2).grow g3
      split at pr3
      · obtain ⟨p, xs, rfl, h1, h2⟩ := rx3.fz_of
        exact ⟨p, xs, rfl, h1.sq, fun a ha => pr3.lstNew (h2.cut l u) s3 ha⟩
      · rename_i n
        obtain ⟨p, rfl, hn⟩ := rx3.obj_of
        split at pr3
        · rename_i xs el
          obtain ⟨vs, h1, h2⟩ := lst_at s3 hn el
          exact ⟨p, vs, rfl, SqL.of h1, fun a ha => pr3.lstNew (h2.cut l u) s3 ha⟩
        · exact pr3.elim
      · exact pr3.elim⟩⟩⟩

/-! ### built-ins by name -/
theorem ev_b1 {x : Str} {id : String} {r : List V → Hp → VK → Prop} {f : D → Sto → Rs D} (hc : CallR X (.builtin id) r) (hf : UnOk X.K ca (fun v H Q => r [v] H Q) f) (hg : Gl X x) (hm : X.mg x = none) (hv : bootBuiltins x = some (.builtin id)) (ha : EV X ca a ma) (hn : x ≠ "__name__" := by decide) (hdb : (x == ("__debug__" : Str)) = false := by decide)
    (he : starEach [a] X.env = [(false, eval a X.env)] := by rfl) : EV X ca (.Call (.Name x p) [a] [] pos) (unM f ma) :=
  fun W tk => weakE (pe_callB hc hg hm hv (pa_cons (ha W tk) pa_nil he) hn hdb he rfl) fun s H Q ⟨q, e, S, at_, pr⟩ => ⟨q, e, S, at_, PR.bind antiD pr fun q1 H1 x d S1 g1 rx s1 pr1 => hf q1 H1 S1 x d _ Q s1 rx pr1⟩
theorem ev_t1 {x : Str} {T : String} {r : List V → Hp → VK → Prop} {f : D → Sto → Rs D} (hc : CallR X (.type T) r) (hf : UnOk X.K ca (fun v H Q => r [v] H Q) f) (hg : Gl X x) (hm : X.mg x = none) (hv : bootBuiltins x = some (.type T)) (ha : EV X ca a ma) (hn : x ≠ "__name__" := by decide) (hdb : (x == ("__debug__" : Str)) = false := by decide)
    (he : starEach [a] X.env = [(false, eval a X.env)] := by rfl) : EV X ca (.Call (.Name x p) [a] [] pos) (unM f ma) :=
  fun W tk => weakE (pe_callTy hc hg hm hv (pa_cons (ha W tk) pa_nil he) hn hdb he rfl) fun s H Q ⟨q, e, S, at_, pr⟩ => ⟨q, e, S, at_, PR.bind antiD pr fun q1 H1 x d S1 g1 rx s1 pr1 => hf q1 H1 S1 x d _ Q s1 rx pr1⟩
/-- .. of a new list that is thrown away -/
def onL (f : List D → Sto → Rs D) (m : MA) : ME := fun e S => bindR (m e S) f
def LOk (K : PySem.W.Frag) (ca : Nat → Addr) (r : List V → Hp → VK → Prop) (f : List D → Sto → Rs D) : Prop :=
  ∀ (q : List Addr) (H : Hp) (S : Sto) (p : Addr) (vs : List V) (l : List D) (W : Value → Option Addr → Hp → Prop) (Q : VK), StoOk K ca q H S → H p = some (.lst vs) → Reps K q H vs l → PR (RelD K) K ca W q H Q (f l S) → r [.ref p] H Q
theorem ev_bL {x : Str} {id : String} {r : List V → Hp → VK → Prop} {f : List D → Sto → Rs D} (hc : CallR X (.builtin id) r) (hf : LOk X.K ca r f) (hg : Gl X x) (hm : X.mg x = none) (hv : bootBuiltins x = some (.builtin id)) (ha : LV X ca a ms) (hn : x ≠ "__name__" := by decide) (hdb : (x == ("__debug__" : Str)) = false := by decide)
    (he : starEach [a] X.env = [(false, eval a X.env)] := by rfl) : EV X ca (.Call (.Name x p) [a] [] pos) (onL f ms) :=
  fun W tk => weakE (pe_callB hc hg hm hv (pa_cons (ha W tk) pa_nil he) hn hdb he rfl) fun s H Q ⟨q, e, S, at_, pr⟩ => ⟨q, e, S, at_, PR.bind antiD pr fun q1 H1 x l S1 g1 rx s1 pr1 => by
    obtain ⟨p, vs, rfl, h0, hq, hp, rs⟩ := rx
    exact hf q1 H1 S1 p vs l _ Q s1 hp rs pr1⟩
theorem ev_tL {x : Str} {T : String} {r : List V → Hp → VK → Prop} {f : List D → Sto → Rs D} (hc : CallR X (.type T) r) (hf : LOk X.K ca r f) (hg : Gl X x) (hm : X.mg x = none) (hv : bootBuiltins x = some (.type T)) (ha : LV X ca a ms) (hn : x ≠ "__name__" := by decide) (hdb : (x == ("__debug__" : Str)) = false := by decide)
    (he : starEach [a] X.env = [(false, eval a X.env)] := by rfl) : EV X ca (.Call (.Name x p) [a] [] pos) (onL f ms) :=
  fun W tk => weakE (pe_callTy hc hg hm hv (pa_cons (ha W tk) pa_nil he) hn hdb he rfl) fun s H Q ⟨q, e, S, at_, pr⟩ => ⟨q, e, S, at_, PR.bind antiD pr fun q1 H1 x l S1 g1 rx s1 pr1 => by
    obtain ⟨p, vs, rfl, h0, hq, hp, rs⟩ := rx
    exact hf q1 H1 S1 p vs l _ Q s1 hp rs pr1⟩
/-- tuple([..]) -/
def tupL (l : List D) (S : Sto) : Rs D := .ok (.tup l) S
theorem ev_tupL (hg : Gl X "tuple") (hm : X.mg "tuple" = none) (ha : LV X ca a ms) (he : starEach [a] X.env = [(false, eval a X.env)] := by rfl) : EV X ca (.Call (.Name "tuple" p) [a] [] pos) (onL tupL ms) :=
  ev_tL call_tuple_of (fun q H S p vs l W Q s hp rs pr => ⟨p, vs, rfl, .inl ⟨SqL.of hp, fun a ha => pr.tupNew rs s ha⟩⟩) hg hm PyProof.Rows.boot_tuple ha (by decide) (by decide) he
/-- tuple(x), x a list or a tuple that stands -/
def tupD (x : D) (S : Sto) : Rs D := match x with
  | .tup l => .ok (.tup l) S
  | .fz l => .ok (.tup l) S
  | .obj n => match S[n]? with
    | some (.lst l) => .ok (.tup l) S
    | _ => .bad
  | _ => .bad
theorem ev_tup1 (hg : Gl X "tuple") (hm : X.mg "tuple" = none) (ha : EV X ca a ma) (he : starEach [a] X.env = [(false, eval a X.env)] := by rfl) : EV X ca (.Call (.Name "tuple" p) [a] [] pos) (unM tupD ma) :=
  ev_t1 call_tuple_of (fun q H S x d W Q s rx pr => by
    unfold tupD at pr
    split at pr
    · obtain ⟨p, xs, rfl, h1, h2⟩ := rx.tup_of
      exact ⟨p, xs, rfl, .inr ⟨h1, pr.put rx s⟩⟩
    · obtain ⟨p, xs, rfl, h1, h2⟩ := rx.fz_of
      exact ⟨p, xs, rfl, .inl ⟨h1.sq, fun a ha => pr.tupNew h2 s ha⟩⟩
    · rename_i n
      obtain ⟨p, rfl, hn⟩ := rx.obj_of
      split at pr
      · rename_i l el
        obtain ⟨vs, h1, h2⟩ := lst_at s hn el
        exact ⟨p, vs, rfl, .inl ⟨SqL.of h1, fun a ha => pr.tupNew h2 s ha⟩⟩
      · exact pr.elim
    · exact pr.elim) hg hm PyProof.Rows.boot_tuple ha (by decide) (by decide) he
/-- list(x): a new one -/
def lstD (x : D) (S : Sto) : Rs (List D) := match x with
  | .tup l => .ok l S
  | .fz l => .ok l S
  | .obj n => match S[n]? with
    | some (.lst l) => .ok l S
    | _ => .bad
  | _ => .bad
def toA (f : D → Sto → Rs (List D)) (m : ME) : MA := fun e S => bindR (m e S) f
theorem lv_list1 (hg : Gl X "list") (hm : X.mg "list" = none) (ha : EV X ca a ma) (he : starEach [a] X.env = [(false, eval a X.env)] := by rfl) : LV X ca (.Call (.Name "list" p) [a] [] pos) (toA lstD ma) :=
  fun W tk => weakE (pe_callTy call_list_of hg hm PyProof.Rows.boot_list (pa_cons (ha W tk) pa_nil he) (by decide) (by decide) he rfl) fun s H Q ⟨q, e, S, at_, pr⟩ => ⟨q, e, S, at_, PR.bind antiL pr fun q1 H1 x d S1 g1 rx s1 pr1 => by
    unfold lstD at pr1
    split at pr1
    · obtain ⟨p, xs, rfl, h1, h2⟩ := rx.tup_of
      exact ⟨p, xs, rfl, .inr h1, fun a ha => pr1.lstNew h2 s1 ha⟩
    · obtain ⟨p, xs, rfl, h1, h2⟩ := rx.fz_of
      exact ⟨p, xs, rfl, .inl h1.sq, fun a ha => pr1.lstNew h2 s1 ha⟩
    · rename_i n
      obtain ⟨p, rfl, hn⟩ := rx.obj_of
      split at pr1
      · rename_i l el
        obtain ⟨vs, h1, h2⟩ := lst_at s1 hn el
        exact ⟨p, vs, rfl, .inl (SqL.of h1), fun a ha => pr1.lstNew h2 s1 ha⟩
      · exact pr1.elim
    · exact pr1.elim⟩
def lenD (x : D) (S : Sto) : Rs D := match x with
  | .str y => if y.length ≤ sizeLine then .ok (.int (y.length : Nat)) S else .bad
  | .tup l => .ok (.int (l.length : Nat)) S
  | .fz l => .ok (.int (l.length : Nat)) S
  | .obj n => match S[n]? with
    | some (.lst l) => .ok (.int (l.length : Nat)) S
    | _ => .bad
  | _ => .bad
theorem ev_len (hg : Gl X "len") (hm : X.mg "len" = none) (ha : EV X ca a ma) (he : starEach [a] X.env = [(false, eval a X.env)] := by rfl) : EV X ca (.Call (.Name "len" p) [a] [] pos) (unM lenD ma) :=
  ev_b1 call_len (fun q H S x d W Q s rx pr => by
    unfold lenD at pr
    split at pr
    · rename_i y
      split at pr
      · rename_i hy
        rw [rx.str_of]
        exact ⟨_, _, rfl, ⟨hy, rfl⟩, pr.put (.int _) s⟩
      · exact pr.elim
    · obtain ⟨p, xs, rfl, h1, h2⟩ := rx.tup_of
      rw [← h2.length] at pr
      exact ⟨_, _, rfl, .inr ⟨xs, h1, rfl⟩, pr.put (.int _) s⟩
    · obtain ⟨p, xs, rfl, h1, h2⟩ := rx.fz_of
      rw [← h2.length] at pr
      exact ⟨_, _, rfl, .inl ⟨xs, h1.sq, rfl⟩, pr.put (.int _) s⟩
    · rename_i n
      obtain ⟨p, rfl, hn⟩ := rx.obj_of
      split at pr
      · rename_i l el
        obtain ⟨vs, h1, h2⟩ := lst_at s hn el
        rw [← h2.length] at pr
        exact ⟨_, _, rfl, .inl ⟨vs, SqL.of h1, rfl⟩, pr.put (.int _) s⟩
      · exact pr.elim
    · exact pr.elim) hg hm PySem.boot_len ha (by decide) (by decide) he
def numD (x : D) (S : Sto) : Rs D := match x with
  | .int i => .ok (.int i) S
  | .bl k => .ok (.int (if k then 1 else 0)) S
  | _ => .bad
theorem ev_num (hg : Gl X "int") (hm : X.mg "int" = none) (ha : EV X ca a ma) (he : starEach [a] X.env = [(false, eval a X.env)] := by rfl) : EV X ca (.Call (.Name "int" p) [a] [] pos) (unM numD ma) :=
  ev_t1 call_int1 (fun q H S x d W Q s rx pr => by
    unfold numD at pr
    split at pr
    · rw [rx.int_of]
      exact .inl ⟨_, rfl, pr.put (.int _) s⟩
    · rw [rx.bl_of]
      exact .inr ⟨_, rfl, pr.put (.int _) s⟩
    · exact pr.elim) hg hm PyProof.Rows.boot_int ha (by decide) (by decide) he
/-! #### isinstance -/
def tagD (d : D) (S : Sto) : Option String := match d with
  | .non => some "NoneType"
  | .bl _ => some "bool"
  | .int _ => some "int"
  | .str _ => some "str"
  | .tup _ => some "tuple"
  | .fz _ => some "list"
  | .obj n => match S[n]? with
    | some (.lst _) => some "list"
    | some (.dct _) => some "dict"
    | _ => none
def isiD (T : String) (d : D) (S : Sto) : Rs D := match tagD d S with
  | some t => match kitB t T with
    | some b => .ok (.bl b) S
    | none => .bad
  | none => .bad
theorem tag_ty {K : PySem.W.Frag} {q : List Addr} {H : Hp} {S : Sto} {x : V} {d : D} {t : String} (s : StoOk K ca q H S) (rx : Rep K q H x d) (h : tagD d S = some t) : TyX K H x (.type t) := by
  cases d with
  | non => rw [rx.non_of]; cases h; exact .base .non
  | bl b => rw [rx.bl_of]; cases h; exact .base (.bl b)
  | int i => rw [rx.int_of]; cases h; exact .base (.int i)
  | str y => rw [rx.str_of]; cases h; exact .base (.str y)
  | tup l =>
    obtain ⟨p, xs, rfl, h1, h2⟩ := rx.tup_of
    cases h
    rcases h1 with (h1 | ⟨o, h1⟩) | ⟨o, _, _, h1, h3, _⟩
    · exact .base (.tup h1)
    · exact .fTuple h1
    · exact .kTuple h1 h3
  | fz l =>
    obtain ⟨p, xs, rfl, h1, h2⟩ := rx.fz_of
    cases h
    rcases h1 with ⟨o, h1⟩ | ⟨o, _, _, h1, h3, _⟩
    · exact .base (.frz h1)
    · exact .kList h1 h3
  | obj n =>
    obtain ⟨p, rfl, hn⟩ := rx.obj_of
    unfold tagD at h
    dsimp only at h
    split at h
    · rename_i l el
      cases h
      obtain ⟨vs, h1, h2⟩ := lst_at s hn el
      exact .base (.lst h1)
    · rename_i l el
      cases h
      obtain ⟨vs, h1, h2⟩ := dct_at s hn el
      exact .base (.dK h1)
    · cases h
theorem ev_isi {T : Str} {n : String} {pT : Pos} (hg : Gl X "isinstance") (hm : X.mg "isinstance" = none) (hgT : Gl X T) (hmT : X.mg T = none) (hv : bootBuiltins T = some (.type n)) (ha : EV X ca a ma) (hnT : T ≠ "__name__" := by decide) (hdT : (T == ("__debug__" : Str)) = false := by decide)
    (he : starEach [a, .Name T pT] X.env = [(false, eval a X.env), (false, eval (.Name T pT) X.env)] := by rfl) (he2 : starEach [.Name T pT] X.env = [(false, eval (.Name T pT) X.env)] := by rfl) :
    EV X ca (.Call (.Name "isinstance" p) [a, .Name T pT] [] pos) (unM (isiD n) ma) :=
  fun W tk => weakE (pe_callB call_isi hg hm PyProof.Rows.boot_isinstance (pa_cons (ha W tk) (pa_cons (pe_bltn (v := .ty n) hgT hmT hv rfl hnT hdT) pa_nil he2) (by rw [he, he2])) (by decide) (by decide) (by rw [he, he2]) (by rw [he2]; rfl)) fun s H Q ⟨q, e, S, at_, pr⟩ => ⟨q, e, S, at_, PR.bind antiD pr fun q1 H1 x d S1 g1 rx s1 pr1 => by
    unfold isiD at pr1
    split at pr1
    · rename_i t ht
      split at pr1
      · rename_i b hb
        exact ⟨x, .ty n, .type t, .type n, b, rfl, .ty n, tag_ty s1 rx ht, kit_ty hb, pr1.put (.bl b) s1⟩
      · exact pr1.elim
    · exact pr1.elim⟩
theorem kit_bool_bool : kitB "bool" "bool" = some true := by decide +kernel

/-! ### methods of lists -/
/-- xs.append(v) -/
def appD (o v : D) (S : Sto) : Rs D := match o with
  | .obj n => match S[n]? with
    | some (.lst l) => if l.length < sizeLine then .ok .non (S.set n (.lst (l ++ [v]))) else .bad
    | _ => .bad
  | _ => .bad
/-- o.m(v): o is looked at first -/
def metM (k : D → Sto → Bool) (f : D → D → Sto → Rs D) (o a : ME) : ME := fun e S => bindR (o e S) fun x S1 => if k x S1 = true then bindR (a e S1) fun y S2 => f x y S2 else .bad
def met0 (k : D → Sto → Bool) (f : D → Sto → Rs D) (o : ME) : ME := fun e S => bindR (o e S) fun x S1 => if k x S1 = true then f x S1 else .bad
def isLst (o : D) (S : Sto) : Bool := match o with
  | .obj n => match S[n]? with
    | some (.lst _) => true
    | _ => false
  | _ => false
theorem isLst_ok {K : PySem.W.Frag} {q : List Addr} {H : Hp} {S : Sto} {x : V} {d : D} (s : StoOk K ca q H S) (rx : Rep K q H x d) (h : isLst d S = true) : ∃ (n : Nat) (p : Addr) (vs : List V), d = .obj n ∧ x = .ref p ∧ q[n]? = some p ∧ H p = some (.lst vs) := by
  unfold isLst at h
  split at h
  · rename_i n
    obtain ⟨p, rfl, hn⟩ := rx.obj_of
    split at h
    · rename_i l el
      obtain ⟨vs, h1, h2⟩ := lst_at s hn el
      exact ⟨n, p, vs, rfl, rfl, hn, h1⟩
    · cases h
  · cases h
theorem ev_append (ho : EV X ca o mo) (ha : EV X ca a ma) (hbase : attributeBase o "append" X.env (eval o X.env) = eval o X.env := by rfl)
    (hfew : ((backTo cpos (starEach [a] X.env)).all (fun x => !x.1) && (backToKw cpos (keywordEach [] X.env)).all (fun x => x.1.isSome)
      && decide ([a].length + ([] : List Keyword).length + (if ([] : List Keyword).isEmpty then 0 else 1) < 30)) = true := by rfl)
    (hline : (apos.endLine == cpos.line) = true := by rfl) (hs : starEach [a] X.env = [(false, eval a X.env)] := by rfl) : EV X ca (.Call (.Attribute o "append" apos) [a] [] cpos) (metM isLst appD mo ma) :=
  fun W tk => weakE (pe_bm PySem.F.plainAttrs_list PySem.F.slot_list_append PySem.F.type_list_append mt_append (ho W tk) (pa_cons (ha W tk) pa_nil hs) hbase hfew hline hs rfl) fun s H Q ⟨q, e, S, at_, pr⟩ => ⟨q, e, S, at_, PR.bind antiD pr fun q1 H1 x d S1 g1 rx s1 pr1 => by
    split at pr1
    · rename_i hk
      obtain ⟨n, p, vs0, rfl, rfl, hn, hp⟩ := isLst_ok s1 rx hk
      refine ⟨.inl ⟨rfl, _, SqL.of hp⟩, q1, e, S1, ⟨at_.sl.grow g1, s1⟩, PR.bind antiD pr1 fun q2 H2 y d2 S2 g2 ry s2 pr2 => ?_⟩
      unfold appD at pr2
      dsimp only at pr2
      split at pr2
      · rename_i l el
        split at pr2
        · rename_i hz
          obtain ⟨vs, h1, h2⟩ := lst_at s2 (g2.pre _ _ hn) el
          obtain ⟨g, s'⟩ := sto_set s2 (g2.pre _ _ hn) h1 (h2.append (.cons ry .nil))
          exact ⟨p, vs, y, rfl, rfl, h1, by rw [h2.length]; exact hz, pr2 q2 _ _ g .non s'⟩
        · exact pr2.elim
      · exact pr2.elim
    · exact pr1.elim⟩
end
end L3

/-! L3E: what is walked whatever it is; slices whatever they are of; in. -/
namespace L3
open PySem PySem.Spec L2
section
variable {X : Cx} {ca : Nat → Addr} {a b c o e tg : Expr} {es : List Expr} {ma mb mc m mo : ME} {mt : MT} {ms : MA} {pos p apos cpos : Pos}
/-- a list, a tuple, a text -/
def iAny (K : PySem.W.Frag) (tl : TE) : TI := fun σ H R => tl σ H fun x H1 => (∃ a, x = .ref a ∧ (∃ xs, SqL K H1 a xs) ∧ R (Itl K a) H1) ∨ (∃ a, x = .ref a ∧ (∃ xs, SqT K H1 a xs) ∧ R (Itt K a) H1) ∨ ∃ z, x = .str z ∧ R (Its z) H1
theorem pi_any {l : Expr} {tl : TE} (hl : PE X l tl) : PI X tg l (iAny X.K tl) := by
  refine ⟨fun pins s σ H R I h => ?_⟩
  refine thn (hl.run pins s σ H _ I h) fun v s1 ⟨x, H1, I1, r1, q1⟩ => ?_
  rcases q1 with ⟨a, e, ⟨xs, hq⟩, q⟩ | ⟨a, e, ⟨xs, hq⟩, q⟩ | ⟨x, ex, q⟩
  · subst e
    cases r1
    obtain ⟨its, rv, p, hz⟩ := I1.list hq
    refine wpAny_pyIter_list p.isList ?_
    refine ⟨s1.heap.objs.size, [s1.heap.objs.size], _, _, H1, rfl, I1.kept (t' := s1.toks) fun b o e => Heap.get?_push_of_some _ e, turn_list a _, ⟨_, Heap.get?_push_size _ rfl, rfl, rfl⟩, fun b hb => ?_, q⟩
    have e : b = s1.heap.objs.size := by simpa using hb
    subst e
    exact I1.fpOk (Nat.le_refl _) (I1.hok.fresh (Nat.le_refl _))
  · subst e
    cases r1
    obtain ⟨its, rv, p, hz⟩ := I1.tuple hq
    refine wpAny_pyIter_tuple (show s1.heap.IsTuple a its.toArray from p) ?_
    refine ⟨s1.heap.objs.size, [s1.heap.objs.size], _, _, H1, rfl, I1.kept (t' := s1.toks) fun b o e => Heap.get?_push_of_some _ e, turn_tuple a _, ⟨_, Heap.get?_push_size _ rfl, rfl, rfl⟩, fun b hb => ?_, q⟩
    have e : b = s1.heap.objs.size := by simpa using hb
    subst e
    exact I1.fpOk (Nat.le_refl _) (I1.hok.fresh (Nat.le_refl _))
  · subst ex
    obtain ⟨t, rfl⟩ := r1
    cases ha : x.cps.all (· < 128)
    · exact wpAny_pyIter_wide ha (pi_one (tk := s1.toks) I1 _ (turn_str _ x t "str_iterator" (.inr rfl)) ⟨_, Heap.get?_push_size _ rfl, rfl, rfl⟩ q)
    · exact wpAny_pyIter_ascii ha (pi_one (tk := s1.toks) I1 _ (turn_str _ x t "str_ascii_iterator" (.inl rfl)) ⟨_, Heap.get?_push_size _ rfl, rfl, rfl⟩ q)
/-- the signs of a text -/
def signsD (z : Str) : List D := z.cps.toList.map fun c => D.str ⟨#[c]⟩
theorem joS {K : PySem.W.Frag} {z : Str} {r0 : List Addr} {H0 : Hp} : JOk K ca (Its z) (signsD z) fixC r0 H0 where
  go := fun i r H S x g s c q => by
    unfold signsD at q
    rw [List.getElem?_map] at q
    obtain ⟨cc, h1, h2⟩ := Option.map_eq_some_iff.mp q
    have hi : i < z.cps.size := by
      have := (List.getElem?_eq_some_iff.mp h1).1
      simpa using this
    refine ⟨hi, fun w H' y => ?_⟩
    obtain ⟨rfl, c2, h3, rfl⟩ := y
    have h4 : z.cps[i]? = some cc := by simpa using h1
    rw [h4] at h3
    cases h3
    subst h2
    exact ⟨.refl, s, .str _⟩
  stop := fun i r H S g s c q => by
    unfold signsD at q
    rw [List.length_map] at q
    show z.cps.size ≤ i
    simpa using q
def srcD (d : D) (S : Sto) : Rs (List D × (Sto → Bool)) := match d with
  | .fz l => .ok (l, fixC) S
  | .tup l => .ok (l, fixC) S
  | .str z => .ok (signsD z, fixC) S
  | .obj n => match S[n]? with
    | some (.lst l) => .ok (l, sameC n l) S
    | _ => .bad
  | _ => .bad
theorem iv_any (h : EV X ca a ma) : IV X ca tg a (itM srcD ma) :=
  fun W tk => weakI (pi_any (h W tk)) fun _ _ _ ⟨q, e, S, at_, pr⟩ => ⟨q, e, S, at_, PR.bind antiJ pr fun q1 H1 x d S1 g1 rx s1 pr1 => by
    unfold srcD at pr1
    split at pr1
    · obtain ⟨p, xs, rfl, h1, h2⟩ := rx.fz_of
      exact .inl ⟨p, rfl, ⟨xs, h1.sq⟩, pr1 q1 H1 _ .refl (joL fun r H S g s _ => ⟨xs, (g.fz _ _ h1).sq, h2.grow g⟩) s1⟩
    · obtain ⟨p, xs, rfl, h1, h2⟩ := rx.tup_of
      exact .inr (.inl ⟨p, rfl, ⟨xs, h1⟩, pr1 q1 H1 _ .refl (joT h1 h2) s1⟩)
    · exact .inr (.inr ⟨_, rx.str_of, pr1 q1 H1 _ .refl joS s1⟩)
    · rename_i n
      obtain ⟨p, rfl, hn⟩ := rx.obj_of
      split at pr1
      · rename_i l el
        obtain ⟨vs, h1, h2⟩ := lst_at s1 hn el
        refine .inl ⟨p, rfl, ⟨vs, SqL.of h1⟩, pr1 q1 H1 _ .refl (joL fun r H S g s c => ?_) s1⟩
        obtain ⟨vs', h1', h2'⟩ := lst_at s (g.pre _ _ hn) (of_decide_eq_true c)
        exact ⟨vs', SqL.of h1', h2'⟩
      · exact pr1.elim
    · exact pr1.elim⟩
/-- a slice of anything -/
def slD (x : D) (l u : Option Int) (S : Sto) : Rs D := match x with
  | .fz xs => .ok (.obj S.length) (S ++ [.lst (cutD xs l u)])
  | .tup xs => .ok (.tup (cutD xs l u)) S
  | .str z => if z.length ≤ sizeLine then .ok (.str (cutS z l u)) S else .bad
  | .obj n => match S[n]? with
    | some (.lst xs) => .ok (.obj S.length) (S ++ [.lst (cutD xs l u)])
    | _ => .bad
  | _ => .bad
def slM (m : ME) (lo hi : MO) : ME := fun e S => bindR (m e S) fun x S1 => bindR (lo e S1) fun l S2 => bindR (hi e S2) fun u S3 => slD x l u S3
theorem cut_whole {xs : List D} {l u : Option Int} (h : HT.sIx xs.length 0 l = 0 ∧ HT.sIx xs.length xs.length u = xs.length) : cutD xs l u = xs := by
  unfold cutD
  rw [h.1, h.2, List.drop_zero, Nat.sub_zero, List.take_length]
theorem ev_slice {lo hi : Option Expr} {ml mh : MO} {p2 : Pos} (ha : EV X ca a ma) (hl : OV X ca lo ml) (hu : OV X ca hi mh) : EV X ca (.Subscript a (.Slice lo hi none p2) pos) (slM ma ml mh) :=
  fun W tk => weakE (pe_slice (sl_list.or (sl_tupA.or sl_str)) (ha W tk) (hl W tk) (hu W tk)) fun s H Q ⟨q, e, S, at_, pr⟩ => ⟨q, e, S, at_, PR.bind antiD pr fun q1 H1 x d S1 g1 rx s1 pr1 => ⟨q1, e, S1, ⟨at_.sl.grow g1, s1⟩, PR.bind antiD pr1 fun q2 H2 l l' S2 g2 el s2 pr2 =>
    ⟨q2, e, S2, ⟨(at_.sl.grow g1).grow g2, s2⟩, PR.bind antiD pr2 fun q3 H3 u u' S3 g3 eu s3 pr3 => by
      obtain rfl : l = l' := el
      obtain rfl : u = u' := eu
      have rx3 := (rx.grow g2).grow g3
      unfold slD at pr3
      split at pr3
      · obtain ⟨p, xs, rfl, h1, h2⟩ := rx3.fz_of
        exact .inl ⟨p, xs, rfl, h1.sq, fun a ha => pr3.objNew (h2.cut l u) s3 ha⟩
      · rename_i ds
        obtain ⟨p, xs, rfl, h1, h2⟩ := rx3.tup_of
        refine .inr (.inl ⟨p, xs, rfl, h1, fun hw => ?_, fun hw a ha => pr3.tupNew (h2.cut l u) s3 ha⟩)
        rw [h2.length] at hw
        rw [cut_whole hw] at pr3
        exact pr3.put rx3 s3
      · split at pr3
        · rename_i z hz
          exact .inr (.inr ⟨z, rx3.str_of, hz, pr3.put (.str _) s3⟩)
        · exact pr3.elim
      · rename_i n
        obtain ⟨p, rfl, hn⟩ := rx3.obj_of
        split at pr3
        · rename_i xs el
          obtain ⟨vs, h1, h2⟩ := lst_at s3 hn el
          exact .inl ⟨p, vs, rfl, SqL.of h1, fun a ha => pr3.objNew (h2.cut l u) s3 ha⟩
        · exact pr3.elim
      · exact pr3.elim⟩⟩⟩
end
end L3

/-! L3I: more built-ins and operators: max, min of two, str, not by truth, in, bits, pop, extend, any, all, sum, max of lists, range with a step. -/
namespace L3
open PySem PySem.Spec L2
section
variable {X : Cx} {ca : Nat → Addr} {a b c o e tg : Expr} {es : List Expr} {ma mb mc m mo : ME} {mt : MT} {ms : MA} {pos p apos cpos : Pos}
/-! ### built-ins of two values -/
theorem ev_b2 {x : Str} {id : String} {r : List V → Hp → VK → Prop} {f : D → D → Sto → Rs D} (hc : CallR X (.builtin id) r) (hf : OpOk X.K ca (fun v w H Q => r [v, w] H Q) f) (hg : Gl X x) (hm : X.mg x = none) (hv : bootBuiltins x = some (.builtin id)) (ha : EV X ca a ma) (hb : EV X ca b mb) (hn : x ≠ "__name__" := by decide) (hdb : (x == ("__debug__" : Str)) = false := by decide)
    (he : starEach [a, b] X.env = [(false, eval a X.env), (false, eval b X.env)] := by rfl) (he2 : starEach [b] X.env = [(false, eval b X.env)] := by rfl) : EV X ca (.Call (.Name x p) [a, b] [] pos) (opM f ma mb) :=
  fun W tk => weakE (pe_callB hc hg hm hv (pa_cons (ha W tk) (pa_cons (hb W tk) pa_nil he2) (by rw [he, he2])) hn hdb (by rw [he, he2]) (by rw [he2]; rfl)) fun s H Q ⟨q, e, S, at_, pr⟩ => ⟨q, e, S, at_, PR.bind antiD pr fun q1 H1 x d S1 g1 rx s1 pr1 => ⟨q1, e, S1, ⟨at_.sl.grow g1, s1⟩,
    PR.bind antiD pr1 fun q2 H2 y d2 S2 g2 ry s2 pr2 => hf q2 H2 S2 x y d d2 _ Q s2 (rx.grow g2) ry pr2⟩⟩
def max2D : D → D → Sto → Rs D := intD0 fun i j => .int (if j > i then j else i)
def min2D : D → D → Sto → Rs D := intD0 fun i j => .int (if j < i then j else i)
theorem ok_B2 {K : PySem.W.Frag} {g : Int → Int → Int} : OpOk K ca (fun v w H Q => ∃ i j, [v, w] = [V.int i, V.int j] ∧ Q (.int (g i j)) H) (intD0 fun i j => .int (g i j)) := by
  intro q H S x y d e W Q s rx ry pr
  unfold intD0 at pr
  split at pr
  · rw [rx.int_of, ry.int_of]
    exact ⟨_, _, rfl, pr.put (.int _) s⟩
  · exact pr.elim
theorem ev_max2 (hc : X.calm = true) (hg : Gl X "max") (hm : X.mg "max" = none) (ha : EV X ca a ma) (hb : EV X ca b mb) (he : starEach [a, b] X.env = [(false, eval a X.env), (false, eval b X.env)] := by rfl) (he2 : starEach [b] X.env = [(false, eval b X.env)] := by rfl) :
    EV X ca (.Call (.Name "max" p) [a, b] [] pos) (opM max2D ma mb) := ev_b2 (call_max2 hc) ok_B2 hg hm PyProof.Rows.boot_max ha hb (by decide) (by decide) he he2
theorem ev_min2 (hc : X.calm = true) (hg : Gl X "min") (hm : X.mg "min" = none) (ha : EV X ca a ma) (hb : EV X ca b mb) (he : starEach [a, b] X.env = [(false, eval a X.env), (false, eval b X.env)] := by rfl) (he2 : starEach [b] X.env = [(false, eval b X.env)] := by rfl) :
    EV X ca (.Call (.Name "min" p) [a, b] [] pos) (opM min2D ma mb) := ev_b2 (call_min2 hc) ok_B2 hg hm PyProof.Rows.boot_min ha hb (by decide) (by decide) he he2
/-! ### str -/
def strD (x : D) (S : Sto) : Rs D := match x with
  | .int i => if i.natAbs.log2 < 1920 then .ok (.str (toString i)) S else .bad
  | .str z => .ok (.str z) S
  | _ => .bad
theorem CallR.or {f : Value} {r r' : List V → Hp → VK → Prop} (h : CallR X f r) (h' : CallR X f r') : CallR X f (fun xs H Q => r xs H Q ∨ r' xs H Q) := by
  intro pins s σ H xs us Q I rx hq
  rcases hq with q | q
  · exact h pins s σ H xs us Q I rx q
  · exact h' pins s σ H xs us Q I rx q
theorem ev_str1 (hg : Gl X "str") (hm : X.mg "str" = none) (ha : EV X ca a ma) (he : starEach [a] X.env = [(false, eval a X.env)] := by rfl) : EV X ca (.Call (.Name "str" p) [a] [] pos) (unM strD ma) :=
  ev_t1 (CallR.or call_str_int SkE.call_str_str) (fun q H S x d W Q s rx pr => by
    unfold strD at pr
    split at pr
    · split at pr
      · rename_i hz
        rw [rx.int_of]
        exact .inl ⟨_, rfl, hz, pr.put (.str _) s⟩
      · exact pr.elim
    · rw [rx.str_of]
      exact .inr ⟨_, rfl, pr.put (.str _) s⟩
    · exact pr.elim) hg hm PyProof.Rows.boot_str ha (by decide) (by decide) he
/-! ### not, by truth, as a value -/
def notTD (x : D) (S : Sto) : Rs D := bindR (truD x S) fun k S1 => .ok (.bl (!k)) S1
theorem ev_notT (ha : EV X ca a ma) : EV X ca (.UnaryOp .Not a pos) (unM notTD ma) :=
  fun W tk => weakE (pe_notT (ha W tk)) fun _ _ Q ⟨q, e, S, at_, pr⟩ => ⟨q, e, S, at_, PR.bind antiD pr fun q1 H1 x d S1 g1 rx s1 pr1 => by
    unfold notTD at pr1
    obtain ⟨k, h1, h2⟩ := tru_V (W := fun _ _ _ => False) (Q := fun k H => ∃ r', StoOk X.K ca r' H S1 ∧ PR (RelD X.K) X.K ca (fun c d H' => W c d _ H') r' H Q (.ok (.bl (!k)) S1)) s1 rx (by
      cases hd : truD d S1 with
      | ok k S2 =>
        have : S2 = S1 := by
          unfold truD at hd
          split at hd <;> try (cases hd; rfl)
          · split at hd
            · cases hd; rfl
            · cases hd
          · split at hd
            · cases hd; rfl
            · cases hd; rfl
            · cases hd
        subst this
        intro r' H' v g rel so
        obtain rfl : v = k := rel
        rw [hd] at pr1
        exact ⟨r', so, PR.grow antiD g pr1⟩
      | rse x S2 =>
        unfold truD at hd
        split at hd <;> try (cases hd)
        · split at hd <;> cases hd
        · split at hd <;> cases hd
      | bad => rw [hd] at pr1; exact pr1)
    obtain ⟨r', so, h2⟩ := h2
    exact ⟨k, h1, h2.put (.bl _) so⟩⟩
/-! ### is True, is not True -/
theorem ok_isB {K : PySem.W.Frag} : OpOk K ca rIsB isBD := by
  intro q H S x y d e W Q s rx ry pr
  unfold isBD at pr
  split at pr
  · rw [rx.bl_of, ry.bl_of]
    exact ⟨_, _, rfl, rfl, pr.put (.bl _) s⟩
  · exact pr.elim
theorem ok_notB {K : PySem.W.Frag} : OpOk K ca rNotB notBD := by
  intro q H S x y d e W Q s rx ry pr
  unfold notBD at pr
  split at pr
  · rw [rx.bl_of, ry.bl_of]
    exact ⟨_, _, rfl, rfl, pr.put (.bl _) s⟩
  · exact pr.elim
/-! ### bits -/
def shlD : D → D → Sto → Rs D := intD CPow fun i j => .int (i * 2 ^ j.toNat)
def shrD : D → D → Sto → Rs D := intD (fun _ j => 0 ≤ j) fun i j => .int (i / 2 ^ j.toNat)
def bandD : D → D → Sto → Rs D := intD0 fun i j => .int (Builtin.bitAnd i j)
def borD : D → D → Sto → Rs D := intD0 fun i j => .int (Builtin.bitOr i j)
theorem ev_shl (ha : EV X ca a ma) (hb : EV X ca b mb) : EV X ca (.BinOp a .LShift b pos) (opM shlD ma mb) := ev_op op_shl (ok_I fun _ _ _ _ => .int _) ha hb
theorem ev_shr (ha : EV X ca a ma) (hb : EV X ca b mb) : EV X ca (.BinOp a .RShift b pos) (opM shrD ma mb) := ev_op op_shr (ok_I fun _ _ _ _ => .int _) ha hb
theorem ev_band (ha : EV X ca a ma) (hb : EV X ca b mb) : EV X ca (.BinOp a .BitAnd b pos) (opM bandD ma mb) := ev_op op_and (ok_I0 fun _ _ _ _ => .int _) ha hb
theorem ev_bor (ha : EV X ca a ma) (hb : EV X ca b mb) : EV X ca (.BinOp a .BitOr b pos) (opM borD ma mb) := ev_op op_or (ok_I0 fun _ _ _ _ => .int _) ha hb
/-! ### in -/
/-- x in a list or a tuple of data -/
def rInT (K : PySem.W.Frag) : R2 := fun x y H Q => ∃ d ds, Dp K H x d ∧ Dp K H y (.tuple ds) ∧ SeqAt.shaped d = true ∧ SeqAt.shaped (.tuple ds) = true ∧ Q (.bl (ds.any fun z => PyData.eqv z d)) H
def rNotInT (K : PySem.W.Frag) : R2 := fun x y H Q => ∃ d ds, Dp K H x d ∧ Dp K H y (.tuple ds) ∧ SeqAt.shaped d = true ∧ SeqAt.shaped (.tuple ds) = true ∧ Q (.bl (!ds.any fun z => PyData.eqv z d)) H
theorem op_inT (hu : X.A.units + 65 < cLine) : OpR X (compareOp .In) (rInT X.K) := by
  intro pins s σ H x y v u Q I rx ry h
  obtain ⟨d, ds, hd, he, sd, se, q⟩ := h
  obtain ⟨as, r1⟩ := Dp.reads I d x v hd rx
  obtain ⟨bs, r2⟩ := Dp.reads I (.tuple ds) y u he ry
  exact SeqAt.in_tuple_reads r2 r1 (SeqAt.canLay_of_shaped se) (SeqAt.canLay_of_shaped sd) (PyProof.Rows.room_in_shaped sd hu) ⟨.bl _, H, I, rfl, q⟩
theorem op_notInT (hu : X.A.units + 65 < cLine) : OpR X (compareOp .NotIn) (rNotInT X.K) := by
  intro pins s σ H x y v u Q I rx ry h
  obtain ⟨d, ds, hd, he, sd, se, q⟩ := h
  obtain ⟨as, r1⟩ := Dp.reads I d x v hd rx
  obtain ⟨bs, r2⟩ := Dp.reads I (.tuple ds) y u he ry
  exact SeqAt.notIn_tuple_reads r2 r1 (SeqAt.canLay_of_shaped se) (SeqAt.canLay_of_shaped sd) (PyProof.Rows.room_in_shaped sd hu) ⟨.bl _, H, I, rfl, q⟩
def inB (x y : D) (S : Sto) : Option Bool := match y with
  | .str z => match x with
    | .str i => some (!(Builtin.Str.occurrences z i 0 z.length 1).isEmpty)
    | _ => none
  | _ => match datP S x, datP S y with
    | some d, some (.list ds) => if SeqAt.shaped d = true ∧ SeqAt.shaped (.list ds) = true then some (ds.any fun z => PyData.eqv z d) else none
    | some d, some (.tuple ds) => if SeqAt.shaped d = true ∧ SeqAt.shaped (.tuple ds) = true then some (ds.any fun z => PyData.eqv z d) else none
    | _, _ => none
def inD (x y : D) (S : Sto) : Rs D := match inB x y S with
  | some k => .ok (.bl k) S
  | none => .bad
def notInD (x y : D) (S : Sto) : Rs D := match inB x y S with
  | some k => .ok (.bl (!k)) S
  | none => .bad
def InS (f : Bool → Bool) (x y : V) (H : Hp) (Q : VK) : Prop := ∃ i j, x = V.str i ∧ y = V.str j ∧ Q (.bl (f (!(Builtin.Str.occurrences j i 0 j.length 1).isEmpty))) H
def InL (K : PySem.W.Frag) (f : Bool → Bool) (x y : V) (H : Hp) (Q : VK) : Prop := ∃ d ds, Dp K H x d ∧ Dp K H y (.list ds) ∧ SeqAt.shaped d = true ∧ SeqAt.shaped (.list ds) = true ∧ Q (.bl (f (ds.any fun z => PyData.eqv z d))) H
def InTp (K : PySem.W.Frag) (f : Bool → Bool) (x y : V) (H : Hp) (Q : VK) : Prop := ∃ d ds, Dp K H x d ∧ Dp K H y (.tuple ds) ∧ SeqAt.shaped d = true ∧ SeqAt.shaped (.tuple ds) = true ∧ Q (.bl (f (ds.any fun z => PyData.eqv z d))) H
theorem inB_V {K : PySem.W.Frag} {q : List Addr} {H : Hp} {S : Sto} {x y : V} {d e : D} {Q : VK} {k : Bool} {f : Bool → Bool} (s : StoOk K ca q H S) (rx : Rep K q H x d) (ry : Rep K q H y e) (h : inB d e S = some k) (hq : Q (.bl (f k)) H) : InS f x y H Q ∨ InL K f x y H Q ∨ InTp K f x y H Q := by
  unfold inB at h
  split at h
  · split at h
    · cases h
      exact .inl ⟨_, _, rx.str_of, ry.str_of, hq⟩
    · cases h
  · split at h
    · rename_i e1 e2
      split at h
      · rename_i hs
        cases h
        exact .inr (.inl ⟨_, _, datP_ok s rx e1, datP_ok s ry e2, hs.1, hs.2, hq⟩)
      · cases h
    · rename_i e1 e2
      split at h
      · rename_i hs
        cases h
        exact .inr (.inr ⟨_, _, datP_ok s rx e1, datP_ok s ry e2, hs.1, hs.2, hq⟩)
      · cases h
    · cases h
theorem op_inA (hu : X.A.units + 65 < cLine) : OpR X (compareOp .In) (fun x y H Q => InS id x y H Q ∨ (InL X.K id x y H Q ∨ InTp X.K id x y H Q)) := op_in_str.or ((op_inD hu).or (op_inT hu))
theorem op_notInA (hu : X.A.units + 65 < cLine) : OpR X (compareOp .NotIn) (fun x y H Q => InS not x y H Q ∨ (InL X.K not x y H Q ∨ InTp X.K not x y H Q)) := op_notIn_str.or ((op_notInD hu).or (op_notInT hu))
theorem ok_inA {K : PySem.W.Frag} : OpOk K ca (fun x y H Q => InS id x y H Q ∨ (InL K id x y H Q ∨ InTp K id x y H Q)) inD := by
  intro q H S x y d e W Q s rx ry pr
  unfold inD at pr
  split at pr
  · rename_i k h
    exact inB_V s rx ry h (pr.put (.bl _) s)
  · exact pr.elim
theorem ok_notInA {K : PySem.W.Frag} : OpOk K ca (fun x y H Q => InS not x y H Q ∨ (InL K not x y H Q ∨ InTp K not x y H Q)) notInD := by
  intro q H S x y d e W Q s rx ry pr
  unfold notInD at pr
  split at pr
  · rename_i k h
    exact inB_V s rx ry h (pr.put (.bl _) s)
  · exact pr.elim
/-! ### range(a, b, c) -/
def stepL (lo c : Int) (n : Nat) : List D := (List.range n).map fun (i : Nat) => D.int (lo + (i : Int) * c)
theorem joRc {K : PySem.W.Frag} {lo c : Int} {n : Nat} {r0 : List Addr} {H0 : Hp} : JOk K ca (Itc lo c n) (stepL lo c n) fixC r0 H0 where
  go := fun i r H S x g s c' q => by
    have hi : i < n := by
      have := (List.getElem?_eq_some_iff.mp q).1
      simpa [stepL] using this
    refine ⟨hi, fun w H' y => ?_⟩
    obtain ⟨rfl, rfl⟩ := y
    simp [stepL, hi] at q
    subst q
    exact ⟨.refl, s, .int _⟩
  stop := fun i r H S g s c' q => by
    show n ≤ i
    simpa [stepL] using q
/-- counting down by one -/
def rng3D (l : List D) (S : Sto) : Rs (List D × (Sto → Bool)) := match l with
  | [.int i, .int j, .int k] => if -(2 ^ 62) ≤ i ∧ i < 2 ^ 62 ∧ -(2 ^ 62) ≤ j ∧ j < 2 ^ 62 ∧ k = -1 then .ok (stepL i (-1) (i - j).toNat, fixC) S else .bad
  | _ => .bad
theorem iv_rng3 {b c : Expr} (hg : Gl X "range") (hm : X.mg "range" = none) (h : AV X ca [a, b, c] ms) (hs : starEach [a, b, c] X.env = (false, eval a X.env) :: starEach [b, c] X.env := by rfl) (hpl : (backTo pos (starEach [b, c] X.env)).any (·.1) = false := by rfl) :
    IV X ca tg (.Call (.Name "range" p) [a, b, c] [] pos) (rngI rng3D ms) :=
  fun W tk => weakI (pi_range3 hg hm (h W tk) hs hpl) fun _ _ _ ⟨q, e, S, at_, pr⟩ => ⟨q, e, S, at_, PR.bind antiJ pr fun q1 H1 x d S1 g1 rx s1 pr1 => by
    unfold rng3D at pr1
    split at pr1
    · rename_i i j k
      split at pr1
      · rename_i hj
        obtain ⟨h1, h2, h3, h4, rfl⟩ := hj
        obtain ⟨v, t, rfl, r1, r2⟩ := rx.cons_of
        obtain ⟨v2, t2, rfl, r3, r4⟩ := r2.cons_of
        obtain ⟨v3, t3, rfl, r5, r6⟩ := r4.cons_of
        rw [r1.int_of, r3.int_of, r5.int_of, r6.nil_of]
        exact ⟨i, j, -1, (i - j).toNat, rfl, RgC.neg h1 h2 h3 h4, pr1 q1 H1 _ .refl joRc s1⟩
      · exact pr1.elim
    · exact pr1.elim⟩
/-! ### all, any, sum, max of a new list -/
def allBl : List D → Option (List Bool)
  | [] => some []
  | .bl b :: r => (allBl r).map (b :: ·)
  | _ :: _ => none
def allInt : List D → Option (List Int)
  | [] => some []
  | .int b :: r => (allInt r).map (b :: ·)
  | _ :: _ => none
theorem allBl_ok {K : PySem.W.Frag} {q : List Addr} {H : Hp} : ∀ {l : List D} {vs : List V} {bs : List Bool}, Reps K q H vs l → allBl l = some bs → vs = bs.map V.bl
  | [], vs, bs, r, h => by
    cases h
    exact r.nil_of
  | d :: l, vs, bs, r, h => by
    obtain ⟨v, t, rfl, r1, r2⟩ := r.cons_of
    cases d <;> try (cases h)
    rename_i b
    obtain ⟨bs', e, rfl⟩ := Option.map_eq_some_iff.mp (show (allBl l).map (b :: ·) = some bs from h)
    rw [r1.bl_of, allBl_ok r2 e]
    rfl
theorem allInt_ok {K : PySem.W.Frag} {q : List Addr} {H : Hp} : ∀ {l : List D} {vs : List V} {bs : List Int}, Reps K q H vs l → allInt l = some bs → vs = bs.map V.int
  | [], vs, bs, r, h => by
    cases h
    exact r.nil_of
  | d :: l, vs, bs, r, h => by
    obtain ⟨v, t, rfl, r1, r2⟩ := r.cons_of
    cases d <;> try (cases h)
    rename_i b
    obtain ⟨bs', e, rfl⟩ := Option.map_eq_some_iff.mp (show (allInt l).map (b :: ·) = some bs from h)
    rw [r1.int_of, allInt_ok r2 e]
    rfl
def allL (l : List D) (S : Sto) : Rs D := match allBl l with
  | some bs => .ok (.bl (bs.all id)) S
  | none => .bad
def anyL (l : List D) (S : Sto) : Rs D := match allBl l with
  | some bs => .ok (.bl (bs.any id)) S
  | none => .bad
def sumL (l : List D) (S : Sto) : Rs D := match allInt l with
  | some bs => .ok (.int bs.sum) S
  | none => .bad
def maxL (l : List D) (S : Sto) : Rs D := match allInt l with
  | some (b :: bs) => .ok (.int (bs.foldl max b)) S
  | _ => .bad
theorem ev_allL (hc : X.calm = true) (hg : Gl X "all") (hm : X.mg "all" = none) (ha : LV X ca a ms) (he : starEach [a] X.env = [(false, eval a X.env)] := by rfl) : EV X ca (.Call (.Name "all" p) [a] [] pos) (onL allL ms) :=
  ev_bL (cr_all hc) (fun q H S p vs l W Q s hp rs pr => by
    unfold allL at pr
    split at pr
    · rename_i bs hb
      rw [allBl_ok rs hb] at hp
      exact ⟨p, bs, rfl, SqL.of hp, pr.put (.bl _) s⟩
    · exact pr.elim) hg hm PyProof.Rows.boot_all ha (by decide) (by decide) he
theorem ev_anyL (hc : X.calm = true) (hg : Gl X "any") (hm : X.mg "any" = none) (ha : LV X ca a ms) (he : starEach [a] X.env = [(false, eval a X.env)] := by rfl) : EV X ca (.Call (.Name "any" p) [a] [] pos) (onL anyL ms) :=
  ev_bL (cr_any hc) (fun q H S p vs l W Q s hp rs pr => by
    unfold anyL at pr
    split at pr
    · rename_i bs hb
      rw [allBl_ok rs hb] at hp
      exact ⟨p, bs, rfl, SqL.of hp, pr.put (.bl _) s⟩
    · exact pr.elim) hg hm PyProof.Rows.boot_any ha (by decide) (by decide) he
theorem ev_sumL (hc : X.calm = true) (hg : Gl X "sum") (hm : X.mg "sum" = none) (ha : LV X ca a ms) (he : starEach [a] X.env = [(false, eval a X.env)] := by rfl) : EV X ca (.Call (.Name "sum" p) [a] [] pos) (onL sumL ms) :=
  ev_bL (cr_sum hc) (fun q H S p vs l W Q s hp rs pr => by
    unfold sumL at pr
    split at pr
    · rename_i bs hb
      rw [allInt_ok rs hb] at hp
      exact ⟨p, bs, rfl, SqL.of hp, pr.put (.int _) s⟩
    · exact pr.elim) hg hm PyProof.Rows.boot_sum ha (by decide) (by decide) he
theorem foldl_max {m : Int} : ∀ {bs : List Int} {b : Int}, m ∈ b :: bs → (∀ y ∈ b :: bs, y ≤ m) → bs.foldl max b = m
  | [], b, h, hm => by
    have : m = b := by simpa using h
    exact this.symm
  | c :: bs, b, h, hm => by
    rw [List.foldl_cons]
    refine foldl_max ?_ fun y hy => ?_
    · rcases List.mem_cons.mp h with rfl | h
      · have := hm c (by simp)
        rw [Int.max_eq_left this]
        exact List.mem_cons_self
      · rcases List.mem_cons.mp h with rfl | h
        · have := hm b (by simp)
          rw [Int.max_eq_right this]
          exact List.mem_cons_self
        · exact List.mem_cons_of_mem _ h
    · rcases List.mem_cons.mp hy with rfl | hy
      · have h1 := hm b (by simp)
        have h2 := hm c (by simp)
        omega
      · exact hm y (by simp [hy])
theorem ev_maxL (hc : X.calm = true) (hg : Gl X "max") (hm : X.mg "max" = none) (ha : LV X ca a ms) (he : starEach [a] X.env = [(false, eval a X.env)] := by rfl) : EV X ca (.Call (.Name "max" p) [a] [] pos) (onL maxL ms) :=
  ev_bL (cr_max hc) (fun q H S p vs l W Q s hp rs pr => by
    unfold maxL at pr
    split at pr
    · rename_i b bs hb
      rw [allInt_ok rs hb] at hp
      refine ⟨p, b :: bs, rfl, SqL.of hp, by simp, fun m h1 h2 => ?_⟩
      rw [← foldl_max h1 h2]
      exact pr.put (.int _) s
    · exact pr.elim) hg hm PyProof.Rows.boot_max ha (by decide) (by decide) he
/-! ### pop, extend -/
def popD (o : D) (S : Sto) : Rs D := match o with
  | .obj n => match S[n]? with
    | some (.lst l) => match l[l.length - 1]? with
      | some v => .ok v (S.set n (.lst l.dropLast))
      | none => .bad
    | _ => .bad
  | _ => .bad
theorem ev_pop (ho : EV X ca o mo) (hbase : attributeBase o "pop" X.env (eval o X.env) = eval o X.env := by rfl) (hline : (apos.endLine == cpos.line) = true := by rfl) : EV X ca (.Call (.Attribute o "pop" apos) [] [] cpos) (met0 isLst popD mo) :=
  fun W tk => weakE (pe_bm0 PySem.F.plainAttrs_list PySem.F.slot_list_pop PySem.F.type_list_pop mt_pop (ho W tk) hbase hline) fun s H Q ⟨q, e, S, at_, pr⟩ => ⟨q, e, S, at_, PR.bind antiD pr fun q1 H1 x d S1 g1 rx s1 pr1 => by
    split at pr1
    · rename_i hk
      obtain ⟨n, p, vs0, rfl, rfl, hn, hp⟩ := isLst_ok s1 rx hk
      refine ⟨.inl ⟨rfl, _, SqL.of hp⟩, ?_⟩
      unfold popD at pr1
      dsimp only at pr1
      split at pr1
      · rename_i l el
        split at pr1
        · rename_i v hv
          obtain ⟨vs, h1, h2⟩ := lst_at s1 hn el
          obtain ⟨w, h3, h4⟩ := h2.get hv
          obtain ⟨g, s'⟩ := sto_set s1 hn h1 h2.dropLast
          exact ⟨p, vs, w, rfl, rfl, h1, by rw [h2.length]; exact h3, pr1 q1 _ _ g (h4.grow g) s'⟩
        · exact pr1.elim
      · exact pr1.elim
    · exact pr1.elim⟩
def popAtD (o v : D) (S : Sto) : Rs D := match o, v with
  | .obj n, .int i => match S[n]? with
    | some (.lst l) => if -(2 ^ 63) ≤ i ∧ i < 2 ^ 63 then match seqIndex? i l.length with
        | some k => match l[k]? with
          | some v => .ok v (S.set n (.lst (l.eraseIdx k)))
          | none => .bad
        | none => .bad
      else .bad
    | _ => .bad
  | _, _ => .bad
theorem ev_popAt (ho : EV X ca o mo) (ha : EV X ca a ma) (hbase : attributeBase o "pop" X.env (eval o X.env) = eval o X.env := by rfl)
    (hfew : ((backTo cpos (starEach [a] X.env)).all (fun x => !x.1) && (backToKw cpos (keywordEach [] X.env)).all (fun x => x.1.isSome)
      && decide ([a].length + ([] : List Keyword).length + (if ([] : List Keyword).isEmpty then 0 else 1) < 30)) = true := by rfl)
    (hline : (apos.endLine == cpos.line) = true := by rfl) (hs : starEach [a] X.env = [(false, eval a X.env)] := by rfl) : EV X ca (.Call (.Attribute o "pop" apos) [a] [] cpos) (metM isLst popAtD mo ma) :=
  fun W tk => weakE (pe_bm PySem.F.plainAttrs_list PySem.F.slot_list_pop PySem.F.type_list_pop mt_popAt (ho W tk) (pa_cons (ha W tk) pa_nil hs) hbase hfew hline hs rfl) fun s H Q ⟨q, e, S, at_, pr⟩ => ⟨q, e, S, at_, PR.bind antiD pr fun q1 H1 x d S1 g1 rx s1 pr1 => by
    split at pr1
    · rename_i hk
      obtain ⟨n, p, vs0, rfl, rfl, hn, hp⟩ := isLst_ok s1 rx hk
      refine ⟨.inl ⟨rfl, _, SqL.of hp⟩, q1, e, S1, ⟨at_.sl.grow g1, s1⟩, PR.bind antiD pr1 fun q2 H2 y d2 S2 g2 ry s2 pr2 => ?_⟩
      unfold popAtD at pr2
      split at pr2
      · rename_i n' i e1
        cases e1
        split at pr2
        · rename_i l el
          split at pr2
          · rename_i hi
            split at pr2
            · rename_i k hk2
              split at pr2
              · rename_i v hv
                obtain ⟨vs, h1, h2⟩ := lst_at s2 (g2.pre _ _ hn) el
                obtain ⟨w, h3, h4⟩ := h2.get hv
                obtain ⟨g, s'⟩ := sto_set s2 (g2.pre _ _ hn) h1 (h2.eraseIdx k)
                exact ⟨p, vs, i, k, w, rfl, by rw [ry.int_of], h1, hi.1, hi.2, by rw [h2.length]; exact hk2, h3, pr2 q2 _ _ g (h4.grow g) s'⟩
              · exact pr2.elim
            · exact pr2.elim
          · exact pr2.elim
        · exact pr2.elim
      · exact pr2.elim
    · exact pr1.elim⟩
/-- o.extend(new list) -/
def extL (o : D) (l2 : List D) (S : Sto) : Rs D := match o with
  | .obj n => match S[n]? with
    | some (.lst l) => if l.length + l2.length ≤ sizeLine then .ok .non (S.set n (.lst (l ++ l2))) else .bad
    | _ => .bad
  | _ => .bad
def extLM (o : ME) (m : MA) : ME := fun e S => bindR (o e S) fun x S1 => if isLst x S1 = true then bindR (m e S1) fun l S2 => extL x l S2 else .bad
theorem ev_extendL (ho : EV X ca o mo) (ha : LV X ca a ms) (hbase : attributeBase o "extend" X.env (eval o X.env) = eval o X.env := by rfl)
    (hfew : ((backTo cpos (starEach [a] X.env)).all (fun x => !x.1) && (backToKw cpos (keywordEach [] X.env)).all (fun x => x.1.isSome)
      && decide ([a].length + ([] : List Keyword).length + (if ([] : List Keyword).isEmpty then 0 else 1) < 30)) = true := by rfl)
    (hline : (apos.endLine == cpos.line) = true := by rfl) (hs : starEach [a] X.env = [(false, eval a X.env)] := by rfl) : EV X ca (.Call (.Attribute o "extend" apos) [a] [] cpos) (extLM mo ms) :=
  fun W tk => weakE (pe_bm PySem.F.plainAttrs_list PySem.F.slot_list_extend PySem.F.type_list_extend mt_extend (ho W tk) (pa_cons (ha W tk) pa_nil hs) hbase hfew hline hs rfl) fun s H Q ⟨q, e, S, at_, pr⟩ => ⟨q, e, S, at_, PR.bind antiD pr fun q1 H1 x d S1 g1 rx s1 pr1 => by
    split at pr1
    · rename_i hk
      obtain ⟨n, p, vs0, rfl, rfl, hn, hp⟩ := isLst_ok s1 rx hk
      refine ⟨.inl ⟨rfl, _, SqL.of hp⟩, q1, e, S1, ⟨at_.sl.grow g1, s1⟩, PR.bind antiD pr1 fun q2 H2 y l2 S2 g2 ry s2 pr2 => ?_⟩
      obtain ⟨p2, ws, rfl, h0, hq, hp2, rs⟩ := ry
      unfold extL at pr2
      dsimp only at pr2
      split at pr2
      · rename_i l el
        split at pr2
        · rename_i hz
          obtain ⟨vs, h1, h2⟩ := lst_at s2 (g2.pre _ _ hn) el
          obtain ⟨g, s'⟩ := sto_set s2 (g2.pre _ _ hn) h1 (h2.append rs)
          exact ⟨p, p2, vs, ws, rfl, rfl, h1, hp2, by rw [h2.length, rs.length]; exact hz, pr2 q2 _ _ g .non s'⟩
        · exact pr2.elim
      · exact pr2.elim
    · exact pr1.elim⟩
/-- o.extend(a list that stands) -/
def extD (o v : D) (S : Sto) : Rs D := match lstO v S with
  | some l => extL o l S
  | none => .bad
theorem ev_extend (ho : EV X ca o mo) (ha : EV X ca a ma) (hbase : attributeBase o "extend" X.env (eval o X.env) = eval o X.env := by rfl)
    (hfew : ((backTo cpos (starEach [a] X.env)).all (fun x => !x.1) && (backToKw cpos (keywordEach [] X.env)).all (fun x => x.1.isSome)
      && decide ([a].length + ([] : List Keyword).length + (if ([] : List Keyword).isEmpty then 0 else 1) < 30)) = true := by rfl)
    (hline : (apos.endLine == cpos.line) = true := by rfl) (hs : starEach [a] X.env = [(false, eval a X.env)] := by rfl) : EV X ca (.Call (.Attribute o "extend" apos) [a] [] cpos) (metM isLst extD mo ma) :=
  fun W tk => weakE (pe_bm PySem.F.plainAttrs_list PySem.F.slot_list_extend PySem.F.type_list_extend mt_extend (ho W tk) (pa_cons (ha W tk) pa_nil hs) hbase hfew hline hs rfl) fun s H Q ⟨q, e, S, at_, pr⟩ => ⟨q, e, S, at_, PR.bind antiD pr fun q1 H1 x d S1 g1 rx s1 pr1 => by
    split at pr1
    · rename_i hk
      obtain ⟨n, p, vs0, rfl, rfl, hn, hp⟩ := isLst_ok s1 rx hk
      refine ⟨.inl ⟨rfl, _, SqL.of hp⟩, q1, e, S1, ⟨at_.sl.grow g1, s1⟩, PR.bind antiD pr1 fun q2 H2 y d2 S2 g2 ry s2 pr2 => ?_⟩
      unfold extD at pr2
      split at pr2
      · rename_i l2 e2
        obtain ⟨p2, ws, rfl, hp2, rs⟩ := lstO_ok s2 ry e2
        unfold extL at pr2
        dsimp only at pr2
        split at pr2
        · rename_i l el
          split at pr2
          · rename_i hz
            obtain ⟨vs, h1, h2⟩ := lst_at s2 (g2.pre _ _ hn) el
            obtain ⟨g, s'⟩ := sto_set s2 (g2.pre _ _ hn) h1 (h2.append rs)
            exact ⟨p, p2, vs, ws, rfl, rfl, h1, hp2, by rw [h2.length, rs.length]; exact hz, pr2 q2 _ _ g .non s'⟩
          · exact pr2.elim
        · exact pr2.elim
      · exact pr2.elim
    · exact pr1.elim⟩
end
end L3
namespace L3
open PySem PySem.Spec L2
/-! ### constants of the module -/
def RepC (K : PySem.W.Frag) (u : Value) (d : D) : Prop := ∃ v, RelV v u ∧ ∀ r H, Rep K r H v d
def RepCs (K : PySem.W.Frag) (us : List Value) (ds : List D) : Prop := ∃ vs, Vals vs us ∧ ∀ r H, Reps K r H vs ds
def KnownC (K : PySem.W.Frag) (mg : Str → Option Value) (x : Str) (d : D) : Prop := ∃ u, mg x = some u ∧ RepC K u d
theorem repC_int {K : PySem.W.Frag} {i : Int} {t : Tok} : RepC K (.int i t) (.int i) := ⟨.int i, ⟨t, rfl⟩, fun _ _ => .int i⟩
theorem repC_str {K : PySem.W.Frag} {i : Str} {t : Tok} : RepC K (.str i t) (.str i) := ⟨.str i, ⟨t, rfl⟩, fun _ _ => .str i⟩
theorem repCs_nil {K : PySem.W.Frag} : RepCs K [] [] := ⟨[], .nil, fun _ _ => .nil⟩
theorem repCs_cons {K : PySem.W.Frag} {u : Value} {us : List Value} {d : D} {ds : List D} (h : RepC K u d) (hs : RepCs K us ds) : RepCs K (u :: us) (d :: ds) := by
  obtain ⟨v, h1, h2⟩ := h
  obtain ⟨vs, h3, h4⟩ := hs
  exact ⟨v :: vs, .cons h1 h3, fun r H => .cons (h2 r H) (h4 r H)⟩
theorem repC_tup {K : PySem.W.Frag} {a : Addr} {dd : Option Addr} {its : Array Value} {n : Nat} {sl : Array (Option Value)} {ds : List D} (h : K.lookup a = some ⟨.type "tuple", dd, .seq its n, sl⟩) (hz : its.size ≤ sizeLine) (hs : RepCs K its.toList ds) : RepC K (.ref a) (.tup ds) := by
  obtain ⟨vs, h3, h4⟩ := hs
  exact ⟨.ref a, rfl, fun r H => .tup (.inr ⟨_, its, n, h, rfl, rfl, hz, h3⟩) (h4 r H)⟩
theorem ev_const {X : Cx} {ca : Nat → Addr} {x : Str} {d : D} {pos : Pos} (hg : Gl X x) (h : KnownC X.K X.mg x d) (hd : (x == ("__debug__" : Str)) = false := by decide) : EV X ca (.Name x pos) (cM d) := by
  obtain ⟨u, h1, v, h2, h3⟩ := h
  exact ev_glob hg h1 h2 h3 hd
end L3
namespace L3
open PySem PySem.Spec L2
theorem un65 {k : Nat} {A : Around} (r : Room k A) : A.units + 65 < cLine := by have := r.un; omega
theorem un80 {k : Nat} {A : Around} (r : Room k A) : A.units + 80 < cLine := by have := r.un; omega
end L3

/-! L3F: the law's own head: from the mirror's truth to the row. -/
namespace L3
open PySem PySem.Spec L2
/-- a list of at most 63 ints comes in, True goes out -/
def spLaw (K : PySem.W.Frag) : Sp := fun vs H Q _ => ∃ (a : Addr) (ns : List Int), vs = [.ref a] ∧ FzL K H a (ns.map V.int) ∧ ns.length ≤ 63 ∧ ∀ H', Q (.bl true) H'
theorem law_imp {P : Program} {w : World} {K : PySem.W.Frag} {mg : Str → Option Value} {base : Heap} {ca : Nat → Addr} {k : Nat} {f : Addr} {fd : FuncData} {m : List D → Sto → Rs D}
    (tr : ∀ ns : List Int, ns.length ≤ 63 → ∃ S, m [.fz (ns.map D.int)] [] = .ok (.bl true) S) (F : FnOk P w K mg base (L2.CX P w) k f fd ["script"] (spM K ca 1 m)) : FnOk P w K mg base (L2.CX P w) k f fd ["script"] (spLaw K) :=
  F.imp fun vs H Q E ⟨a, ns, e, hf, hl, hq⟩ => by
    subst e
    obtain ⟨S, hS⟩ := tr ns hl
    refine ⟨rfl, [], [], [.fz (ns.map D.int)], ⟨rfl, List.nodup_nil, fun n o h => by simp at h⟩, .cons (.fz hf .ints) .nil, ?_⟩
    rw [hS]
    intro r' H' v g rv so
    rw [rv.bl_of]
    exact hq H'
theorem walk_law {l : PySem.W.OpenLaw} {k : Nat} {q : Program} {loose : List Str} {XP : (Str → Option Value) → Heap → Prop} {YP : World → Heap → Prop} {d : DefRec} {K : Params → PySem.W.Frag} {m : List D → Sto → Rs D} (hn : l.most = some 63) (hdf : d.params.defaults = []) (hr : Room k callerA)
    (hY : ∀ (w : World) (h : Heap), YP w h → (K w.params).In h) (tr : ∀ ns : List Int, ns.length ≤ 63 → ∃ S, m [.fz (ns.map D.int)] [] = .ok (.bl true) S)
    (F : ∀ (w : World) (mg : Str → Option Value) (fa : Addr) (h : Heap), (K w.params).In h → h.Ns mainGlobals mg → mg d.name = some (.ref fa) →
      ∃ (fd : FuncData) (ca : Nat → Addr), (∀ (s : Shared) (u : Value), BindsTo s fd ⟨[u], []⟩ [("script", u)]) ∧ ∀ base : Heap, (K w.params).In base → base.Ns mainGlobals mg → FnOk l.prog w (K w.params) mg base (L2.CX l.prog w) k fa fd ["script"] (spM (K w.params) ca 1 m)) :
    PySem.W.WalkO q loose XP YP l.row.toRowW d [] (fun f vs => PySem.call f vs) :=
  L2.walk_of (n := 63) (k := k) (x := "script") (CX := fun w => L2.CX l.prog w) (sp := fun w => spLaw (K w.params)) hn (by decide) hdf hr hY
    (fun w mg fa h KX G hmg => by
      obtain ⟨fd, ca, hb, hF⟩ := F w mg fa h KX G hmg
      exact ⟨fd, hb, fun base h1 h2 => law_imp tr (hF base h1 h2)⟩)
    (fun w H a ns hl hO hS => by
      refine ⟨a, ns, rfl, ?_, hl, fun _ => rfl⟩
      rcases hS with (hS | hS) | hS
      · rcases hO a with z | ⟨o, xs, z⟩
        · rw [hS] at z; cases z
        · rw [hS] at z; cases z
      · exact .inl hS
      · exact .inr hS)
    fun w H s e s' h => by
      obtain ⟨_, _, _, _, _, _, _, _, _, _, _, _, z⟩ := h
      exact z
end L3

/-! L3G: reckoning with mirrors. -/
namespace L3
open PySem PySem.Spec L2
section
variable {S S1 S2 : Sto} {e e1 : Sl} {n m : Nat} {l : List D} {d v x y z u : D} {α β : Type}
/-! ### indices -/
theorem atI_0 {a : α} {l : List α} : atI (a :: l) 0 = some a := by
  have h := atI_nat (xs := a :: l) (j := 0) (v := a) rfl
  exact h
theorem atI_1 {a b : α} {l : List α} : atI (a :: b :: l) 1 = some b := by
  have h := atI_nat (xs := a :: b :: l) (j := 1) (v := b) rfl
  exact h
theorem atI_2 {a b c : α} {l : List α} : atI (a :: b :: c :: l) 2 = some c := by
  have h := atI_nat (xs := a :: b :: c :: l) (j := 2) (v := c) rfl
  exact h
theorem atI_3 {a b c d : α} {l : List α} : atI (a :: b :: c :: d :: l) 3 = some d := by
  have h := atI_nat (xs := a :: b :: c :: d :: l) (j := 3) (v := d) rfl
  exact h
theorem atI_4 {a b c d e : α} {l : List α} : atI (a :: b :: c :: d :: e :: l) 4 = some e := by
  have h := atI_nat (xs := a :: b :: c :: d :: e :: l) (j := 4) (v := e) rfl
  exact h
theorem atI_at {l : List α} {i : Int} (h0 : 0 ≤ i) (h1 : i < l.length) : ∃ v, atI l i = some v ∧ l[i.toNat]? = some v := by
  have h2 : i.toNat < l.length := by omega
  refine ⟨l[i.toNat], ?_, List.getElem?_eq_getElem h2⟩
  have := atI_nat (xs := l) (j := i.toNat) (v := l[i.toNat]) (List.getElem?_eq_getElem h2)
  rwa [Int.toNat_of_nonneg h0] at this
theorem atI_neg1 {l : List α} (h : l ≠ []) : atI l (-1) = some (l.getLast h) := by
  have := atI_last l.dropLast (l.getLast h)
  rwa [List.dropLast_concat_getLast] at this
theorem ixN_0 {k : Nat} : ixN (k + 1) 0 = some 0 := by
  unfold ixN
  rw [if_pos (by decide), if_pos (by omega)]
  rfl
theorem ixN_1 {k : Nat} : ixN (k + 2) 1 = some 1 := by
  unfold ixN
  rw [if_pos (by decide), if_pos (by omega)]
  rfl
theorem ixN_2 {k : Nat} : ixN (k + 3) 2 = some 2 := by
  unfold ixN
  rw [if_pos (by decide), if_pos (by omega)]
  rfl
theorem ixN_3 {k : Nat} : ixN (k + 4) 3 = some 3 := by
  unfold ixN
  rw [if_pos (by decide), if_pos (by omega)]
  rfl
theorem ixN_4 {k : Nat} : ixN (k + 5) 4 = some 4 := by
  unfold ixN
  rw [if_pos (by decide), if_pos (by omega)]
  rfl

/-! ### one step at a time: each piece as a function of what came out of the one before -/
variable {a b c : ME} {t t2 : MT} {ma mb : MS} {ms ms2 : MA} {im : IM} {f g : D → D → Sto → Rs D} {f1 : D → Sto → Rs D} {fl : List D → Sto → Rs D} {i j k : Nat} {bb : Bool} {xx : Ex} {gg : D → Sl → Option Sl} {chk : Sto → Bool} {own : List Nat}
def thenT (r : Rt) (b : MS) : Rt := match r with
  | .nx e S => b e S
  | x => x
@[simp] theorem seqM_ev {e : Sl} {S : Sto} : seqM ma mb e S = thenT (ma e S) mb := by unfold seqM thenT; cases ma e S <;> rfl
@[simp] theorem thenT_nx : thenT (.nx e S) mb = mb e S := (rfl)
@[simp] theorem thenT_rt : thenT (.rt d S) mb = .rt d S := (rfl)
@[simp] theorem thenT_bk : thenT (.bk e S) mb = .bk e S := (rfl)
@[simp] theorem thenT_ct : thenT (.ct e S) mb = .ct e S := (rfl)
@[simp] theorem thenT_rse : thenT (.rse xx e S) mb = .rse xx e S := (rfl)
@[simp] theorem nopM_ev : nopM e S = .nx e S := (rfl)
@[simp] theorem brkM_ev : brkM e S = .bk e S := (rfl)
@[simp] theorem cntM_ev : cntM e S = .ct e S := (rfl)
def setT (i : Nat) (e : Sl) (r : Rs D) : Rt := match r with
  | .ok d S => .nx (e.set i (some d)) S
  | .rse x S => .rse x e S
  | .bad => .bad
@[simp] theorem setM_ev : setM i a e S = setT i e (a e S) := by unfold setM setT bindT; cases a e S <;> rfl
@[simp] theorem setT_ok : setT i e (.ok d S) = .nx (e.set i (some d)) S := (rfl)
@[simp] theorem setT_rse : setT i e (.rse xx S) = .rse xx e S := (rfl)
def setLT (i : Nat) (e : Sl) (r : Rs (List D)) : Rt := match r with
  | .ok l S => .nx (e.set i (some (.obj S.length))) (S ++ [.lst l])
  | .rse x S => .rse x e S
  | .bad => .bad
@[simp] theorem setLM_ev : setLM i ms e S = setLT i e (ms e S) := by unfold setLM setLT bindT; cases ms e S <;> rfl
@[simp] theorem setLT_ok : setLT i e (.ok l S) = .nx (e.set i (some (.obj S.length))) (S ++ [.lst l]) := (rfl)
def dropT (e : Sl) (r : Rs D) : Rt := match r with
  | .ok _ S => .nx e S
  | .rse x S => .rse x e S
  | .bad => .bad
@[simp] theorem dropM_ev : dropM a e S = dropT e (a e S) := by unfold dropM dropT bindT; cases a e S <;> rfl
@[simp] theorem dropT_ok : dropT e (.ok d S) = .nx e S := (rfl)
@[simp] theorem dropT_rse : dropT e (.rse xx S) = .rse xx e S := (rfl)
def retT (e : Sl) (r : Rs D) : Rt := match r with
  | .ok d S => .rt d S
  | .rse x S => .rse x e S
  | .bad => .bad
@[simp] theorem retM_ev : retM a e S = retT e (a e S) := by unfold retM retT bindT; cases a e S <;> rfl
@[simp] theorem retT_ok : retT e (.ok d S) = .rt d S := (rfl)
@[simp] theorem retT_rse : retT e (.rse xx S) = .rse xx e S := (rfl)
def ifT (r : Rs Bool) (ma mb : MS) (e : Sl) : Rt := match r with
  | .ok c S => if c = true then ma e S else mb e S
  | .rse x S => .rse x e S
  | .bad => .bad
@[simp] theorem ifS_ev : ifS t ma mb e S = ifT (t e S) ma mb e := by unfold ifS ifT bindT; cases t e S <;> rfl
@[simp] theorem ifT_true : ifT (.ok true S) ma mb e = ma e S := (rfl)
@[simp] theorem ifT_false : ifT (.ok false S) ma mb e = mb e S := (rfl)
theorem ifT_ok : ifT (.ok bb S) ma mb e = if bb = true then ma e S else mb e S := (rfl)
def asgT (g : D → Sl → Option Sl) (e : Sl) (r : Rs D) : Rt := match r with
  | .ok d S => match g d e with
    | some e1 => .nx e1 S
    | none => .bad
  | .rse x S => .rse x e S
  | .bad => .bad
@[simp] theorem asgM_ev : asgM gg a e S = asgT gg e (a e S) := by unfold asgM asgT bindT; cases a e S <;> rfl
theorem asgT_ok : asgT gg e (.ok d S) = (match gg d e with
    | some e1 => .nx e1 S
    | none => .bad) := rfl
def optT (o : Option Sl) (S : Sto) : Rt := match o with
  | some e1 => .nx e1 S
  | none => .bad
@[simp] theorem asgT_ok' : asgT gg e (.ok d S) = optT (gg d e) S := (rfl)
@[simp] theorem optT_some : optT (some e1) S = .nx e1 S := (rfl)
/-! #### expressions -/
@[simp] theorem cM_ev : cM d e S = .ok d S := (rfl)
def vR (o : Option (Option D)) (S : Sto) : Rs D := match o with
  | some (some d) => .ok d S
  | _ => .bad
@[simp] theorem vM_ev : vM i e S = vR e[i]? S := (rfl)
@[simp] theorem vR_some : vR (some (some d)) S = .ok d S := (rfl)
def op1 (f : D → D → Sto → Rs D) (r : Rs D) (b : ME) (e : Sl) : Rs D := match r with
  | .ok x S1 => match b e S1 with
    | .ok y S2 => f x y S2
    | .rse x S => .rse x S
    | .bad => .bad
  | .rse x S => .rse x S
  | .bad => .bad
def op2 (f : D → D → Sto → Rs D) (x : D) (r : Rs D) : Rs D := match r with
  | .ok y S2 => f x y S2
  | .rse x S => .rse x S
  | .bad => .bad
@[simp] theorem opM_ev : opM f a b e S = op1 f (a e S) b e := by
  unfold opM op1 bindR
  cases a e S with
  | ok x S1 => dsimp only; cases b e S1 <;> rfl
  | _ => rfl
@[simp] theorem op1_ok : op1 f (.ok x S) b e = op2 f x (b e S) := by unfold op1 op2; dsimp only
@[simp] theorem op1_rse : op1 f (.rse xx S) b e = .rse xx S := (rfl)
@[simp] theorem op2_ok : op2 f x (.ok y S) = f x y S := (rfl)
@[simp] theorem op2_rse : op2 f x (.rse xx S) = .rse xx S := (rfl)
def un1 (f : D → Sto → Rs D) (r : Rs D) : Rs D := match r with
  | .ok x S1 => f x S1
  | .rse x S => .rse x S
  | .bad => .bad
@[simp] theorem unM_ev : unM f1 a e S = un1 f1 (a e S) := by unfold unM un1 bindR; cases a e S <;> rfl
@[simp] theorem un1_ok : un1 f1 (.ok x S) = f1 x S := (rfl)
@[simp] theorem un1_rse : un1 f1 (.rse xx S) = .rse xx S := (rfl)
def blR (r : Rs D) : Rs Bool := match r with
  | .ok (.bl k) S => .ok k S
  | .rse x S => .rse x S
  | _ => .bad
@[simp] theorem blT_ev : blT a e S = blR (a e S) := by
  unfold blT blR bindR
  cases a e S with
  | ok x S1 => cases x <;> rfl
  | _ => rfl
@[simp] theorem blR_ok : blR (.ok (.bl bb) S) = .ok bb S := (rfl)
@[simp] theorem blR_rse : blR (.rse xx S) = .rse xx S := (rfl)
def trR (r : Rs D) : Rs Bool := match r with
  | .ok d S => truD d S
  | .rse x S => .rse x S
  | .bad => .bad
@[simp] theorem trT_ev : trT a e S = trR (a e S) := by unfold trT trR bindR; cases a e S <;> rfl
@[simp] theorem trR_ok : trR (.ok d S) = truD d S := (rfl)
@[simp] theorem tru_bl : truD (.bl bb) S = .ok bb S := (rfl)
@[simp] theorem tru_non : truD .non S = .ok false S := (rfl)
@[simp] theorem tru_tup : truD (.tup l) S = .ok (!l.isEmpty) S := (rfl)
@[simp] theorem tru_int {i : Int} : truD (.int i) S = .ok (i != 0) S := (rfl)
theorem tru_lst (h : S[n]? = some (.lst l)) : truD (.obj n) S = .ok (!l.isEmpty) S := by unfold truD; dsimp only; rw [h]
def and1 (r : Rs Bool) (u : MT) (e : Sl) : Rs Bool := match r with
  | .ok c S => if c = true then u e S else .ok false S
  | .rse x S => .rse x S
  | .bad => .bad
@[simp] theorem andT_ev : andT t t2 e S = and1 (t e S) t2 e := by unfold andT and1 bindR; cases t e S <;> rfl
@[simp] theorem and1_true : and1 (.ok true S) t2 e = t2 e S := (rfl)
@[simp] theorem and1_false : and1 (.ok false S) t2 e = .ok false S := (rfl)
theorem and1_ok : and1 (.ok bb S) t2 e = if bb = true then t2 e S else .ok false S := (rfl)
def or1 (r : Rs Bool) (u : MT) (e : Sl) : Rs Bool := match r with
  | .ok c S => if c = true then .ok true S else u e S
  | .rse x S => .rse x S
  | .bad => .bad
@[simp] theorem orT_ev : orT t t2 e S = or1 (t e S) t2 e := by unfold orT or1 bindR; cases t e S <;> rfl
@[simp] theorem or1_true : or1 (.ok true S) t2 e = .ok true S := (rfl)
@[simp] theorem or1_false : or1 (.ok false S) t2 e = t2 e S := (rfl)
theorem or1_ok : or1 (.ok bb S) t2 e = if bb = true then .ok true S else t2 e S := (rfl)
def not1 (r : Rs Bool) : Rs Bool := match r with
  | .ok c S => .ok (!c) S
  | .rse x S => .rse x S
  | .bad => .bad
@[simp] theorem notT_ev : notT t e S = not1 (t e S) := by unfold notT not1 bindR; cases t e S <;> rfl
@[simp] theorem not1_ok : not1 (.ok bb S) = .ok (!bb) S := (rfl)
def andV (r : Rs D) (b : ME) (e : Sl) : Rs D := match r with
  | .ok (.bl true) S => b e S
  | .ok (.bl false) S => .ok (.bl false) S
  | .rse x S => .rse x S
  | _ => .bad
@[simp] theorem andM_ev : andM a b e S = andV (a e S) b e := by
  unfold andM andV bindR
  cases a e S with
  | ok x S1 =>
    cases x with
    | bl k => cases k <;> rfl
    | _ => rfl
  | _ => rfl
@[simp] theorem andV_true : andV (.ok (.bl true) S) b e = b e S := (rfl)
@[simp] theorem andV_false : andV (.ok (.bl false) S) b e = .ok (.bl false) S := (rfl)
def orV (r : Rs D) (b : ME) (e : Sl) : Rs D := match r with
  | .ok (.bl true) S => .ok (.bl true) S
  | .ok (.bl false) S => b e S
  | .rse x S => .rse x S
  | _ => .bad
@[simp] theorem orM_ev : orM a b e S = orV (a e S) b e := by
  unfold orM orV bindR
  cases a e S with
  | ok x S1 =>
    cases x with
    | bl k => cases k <;> rfl
    | _ => rfl
  | _ => rfl
@[simp] theorem orV_true : orV (.ok (.bl true) S) b e = .ok (.bl true) S := (rfl)
@[simp] theorem orV_false : orV (.ok (.bl false) S) b e = b e S := (rfl)
def if1 (r : Rs Bool) (a b : ME) (e : Sl) : Rs D := match r with
  | .ok c S => if c = true then a e S else b e S
  | .rse x S => .rse x S
  | .bad => .bad
@[simp] theorem ifM_ev : ifM t a b e S = if1 (t e S) a b e := by unfold ifM if1 bindR; cases t e S <;> rfl
@[simp] theorem if1_true : if1 (.ok true S) a b e = a e S := (rfl)
@[simp] theorem if1_false : if1 (.ok false S) a b e = b e S := (rfl)
theorem if1_ok : if1 (.ok bb S) a b e = if bb = true then a e S else b e S := (rfl)
def ch1 (f g : D → D → Sto → Rs D) (r : Rs D) (b c : ME) (e : Sl) : Rs D := match r with
  | .ok x S1 => bindR (b e S1) fun y S2 => bindR (f x y S2) fun z S3 => match z with
    | .bl true => bindR (c e S3) fun w S4 => g y w S4
    | .bl false => .ok (.bl false) S3
    | _ => .bad
  | .rse x S => .rse x S
  | .bad => .bad
def ch2 (f g : D → D → Sto → Rs D) (x : D) (r : Rs D) (c : ME) (e : Sl) : Rs D := match r with
  | .ok y S2 => bindR (f x y S2) fun z S3 => match z with
    | .bl true => bindR (c e S3) fun w S4 => g y w S4
    | .bl false => .ok (.bl false) S3
    | _ => .bad
  | .rse x S => .rse x S
  | .bad => .bad
def ch3 (g : D → D → Sto → Rs D) (y : D) (r : Rs D) (c : ME) (e : Sl) : Rs D := match r with
  | .ok (.bl true) S3 => bindR (c e S3) fun w S4 => g y w S4
  | .ok (.bl false) S3 => .ok (.bl false) S3
  | .rse x S => .rse x S
  | _ => .bad
@[simp] theorem chM_ev : chM f g a b c e S = ch1 f g (a e S) b c e := by unfold chM ch1 bindR; cases a e S <;> rfl
@[simp] theorem ch1_ok : ch1 f g (.ok x S) b c e = ch2 f g x (b e S) c e := by unfold ch1 ch2 bindR; dsimp only; cases b e S <;> rfl
@[simp] theorem ch2_ok : ch2 f g x (.ok y S) c e = ch3 g y (f x y S) c e := by
  unfold ch2 ch3 bindR
  dsimp only
  cases f x y S with
  | ok z S3 =>
    cases z with
    | bl k => cases k <;> rfl
    | _ => rfl
  | _ => rfl
@[simp] theorem ch3_true : ch3 g y (.ok (.bl true) S) c e = op2 g y (c e S) := by unfold ch3 op2 bindR; dsimp only; cases c e S <;> rfl
@[simp] theorem ch3_false : ch3 g y (.ok (.bl false) S) c e = .ok (.bl false) S := (rfl)
theorem ch3_bl : ch3 g y (.ok (.bl bb) S) c e = if bb = true then op2 g y (c e S) else .ok (.bl false) S := by cases bb <;> simp
@[simp] theorem nilA_ev : nilA e S = .ok [] S := (rfl)
def con1 (r : Rs D) (m : MA) (e : Sl) : Rs (List D) := match r with
  | .ok x S1 => match m e S1 with
    | .ok xs S2 => .ok (x :: xs) S2
    | .rse x S => .rse x S
    | .bad => .bad
  | .rse x S => .rse x S
  | .bad => .bad
def con2 (x : D) (r : Rs (List D)) : Rs (List D) := match r with
  | .ok xs S2 => .ok (x :: xs) S2
  | .rse x S => .rse x S
  | .bad => .bad
@[simp] theorem consA_ev : consA a ms e S = con1 (a e S) ms e := by
  unfold consA con1 bindR
  cases a e S with
  | ok x S1 => dsimp only; cases ms e S1 <;> rfl
  | _ => rfl
@[simp] theorem con1_ok : con1 (.ok x S) ms e = con2 x (ms e S) := by unfold con1 con2; dsimp only
@[simp] theorem con1_rse : con1 (.rse xx S) ms e = .rse xx S := (rfl)
@[simp] theorem con2_ok : con2 x (.ok l S) = .ok (x :: l) S := (rfl)
def tup1 (r : Rs (List D)) : Rs D := match r with
  | .ok l S => if l.length ≤ sizeLine then .ok (.tup l) S else .bad
  | .rse x S => .rse x S
  | .bad => .bad
@[simp] theorem tupM_ev : tupM ms e S = tup1 (ms e S) := by unfold tupM tup1 bindR; cases ms e S <;> rfl
theorem tup1_ok : tup1 (.ok l S) = if l.length ≤ sizeLine then .ok (.tup l) S else .bad := (rfl)
theorem tup1_small (h : l.length ≤ 1000) : tup1 (.ok l S) = .ok (.tup l) S := if_pos (Nat.le_trans h (by rw [sizeLine_eq]; decide))
@[simp] theorem tup1_0 : tup1 (.ok [] S) = .ok (.tup []) S := (rfl)
@[simp] theorem tup1_1 : tup1 (.ok [x] S) = .ok (.tup [x]) S := tup1_small (by simp)
@[simp] theorem tup1_2 : tup1 (.ok [x, y] S) = .ok (.tup [x, y]) S := tup1_small (by simp)
@[simp] theorem tup1_3 : tup1 (.ok [x, y, z] S) = .ok (.tup [x, y, z]) S := tup1_small (by simp)
@[simp] theorem tup1_4 : tup1 (.ok [x, y, z, u] S) = .ok (.tup [x, y, z, u]) S := tup1_small (by simp)
def sz1 (r : Rs (List D)) : Rs (List D) := match r with
  | .ok l S => if l.length ≤ sizeLine then .ok l S else .bad
  | .rse x S => .rse x S
  | .bad => .bad
@[simp] theorem szA_ev : szA ms e S = sz1 (ms e S) := by unfold szA sz1 bindR; cases ms e S <;> rfl
theorem sz1_ok : sz1 (.ok l S) = if l.length ≤ sizeLine then .ok l S else .bad := (rfl)
theorem sz1_small (h : l.length ≤ 1000) : sz1 (.ok l S) = .ok l S := if_pos (Nat.le_trans h (by rw [sizeLine_eq]; decide))
@[simp] theorem sz1_0 : sz1 (.ok [] S) = .ok [] S := (rfl)
@[simp] theorem sz1_1 : sz1 (.ok [x] S) = .ok [x] S := sz1_small (by simp)
@[simp] theorem sz1_2 : sz1 (.ok [x, y] S) = .ok [x, y] S := sz1_small (by simp)
@[simp] theorem sz1_3 : sz1 (.ok [x, y, z] S) = .ok [x, y, z] S := sz1_small (by simp)
@[simp] theorem sz1_4 : sz1 (.ok [x, y, z, u] S) = .ok [x, y, z, u] S := sz1_small (by simp)
@[simp] theorem sz1_5 : sz1 (.ok [x, y, z, u, v] S) = .ok [x, y, z, u, v] S := sz1_small (by simp)
@[simp] theorem sz1_6 {w : D} : sz1 (.ok [x, y, z, u, v, w] S) = .ok [x, y, z, u, v, w] S := sz1_small (by simp)
@[simp] theorem sz1_8 {w w2 w3 : D} : sz1 (.ok [x, y, z, u, v, w, w2, w3] S) = .ok [x, y, z, u, v, w, w2, w3] S := sz1_small (by simp)
@[simp] theorem sz1_10 {w w2 w3 w4 w5 : D} : sz1 (.ok [x, y, z, u, v, w, w2, w3, w4, w5] S) = .ok [x, y, z, u, v, w, w2, w3, w4, w5] S := sz1_small (by simp)
def new1 (r : Rs (List D)) : Rs D := match r with
  | .ok l S => .ok (.obj S.length) (S ++ [.lst l])
  | .rse x S => .rse x S
  | .bad => .bad
@[simp] theorem newM_ev : newM ms e S = new1 (ms e S) := by unfold newM new1 bindR; cases ms e S <;> rfl
@[simp] theorem new1_ok : new1 (.ok l S) = .ok (.obj S.length) (S ++ [.lst l]) := (rfl)
def onL1 (f : List D → Sto → Rs D) (r : Rs (List D)) : Rs D := match r with
  | .ok l S => f l S
  | .rse x S => .rse x S
  | .bad => .bad
@[simp] theorem onL_ev : onL fl ms e S = onL1 fl (ms e S) := by unfold onL onL1 bindR; cases ms e S <;> rfl
@[simp] theorem onL1_ok : onL1 fl (.ok l S) = fl l S := (rfl)
@[simp] theorem tupL_ev : tupL l S = .ok (.tup l) S := (rfl)
def cl1 (n : Nat) (f : List D → Sto → Rs D) (r : Rs (List D)) : Rs D := match r with
  | .ok ds S => if ds.length = n then f ds S else .bad
  | .rse x S => .rse x S
  | .bad => .bad
@[simp] theorem clM_ev : clM n fl ms e S = cl1 n fl (ms e S) := by unfold clM cl1 bindR; cases ms e S <;> rfl
@[simp] theorem cl1_rse : cl1 n fl (.rse xx S) = .rse xx S := (rfl)
theorem cl1_ok : cl1 n fl (.ok l S) = if l.length = n then fl l S else .bad := (rfl)
@[simp] theorem cl1_0 : cl1 0 fl (.ok [] S) = fl [] S := (rfl)
@[simp] theorem cl1_1 : cl1 1 fl (.ok [x] S) = fl [x] S := (rfl)
@[simp] theorem cl1_2 : cl1 2 fl (.ok [x, y] S) = fl [x, y] S := (rfl)
@[simp] theorem cl1_3 : cl1 3 fl (.ok [x, y, z] S) = fl [x, y, z] S := (rfl)
@[simp] theorem cl1_4 : cl1 4 fl (.ok [x, y, z, u] S) = fl [x, y, z, u] S := (rfl)
@[simp] theorem cl1_5 : cl1 5 fl (.ok [x, y, z, u, v] S) = fl [x, y, z, u, v] S := (rfl)
def putT (f : D → D → D → Sto → Option Sto) (e : Sl) (r : Rs D) (o i : ME) : Rt := bindT r e fun d S1 => bindT (o e S1) e fun od S2 => bindT (i e S2) e fun id S3 => match f od id d S3 with
  | some S4 => .nx e S4
  | none => .bad
def putT2 (f : D → D → D → Sto → Option Sto) (e : Sl) (d : D) (r : Rs D) (i : ME) : Rt := bindT r e fun od S2 => bindT (i e S2) e fun id S3 => match f od id d S3 with
  | some S4 => .nx e S4
  | none => .bad
def putT3 (f : D → D → D → Sto → Option Sto) (e : Sl) (d od : D) (r : Rs D) : Rt := bindT r e fun id S3 => match f od id d S3 with
  | some S4 => .nx e S4
  | none => .bad
def putT4 (e : Sl) (r : Option Sto) : Rt := match r with
  | some S4 => .nx e S4
  | none => .bad
variable {pf : D → D → D → Sto → Option Sto}
@[simp] theorem putM_ev : putM pf a b c e S = putT pf e (a e S) b c := (rfl)
@[simp] theorem putT_ok : putT pf e (.ok d S) b c = putT2 pf e d (b e S) c := (rfl)
@[simp] theorem putT2_ok : putT2 pf e d (.ok x S) c = putT3 pf e d x (c e S) := (rfl)
@[simp] theorem putT3_ok : putT3 pf e d x (.ok y S) = putT4 e (pf x y d S) := (rfl)
@[simp] theorem putT4_some : putT4 e (some S) = .nx e S := (rfl)
def augT (i : Nat) (f : D → D → Sto → Rs D) (o : Option (Option D)) (m : ME) (e : Sl) (S : Sto) : Rt := match o with
  | some (some x) => setT i e (op2 f x (m e S))
  | _ => .bad
@[simp] theorem augM_ev : augM i f a e S = augT i f e[i]? a e S := by
  unfold augM
  generalize e[i]? = o
  cases o with
  | none => rfl
  | some o =>
    cases o with
    | none => rfl
    | some x =>
      show _ = setT i e (op2 f x (a e S))
      dsimp only
      unfold bindT setT op2
      cases a e S with
      | ok y S1 => dsimp only; cases f x y S1 <;> rfl
      | _ => rfl
@[simp] theorem augT_some : augT i f (some (some x)) a e S = setT i e (op2 f x (a e S)) := (rfl)
/-! #### slices -/
@[simp] theorem noO_ev : noO e S = .ok none S := (rfl)
def some1 (r : Rs D) : Rs (Option Int) := match r with
  | .ok (.int i) S => .ok (some i) S
  | .rse x S => .rse x S
  | _ => .bad
@[simp] theorem someO_ev : someO a e S = some1 (a e S) := by
  unfold someO some1 bindR
  cases a e S with
  | ok x S1 => cases x <;> rfl
  | _ => rfl
@[simp] theorem some1_ok {i : Int} : some1 (.ok (.int i) S) = .ok (some i) S := (rfl)
variable {lo hi : MO}
def sl1 (r : Rs D) (lo hi : MO) (e : Sl) : Rs D := bindR r fun x S1 => bindR (lo e S1) fun l S2 => bindR (hi e S2) fun u S3 => slD x l u S3
def sl2 (x : D) (r : Rs (Option Int)) (hi : MO) (e : Sl) : Rs D := bindR r fun l S2 => bindR (hi e S2) fun u S3 => slD x l u S3
def sl3 (x : D) (l : Option Int) (r : Rs (Option Int)) : Rs D := bindR r fun u S3 => slD x l u S3
@[simp] theorem slM_ev : slM a lo hi e S = sl1 (a e S) lo hi e := (rfl)
@[simp] theorem sl1_ok : sl1 (.ok x S) lo hi e = sl2 x (lo e S) hi e := (rfl)
@[simp] theorem sl2_ok {o : Option Int} : sl2 x (.ok o S) hi e = sl3 x o (hi e S) := (rfl)
@[simp] theorem sl3_ok {o o2 : Option Int} : sl3 x o (.ok o2 S) = slD x o o2 S := (rfl)
/-! #### methods -/
def met1 (k : D → Sto → Bool) (f : D → D → Sto → Rs D) (r : Rs D) (a : ME) (e : Sl) : Rs D := match r with
  | .ok x S1 => if k x S1 = true then op2 f x (a e S1) else .bad
  | .rse x S => .rse x S
  | .bad => .bad
variable {kk : D → Sto → Bool}
@[simp] theorem metM_ev : metM kk f a b e S = met1 kk f (a e S) b e := by
  unfold metM met1 bindR
  cases a e S with
  | ok x S1 =>
    dsimp only
    split
    · unfold op2
      cases b e S1 <;> rfl
    · rfl
  | _ => rfl
theorem met1_ok : met1 kk f (.ok x S) b e = if kk x S = true then op2 f x (b e S) else .bad := (rfl)
theorem isLst_yes (h : S[n]? = some (.lst l)) : isLst (.obj n) S = true := by unfold isLst; dsimp only; rw [h]
theorem met1_lst (h : S[n]? = some (.lst l)) : met1 isLst f (.ok (.obj n) S) b e = op2 f (.obj n) (b e S) := by rw [met1_ok, if_pos (isLst_yes h)]
def met01 (k : D → Sto → Bool) (f : D → Sto → Rs D) (r : Rs D) : Rs D := match r with
  | .ok x S1 => if k x S1 = true then f x S1 else .bad
  | .rse x S => .rse x S
  | .bad => .bad
@[simp] theorem met0_ev : met0 kk f1 a e S = met01 kk f1 (a e S) := by unfold met0 met01 bindR; cases a e S <;> rfl
theorem met01_lst (h : S[n]? = some (.lst l)) : met01 isLst f1 (.ok (.obj n) S) = f1 (.obj n) S := by show (if _ then _ else _) = _; rw [if_pos (isLst_yes h)]
theorem app_ok (h : S[n]? = some (.lst l)) (hz : l.length ≤ 1000000) : appD (.obj n) d S = .ok .non (S.set n (.lst (l ++ [d]))) := by
  unfold appD
  dsimp only
  rw [h]
  dsimp only
  rw [if_pos (Nat.lt_of_le_of_lt hz (by rw [sizeLine_eq]; decide))]
/-! #### operations -/
variable {p q : Int}
@[simp] theorem intD0_ev {g : Int → Int → D} : intD0 g (.int p) (.int q) S = .ok (g p q) S := (rfl)
@[simp] theorem add_ii : addD (.int p) (.int q) S = .ok (.int (p + q)) S := (rfl)
@[simp] theorem sub_ii : subD (.int p) (.int q) S = .ok (.int (p - q)) S := (rfl)
@[simp] theorem neg_i : negD (.int p) S = .ok (.int (-p)) S := (rfl)
theorem mul_ii (h : (-(2 ^ 64) < p ∧ p < 2 ^ 64) ∨ (-(2 ^ 64) < q ∧ q < 2 ^ 64)) : mulD (.int p) (.int q) S = .ok (.int (p * q)) S := if_pos h
theorem mod_ii (h : 0 < q) : modD (.int p) (.int q) S = .ok (.int (p % q)) S := if_pos h
theorem fdiv_ii (h : 0 < q ∧ q < 1073741824) : fdivD (.int p) (.int q) S = .ok (.int (p / q)) S := if_pos h
theorem pow_ii (h : 0 ≤ q ∧ q ≤ 1000000 ∧ p.natAbs < 2 ^ 64) : powD (.int p) (.int q) S = .ok (.int (p ^ q.toNat)) S := if_pos h
@[simp] theorem lt_ii : ltD (.int p) (.int q) S = .ok (.bl (decide (p < q))) S := (rfl)
@[simp] theorem le_ii : leD (.int p) (.int q) S = .ok (.bl (decide (p ≤ q))) S := (rfl)
@[simp] theorem gt_ii : gtD (.int p) (.int q) S = .ok (.bl (decide (q < p))) S := (rfl)
@[simp] theorem ge_ii : geD (.int p) (.int q) S = .ok (.bl (decide (q ≤ p))) S := (rfl)
@[simp] theorem isN_ev : isND x .non S = .ok (.bl (decide (x = .non))) S := (rfl)
@[simp] theorem notN_ev : notND x .non S = .ok (.bl (!decide (x = .non))) S := (rfl)
@[simp] theorem num_i : numD (.int p) S = .ok (.int p) S := (rfl)
@[simp] theorem num_b : numD (.bl bb) S = .ok (.int (if bb then 1 else 0)) S := (rfl)
@[simp] theorem notD_b : notD (.bl bb) S = .ok (.bl (!bb)) S := (rfl)
@[simp] theorem isi_bool_bl : isiD "bool" (.bl bb) S = .ok (.bl true) S := by unfold isiD tagD; dsimp only; rw [kit_bool_bool]
@[simp] theorem len_tup : lenD (.tup l) S = .ok (.int (l.length : Nat)) S := (rfl)
@[simp] theorem len_fz : lenD (.fz l) S = .ok (.int (l.length : Nat)) S := (rfl)
theorem len_lst (h : S[n]? = some (.lst l)) : lenD (.obj n) S = .ok (.int (l.length : Nat)) S := by unfold lenD; dsimp only; rw [h]
@[simp] theorem tup_tup : tupD (.tup l) S = .ok (.tup l) S := (rfl)
theorem tup_lst (h : S[n]? = some (.lst l)) : tupD (.obj n) S = .ok (.tup l) S := by unfold tupD; dsimp only; rw [h]
theorem ix_lst {i : Int} (h : S[n]? = some (.lst l)) (hv : atI l i = some v) : ixD (.obj n) (.int i) S = .ok v S := by
  unfold ixD
  dsimp only
  rw [h]
  dsimp only
  rw [hv]
theorem ix_tup {i : Int} (hv : atI l i = some v) : ixD (.tup l) (.int i) S = .ok v S := by
  unfold ixD
  dsimp only
  rw [hv]
@[simp] theorem ix_tup0 : ixD (.tup (x :: l)) (.int 0) S = .ok x S := ix_tup atI_0
@[simp] theorem ix_tup1 : ixD (.tup (x :: y :: l)) (.int 1) S = .ok y S := ix_tup atI_1
@[simp] theorem ix_tup2 : ixD (.tup (x :: y :: z :: l)) (.int 2) S = .ok z S := ix_tup atI_2
theorem ix_lst0 (h : S[n]? = some (.lst (x :: l))) : ixD (.obj n) (.int 0) S = .ok x S := ix_lst h atI_0
theorem ix_lst1 (h : S[n]? = some (.lst (x :: y :: l))) : ixD (.obj n) (.int 1) S = .ok y S := ix_lst h atI_1
theorem ix_lst2 (h : S[n]? = some (.lst (x :: y :: z :: l))) : ixD (.obj n) (.int 2) S = .ok z S := ix_lst h atI_2
theorem ix_lst3 (h : S[n]? = some (.lst (x :: y :: z :: u :: l))) : ixD (.obj n) (.int 3) S = .ok u S := ix_lst h atI_3
theorem ix_lst4 {w : D} (h : S[n]? = some (.lst (x :: y :: z :: u :: w :: l))) : ixD (.obj n) (.int 4) S = .ok w S := ix_lst h atI_4
theorem set_lst {i : Int} {j : Nat} (h : S[n]? = some (.lst l)) (hj : ixN l.length i = some j) : setD (.obj n) (.int i) v S = some (S.set n (.lst (l.set j v))) := by
  unfold setD
  dsimp only
  rw [h]
  dsimp only
  rw [hj]
theorem set_lst1 (h : S[n]? = some (.lst (x :: y :: l))) : setD (.obj n) (.int 1) v S = some (S.set n (.lst (x :: v :: l))) := set_lst h ixN_1
theorem set_lst2 (h : S[n]? = some (.lst (x :: y :: z :: l))) : setD (.obj n) (.int 2) v S = some (S.set n (.lst (x :: y :: v :: l))) := set_lst h ixN_2
theorem set_lst3 (h : S[n]? = some (.lst (x :: y :: z :: u :: l))) : setD (.obj n) (.int 3) v S = some (S.set n (.lst (x :: y :: z :: v :: l))) := set_lst h ixN_3
theorem set_lst4 {w : D} (h : S[n]? = some (.lst (x :: y :: z :: u :: w :: l))) : setD (.obj n) (.int 4) v S = some (S.set n (.lst (x :: y :: z :: u :: v :: l))) := set_lst h ixN_4
/-! #### what is walked -/
def it1 (f : D → Sto → Rs (List D × (Sto → Bool))) (r : Rs D) : Rs (List D × (Sto → Bool)) := match r with
  | .ok d S => f d S
  | .rse x S => .rse x S
  | .bad => .bad
variable {fi : D → Sto → Rs (List D × (Sto → Bool))} {fr : List D → Sto → Rs (List D × (Sto → Bool))}
@[simp] theorem itM_ev : itM fi a e S = it1 fi (a e S) := by unfold itM it1 bindR; cases a e S <;> rfl
@[simp] theorem it1_ok : it1 fi (.ok d S) = fi d S := (rfl)
@[simp] theorem src_tup : srcD (.tup l) S = .ok (l, fixC) S := (rfl)
@[simp] theorem src_fz : srcD (.fz l) S = .ok (l, fixC) S := (rfl)
@[simp] theorem src_str {z : Str} : srcD (.str z) S = .ok (signsD z, fixC) S := (rfl)
theorem src_lst (h : S[n]? = some (.lst l)) : srcD (.obj n) S = .ok (l, sameC n l) S := by unfold srcD; dsimp only; rw [h]
@[simp] theorem fixC_ev : fixC S = true := (rfl)
theorem sameC_ev (h : S[n]? = some (.lst l)) : sameC n l S = true := decide_eq_true h
def lv1 (r : Rs (List D)) : Rs (List D × (Sto → Bool)) := match r with
  | .ok l S => .ok (l, fixC) S
  | .rse x S => .rse x S
  | .bad => .bad
@[simp] theorem lvI_ev : lvI ms e S = lv1 (ms e S) := by unfold lvI lv1 bindR; cases ms e S <;> rfl
@[simp] theorem lv1_ok : lv1 (.ok l S) = .ok (l, fixC) S := (rfl)
def rg1 (f : List D → Sto → Rs (List D × (Sto → Bool))) (r : Rs (List D)) : Rs (List D × (Sto → Bool)) := match r with
  | .ok l S => f l S
  | .rse x S => .rse x S
  | .bad => .bad
@[simp] theorem rngI_ev : rngI fr ms e S = rg1 fr (ms e S) := by unfold rngI rg1 bindR; cases ms e S <;> rfl
@[simp] theorem rg1_ok : rg1 fr (.ok l S) = fr l S := (rfl)
theorem rng1_ok (h : -(2 ^ 62) ≤ p ∧ p < 2 ^ 62) : rng1D [.int p] S = .ok (upto 0 p.toNat, fixC) S := if_pos h
theorem rng2_ok (h : -(2 ^ 62) ≤ p ∧ p < 2 ^ 62 ∧ -(2 ^ 62) ≤ q ∧ q < 2 ^ 62) : rng2D [.int p, .int q] S = .ok (upto p (q - p).toNat, fixC) S := if_pos h
theorem rng1_nat (h : n ≤ 1000000) : rng1D [.int (n : Int)] S = .ok (upto 0 n, fixC) S := by
  rw [rng1_ok ⟨by omega, by omega⟩]
  rfl
def for1 (r : Rs (List D × (Sto → Bool))) (g : D → Sl → Option Sl) (b : MS) (e : Sl) : Rt := match r with
  | .ok x S => forL x.2 g b x.1 e S
  | .rse x S => .rse x e S
  | .bad => .bad
@[simp] theorem forM_ev : forM im gg ma e S = for1 (im e S) gg ma e := by unfold forM for1 bindT; cases im e S <;> rfl
@[simp] theorem for1_ok : for1 (.ok (l, chk) S) gg ma e = forL chk gg ma l e S := (rfl)
theorem forL_nil (h : chk S = true) : forL chk gg ma [] e S = .nx e S := if_pos h
@[simp] theorem forL_nil0 : forL fixC gg ma [] e S = .nx e S := if_pos rfl
/-- what a turn gives, then the others -/
def turnT (r : Rt) (f : Sl → Sto → Rt) : Rt := match r with
  | .nx e S => f e S
  | .ct e S => f e S
  | .bk e S => .nx e S
  | .rt d S => .rt d S
  | .rse x e S => .rse x e S
  | .bad => .bad
@[simp] theorem turnT_nx {f : Sl → Sto → Rt} : turnT (.nx e S) f = f e S := (rfl)
@[simp] theorem turnT_ct {f : Sl → Sto → Rt} : turnT (.ct e S) f = f e S := (rfl)
@[simp] theorem turnT_bk {f : Sl → Sto → Rt} : turnT (.bk e S) f = .nx e S := (rfl)
@[simp] theorem turnT_rt {f : Sl → Sto → Rt} : turnT (.rt d S) f = .rt d S := (rfl)
@[simp] theorem turnT_rse {f : Sl → Sto → Rt} : turnT (.rse xx e S) f = .rse xx e S := (rfl)
theorem forL_cons {e1 : Sl} (h : chk S = true) (hg : gg x e = some e1) : forL chk gg ma (x :: l) e S = turnT (ma e1 S) (forL chk gg ma l) := by
  conv => lhs; unfold forL
  rw [if_pos h, hg]
  dsimp only
  cases ma e1 S <;> rfl
@[simp] theorem nmG_ev : nmG i d e = some (e.set i (some d)) := (rfl)
@[simp] theorem tupG_ev {gs : List D → Sl → Option Sl} : tupG n gs (.tup l) e = if l.length = n then gs l e else none := (rfl)
@[simp] theorem consG_ev {gs : List D → Sl → Option Sl} : consG gg gs (d :: l) e = (gg d e).bind fun e1 => gs l e1 := (rfl)
@[simp] theorem nilG_ev : nilG [] e = some e := (rfl)
/-! #### comprehensions -/
def cmp1 (r : Rs (List D × (Sto → Bool))) (g : D → Sl → Option Sl) (own : List Nat) (t : MT) (el : ME) (e : Sl) : Rs (List D) := match r with
  | .ok x S1 => if x.1.length ≤ sizeLine then match compL x.2 g t el x.1 (wipeD e own) S1 with
      | some (l, S2) => .ok l S2
      | none => .bad
    else .bad
  | .rse x S => .rse x S
  | .bad => .bad
@[simp] theorem compM_ev : compM im gg own t a e S = cmp1 (im e S) gg own t a e := by unfold compM cmp1 bindR; cases im e S <;> rfl
theorem cmp1_ok {l2 : List D} (hz : l.length ≤ 1000000) (h : compL chk gg t a l (wipeD e own) S = some (l2, S2)) : cmp1 (.ok (l, chk) S) gg own t a e = .ok l2 S2 := by
  show (if l.length ≤ sizeLine then _ else _) = _
  rw [if_pos (Nat.le_trans hz (by rw [sizeLine_eq]; decide)), h]
theorem compL_nil' (h : chk S = true) : compL chk gg t a [] e S = some ([], S) := if_pos h
theorem compL_yes {e1 : Sl} {l2 : List D} {S3 : Sto} (h : chk S = true) (hg : gg x e = some e1) (ht : t e1 S = .ok true S1) (he : a e1 S1 = .ok y S2) (hr : compL chk gg t a l e S2 = some (l2, S3)) : compL chk gg t a (x :: l) e S = some (y :: l2, S3) := by
  unfold compL
  rw [if_pos h, hg]
  dsimp only
  rw [ht]
  dsimp only
  rw [he]
  dsimp only
  rw [hr]
theorem compL_no {e1 : Sl} {o : Option (List D × Sto)} (h : chk S = true) (hg : gg x e = some e1) (ht : t e1 S = .ok false S1) (hr : compL chk gg t a l e S1 = o) : compL chk gg t a (x :: l) e S = o := by
  unfold compL
  rw [if_pos h, hg]
  dsimp only
  rw [ht]
  dsimp only
  exact hr
@[simp] theorem yesT_ev : yesT e S = .ok true S := (rfl)
/-- nothing is stored: filter and map -/
theorem compL_pure {P : D → Bool} {F : D → D} : ∀ (l : List D), chk S = true → (∀ x ∈ l, ∃ e1, gg x e = some e1 ∧ t e1 S = .ok (P x) S ∧ (P x = true → a e1 S = .ok (F x) S)) → compL chk gg t a l e S = some ((l.filter P).map F, S)
  | [], h, _ => compL_nil' h
  | x :: l, h, hx => by
    obtain ⟨e1, h1, h2, h3⟩ := hx x (by simp)
    have ih := compL_pure (P := P) (F := F) l h fun y hy => hx y (by simp [hy])
    cases hp : P x with
    | true =>
      rw [List.filter_cons_of_pos hp, List.map_cons]
      exact compL_yes h h1 (by rw [h2, hp]) (h3 hp) ih
    | false =>
      rw [List.filter_cons_of_neg (by rw [hp]; decide)]
      exact compL_no h h1 (by rw [h2, hp]) ih
theorem cmp1_pure {P : D → Bool} {F : D → D} (hz : l.length ≤ 1000000) (h : chk S = true) (hx : ∀ x ∈ l, ∃ e1, gg x (wipeD e own) = some e1 ∧ t e1 S = .ok (P x) S ∧ (P x = true → a e1 S = .ok (F x) S)) :
    cmp1 (.ok (l, chk) S) gg own t a e = .ok ((l.filter P).map F) S := cmp1_ok hz (compL_pure l h hx)
theorem cmp1_map {F : D → D} (hz : l.length ≤ 1000000) (h : chk S = true) (hx : ∀ x ∈ l, ∃ e1, gg x (wipeD e own) = some e1 ∧ a e1 S = .ok (F x) S) :
    cmp1 (.ok (l, chk) S) gg own yesT a e = .ok (l.map F) S := by
  have := cmp1_pure (t := yesT) (P := fun _ => true) (F := F) (own := own) (e := e) (gg := gg) (a := a) hz h fun x hm => by
    obtain ⟨e1, h1, h2⟩ := hx x hm
    exact ⟨e1, h1, rfl, fun _ => h2⟩
  rw [this, List.filter_eq_self.mpr (by simp)]
/-! #### a def -/
def fn1 (r : Rt) : Rs D := match r with
  | .nx _ S1 => .ok .non S1
  | .rt d S1 => .ok d S1
  | .rse x _ S1 => .rse x S1
  | _ => .bad
@[simp] theorem fnM_ev : fnM n ma l S = fn1 (ma (startD n l) S) := (rfl)
@[simp] theorem fn1_nx : fn1 (.nx e S) = .ok .non S := (rfl)
@[simp] theorem fn1_rt : fn1 (.rt d S) = .ok d S := (rfl)
@[simp] theorem fn1_rse : fn1 (.rse xx e S) = .rse xx S := (rfl)
/-! #### the store -/
theorem get_set (h : n < S.length) {o : O} : (S.set n o)[n]? = some o := List.getElem?_set_self h
theorem get_set' (h : n ≠ m) {o : O} : (S.set n o)[m]? = S[m]? := List.getElem?_set_ne h
theorem lt_of_get {o : O} (h : S[n]? = some o) : n < S.length := (List.getElem?_eq_some_iff.mp h).1
theorem get_app (h : n < S.length) {T : Sto} : (S ++ T)[n]? = S[n]? := List.getElem?_append_left h
theorem get_new {o : O} : (S ++ [o])[S.length]? = some o := by rw [List.getElem?_append_right (Nat.le_refl _), Nat.sub_self]; rfl
end
/-! #### == of simple things -/
theorem eqD_of {x y : D} {p r : PyData} {S : Sto} (h1 : datP S x = some p) (h2 : datP S y = some r) (h3 : SeqAt.shaped p = true) (h4 : SeqAt.shaped r = true) : eqD x y S = .ok (.bl (PyData.eqv p r)) S := by
  unfold eqD eqP
  rw [h1, h2]
  dsimp only
  rw [if_pos ⟨h3, h4⟩]
theorem neD_of {x y : D} {p r : PyData} {S : Sto} (h1 : datP S x = some p) (h2 : datP S y = some r) (h3 : SeqAt.shaped p = true) (h4 : SeqAt.shaped r = true) : neD x y S = .ok (.bl (!PyData.eqv p r)) S := by
  unfold neD eqP
  rw [h1, h2]
  dsimp only
  rw [if_pos ⟨h3, h4⟩]
theorem dat_int {i : Int} {S : Sto} : datP S (.int i) = some (.int i) := by unfold datP toP; rfl
theorem dat_bl {i : Bool} {S : Sto} : datP S (.bl i) = some (.bool i) := by unfold datP toP; rfl
theorem dat_non {S : Sto} : datP S .non = some .none := by unfold datP toP; rfl
theorem dat_str {x : Str} {S : Sto} : datP S (.str x) = some (.str x) := by unfold datP toP; rfl
theorem shp_int {i : Int} : SeqAt.shaped (.int i) = true := by simp [SeqAt.shaped, PyData.canLay0, PyData.depth]
theorem shp_bl {i : Bool} : SeqAt.shaped (.bool i) = true := by simp [SeqAt.shaped, PyData.canLay0, PyData.depth]
theorem shp_non : SeqAt.shaped .none = true := by simp [SeqAt.shaped, PyData.canLay0, PyData.depth]
theorem shp_str {x : Str} (h : PyData.strOk x = true) : SeqAt.shaped (.str x) = true := by simp [SeqAt.shaped, PyData.canLay0, PyData.depth, h]
@[simp] theorem eq_ii {i j : Int} {S : Sto} : eqD (.int i) (.int j) S = .ok (.bl (decide (i = j))) S := by
  rw [eqD_of dat_int dat_int shp_int shp_int]
  simp only [PyData.eqv]
  rfl
@[simp] theorem ne_ii {i j : Int} {S : Sto} : neD (.int i) (.int j) S = .ok (.bl (!decide (i = j))) S := by
  rw [neD_of dat_int dat_int shp_int shp_int]
  simp only [PyData.eqv]
  rfl
@[simp] theorem eq_bb {i j : Bool} {S : Sto} : eqD (.bl i) (.bl j) S = .ok (.bl (decide (i = j))) S := by
  rw [eqD_of dat_bl dat_bl shp_bl shp_bl]
  simp only [PyData.eqv]
  rfl
@[simp] theorem ne_bb {i j : Bool} {S : Sto} : neD (.bl i) (.bl j) S = .ok (.bl (!decide (i = j))) S := by
  rw [neD_of dat_bl dat_bl shp_bl shp_bl]
  simp only [PyData.eqv]
  rfl
theorem eq_ss {x y : Str} {S : Sto} (hx : PyData.strOk x = true) (hy : PyData.strOk y = true) : eqD (.str x) (.str y) S = .ok (.bl (decide (x = y))) S := by
  rw [eqD_of dat_str dat_str (shp_str hx) (shp_str hy)]
  simp only [PyData.eqv]
  rfl
theorem ne_ss {x y : Str} {S : Sto} (hx : PyData.strOk x = true) (hy : PyData.strOk y = true) : neD (.str x) (.str y) S = .ok (.bl (!decide (x = y))) S := by
  rw [neD_of dat_str dat_str (shp_str hx) (shp_str hy)]
  simp only [PyData.eqv]
  rfl
end L3

/-! L3H: the laws' source of numbers. -/
namespace L3
open PySem PySem.Spec L2
def fillB1 : MS := seqM (ifS (blT (opM ltD (opM ixD (vM 0) (cM (.int 1))) (unM lenD (opM ixD (vM 0) (cM (.int 0)))))) (seqM (setM 1 (opM ixD (opM ixD (vM 0) (cM (.int 0))) (opM ixD (vM 0) (cM (.int 1)))))
    (seqM (putM setD (opM addD (opM ixD (vM 0) (cM (.int 1))) (cM (.int 1))) (vM 0) (cM (.int 1)))
    (seqM (ifS (blT (opM ltD (vM 1) (cM (.int 0)))) (setM 1 (opM subD (opM subD (cM (.int 0)) (cM (.int 1))) (vM 1)))
    nopM)
    (ifS (blT (opM geD (vM 1) (opM powD (cM (.int 10)) (cM (.int 18))))) (retM (vM 1))
    nopM))))
    nopM) nopM
def fillB3 : MS := seqM (setM 1 (opM modD (unM numD (opM addD (opM mulD (vM 1) (cM (.int 48271))) (opM mulD (opM ixD (vM 0) (cM (.int 3))) (cM (.int 69621))))) (cM (.int 2147483647))))
    (retM (opM addD (opM fdivD (unM numD (opM addD (opM addD (opM mulD (vM 1) (vM 1)) (opM mulD (opM ixD (vM 0) (cM (.int 3))) (cM (.int 7919)))) (cM (.int 11)))) (cM (.int 64))) (cM (.int 36028797018963968))))
def fillB2 : MS := seqM (ifS (andT (trT (opM ixD (vM 0) (cM (.int 0)))) (blT (opM geD (opM ixD (vM 0) (cM (.int 1))) (unM lenD (opM ixD (vM 0) (cM (.int 0))))))) (setM 1 (opM addD (vM 1) (opM modD (unM numD (opM ixD (opM ixD (vM 0) (cM (.int 0))) (unM negD (cM (.int 1))))) (cM (.int 1000003)))))
    nopM) fillB3
def fillB : MS := seqM (putM setD (opM addD (opM ixD (vM 0) (cM (.int 3))) (cM (.int 1))) (vM 0) (cM (.int 3)))
    (seqM (setM 1 (opM addD (opM mulD (opM ixD (vM 0) (cM (.int 3))) (cM (.int 69621))) (cM (.int 12345))))
    (seqM (ifS (blT (opM ltD (opM ixD (vM 0) (cM (.int 1))) (unM lenD (opM ixD (vM 0) (cM (.int 0)))))) (seqM (setM 1 (opM ixD (opM ixD (vM 0) (cM (.int 0))) (opM ixD (vM 0) (cM (.int 1)))))
    (seqM (putM setD (opM addD (opM ixD (vM 0) (cM (.int 1))) (cM (.int 1))) (vM 0) (cM (.int 1)))
    (seqM (ifS (blT (opM ltD (vM 1) (cM (.int 0)))) (setM 1 (opM subD (opM subD (cM (.int 0)) (cM (.int 1))) (vM 1)))
    nopM)
    (ifS (blT (opM geD (vM 1) (opM powD (cM (.int 10)) (cM (.int 18))))) (retM (vM 1))
    nopM))))
    nopM) fillB2))
def takeB (f : List D → Sto → Rs D) : MS := seqM (ifS (blT (opM ltD (opM ixD (vM 0) (cM (.int 2))) (vM 1))) (putM setD (clM 1 f (consA (vM 0) nilA)) (vM 0) (cM (.int 2)))
    nopM)
    (seqM (setM 2 (opM modD (unM numD (opM ixD (vM 0) (cM (.int 2)))) (vM 1)))
    (seqM (putM setD (opM fdivD (opM ixD (vM 0) (cM (.int 2))) (vM 1)) (vM 0) (cM (.int 2)))
    (retM (vM 2))))
def startB (t : MA) : MS := retM (newM (szA (consA (newM (compM (itM srcD (slM (vM 0) noO (someO (cM (.int 63))))) (nmG 1) [1] yesT (unM numD (vM 1)))) (consA (cM (.int 0)) (consA (cM (.int 0)) (consA (cM (.int 0)) t))))))
/-- the law's source of numbers stands at n; t: what else it holds -/
structure CI (t : List D) (S : Sto) (n : Nat) : Prop where
  ex : ∃ (m : Nat) (xs : List Int) (p b k : Int), S[n]? = some (.lst (.obj m :: .int p :: .int b :: .int k :: t)) ∧ S[m]? = some (.lst (xs.map D.int)) ∧ m < n ∧ 0 ≤ p ∧ 0 ≤ b ∧ 0 ≤ k
/-- nothing but n (and its list, which stands) has changed -/
structure Kp (n : Nat) (S S' : Sto) : Prop where
  len : S'.length = S.length
  at_ : ∀ (i : Nat), i ≠ n → S'[i]? = S[i]?
theorem Kp.refl {n : Nat} {S : Sto} : Kp n S S := ⟨rfl, fun _ _ => rfl⟩
theorem Kp.trans {n : Nat} {S S1 S2 : Sto} (a : Kp n S S1) (b : Kp n S1 S2) : Kp n S S2 := ⟨b.len.trans a.len, fun i h => (b.at_ i h).trans (a.at_ i h)⟩
theorem kp_set {n : Nat} {S : Sto} {o : O} : Kp n S (S.set n o) := ⟨by simp, fun i hi => get_set' (Ne.symm hi)⟩
theorem fill3 {S : Sto} {n m : Nat} {p b k w : Int} {t : List D} (hn : S[n]? = some (.lst (.obj m :: .int p :: .int b :: .int k :: t))) (hk : 0 ≤ k) (hw : 0 ≤ w) :
    ∃ v, fn1 (fillB3 [some (.obj n), some (.int w)] S) = .ok (.int v) S ∧ 0 ≤ v := by
  simp [fillB3, ix_lst3 hn, mul_ii, mod_ii]
  have h0 : 0 ≤ (w * 48271 + k * 69621) % 2147483647 := Int.emod_nonneg _ (by decide)
  have h1 : (w * 48271 + k * 69621) % 2147483647 < 2147483647 := Int.emod_lt_of_pos _ (by decide)
  generalize (w * 48271 + k * 69621) % 2147483647 = r at h0 h1
  have h2 : 0 ≤ r * r := Int.mul_nonneg h0 h0
  have h3 : 0 ≤ (r * r + k * 7919 + 11) / 64 := Int.ediv_nonneg (by omega) (by decide)
  rw [mul_ii (.inl ⟨by omega, by omega⟩)]
  simp [ix_lst3 hn, mul_ii, fdiv_ii]
  omega
theorem fill2 {S : Sto} {n m : Nat} {xs : List Int} {p b k w : Int} {t : List D} (hn : S[n]? = some (.lst (.obj m :: .int p :: .int b :: .int k :: t))) (hm : S[m]? = some (.lst (xs.map D.int))) (hk : 0 ≤ k) (hw : 0 ≤ w) :
    ∃ v, fn1 (fillB2 [some (.obj n), some (.int w)] S) = .ok (.int v) S ∧ 0 ≤ v := by
  unfold fillB2
  simp only [seqM_ev, ifS_ev, andT_ev, trT_ev, opM_ev, vM_ev, cM_ev, List.getElem?_cons_zero, vR_some, op1_ok, op2_ok, ix_lst0 hn, trR_ok, tru_lst hm]
  by_cases hx : xs = []
  · subst hx
    simpa using fill3 hn hk hw
  · have hl : xs.map D.int ≠ [] := by simpa using hx
    simp only [show (!(xs.map D.int).isEmpty) = true by simpa using hx, and1_true, blT_ev, opM_ev, vM_ev, cM_ev, List.getElem?_cons_zero, vR_some, op1_ok, op2_ok, ix_lst1 hn, unM_ev, ix_lst0 hn, un1_ok, len_lst hm, ge_ii, blR_ok]
    by_cases hp : ((xs.map D.int).length : Int) ≤ p
    · rw [decide_eq_true hp]
      have ha := atI_neg1 hl
      rw [List.getLast_map] at ha
      simp [ix_lst0 hn, ix_lst hm ha, mod_ii]
      have h3 : 0 ≤ xs.getLast hx % 1000003 := Int.emod_nonneg _ (by decide)
      simpa using fill3 hn hk (Int.add_nonneg hw h3)
    · rw [decide_eq_false hp]
      simpa using fill3 hn hk hw
theorem fill_spec {S : Sto} {n : Nat} {t : List D} (h : CI t S n) : ∃ v S', fnM 2 fillB [.obj n] S = .ok (.int v) S' ∧ 0 ≤ v ∧ CI t S' n ∧ Kp n S S' := by
  obtain ⟨m, xs, p, b, k, hn, hm, hmn, hp, hb, hk⟩ := h
  have hne : m ≠ n := Nat.ne_of_lt hmn
  have hlt : n < S.length := lt_of_get hn
  have q1 : ∀ o, (S.set n o)[n]? = some o := fun o => get_set hlt
  have q2 : ∀ o, (S.set n o)[m]? = some (.lst (xs.map D.int)) := fun o => (get_set' (Ne.symm hne)).trans hm
  unfold fillB
  simp only [fnM_ev, startD, List.map_cons, List.map_nil, List.length_cons, List.length_nil, List.replicate, List.cons_append, List.nil_append]
  simp only [seqM_ev, putM_ev, putT_ok, putT2_ok, putT3_ok, putT4_some, setM_ev, setT_ok, thenT_nx, opM_ev, vM_ev, cM_ev, List.getElem?_cons_zero, vR_some, op1_ok, op2_ok, ix_lst3 hn, add_ii, set_lst3 hn, ix_lst3 (q1 _), mul_ii (.inr ⟨show -(2 ^ 64 : Int) < 69621 by decide, by decide⟩), List.set_cons_succ, List.set_cons_zero, ifS_ev, blT_ev, unM_ev, ix_lst1 (q1 _), ix_lst0 (q1 _), un1_ok, len_lst (q2 _), lt_ii, blR_ok]
  by_cases hl : p < ((xs.map D.int).length : Int)
  · rw [decide_eq_true hl]
    obtain ⟨v0, h1, h2⟩ := atI_at (l := xs.map D.int) hp hl
    rw [List.getElem?_map] at h2
    obtain ⟨z, hz, rfl⟩ := Option.map_eq_some_iff.mp h2
    simp only [ifT_true, seqM_ev, setM_ev, opM_ev, vM_ev, cM_ev, List.getElem?_cons_zero, vR_some, op1_ok, op2_ok, ix_lst0 (q1 _), ix_lst1 (q1 _), ix_lst (q2 _) h1, setT_ok, thenT_nx, List.set_cons_succ, List.set_cons_zero, putM_ev, putT_ok, putT2_ok, putT3_ok, add_ii, set_lst1 (q1 _), putT4_some, List.set_set,
      ifS_ev, blT_ev, List.getElem?_cons_succ, lt_ii, blR_ok]
    have done : ∀ w : Int, 0 ≤ w → ∃ v S', fn1 (thenT ((ifS (blT (opM geD (vM 1) (opM powD (cM (.int 10)) (cM (.int 18))))) (retM (vM 1)) nopM) [some (.obj n), some (.int w)] (S.set n (.lst (.obj m :: .int (p + 1) :: .int b :: .int (k + 1) :: t)))) fillB2) = .ok (.int v) S' ∧ 0 ≤ v ∧ CI t S' n ∧ Kp n S S' := fun w hw => by
      have ci : CI t (S.set n (.lst (.obj m :: .int (p + 1) :: .int b :: .int (k + 1) :: t))) n := ⟨m, xs, p + 1, b, k + 1, q1 _, q2 _, hmn, by omega, hb, by omega⟩
      simp only [ifS_ev, blT_ev, opM_ev, vM_ev, cM_ev, List.getElem?_cons_succ, List.getElem?_cons_zero, vR_some, op1_ok, op2_ok, pow_ii (show (0 : Int) ≤ 18 ∧ (18 : Int) ≤ 1000000 ∧ (10 : Int).natAbs < 2 ^ 64 by decide), ge_ii, blR_ok]
      by_cases hg : (10 : Int) ^ (18 : Int).toNat ≤ w
      · rw [decide_eq_true hg]
        exact ⟨w, _, rfl, hw, ci, kp_set⟩
      · rw [decide_eq_false hg]
        obtain ⟨v, h3, h4⟩ := fill2 (q1 (.lst (.obj m :: .int (p + 1) :: .int b :: .int (k + 1) :: t))) (q2 _) (by omega) hw
        exact ⟨v, _, h3, h4, ci, kp_set⟩
    by_cases hz0 : z < 0
    · rw [decide_eq_true hz0]
      simp only [ifT_true, setM_ev, opM_ev, cM_ev, vM_ev, op1_ok, op2_ok, sub_ii, List.getElem?_cons_succ, List.getElem?_cons_zero, vR_some, setT_ok, thenT_nx, List.set_cons_succ, List.set_cons_zero]
      exact done (0 - 1 - z) (by omega)
    · rw [decide_eq_false hz0]
      simp only [ifT_false, nopM_ev, thenT_nx]
      exact done z (by omega)
  · rw [decide_eq_false hl]
    simp only [ifT_false, nopM_ev, thenT_nx]
    obtain ⟨v, h3, h4⟩ := fill2 (q1 (.lst (.obj m :: .int p :: .int b :: .int (k + 1) :: t))) (q2 _) (by omega) (show 0 ≤ (k + 1) * 69621 + 12345 by omega)
    exact ⟨v, _, h3, h4, ⟨m, xs, p, b, k + 1, q1 _, q2 _, hmn, hp, hb, by omega⟩, kp_set⟩
/-- a draw -/
theorem take_spec {f : List D → Sto → Rs D} {t : List D} (hf : ∀ (S : Sto) (n : Nat), CI t S n → ∃ v S', f [.obj n] S = .ok (.int v) S' ∧ 0 ≤ v ∧ CI t S' n ∧ Kp n S S') {S : Sto} {n : Nat} {many : Int} (h : CI t S n) (h0 : 0 < many) (h1 : many < 1073741824) :
    ∃ d S', fnM 3 (takeB f) [.obj n, .int many] S = .ok (.int d) S' ∧ 0 ≤ d ∧ d < many ∧ CI t S' n ∧ Kp n S S' := by
  -- what stands behind the filling
  have fin : ∀ S, CI t S n → ∃ d S', fn1 ((seqM (setM 2 (opM modD (unM numD (opM ixD (vM 0) (cM (.int 2)))) (vM 1))) (seqM (putM setD (opM fdivD (opM ixD (vM 0) (cM (.int 2))) (vM 1)) (vM 0) (cM (.int 2))) (retM (vM 2)))) [some (.obj n), some (.int many), none] S) = .ok (.int d) S' ∧ 0 ≤ d ∧ d < many ∧ CI t S' n ∧ Kp n S S' := fun S h => by
    obtain ⟨m, xs, p, b, k, hn, hm, hmn, hp, hb, hk⟩ := h
    have hne : m ≠ n := Nat.ne_of_lt hmn
    have hlt : n < S.length := lt_of_get hn
    refine ⟨b % many, S.set n (.lst (.obj m :: .int p :: .int (b / many) :: .int k :: t)), ?_, Int.emod_nonneg _ (by omega), Int.emod_lt_of_pos _ h0, ⟨m, xs, p, b / many, k, get_set hlt, (get_set' (Ne.symm hne)).trans hm, hmn, hp, Int.ediv_nonneg hb (by omega), hk⟩, kp_set⟩
    simp [ix_lst2 hn, mod_ii h0, fdiv_ii ⟨h0, h1⟩, set_lst2 hn]
  unfold takeB
  simp only [fnM_ev, startD, List.map_cons, List.map_nil, List.length_cons, List.length_nil, List.replicate, List.cons_append, List.nil_append]
  obtain ⟨m, xs, p, b, k, hn, hm, hmn, hp, hb, hk⟩ := id h
  have hne : m ≠ n := Nat.ne_of_lt hmn
  have e : ∀ (x y : MS), seqM x y = fun e S => thenT (x e S) y := fun x y => by funext e S; simp
  rw [e]
  simp only [ifS_ev, blT_ev, opM_ev, vM_ev, cM_ev, List.getElem?_cons_zero, List.getElem?_cons_succ, vR_some, op1_ok, op2_ok, ix_lst2 hn, lt_ii, blR_ok]
  by_cases hb2 : b < many
  · obtain ⟨v, S1, e1, hv, c1, k1⟩ := hf S n h
    obtain ⟨m1, xs1, p1, b1, k1', hn1, hm1, hmn1, hp1, hb1, hk1⟩ := id c1
    have hne1 : m1 ≠ n := Nat.ne_of_lt hmn1
    have hlt : n < S1.length := lt_of_get hn1
    rw [decide_eq_true hb2]
    simp only [ifT_true, putM_ev, clM_ev, consA_ev, vM_ev, List.getElem?_cons_zero, vR_some, con1_ok, nilA_ev, con2_ok, cl1_1, e1, putT_ok, putT2_ok, cM_ev, putT3_ok, set_lst2 hn1, putT4_some, thenT_nx]
    obtain ⟨d, S2, e2, h2, h3, c2, k2⟩ := fin (S1.set n (.lst (.obj m1 :: .int p1 :: .int v :: .int k1' :: t))) ⟨m1, xs1, p1, v, k1', get_set hlt, (get_set' (Ne.symm hne1)).trans hm1, hmn1, hp1, hv, hk1⟩
    exact ⟨d, S2, e2, h2, h3, c2, (k1.trans kp_set).trans k2⟩
  · rw [decide_eq_false hb2]
    simp only [ifT_false, nopM_ev, thenT_nx]
    exact fin S h
/-- the start -/
theorem cut63 (ns : List Int) : cutD (ns.map D.int) none (some 63) = (ns.take 63).map D.int := by
  unfold cutD
  rw [HT.sIx_none, show HT.sIx (ns.map D.int).length (ns.map D.int).length (some 63) = min 63 (ns.map D.int).length from HT.sIx_nat _ _ 63]
  simp [List.map_take]
theorem start_spec {t : MA} {tl : List D} {ns : List Int} {S : Sto} (ht : ∀ e S, t e S = .ok tl S) (hl : tl.length ≤ 10) : ∃ S' n, fnM 2 (startB t) [.fz (ns.map D.int)] S = .ok (.obj n) S' ∧ CI tl S' n ∧ n = S.length + 2 ∧ S'.length = S.length + 3 := by
  have h1 : cmp1 (.ok (((ns.take 63).map D.int), sameC S.length ((ns.take 63).map D.int)) (S ++ [.lst ((ns.take 63).map D.int)])) (nmG 1) [1] yesT (unM numD (vM 1)) [some (.fz (ns.map D.int)), none] = .ok ((((ns.take 63).map D.int)).map id) (S ++ [.lst ((ns.take 63).map D.int)]) := by
    refine cmp1_map (by simp; omega) (sameC_ev get_new) fun x hx => ⟨_, rfl, ?_⟩
    obtain ⟨i, _, rfl⟩ := List.mem_map.mp hx
    simp [wipeD]
  rw [List.map_id] at h1
  have h2 : fnM 2 (startB t) [.fz (ns.map D.int)] S = .ok (.obj (S.length + 2)) (S ++ [.lst ((ns.take 63).map D.int)] ++ [.lst ((ns.take 63).map D.int)] ++ [.lst (.obj (S.length + 1) :: .int 0 :: .int 0 :: .int 0 :: tl)]) := by
    simp only [startB, fnM_ev, startD, List.map_cons, List.map_nil, List.length_cons, List.length_nil, List.replicate, List.cons_append, List.nil_append, retM_ev, newM_ev, szA_ev, consA_ev, compM_ev, itM_ev, slM_ev, vM_ev, List.getElem?_cons_zero, vR_some, sl1_ok, noO_ev, sl2_ok, someO_ev, cM_ev, some1_ok, sl3_ok, slD, cut63, it1_ok, src_lst get_new, h1, new1_ok, con1_ok, ht, con2_ok]
    rw [sz1_small (by simp; omega)]
    simp
  refine ⟨_, _, h2, ⟨S.length + 1, ns.take 63, 0, 0, 0, ?_, ?_, by omega, Int.le_refl _, Int.le_refl _, Int.le_refl _⟩, rfl, by simp⟩
  · rw [List.getElem?_append_right (by simp)]
    simp
  · rw [List.getElem?_append_left (by simp), List.getElem?_append_right (by simp)]
    simp
theorem CI.keep {t : List D} {S S' : Sto} {n : Nat} (h : CI t S n) (k : ∀ (i : Nat), i ≤ n → S'[i]? = S[i]?) : CI t S' n := by
  obtain ⟨m, xs, p, b, c, hn, hm, hmn, r⟩ := h
  exact ⟨m, xs, p, b, c, (k n (Nat.le_refl _)).trans hn, (k m (Nat.le_of_lt hmn)).trans hm, hmn, r⟩
theorem CI.lt {t : List D} {S : Sto} {n : Nat} (h : CI t S n) : n < S.length := by
  obtain ⟨m, xs, p, b, c, hn, _⟩ := h
  exact lt_of_get hn
/-- what stood stands, but for n -/
structure Kx (n : Nat) (S S' : Sto) : Prop where
  le : S.length ≤ S'.length
  at_ : ∀ (i : Nat), i < S.length → i ≠ n → S'[i]? = S[i]?
theorem Kx.refl {n : Nat} {S : Sto} : Kx n S S := ⟨Nat.le_refl _, fun _ _ _ => rfl⟩
theorem Kx.trans {n : Nat} {S S1 S2 : Sto} (a : Kx n S S1) (b : Kx n S1 S2) : Kx n S S2 := ⟨Nat.le_trans a.le b.le, fun i h ne => (b.at_ i (Nat.lt_of_lt_of_le h a.le) ne).trans (a.at_ i h ne)⟩
theorem Kp.x {n : Nat} {S S' : Sto} (h : Kp n S S') : Kx n S S' := ⟨Nat.le_of_eq h.len.symm, fun i _ ne => h.at_ i ne⟩
theorem Kx.app {n : Nat} {S T : Sto} : Kx n S (S ++ T) := ⟨by simp, fun i h _ => get_app h⟩
theorem Kx.get {n i : Nat} {S S' : Sto} {o : O} (h : Kx n S S') (e : S[i]? = some o) (ne : i ≠ n) : S'[i]? = some o := (h.at_ i (lt_of_get e) ne).trans e
end L3

/-! L3K: plain data compared; loops and comprehensions by an invariant. -/
namespace L3
open PySem PySem.Spec L2
/-! ### plain data: no objects, no truth values -/
mutual
def plain : D → Bool
  | .non => true
  | .bl _ => false
  | .int _ => true
  | .str x => PyData.strOk x
  | .tup l => plains l
  | .fz _ => false
  | .obj _ => false
def plains : List D → Bool
  | [] => true
  | d :: l => plain d && plains l
end
mutual
def dpt : D → Nat
  | .tup l => dpts l + 1
  | .non | .bl _ | .int _ | .str _ | .fz _ | .obj _ => 0
def dpts : List D → Nat
  | [] => 0
  | d :: l => max (dpt d) (dpts l)
end
mutual
def pyOf : D → PyData
  | .non => .none
  | .bl b => .bool b
  | .int i => .int i
  | .str x => .str x
  | .tup l => .tuple (pysOf l)
  | .fz l => .list (pysOf l)
  | .obj _ => .none
def pysOf : List D → List PyData
  | [] => []
  | d :: l => pyOf d :: pysOf l
end
mutual
theorem toP_plain {f : Nat → Option PyData} : ∀ {d : D}, plain d = true → toP f d = some (pyOf d)
  | .non, _ => by unfold toP pyOf; rfl
  | .int i, _ => by unfold toP pyOf; rfl
  | .str x, _ => by unfold toP pyOf; rfl
  | .tup l, h => by
    unfold plain at h
    unfold toP pyOf
    rw [toPs_plain h]
    rfl
  | .bl _, h => by unfold plain at h; cases h
  | .fz _, h => by unfold plain at h; cases h
  | .obj _, h => by unfold plain at h; cases h
theorem toPs_plain {f : Nat → Option PyData} : ∀ {l : List D}, plains l = true → toPs f l = some (pysOf l)
  | [], _ => by unfold toPs pysOf; rfl
  | d :: l, h => by
    unfold plains at h
    rw [Bool.and_eq_true] at h
    unfold toPs pysOf
    rw [toP_plain h.1, toPs_plain h.2]
end
mutual
theorem lay_plain : ∀ {d : D}, plain d = true → (pyOf d).canLay0 = true
  | .non, _ => by unfold pyOf PyData.canLay0; rfl
  | .int i, _ => by unfold pyOf PyData.canLay0; rfl
  | .str x, h => by unfold plain at h; unfold pyOf PyData.canLay0; exact h
  | .tup l, h => by unfold plain at h; unfold pyOf PyData.canLay0; exact lays_plain h
  | .bl _, h => by unfold plain at h; cases h
  | .fz _, h => by unfold plain at h; cases h
  | .obj _, h => by unfold plain at h; cases h
theorem lays_plain : ∀ {l : List D}, plains l = true → PyData.canLayAll0 (pysOf l) = true
  | [], _ => by unfold pysOf PyData.canLayAll0; rfl
  | d :: l, h => by
    unfold plains at h
    rw [Bool.and_eq_true] at h
    unfold pysOf PyData.canLayAll0
    rw [lay_plain h.1, lays_plain h.2]
    rfl
end
mutual
theorem dpt_plain : ∀ {d : D}, plain d = true → (pyOf d).depth = dpt d
  | .non, _ => by simp [pyOf, PyData.depth, dpt]
  | .int i, _ => by simp [pyOf, PyData.depth, dpt]
  | .str x, h => by simp [pyOf, PyData.depth, dpt]
  | .tup l, h => by
    unfold plain at h
    have := dpts_plain h
    simp only [pyOf, PyData.depth, dpt, this]
  | .bl _, h => by unfold plain at h; cases h
  | .fz _, h => by unfold plain at h; cases h
  | .obj _, h => by unfold plain at h; cases h
theorem dpts_plain : ∀ {l : List D}, plains l = true → PyData.depthAll (pysOf l) = dpts l
  | [], _ => by simp [pysOf, PyData.depthAll, dpts]
  | d :: l, h => by
    unfold plains at h
    rw [Bool.and_eq_true] at h
    simp only [pysOf, PyData.depthAll, dpts, dpt_plain h.1, dpts_plain h.2]
end
mutual
theorem eqv_plain : ∀ {d e : D}, plain d = true → plain e = true → PyData.eqv (pyOf d) (pyOf e) = decide (d = e)
  | .non, e, h, k => by cases e <;> simp_all [pyOf, PyData.eqv, plain]
  | .int i, e, h, k => by
    cases e <;> simp_all [pyOf, PyData.eqv, plain]
    rfl
  | .str x, e, h, k => by
    cases e <;> simp_all [pyOf, PyData.eqv, plain]
    rfl
  | .tup l, e, h, k => by
    cases e with
    | tup m =>
      unfold plain at h k
      have := eqvs_plain h k
      simp only [pyOf, PyData.eqv, this, D.tup.injEq]
    | _ => simp_all [pyOf, PyData.eqv, plain]
  | .bl _, e, h, k => by unfold plain at h; cases h
  | .fz _, e, h, k => by unfold plain at h; cases h
  | .obj _, e, h, k => by unfold plain at h; cases h
theorem eqvs_plain : ∀ {l m : List D}, plains l = true → plains m = true → PyData.eqvAll (pysOf l) (pysOf m) = decide (l = m)
  | [], [], h, k => by simp [pysOf, PyData.eqvAll]
  | [], _ :: _, h, k => by simp [pysOf, PyData.eqvAll]
  | _ :: _, [], h, k => by simp [pysOf, PyData.eqvAll]
  | d :: l, e :: m, h, k => by
    unfold plains at h k
    rw [Bool.and_eq_true] at h k
    simp only [pysOf, PyData.eqvAll, eqv_plain h.1 k.1, eqvs_plain h.2 k.2, List.cons.injEq, Bool.decide_and]
end
theorem dat_plain {d : D} {S : Sto} (h : plain d = true) : datP S d = some (pyOf d) := toP_plain h
theorem shp_plain {d : D} (h : plain d = true) (hd : dpt d ≤ 64) : SeqAt.shaped (pyOf d) = true := by
  unfold SeqAt.shaped
  rw [lay_plain h, dpt_plain h, decide_eq_true hd]
  rfl
theorem eq_dd {x y : D} {S : Sto} (hx : plain x = true) (hy : plain y = true) (h1 : dpt x ≤ 64) (h2 : dpt y ≤ 64) : eqD x y S = .ok (.bl (decide (x = y))) S := by
  rw [eqD_of (dat_plain hx) (dat_plain hy) (shp_plain hx h1) (shp_plain hy h2), eqv_plain hx hy]
theorem ne_dd {x y : D} {S : Sto} (hx : plain x = true) (hy : plain y = true) (h1 : dpt x ≤ 64) (h2 : dpt y ≤ 64) : neD x y S = .ok (.bl (!decide (x = y))) S := by
  rw [neD_of (dat_plain hx) (dat_plain hy) (shp_plain hx h1) (shp_plain hy h2), eqv_plain hx hy]
theorem plains_app {l m : List D} : plains (l ++ m) = (plains l && plains m) := by
  induction l with
  | nil => simp [plains]
  | cons d l ih => simp [plains, ih, Bool.and_assoc]
theorem plains_iff {l : List D} : plains l = true ↔ ∀ d ∈ l, plain d = true := by
  induction l with
  | nil => simp [plains]
  | cons d l ih => simp [plains, ih]
theorem dpts_le {l : List D} {n : Nat} : dpts l ≤ n ↔ ∀ d ∈ l, dpt d ≤ n := by
  induction l with
  | nil => simp [dpts]
  | cons d l ih => simp [dpts, Nat.max_le, ih]
/-! ### one relation, item by item -/
inductive All2 {α β : Type} (R : α → β → Prop) : List α → List β → Prop
  | nil : All2 R [] []
  | cons {a : α} {b : β} {l : List α} {m : List β} : R a b → All2 R l m → All2 R (a :: l) (b :: m)
section
variable {α β : Type} {R : α → β → Prop}
theorem All2.length {l : List α} {m : List β} (h : All2 R l m) : l.length = m.length := by
  induction h with
  | nil => rfl
  | cons _ _ ih => simp [ih]
theorem All2.get {l : List α} {m : List β} (h : All2 R l m) : ∀ {i : Nat} {a : α}, l[i]? = some a → ∃ b, m[i]? = some b ∧ R a b := by
  induction h with
  | nil => intro i a e; simp at e
  | cons r _ ih =>
    intro i a e
    cases i with
    | zero => simp at e; subst e; exact ⟨_, rfl, r⟩
    | succ i => simpa using ih (by simpa using e)
theorem All2.get' {l : List α} {m : List β} (h : All2 R l m) : ∀ {i : Nat} {b : β}, m[i]? = some b → ∃ a, l[i]? = some a ∧ R a b := by
  induction h with
  | nil => intro i a e; simp at e
  | cons r _ ih =>
    intro i a e
    cases i with
    | zero => simp at e; subst e; exact ⟨_, rfl, r⟩
    | succ i => simpa using ih (by simpa using e)
theorem All2.imp {Q : α → β → Prop} {l : List α} {m : List β} (h : All2 R l m) (k : ∀ a b, a ∈ l → R a b → Q a b) : All2 Q l m := by
  induction h with
  | nil => exact .nil
  | cons r _ ih => exact .cons (k _ _ (by simp) r) (ih fun a b ha => k a b (by simp [ha]))
theorem all2_of_get : ∀ {l : List α} {m : List β}, l.length = m.length → (∀ (i : Nat) (a : α) (b : β), l[i]? = some a → m[i]? = some b → R a b) → All2 R l m
  | [], [], _, _ => .nil
  | [], _ :: _, h, _ => by simp at h
  | _ :: _, [], h, _ => by simp at h
  | a :: l, b :: m, h, k => .cons (k 0 a b rfl rfl) (all2_of_get (by simpa using h) fun i x y h1 h2 => k (i + 1) x y (by simpa using h1) (by simpa using h2))
theorem All2.app {l : List α} {m : List β} (h : All2 R l m) {a : α} {b : β} (r : R a b) : All2 R (l ++ [a]) (m ++ [b]) := by
  induction h with
  | nil => exact .cons r .nil
  | cons r' _ ih => exact .cons r' ih
end
/-! ### comprehensions and loops by an invariant of the store -/
section
variable {chk : Sto → Bool} {g : D → Sl → Option Sl} {t : MT} {a : ME} {b : MS} {own : List Nat} {e : Sl} {S : Sto}
theorem compL_all {I : Sto → Prop} {Q : D → D → Prop} (hc : ∀ S, I S → chk S = true) : ∀ (l : List D) (S : Sto), I S → (∀ x ∈ l, ∀ S, I S → ∃ e1 y S2, g x e = some e1 ∧ a e1 S = .ok y S2 ∧ Q x y ∧ I S2) → ∃ ys S', compL chk g yesT a l e S = some (ys, S') ∧ All2 Q l ys ∧ I S'
  | [], S, h, _ => ⟨[], S, compL_nil' (hc S h), .nil, h⟩
  | x :: l, S, h, hx => by
    obtain ⟨e1, y, S2, h1, h2, h3, h4⟩ := hx x (by simp) S h
    obtain ⟨ys, S', h5, h6, h7⟩ := compL_all hc l S2 h4 fun x hm => hx x (by simp [hm])
    exact ⟨y :: ys, S', compL_yes (hc S h) h1 rfl h2 h5, .cons h3 h6, h7⟩
theorem cmp1_all {I : Sto → Prop} {Q : D → D → Prop} {l : List D} (hz : l.length ≤ 1000000) (h : I S) (hc : ∀ S, I S → chk S = true) (hx : ∀ x ∈ l, ∀ S, I S → ∃ e1 y S2, g x (wipeD e own) = some e1 ∧ a e1 S = .ok y S2 ∧ Q x y ∧ I S2) :
    ∃ ys S', cmp1 (.ok (l, chk) S) g own yesT a e = .ok ys S' ∧ All2 Q l ys ∧ I S' := by
  obtain ⟨ys, S', h1, h2, h3⟩ := compL_all hc l S h hx
  exact ⟨ys, S', cmp1_ok hz h1, h2, h3⟩
/-- a loop that runs to its end -/
theorem forL_all {I : List D → Sl → Sto → Prop} : ∀ (l pre : List D) (e : Sl) (S : Sto), I pre e S → (∀ pre x post e S, I pre e S → l = post ++ x :: (l.drop (post.length + 1)) → True) →
    (∀ pre x e S, x ∈ l → I pre e S → chk S = true ∧ ∃ e1 e2 S2, g x e = some e1 ∧ (b e1 S = .nx e2 S2 ∨ b e1 S = .ct e2 S2) ∧ I (pre ++ [x]) e2 S2) → (∀ e S, I (pre ++ l) e S → chk S = true) → ∃ e' S', forL chk g b l e S = .nx e' S' ∧ I (pre ++ l) e' S'
  | [], pre, e, S, h, _, _, hc => ⟨e, S, forL_nil (hc e S (by simpa using h)), by simpa using h⟩
  | x :: l, pre, e, S, h, _, hx, hc => by
    obtain ⟨h0, e1, e2, S2, h1, h2, h3⟩ := hx pre x e S (by simp) h
    obtain ⟨e', S', h4, h5⟩ := forL_all l (pre ++ [x]) e2 S2 h3 (fun _ _ _ _ _ _ _ => trivial) (fun pre y e S hy => hx pre y e S (by simp [hy])) (fun e S hI => hc e S (by simpa using hI))
    refine ⟨e', S', ?_, by simpa using h5⟩
    rw [forL_cons h0 h1]
    rcases h2 with h2 | h2 <;> (rw [h2]; exact h4)
theorem for_inv {I : List D → Sl → Sto → Prop} {l : List D} (h : I [] e S) (hx : ∀ pre x e S, x ∈ l → I pre e S → ∃ e1 e2 S2, g x e = some e1 ∧ (b e1 S = .nx e2 S2 ∨ b e1 S = .ct e2 S2) ∧ I (pre ++ [x]) e2 S2) : ∃ e' S', forL fixC g b l e S = .nx e' S' ∧ I l e' S' :=
  forL_all (chk := fixC) l [] e S h (fun _ _ _ _ _ _ _ => trivial) (fun pre x e S hm hI => ⟨rfl, hx pre x e S hm hI⟩) fun _ _ _ => rfl
end
/-- .. by the number of turns -/
theorem forL_idx {chk : Sto → Bool} {g : D → Sl → Option Sl} {b : MS} {I : Nat → Sl → Sto → Prop} (hc : ∀ i e S, I i e S → chk S = true) : ∀ (l : List D) (i0 : Nat) (e : Sl) (S : Sto), I i0 e S → (∀ (i : Nat) (x : D) (e : Sl) (S : Sto), l[i]? = some x → I (i0 + i) e S → ∃ e1 e2 S2, g x e = some e1 ∧ (b e1 S = .nx e2 S2 ∨ b e1 S = .ct e2 S2) ∧ I (i0 + i + 1) e2 S2) →
    ∃ e' S', forL chk g b l e S = .nx e' S' ∧ I (i0 + l.length) e' S'
  | [], i0, e, S, h, _ => ⟨e, S, forL_nil (hc _ e S h), by simpa using h⟩
  | x :: l, i0, e, S, h, hx => by
    obtain ⟨e1, e2, S2, h1, h2, h3⟩ := hx 0 x e S rfl h
    obtain ⟨e', S', h4, h5⟩ := forL_idx hc l (i0 + 1) e2 S2 h3 fun i y e S hy hI => by
      have := hx (i + 1) y e S (by simpa using hy) (by rw [show i0 + (i + 1) = i0 + 1 + i by omega]; exact hI)
      rwa [show i0 + (i + 1) + 1 = i0 + 1 + i + 1 by omega] at this
    refine ⟨e', S', ?_, by rw [List.length_cons, show i0 + (l.length + 1) = i0 + 1 + l.length by omega]; exact h5⟩
    rw [forL_cons (hc _ e S h) h1]
    rcases h2 with h2 | h2 <;> (rw [h2]; exact h4)
theorem for_idx {chk : Sto → Bool} {g : D → Sl → Option Sl} {b : MS} {I : Nat → Sl → Sto → Prop} {l : List D} {e : Sl} {S : Sto} (hc : ∀ i e S, I i e S → chk S = true) (h : I 0 e S) (hx : ∀ (i : Nat) (x : D) (e : Sl) (S : Sto), l[i]? = some x → I i e S → ∃ e1 e2 S2, g x e = some e1 ∧ (b e1 S = .nx e2 S2 ∨ b e1 S = .ct e2 S2) ∧ I (i + 1) e2 S2) :
    ∃ e' S', forL chk g b l e S = .nx e' S' ∧ I l.length e' S' := by
  obtain ⟨e', S', h1, h2⟩ := forL_idx hc l 0 e S h fun i x e S h1 h2 => by
    have := hx i x e S h1 (by rwa [Nat.zero_add] at h2)
    rwa [Nat.zero_add]
  exact ⟨e', S', h1, by rwa [Nat.zero_add] at h2⟩
/-- a literal list of small numbers, picked from -/
theorem pick_int {l : List Int} {d : Int} {m : Nat} (h0 : 0 ≤ d) (h1 : d < (l.length : Nat)) (h : ∀ z ∈ l, 0 ≤ z ∧ z ≤ (m : Int)) : ∃ w : Nat, atI (l.map D.int) d = some (.int (w : Int)) ∧ w ≤ m := by
  obtain ⟨v, e, e2⟩ := atI_at (l := l.map D.int) h0 (by simpa using h1)
  rw [List.getElem?_map] at e2
  obtain ⟨z, hz, rfl⟩ := Option.map_eq_some_iff.mp e2
  obtain ⟨z0, z1⟩ := h z (List.mem_of_getElem? hz)
  exact ⟨z.toNat, by rw [e, Int.toNat_of_nonneg z0], by omega⟩
theorem upto_eq (n : Nat) : upto 0 n = (List.range n).map fun (i : Nat) => D.int (i : Int) := by
  unfold upto
  congr 1
  funext i
  simp
@[simp] theorem max_ii {p q : Int} {S : Sto} : max2D (.int p) (.int q) S = .ok (.int (if q > p then q else p)) S := (rfl)
@[simp] theorem min_ii {p q : Int} {S : Sto} : min2D (.int p) (.int q) S = .ok (.int (if q < p then q else p)) S := (rfl)
@[simp] theorem slD_tup {l : List D} {o o2 : Option Int} {S : Sto} : slD (.tup l) o o2 S = .ok (.tup (cutD l o o2)) S := (rfl)
theorem cut_from {l : List D} {j : Nat} : cutD l (some (j : Int)) none = l.drop j := by
  unfold cutD
  rw [HT.sIx_none, show HT.sIx l.length 0 (some (j : Int)) = min j l.length from HT.sIx_nat _ _ j]
  by_cases h : j ≤ l.length
  · rw [Nat.min_eq_left h, List.take_of_length_le (by simp)]
  · rw [Nat.min_eq_right (by omega), List.drop_length, List.drop_eq_nil_of_le (by omega)]
    simp
theorem cut_to {l : List D} {j : Nat} : cutD l none (some (j : Int)) = l.take j := by
  unfold cutD
  rw [HT.sIx_none, show HT.sIx l.length l.length (some (j : Int)) = min j l.length from HT.sIx_nat _ _ j, Nat.sub_zero, List.drop_zero]
  exact (List.take_eq_take_min).symm
theorem addL_ok {n m : Nat} {S : Sto} {l l2 : List D} (h : S[n]? = some (.lst l)) (h2 : S[m]? = some (.lst l2)) (hz : l.length + l2.length ≤ 1000000) : addD (.obj n) (.obj m) S = .ok (.obj S.length) (S ++ [.lst (l ++ l2)]) := by
  show addLD _ _ S = _
  unfold addLD lstO
  dsimp only
  rw [h, h2]
  dsimp only
  rw [if_pos (Nat.le_trans hz (by rw [sizeLine_eq]; decide))]
theorem addT_ok {S : Sto} {l l2 : List D} (hz : l.length + l2.length ≤ 1000000) : addD (.tup l) (.tup l2) S = .ok (.tup (l ++ l2)) S := if_pos (Nat.le_trans hz (by rw [sizeLine_eq]; decide))
theorem addS_ok {S : Sto} {x y : Str} (hz : x.length + y.length ≤ 1000000) : addD (.str x) (.str y) S = .ok (.str (x ++ y)) S := if_pos (Nat.le_trans hz (by rw [sizeLine_eq]; decide))
theorem mulT_ok {S : Sto} {l : List D} {k : Nat} (h1 : l.length ≤ 1000) (h2 : k ≤ 1000) : mulD (.tup l) (.int (k : Int)) S = .ok (.tup (repL k l)) S := by
  unfold mulD
  dsimp only
  unfold mulTD
  dsimp only
  rw [if_pos ⟨h1, by omega, by omega⟩]
  simp
theorem repL_1 {d : D} {k : Nat} : repL k [d] = List.replicate k d := by
  unfold repL
  induction k with
  | zero => rfl
  | succ k ih => rw [List.replicate_succ, List.flatten_cons, ih]; rfl
/-! ### ends -/
def Ends {α : Type} (r : Rs α) (Q : α → Sto → Prop) : Prop := ∃ a S, r = .ok a S ∧ Q a S
section
variable {α : Type} {r : Rs α} {Q Q' : α → Sto → Prop} {a : α} {S : Sto}
theorem Ends.of (q : Q a S) : Ends (.ok a S) Q := ⟨a, S, rfl, q⟩
theorem Ends.imp (h : Ends r Q) (k : ∀ a S, Q a S → Q' a S) : Ends r Q' := by
  obtain ⟨a, S, e, q⟩ := h
  exact ⟨a, S, e, k a S q⟩
end
theorem ends_then {r : Rt} {R : MS} {Q : D → Sto → Prop} {A : Sl → Sto → Prop} (h : ∃ e S, r = .nx e S ∧ A e S) (k : ∀ e S, A e S → Ends (fn1 (R e S)) Q) : Ends (fn1 (thenT r R)) Q := by
  obtain ⟨e, S, rfl, q⟩ := h
  exact k e S q
end L3

/-! L3P: enumerate over a tuple or a list. -/
namespace L3
open PySem PySem.Spec L2 PyProof.Rows
open AutoSeq1 (wpAny_loadPart')
theorem enum_newT (l : Addr) (items : Array Value) (n : Nat) (dct : Option Addr) (sl : Array (Option Value)) :
    Meets (Builtin.«enumerate.__new__» ⟨[.type "enumerate", .ref l], []⟩) (fun _ R s => s.heap.get? l = some { cls := .type "tuple", dict := dct, data := .seq items n, slots := sl } ∧
      R (.ok (.ret (.ref (s.heap.push { cls := .type "tuple_iterator", data := .fields #[.ref l, .int 0 0] }).objs.size)))
        { s with heap := (s.heap.push { cls := .type "tuple_iterator", data := .fields #[.ref l, .int 0 0] }).push { cls := .type "enumerate", data := .fields #[.none, .bool false, .ref s.heap.objs.size, rawInt 0, .none, .none] } }) :=
  .of_wp fun prog w A R s h => by
    obtain ⟨hp, g, d, tk, os⟩ := s; obtain ⟨hl, h⟩ := h
    have hsub := sub_enumerate
    have hL : Heap.IsTuple (Shared.heap ⟨hp, g, d, tk, os⟩) l items := ⟨_, hl, rfl, n, rfl⟩
    wp_walk using wpAny_loadPart' hl
    refine wpAny_stack_any fun st => wpAny_pure ?_
    split
    · rename_i c _ _ _ _ _
      cases (c == Value.type "enumerate")
      · wp_walk using wpAny_loadPart' hl, wpAny_pyIter_tuple hL
        exact ⟨_, rfl, h⟩
      · wp_walk using wpAny_loadPart' hl, wpAny_pyIter_tuple hL
        exact ⟨_, rfl, h⟩
    · wp_walk using wpAny_loadPart' hl, wpAny_pyIter_tuple hL
      exact ⟨_, rfl, h⟩
section
variable {prog : Program} {w : World} {A : Around} {E : Value → Shared → Prop} {s : Shared}
theorem call_enumerate_tup {l : Addr} {items : Array Value} {Q : Value → Shared → Prop} (hL : s.heap.IsTuple l items)
    (h : ∀ h', IsEnum h' (s.heap.objs.size + 1) s.heap.objs.size 0 .none → h'.IsTupleIter s.heap.objs.size l 0 → h'.objs.size = s.heap.objs.size + 2 →
      (∀ b o, s.heap.get? b = some o → h'.get? b = some o) → Q (.ref (s.heap.objs.size + 1)) { s with heap := h' }) :
    wpAny (model prog w) A (call (.type "enumerate") [.ref l]) Q E s := by
  obtain ⟨⟨c, dct, dt, sl⟩, hl, hc, n, hd⟩ := hL
  replace hc : c = .type "tuple" := hc
  replace hd : dt = .seq items n := hd
  subst hc hd
  refine callType_new F.called_enumerate (by decide) (F.typeCall_enumerate_1 _) (F.newCall_enumerate_1 _) (fun obj => F.args_object_init_2 obj _) F.entry_enumerate_new
    (enum_newT l items n dct sl) ⟨hl, ?_⟩
  have hz : (s.heap.push { cls := .type "tuple_iterator", data := .fields #[.ref l, .int 0 0] }).objs.size = s.heap.objs.size + 1 := Heap.size_push ..
  show _ ∧ _
  rw [hz]
  have he : IsEnum ((s.heap.push { cls := .type "tuple_iterator", data := .fields #[.ref l, .int 0 0] }).push
      { cls := .type "enumerate", data := .fields #[.none, .bool false, .ref s.heap.objs.size, rawInt 0, .none, .none] }) (s.heap.objs.size + 1) s.heap.objs.size 0 .none := by
    have := Heap.get?_push_size (s.heap.push { cls := .type "tuple_iterator", data := .fields #[.ref l, .int 0 0] })
      (o := { cls := .type "enumerate", data := .fields #[.none, .bool false, .ref s.heap.objs.size, rawInt 0, .none, .none] }) rfl
    rw [hz] at this; exact this
  refine ⟨⟨_, he, rfl⟩, h _ he ⟨_, Heap.get?_push_of_some _ (Heap.get?_push_size _ rfl), rfl, rfl⟩ (by rw [Heap.size_push, hz]) fun b o x => Heap.get?_push_of_some _ (Heap.get?_push_of_some _ x)⟩
end
theorem drawsT {prog : Program} {w : World} {A : Around} (hh : A.handled = none) (it l : Addr) (hne : l ≠ it) (items : Array Value) :
    Draws prog w A it [it, l] items.size (fun i v => items[i]? = some v) (fun i h => h.IsTupleIter it l i ∧ h.IsTuple l items) where
  live := fun _ _ st => let ⟨o, ho, _⟩ := st.1; ⟨o, ho⟩
  frame := fun _ _ _ st hk => ⟨st.1.at fun o e => hk it (by simp) o e, let ⟨o, ho, r⟩ := st.2; ⟨o, hk l (by simp) o ho, r⟩⟩
  item := fun i s Q E hi st hQ => by
    refine RZ.nextOf_tuple_item st.1 st.2 (x := items[i]) (by simp [hi]) fun h' hit' hs' => ?_
    exact hQ _ h' s.toks (by simp [hi]) ⟨hit', let ⟨o, ho, r⟩ := st.2; ⟨o, hs'.extBut l o hne ho, r⟩⟩ hs'
  done := fun s Q E st hE => RZ.nextOf_tuple_end hh st.1 st.2 (by simp) hE
/-- the tuple at a, each item in a new pair -/
def IteT (K : PySem.W.Frag) (a : Addr) : It :=
  ⟨fun i H => ∃ (xs : List V) (x : V), SqT K H a xs ∧ xs[i]? = some x, fun i H v H' => ∃ T x, v = .ref T ∧ H T = none ∧ H' = upd H T (.tup [.int (i : Nat), x]) ∧ ∀ xs, SqT K H a xs → xs[i]? = some x, fun i H => ∃ xs : List V, SqT K H a xs ∧ xs.length ≤ i⟩
theorem turn_enumT {P : Program} {w : World} {K : PySem.W.Frag} {elts : List Expr} {kk : Nat} {tpos : Pos} (a e it : Addr) :
    Turn P w K (.Tuple elts kk tpos) (IteT K a) [e, it] e (fun i h => (∃ old, IsEnum h e it ((i : Nat) : Int) old) ∧ h.IsTupleIter it a i ∧ e ≠ it ∧ a ≠ it ∧ a ≠ e) where
  mem := by simp
  obj := fun i h st b hb => by
    obtain ⟨⟨old, he⟩, ⟨o, ho, hc, hd⟩, _⟩ := st
    have e' : b = e ∨ b = it := by simpa using hb
    rcases e' with z | z
    · rw [z]; exact ⟨_, he, fun v q => nomatch q⟩
    · rw [z]; exact ⟨o, ho, fun v q => by rw [hd] at q; cases q⟩
  keep := fun i h h' st k => let ⟨⟨old, he⟩, hi, hne⟩ := st; ⟨⟨old, k e (by simp) _ he⟩, hi.at fun o q => k it (by simp) o q, hne⟩
  item := by
    intro X hP hw hK hc i pins s σ H E I hf st hg
    subst hP hw hK
    obtain ⟨⟨old, he⟩, hit, hne, hai, hae⟩ := st
    obtain ⟨xs, x, hq, hx⟩ := hg
    obtain ⟨its, rv, p, hz⟩ := I.tuple hq
    obtain ⟨u, hu, ru⟩ := rv.get hx
    have hel : e < s.heap.objs.size := Heap.lt_size he
    have hil : it < s.heap.objs.size := by obtain ⟨_, q, _⟩ := hit; exact Heap.lt_size q
    have hin : i < its.toArray.size := by
      have := (List.getElem?_eq_some_iff.mp hu).1
      simpa using this
    have D0 := drawsT (prog := X.prog) (w := X.w) (A := X.A.in1) (I.ok.hd hc) it a hai its.toArray
    refine wpAny_pyNext_enum_itemD D0 he ⟨hit, show s.heap.IsTuple a its.toArray from p⟩ hin hne (by simp [hne, Ne.symm hae]) fun v h' tk hv ho hst' hT hsz hk => ?_
    have huv : u = v := by
      have h2 : its.toArray[i]? = some u := by simpa using hu
      have hv' : its.toArray[i]? = some v := hv
      rw [h2] at hv'
      cases hv'
      rfl
    subst huv
    refine ⟨_, rfl, wpAny_letOwnedTupleGo_enum (s := { s with heap := h', toks := tk + 1 }) ho fun h'' he' sb => ?_⟩
    have hT2 : h''.get? s.heap.objs.size = some { cls := .type "tuple", data := .seq #[.int i tk, u] } := (sb.2 _ (Nat.ne_of_gt hel)).trans hT
    have new : ObjOk X.prog X.w (upd H s.heap.objs.size (.tup [.int (i : Nat), x])) h'' s.heap.objs.size (.tup [.int (i : Nat), x]) :=
      ⟨by show 2 ≤ sizeLine; decide, [.int i tk, u], .cons ⟨_, rfl⟩ (.cons ru .nil), ⟨_, hT2, rfl, _, rfl⟩⟩
    have I1 : Inv X pins σ (upd H s.heap.objs.size (.tup [.int (i : Nat), x])) { s with heap := h'', toks := tk + 1 } :=
      I.turnedNew (ch := [e, it]) (fun b ob hb q => (sb.2 b (fun z => hb (by simp [z]))).trans (hk b ob (fun z => hb (by simp [z])) (fun z => hb (by simp [z])) q)) hf (Nat.le_refl _) new
    refine ⟨.ref s.heap.objs.size, _, I1, rfl, ⟨_, x, rfl, I.hok.fresh (Nat.le_refl _), rfl, fun ys hy => by rw [I.tuple_inj hy hq]; exact hx⟩, ⟨⟨u, ?_⟩, hst'.1.at fun o q => (sb.2 it (Ne.symm hne)).trans q, hne, hai, hae⟩, fun b hb => ?_⟩
    · have e1 : ((i + 1 : Nat) : Int) = (i : Int) + 1 := by omega
      rw [e1]; exact he'
    · have hb' : b < s.heap.objs.size := by
        have e' : b = e ∨ b = it := by simpa using hb
        rcases e' with z | z
        · rw [z]; exact hel
        · rw [z]; exact hil
      rw [upd_ne (Nat.ne_of_lt hb')]
      exact (hf b hb).1
  done := by
    intro X hP hw hK hc i pins s σ H E I hf st hg
    subst hP hw hK
    obtain ⟨⟨old, he⟩, hit, hne, hai, hae⟩ := st
    obtain ⟨xs, hq, hx⟩ := hg
    obtain ⟨its, rv, p, hz⟩ := I.tuple hq
    obtain ⟨f0, f1, f2, f3, f4, f5⟩ := hf it (by simp)
    have hl := rv.length
    have D := drawsT (prog := X.prog) (w := X.w) (A := X.A.in1) (I.ok.hd hc) it a hai its.toArray
    have hT : s.TypeIs (.ref e) "enumerate" := ⟨_, he, rfl⟩
    unfold pyNext
    refine wpAny_bind (wpAny_attempt (wpAny_callSpecial?_slot (name := Str.ofString "__next__") hT F.slot_enumerate_next
      (wpAny_call_entry F.slot_enumerate_next hT F.entry_enumerate_next ?_ (F.args_enumerate_next_1 _))))
    show wpAny _ _ (field (.ref e) 2 >>= _) _ _ _
    refine wpAny_bind (wpAny_field he rfl (x := .ref it) rfl ?_)
    refine wpAny_bind (RZ.nextOf_tuple_end (I.ok.hd hc) hit (show s.heap.IsTuple a its.toArray from p) (by simp; omega) fun h' x he' hx' => ?_)
    obtain ⟨o, ho, hc⟩ := hx'
    refine wpAny_bind (wpAny_isInstance (T := "StopIteration") (b := true) ⟨o, ho, hc⟩ isSubtype_stop ?_)
    exact wpAny_pure ⟨rfl, I.turned (t' := s.toks) (fun b o hb q => he' b o hb q) f0 f1 f3 f4 f5⟩
  self := fun A i s Q E st h => let ⟨⟨_, he⟩, _⟩ := st; wpAny_pyIter_enum he h
/-- enumerate of a list or a tuple -/
def iEnumA (K : PySem.W.Frag) (ta : TA) : TI := fun σ H R => ta σ H fun vs H1 => (∃ a xs, vs = [.ref a] ∧ SqL K H1 a xs ∧ R (Ite K a) H1) ∨ ∃ a xs, vs = [.ref a] ∧ SqT K H1 a xs ∧ R (IteT K a) H1
theorem pi_enumA {X : Cx} {e : Expr} {ta : TA} {p pos tpos : Pos} {elts : List Expr} {kk : Nat} (hg : Gl X "enumerate") (hm : X.mg "enumerate" = none) (ha : PA X [e] ta) (hs : starEach [e] X.env = [(false, eval e X.env)] := by rfl) :
    PI X (.Tuple elts kk tpos) (.Call (.Name "enumerate" p) [e] [] pos) (iEnumA X.K ta) := by
  refine ⟨fun pins s σ H R I h => ?_⟩
  refine Call_ (ld_blt I hg hm boot_enumerate (PyProof.Rows.callWith_type1 (thn (ha.run pos pins s σ H _ I h) fun us s1 ⟨vs, H1, I1, r1, q1⟩ => ?_) hs rfl))
  rcases q1 with ⟨a, xs, ex, hq, q⟩ | ⟨a, xs, ex, hq, q⟩
  · subst ex
    cases r1 with
    | cons r rr =>
      cases rr
      cases r
      obtain ⟨its, rv, p', hz⟩ := I1.list hq
      refine call_enumerate_list p'.isList fun h' he hit hsz hk => wpAny_pyIter_enum he ?_
      have I2 : Inv X pins σ H1 { s1 with heap := h' } := I1.kept (t' := s1.toks) hk
      refine ⟨s1.heap.objs.size + 1, [s1.heap.objs.size + 1, s1.heap.objs.size], _, _, H1, rfl, I2, turn_enum a (s1.heap.objs.size + 1) s1.heap.objs.size, ⟨⟨.none, he⟩, hit, Nat.succ_ne_self _⟩, fun b hb => ?_, q⟩
      have e' : b = s1.heap.objs.size + 1 ∨ b = s1.heap.objs.size := by simpa using hb
      have hle : s1.heap.objs.size ≤ b := by
        rcases e' with z | z
        · rw [z]; exact Nat.le_add_right _ _
        · rw [z]; exact Nat.le_refl _
      exact I1.fpOk hle (I1.hok.fresh hle)
  · subst ex
    cases r1 with
    | cons r rr =>
      cases rr
      cases r
      obtain ⟨its, rv, p', hz⟩ := I1.tuple hq
      have hal : a < s1.heap.objs.size := by obtain ⟨o, ho, _⟩ := id p'; exact Heap.lt_size ho
      refine call_enumerate_tup (show s1.heap.IsTuple a its.toArray from p') fun h' he hit hsz hk => wpAny_pyIter_enum he ?_
      have I2 : Inv X pins σ H1 { s1 with heap := h' } := I1.kept (t' := s1.toks) hk
      refine ⟨s1.heap.objs.size + 1, [s1.heap.objs.size + 1, s1.heap.objs.size], _, _, H1, rfl, I2, turn_enumT a (s1.heap.objs.size + 1) s1.heap.objs.size, ⟨⟨.none, he⟩, hit, Nat.succ_ne_self _, Nat.ne_of_lt hal, Nat.ne_of_lt (Nat.lt_succ_of_lt hal)⟩, fun b hb => ?_, q⟩
      have e' : b = s1.heap.objs.size + 1 ∨ b = s1.heap.objs.size := by simpa using hb
      have hle : s1.heap.objs.size ≤ b := by
        rcases e' with z | z
        · rw [z]; exact Nat.le_add_right _ _
        · rw [z]; exact Nat.le_refl _
      exact I1.fpOk hle (I1.hok.fresh hle)
/-! ### its mirror -/
def numL : Nat → List D → List D
  | _, [] => []
  | i, x :: l => .tup [.int (i : Int), x] :: numL (i + 1) l
theorem numL_length : ∀ (l : List D) (i : Nat), (numL i l).length = l.length
  | [], _ => rfl
  | x :: l, i => by unfold numL; simp [numL_length l]
theorem numL_get : ∀ {l : List D} {i j : Nat} {x : D}, (numL i l)[j]? = some x → ∃ y, l[j]? = some y ∧ x = .tup [.int ((i + j : Nat) : Int), y]
  | [], _, _, _, h => by simp [numL] at h
  | y :: l, i, 0, x, h => by simp [numL] at h; subst h; exact ⟨y, rfl, rfl⟩
  | y :: l, i, j + 1, x, h => by
    have h' : (numL (i + 1) l)[j]? = some x := by simpa [numL] using h
    obtain ⟨z, h1, h2⟩ := numL_get h'
    exact ⟨z, by simpa using h1, by rw [h2]; congr 4; omega⟩
section
variable {K : PySem.W.Frag} {ca : Nat → Addr}
theorem rep_pair {q : List Addr} {H : Hp} {T : Addr} {i : Nat} {x : V} {d : D} (rx : Rep K q H x d) (hT : H T = none) : Rep K q (upd H T (.tup [.int (i : Int), x])) (.ref T) (.tup [.int (i : Int), d]) :=
  .tup (.inl (.inl upd_same)) (.cons (.int _) (.cons (rx.grow (Grow.laid hT)) .nil))
theorem joEL {p : Addr} {l : List D} {chk : Sto → Bool} {r0 : List Addr} {H0 : Hp} (h : ∀ r H S, Grow K r0 H0 r H → StoOk K ca r H S → chk S = true → ∃ vs, SqL K H p vs ∧ Reps K r H vs l) : JOk K ca (Ite K p) (numL 0 l) chk r0 H0 where
  go := fun i r H S x g s c q => by
    obtain ⟨vs, h1, h2⟩ := h r H S g s c
    obtain ⟨y, hy, rfl⟩ := numL_get q
    obtain ⟨v, hv, rv⟩ := h2.get hy
    refine ⟨⟨vs, v, h1, hv⟩, fun w H' z => ?_⟩
    obtain ⟨T, v', rfl, hT, rfl, hall⟩ := z
    have e := hall vs h1
    rw [hv] at e
    cases e
    rw [Nat.zero_add]
    exact ⟨Grow.laid hT, s.laid hT, rep_pair rv hT⟩
  stop := fun i r H S g s c q => by
    obtain ⟨vs, h1, h2⟩ := h r H S g s c
    rw [numL_length] at q
    exact ⟨vs, h1, by rw [h2.length]; exact q⟩
theorem joET {p : Addr} {vs : List V} {l : List D} {r0 : List Addr} {H0 : Hp} (h1 : SqT K H0 p vs) (h2 : Reps K r0 H0 vs l) : JOk K ca (IteT K p) (numL 0 l) fixC r0 H0 where
  go := fun i r H S x g s c q => by
    obtain ⟨y, hy, rfl⟩ := numL_get q
    obtain ⟨v, hv, rv⟩ := (h2.grow g).get hy
    refine ⟨⟨vs, v, g.tup _ _ h1, hv⟩, fun w H' z => ?_⟩
    obtain ⟨T, v', rfl, hT, rfl, hall⟩ := z
    have e := hall vs (g.tup _ _ h1)
    rw [hv] at e
    cases e
    rw [Nat.zero_add]
    exact ⟨Grow.laid hT, s.laid hT, rep_pair rv hT⟩
  stop := fun i r H S g s c q => by
    rw [numL_length] at q
    exact ⟨vs, g.tup _ _ h1, by rw [h2.length]; exact q⟩
def enumD (d : D) (S : Sto) : Rs (List D × (Sto → Bool)) := match d with
  | .fz l => .ok (numL 0 l, fixC) S
  | .tup l => .ok (numL 0 l, fixC) S
  | .obj n => match S[n]? with
    | some (.lst l) => .ok (numL 0 l, sameC n l) S
    | _ => .bad
  | _ => .bad
theorem iv_enum {X : Cx} {a : Expr} {ma : ME} {p pos tpos : Pos} {elts : List Expr} {kk : Nat} (hg : Gl X "enumerate") (hm : X.mg "enumerate" = none) (h : EV X ca a ma) (hs : starEach [a] X.env = [(false, eval a X.env)] := by rfl) :
    IV X ca (.Tuple elts kk tpos) (.Call (.Name "enumerate" p) [a] [] pos) (itM enumD ma) :=
  fun W tk => weakI (pi_enumA hg hm (pa_cons (h W tk) pa_nil hs) hs) fun _ _ _ ⟨q, e, S, at_, pr⟩ => ⟨q, e, S, at_, PR.bind antiJ pr fun q1 H1 x d S1 g1 rx s1 pr1 => by
    unfold enumD at pr1
    split at pr1
    · obtain ⟨p, xs, rfl, h1, h2⟩ := rx.fz_of
      exact .inl ⟨p, xs, rfl, h1.sq, pr1 q1 H1 _ .refl (joEL fun r H S g s _ => ⟨xs, (g.fz _ _ h1).sq, h2.grow g⟩) s1⟩
    · obtain ⟨p, xs, rfl, h1, h2⟩ := rx.tup_of
      exact .inr ⟨p, xs, rfl, h1, pr1 q1 H1 _ .refl (joET h1 h2) s1⟩
    · rename_i n
      obtain ⟨p, rfl, hn⟩ := rx.obj_of
      split at pr1
      · rename_i l el
        obtain ⟨vs, h1, h2⟩ := lst_at s1 hn el
        refine .inl ⟨p, vs, rfl, SqL.of h1, pr1 q1 H1 _ .refl (joEL fun r H S g s c => ?_) s1⟩
        obtain ⟨vs', h1', h2'⟩ := lst_at s (g.pre _ _ hn) (of_decide_eq_true c)
        exact ⟨vs', SqL.of h1', h2'⟩
      · exact pr1.elim
    · exact pr1.elim⟩
end
end L3

/-! L3Q: sorted over data, of lists and tuples; the order of data. -/
namespace L3
open PySem PySem.Spec L2 PyProof.Rows PySem.W
section
variable {prog : Program} {w : World} {A : Around} {E : Value → Shared → Prop} {s : Shared}
theorem collect_tup {l : Addr} {vs : List Value} {Q : List Value → Shared → Prop} (hl : s.heap.IsTuple l vs.toArray)
    (h : Q vs { s with heap := (s.heap.push (seqObj "list" #[] 0)).update s.heap.objs.size (Obj.mapSeq (· ++ vs.toArray)) }) (hsz : vs.length ≤ sizeLine) :
    wpAny (model prog w) A (collect (.ref l)) Q E s := by
  obtain ⟨o, ho, hc, n, hd⟩ := id hl
  unfold collect
  refine wpAny_bind (wpAny_runValue (codeAny_builtin entry_proto_collect' ?_))
  show wpAny _ _ (do again (.builtin "list.__iadd__" ⟨[← newList [], .ref l], []⟩)) _ _ s
  refine wpAny_bind (wpAny_newList (wpAny_pure ⟨Code.quiet_builtin _ (by decide +kernel), codeAny_builtin entry_list_iadd' ?_⟩))
  show wpAny _ _ (Builtin.List.listExtendWith (.ref s.heap.objs.size) (.ref l) (.ref s.heap.objs.size)) _ _ { s with heap := s.heap.push (seqObj "list" #[] 0) }
  unfold Builtin.List.listExtendWith
  have ho' : (s.heap.push (seqObj "list" #[] 0)).get? l = some o := Heap.get?_push_of_some _ ho
  refine wpAny_bind (wpAny_typeOf (T := "tuple") ⟨o, ho', hc⟩ ?_)
  have ht : (Value.type "tuple" == Value.type "tuple") = true := by rfl
  rw [if_pos (by rw [ht]; simp)]
  refine wpAny_bind (listItems_at ho' hd ?_)
  refine wpAny_bind (listItems_at (xs := #[]) (n := 0) (Heap.get?_push_size _ rfl) rfl ?_)
  rw [if_neg (by simp)]
  refine wpAny_bind (listUpdate_at (xs := #[]) (n := 0) (Heap.get?_push_size _ rfl) rfl ?_ (Nat.zero_le _) (by show (#[] ++ vs.toArray).size ≤ sizeLine + 1; simp only [Array.size_append, List.size_toArray, List.length_nil]; omega))
  refine wpAny_pure ?_
  show wpAny (model prog w) A (do
      let o ← load s.heap.objs.size
      match o.data with
      | .seq xs _ => pure xs.toList
      | _ => unsupported "internal:collect") Q E { s with heap := (s.heap.push (seqObj "list" #[] 0)).update s.heap.objs.size (Obj.mapSeq (· ++ vs.toArray)) }
  refine wpAny_bind (wpAny_load (get?_update_seq (Heap.get?_push_size _ rfl) _) ?_)
  show wpAny _ _ (pure ((#[] : Array Value) ++ vs.toArray).toList) Q E _
  rw [show ((#[] : Array Value) ++ vs.toArray).toList = vs by simp]
  exact wpAny_pure h
variable {κ : PyProof.Rows.KeyKind}
theorem sorted_of_sortT {l : Addr} {vs : List Value} {Q : Value → Shared → Prop} (hl : s.heap.IsTuple l vs.toArray) (hL : vs.length ≤ sizeLine)
    (body : ∀ E' : Value → Shared → Prop, wpAny (model prog w) A.in1.in1 (Builtin.«list.sort» ⟨[.ref (s.heap.objs.size + 1)], []⟩) (fun f s' => f = .done (.ret .none) ∧ Q (.ref (s.heap.objs.size + 1)) s') E' { s with heap := copyHeap s.heap vs }) :
    wpAny (model prog w) A (call (.builtin "sorted") [.ref l] []) Q E s := by
  refine call_function_entry_kw kind_sorted plain_sorted entry_sorted (args_sorted1 _) ?_
  unfold Builtin.«sorted»
  refine wpAny_bind (m := checkCount "sorted" 1 1 _) (wpAny_pure ?_)
  refine wpAny_bind (collect_tup hl ?_ hL)
  refine wpAny_bind (wpAny_newList ?_ hL)
  have hsz : ((s.heap.push (seqObj "list" #[] 0)).update s.heap.objs.size (Obj.mapSeq (· ++ vs.toArray))).objs.size = s.heap.objs.size + 1 := by
    rw [Heap.size_update, size_push']
  show wpAny _ _ _ _ _ { s with heap := copyHeap s.heap vs }
  rw [hsz]
  refine wpAny_bind (wpAny_holding (wpAny_call_entry_kw slot_list_sort ⟨_, copyHeap_at s.heap vs, rfl⟩ entry_list_sort ?body (args_list_sort _)))
  case body =>
    show wpAny (model prog w) A.in1.in1 (Builtin.«list.sort» ⟨[.ref (s.heap.objs.size + 1)], []⟩) _ _ _
    refine wpAny_mono (body _) (fun f s' hf => ?_) fun _ _ e => e
    obtain ⟨rfl, hq⟩ := hf
    exact ⟨_, rfl, wpAny_pure ⟨_, rfl, hq⟩⟩
/-- of at most one item: nothing is compared -/
theorem sortsAt_one {vs : List Value} {ds : List PyData} (e : EachIs (fun v d => ∃ as, Reads s.heap v d as) vs ds) (hal : AllAlike ds) (hn : ∀ d ∈ ds, d ≠ .none) (h1 : ds.length ≤ 1) (hu : ∀ d, d ∈ ds → A.units + d.depth < cLine) : SortsAt prog w A s (dataKind s.heap ds) vs where
  keys := fun v hv => by
    obtain ⟨d, hd, as, r⟩ := e.left v hv
    exact ⟨_, dataKind_some hal hd r⟩
  kind := by
    refine ⟨general', ?_, fun h2 => ?_⟩
    · intro E x y a b Q ha hb hq
      obtain ⟨d, as, hd, ra, rfl⟩ := dataKind_inv ha
      obtain ⟨d', as', hd', rb, rfl⟩ := dataKind_inv hb
      have hr := hu d hd
      exact oneLt_alike (f := false) (fun h => by cases h) ra rb (hal d hd d' hd') (hn d hd) (by have := Nat.min_le_left d.depth d'.depth; omega) hq
    · have := e.length
      omega
/-- the two ways in -/
theorem sorted_any {l : Addr} {vs : List Value} {β : Type} {bs : List β} {enc : β → PyData} {R : Value → β → Prop} {Q : Value → Shared → Prop} (hl : s.heap.IsList l vs.toArray ∨ s.heap.IsTuple l vs.toArray) (e : EachIs R vs bs) (er : EachIs (fun v b => ∃ as, Reads s.heap v (enc b) as) vs bs) (hal : AllAlike (bs.map enc))
    (hk : Sortable (bs.map enc) ∨ ((bs.map enc).length ≤ 1 ∧ ∀ d ∈ bs.map enc, d ≠ .none)) (hL : bs.length ≤ sizeLine) (hu : ∀ b, b ∈ bs → A.units + 2 + (enc b).depth < cLine)
    (h : ∀ out, out.length = bs.length → EachIs R out (bs.mergeSort (dataLe false enc)) → Q (.ref (s.heap.objs.size + 1)) { s with heap := sortedAll s.heap vs (List.toArray out) }) :
    wpAny (model prog w) A (call (.builtin "sorted") [.ref l]) Q E s := by
  have er' : EachIs (fun v b => ∃ as, Reads (sortingHeap (copyHeap s.heap vs) (s.heap.objs.size + 1) vs) v (enc b) as) vs bs := er.mono fun _ _ ⟨as, r⟩ => ⟨as, PyProof.Rows.Reads.keeps (fun _ _ => sorting_copy_old) r⟩
  have em := each_map (R := fun v d => ∃ as, Reads (sortingHeap (copyHeap s.heap vs) (s.heap.objs.size + 1) vs) v d as) enc er'
  have hv : vs.length ≤ sizeLine := by rw [e.length]; exact hL
  have S : SortsAt prog w A.in1.in1 { s with heap := sortingHeap (copyHeap s.heap vs) (s.heap.objs.size + 1) vs } (dataKind (sortingHeap (copyHeap s.heap vs) (s.heap.objs.size + 1) vs) (bs.map enc)) vs := by
    rcases hk with hk | ⟨h1, h2⟩
    · exact SortsAt.data (s := { s with heap := sortingHeap (copyHeap s.heap vs) (s.heap.objs.size + 1) vs }) em hal hk (bound_map hu)
    · exact sortsAt_one (s := { s with heap := sortingHeap (copyHeap s.heap vs) (s.heap.objs.size + 1) vs }) em hal h2 h1 (bound_map hu)
  have fin := h _ (by rw [sortVals_length false rfl]; exact e.length) (sortVals_data false e er' hal)
  have key : ∀ E' : Value → Shared → Prop, wpAny (model prog w) A.in1.in1 (Builtin.«list.sort» ⟨[.ref (s.heap.objs.size + 1)], []⟩) (fun f s' => f = .done (.ret .none) ∧ Q (.ref (s.heap.objs.size + 1)) s') E' { s with heap := copyHeap s.heap vs } :=
    fun _ => list_sort_vals (s := { s with heap := copyHeap s.heap vs }) (copyHeap_at s.heap vs) S hv ⟨rfl, fin⟩
  rcases hl with hl | hl
  · exact sorted_of_sort hl hv (args_sorted1 _) (fun _ => args_list_sort _) key
  · exact sorted_of_sortT hl hv key
end
/-! ### the rule -/
section
variable {K : PySem.W.Frag} {ca : Nat → Addr}
theorem reps_pairs {q : List Addr} {H : Hp} : ∀ {bs : List (V × D)}, (∀ b ∈ bs, Rep K q H b.1 b.2) → Reps K q H (bs.map (·.1)) (bs.map (·.2))
  | [], _ => .nil
  | b :: bs, h => .cons (h b (by simp)) (reps_pairs fun c hc => h c (by simp [hc]))
theorem zip_mem {q : List Addr} {H : Hp} : ∀ {xs : List V} {l : List D}, Reps K q H xs l → ∀ b ∈ xs.zip l, Rep K q H b.1 b.2
  | _, _, .nil, b, hb => by simp at hb
  | _, _, .cons r rs, b, hb => by
    rw [List.zip_cons_cons] at hb
    rcases List.mem_cons.mp hb with rfl | hb
    · exact r
    · exact zip_mem rs b hb
theorem zip_snd {q : List Addr} {H : Hp} : ∀ {xs : List V} {l : List D}, Reps K q H xs l → (xs.zip l).map (·.2) = l
  | _, _, .nil => rfl
  | _, _, .cons _ rs => by rw [List.zip_cons_cons, List.map_cons, zip_snd rs]
theorem each_vals {l : List D} : ∀ {xs : List V} {us : List Value} {l : List D}, Vals xs us → xs.length = l.length → EachIs (fun u (b : V × D) => RelV b.1 u) us (xs.zip l)
  | [], _, [], .nil, _ => .nil
  | x :: xs, _, d :: l, .cons r rs, h => by
    rw [List.zip_cons_cons]
    exact .cons r (each_vals (l := l) rs (by simpa using h))
  | x :: xs, _, [], _, h => by simp at h
  | [], _, _ :: _, _, h => by simp at h
theorem vals_each : ∀ {us : List Value} {bs : List (V × D)}, EachIs (fun u (b : V × D) => RelV b.1 u) us bs → Vals (bs.map (·.1)) us
  | _, _, .nil => .nil
  | _, _, .cons r rs => .cons r (vals_each rs)
end
section
variable {X : Cx} {ca : Nat → Addr}
theorem pysOf_map : ∀ l : List D, pysOf l = l.map pyOf
  | [] => by unfold pysOf; rfl
  | d :: l => by unfold pysOf; rw [pysOf_map l]; rfl
def tupNe : PyData → Bool
  | .tuple (_ :: _) => true
  | _ => false
def notTN : PyData → Bool
  | .tuple _ => false
  | .none => false
  | _ => true
def notN : PyData → Bool
  | .none => false
  | _ => true
def sortOk (l : List D) : Bool := plains l && decide (dpts l ≤ 60) && decide (l.length ≤ sizeLine) && l.all (fun a => l.all fun b => alike (pyOf a) (pyOf b)) && (l.all (fun a => tupNe (pyOf a)) || l.all (fun a => notTN (pyOf a)) || (decide (l.length ≤ 1) && l.all fun a => notN (pyOf a)))
def leP (a b : D) : Bool := dataLe false pyOf a b
def sortL (l : List D) : List D := l.mergeSort leP
structure SortOk (l : List D) : Prop where
  pl : plains l = true
  dp : dpts l ≤ 60
  len : l.length ≤ sizeLine
  al : AllAlike (l.map pyOf)
  so : Sortable (l.map pyOf) ∨ ((l.map pyOf).length ≤ 1 ∧ ∀ d ∈ l.map pyOf, d ≠ .none)
theorem sortOk_ok {l : List D} (h : sortOk l = true) : SortOk l := by
  unfold sortOk at h
  simp only [Bool.and_eq_true, decide_eq_true_eq, Bool.or_eq_true, List.all_eq_true] at h
  obtain ⟨⟨⟨⟨h1, h2⟩, h3⟩, h4⟩, h5⟩ := h
  refine ⟨h1, h2, h3, fun d hd d' hd' => ?_, ?_⟩
  · obtain ⟨a, ha, rfl⟩ := List.mem_map.mp hd
    obtain ⟨b, hb, rfl⟩ := List.mem_map.mp hd'
    exact h4 a ha b hb
  · rcases h5 with (h5 | h5) | ⟨h5, h6⟩
    · refine .inl (.inl fun d hd => ?_)
      obtain ⟨a, ha, rfl⟩ := List.mem_map.mp hd
      have := h5 a ha
      unfold tupNe at this
      split at this
      · rename_i x r e
        exact ⟨x, r, e⟩
      · cases this
    · refine .inl (.inr fun d hd => ?_)
      obtain ⟨a, ha, rfl⟩ := List.mem_map.mp hd
      have := h5 a ha
      refine ⟨fun e => ?_, fun xs e => ?_⟩ <;> (rw [e] at this; cases this)
    · refine .inr ⟨by simpa using h5, fun d hd e => ?_⟩
      obtain ⟨a, ha, rfl⟩ := List.mem_map.mp hd
      have := h6 a ha
      rw [e] at this
      cases this
def rSortD (K : PySem.W.Frag) : List V → Hp → VK → Prop := fun vs H Q => ∃ (a : Addr) (xs : List V) (l : List D), vs = [.ref a] ∧ (SqL K H a xs ∨ SqT K H a xs) ∧ DpAll K H xs (l.map pyOf) ∧ xs.length = l.length ∧ SortOk l ∧
  ∀ p, H p = none → Q (.ref p) (upd H p (.lst (((xs.zip l).mergeSort (dataLe false fun b : V × D => pyOf b.2)).map (·.1))))
theorem cr_sortedD (hu : X.A.units + 80 < cLine) : CallR X (.builtin "sorted") (rSortD X.K) := by
  intro pins s σ H vs us Q I r h
  obtain ⟨a, xs, l, rfl, hs, hd, hlen, ok, q⟩ := h
  rw [Vals.ref1 r]
  obtain ⟨its, rv, hl⟩ : ∃ its, Vals xs its ∧ (s.heap.IsList a its.toArray ∨ s.heap.IsTuple a its.toArray) := by
    rcases hs with hs | hs
    · obtain ⟨its, rv, hl, _⟩ := I.list hs
      exact ⟨its, rv, .inl hl.isList⟩
    · obtain ⟨its, rv, hl, _⟩ := I.tuple hs
      exact ⟨its, rv, .inr hl⟩
  obtain ⟨as, ra⟩ := Dp.readsAll I (l.map pyOf) xs its hd rv
  have zs : (xs.zip l).map (fun b : V × D => pyOf b.2) = l.map pyOf := by
    have : (xs.zip l).map (·.2) = l := List.map_snd_zip (by omega)
    rw [show (fun b : V × D => pyOf b.2) = pyOf ∘ (·.2) from rfl, ← List.map_map, this]
  have zl : (xs.zip l).length = l.length := by simp; omega
  refine sorted_any (R := fun u (b : V × D) => RelV b.1 u) (bs := xs.zip l) (enc := fun b => pyOf b.2) hl (each_vals (l := l) rv hlen) (readsAll_each (fun b : V × D => pyOf b.2) (as := as) (by rw [zs]; exact ra)) (by rw [zs]; exact ok.al) (by rw [zs]; exact ok.so) (by rw [zl]; exact ok.len) (fun b hb => ?_) fun out h1 h2 => ?_
  · have hm : b.2 ∈ l := (List.of_mem_zip hb).2
    have h1 := dpt_plain (plains_iff.mp ok.pl _ hm)
    have h2 := dpts_le.mp ok.dp _ hm
    rw [h1]
    omega
  · obtain ⟨ep, he'⟩ := PyProof.Rows.sortedAll_at s.heap its out.toArray
    have hv := vals_each h2
    have hlen' : (((xs.zip l).mergeSort (dataLe false fun b : V × D => pyOf b.2)).map (·.1)).length ≤ sizeLine := by rw [List.length_map, List.length_mergeSort, zl]; exact ok.len
    exact ⟨.ref _, upd H (s.heap.objs.size + 1) (.lst _), I.laid (t' := s.toks) (fun _ _ => PyProof.Rows.sortedAll_old) (Nat.le_succ _) ⟨hlen', out, ep, hv, he'⟩, rfl, q _ (I.hok.fresh (Nat.le_succ _))⟩
/-- sorted(x): a new list -/
def sortD (x : D) (S : Sto) : Rs (List D) := match x with
  | .tup l => if sortOk l = true then .ok (sortL l) S else .bad
  | .fz l => if sortOk l = true then .ok (sortL l) S else .bad
  | .obj n => match S[n]? with
    | some (.lst l) => if sortOk l = true then .ok (sortL l) S else .bad
    | _ => .bad
  | _ => .bad
theorem sort_zip {K : PySem.W.Frag} {q : List Addr} {H : Hp} {xs : List V} {l : List D} (h : Reps K q H xs l) : Reps K q H (((xs.zip l).mergeSort (dataLe false fun b : V × D => pyOf b.2)).map (·.1)) (sortL l) := by
  have e : ((xs.zip l).mergeSort (dataLe false fun b : V × D => pyOf b.2)).map (·.2) = sortL l := by
    rw [sort_maps (r := dataLe false fun b : V × D => pyOf b.2) (s := leP) (fun b : V × D => b.2) (fun a _ b _ => rfl), zip_snd h]
    rfl
  rw [← e]
  exact reps_pairs fun b hb => zip_mem h b (List.mem_mergeSort.mp hb)
theorem lv_sorted {a : Expr} {ma : ME} {p pos : Pos} (hu : X.A.units + 80 < cLine) (hg : Gl X "sorted") (hm : X.mg "sorted" = none) (ha : EV X ca a ma) (he : starEach [a] X.env = [(false, eval a X.env)] := by rfl) : LV X ca (.Call (.Name "sorted" p) [a] [] pos) (toA sortD ma) :=
  fun W tk => weakE (pe_callB (cr_sortedD hu) hg hm PyProof.Rows.boot_sorted (pa_cons (ha W tk) pa_nil he) (by decide) (by decide) he rfl) fun s H Q ⟨q, e, S, at_, pr⟩ => ⟨q, e, S, at_, PR.bind antiL pr fun q1 H1 x d S1 g1 rx s1 pr1 => by
    have dps : ∀ {xs : List V} {l : List D}, Reps X.K q1 H1 xs l → plains l = true → DpAll X.K H1 xs (l.map pyOf) := fun {xs l} r hp => by
      rw [← pysOf_map]
      exact toPs_ok (objP_ok s1 8) l xs (pysOf l) r (toPs_plain hp)
    unfold sortD at pr1
    split at pr1
    · split at pr1
      · rename_i hk
        obtain ⟨p, xs, rfl, h1, h2⟩ := rx.tup_of
        have ok := sortOk_ok hk
        exact ⟨p, xs, _, rfl, .inr h1, dps h2 ok.pl, h2.length, ok, fun a ha => pr1.lstNew (sort_zip h2) s1 ha⟩
      · exact pr1.elim
    · split at pr1
      · rename_i hk
        obtain ⟨p, xs, rfl, h1, h2⟩ := rx.fz_of
        have ok := sortOk_ok hk
        exact ⟨p, xs, _, rfl, .inl h1.sq, dps h2 ok.pl, h2.length, ok, fun a ha => pr1.lstNew (sort_zip h2) s1 ha⟩
      · exact pr1.elim
    · rename_i n
      obtain ⟨p, rfl, hn⟩ := rx.obj_of
      split at pr1
      · rename_i l el
        split at pr1
        · rename_i hk
          obtain ⟨vs, h1, h2⟩ := lst_at s1 hn el
          have ok := sortOk_ok hk
          exact ⟨p, vs, _, rfl, .inl (SqL.of h1), dps h2 ok.pl, h2.length, ok, fun a ha => pr1.lstNew (sort_zip h2) s1 ha⟩
        · exact pr1.elim
      · exact pr1.elim
    · exact pr1.elim⟩
/-- .. of a new list -/
def sortLM (m : MA) : MA := fun e S => bindR (m e S) fun l S1 => if sortOk l = true then .ok (sortL l) S1 else .bad
theorem lv_sortedL {a : Expr} {ms : MA} {p pos : Pos} (hu : X.A.units + 80 < cLine) (hg : Gl X "sorted") (hm : X.mg "sorted" = none) (ha : LV X ca a ms) (he : starEach [a] X.env = [(false, eval a X.env)] := by rfl) : LV X ca (.Call (.Name "sorted" p) [a] [] pos) (sortLM ms) :=
  fun W tk => weakE (pe_callB (cr_sortedD hu) hg hm PyProof.Rows.boot_sorted (pa_cons (ha W tk) pa_nil he) (by decide) (by decide) he rfl) fun s H Q ⟨q, e, S, at_, pr⟩ => ⟨q, e, S, at_, PR.bind0 pr fun q1 H1 x l S1 g1 rx s1 pr1 => by
    obtain ⟨p, vs, rfl, h0, hq, hp, rs⟩ := rx
    split at pr1
    · rename_i hk
      have ok := sortOk_ok hk
      refine ⟨p, vs, l, rfl, .inl (SqL.of hp), ?_, rs.length, ok, fun a ha => ?_⟩
      · rw [← pysOf_map]
        exact toPs_ok (objP_ok s1 8) l vs (pysOf l) rs (toPs_plain ok.pl)
      · have g := Grow.laid (K := X.K) (r := q1) (u := .lst (((vs.zip l).mergeSort (dataLe false fun b : V × D => pyOf b.2)).map (·.1))) ha
        exact pr1 q1 _ _ (g1.trans g) ⟨a, _, rfl, g1.dom a ha, s1.free ha, upd_same, (sort_zip rs).grow g⟩ (s1.laid ha)
    · exact pr1.elim⟩
end
end L3
namespace L3
open PySem PySem.Spec L2 PyProof.Rows PySem.W
/-! ### the order of data -/
section
variable {X : Cx} {ca : Nat → Addr}
def rLtD (K : PySem.W.Frag) : R2 := fun x y H Q => ∃ d e, Dp K H x d ∧ Dp K H y e ∧ alike d e = true ∧ d ≠ .none ∧ d.depth ≤ 64 ∧ Q (.bl (dataLt d e)) H
theorem op_ltD (hu : X.A.units + 65 < cLine) : OpR X (compareOp .Lt) (rLtD X.K) := by
  intro pins s σ H x y v u Q I rx ry h
  obtain ⟨d, e, hd, he, al, hn, hz, q⟩ := h
  obtain ⟨as, r1⟩ := Dp.reads I d x v hd rx
  obtain ⟨bs, r2⟩ := Dp.reads I e y u he ry
  exact rcLt_alike d e X.A s v u as bs r1 r2 al hn (by have := Nat.min_le_left d.depth e.depth; omega) X.prog X.w _ _ ⟨.bl _, H, I, rfl, q⟩
def ltxB (x y : D) : Option Bool := if plain x = true ∧ plain y = true ∧ dpt x ≤ 64 ∧ alike (pyOf x) (pyOf y) = true ∧ x ≠ .non then some (dataLt (pyOf x) (pyOf y)) else none
def ltxD (x y : D) (S : Sto) : Rs D := match ltxB x y with
  | some k => .ok (.bl k) S
  | none => .bad
theorem ok_ltx {K : PySem.W.Frag} : OpOk K ca (rLtD K) ltxD := by
  intro q H S x y d e W Q s rx ry pr
  unfold ltxD ltxB at pr
  split at pr
  · rename_i k h
    split at h
    · rename_i hc
      cases h
      obtain ⟨h1, h2, h3, h4, h5⟩ := hc
      refine ⟨pyOf d, pyOf e, datP_ok s rx (dat_plain h1), datP_ok s ry (dat_plain h2), h4, fun z => ?_, by rw [dpt_plain h1]; exact h3, pr.put (.bl _) s⟩
      cases d <;> simp_all [pyOf, plain]
    · cases h
  · exact pr.elim
end
end L3

/-! L3R: x[::-1] of a tuple or a list. -/
namespace L3
open PySem PySem.Spec L2 PyProof.Rows HT
section
variable {prog : Program} {w : World} {A : Around} {E : Value → Shared → Prop} {s : Shared}
theorem adjust_rev (n : Nat) : Builtin.Slice.sliceAdjust none none (-1) (n : Int) = ((n : Int) - 1, -1) := by
  simp [Builtin.Slice.sliceAdjust]
theorem places_rev (n : Nat) : Builtin.Slice.slicePlaces ((n : Int) - 1) (-1) (-1) = n := by
  unfold Builtin.Slice.slicePlaces
  simp
  try omega
theorem sliceApplied_rev {sl : Addr} {vl vu vs : Value} {n : Nat} {Q : Int × Int × Nat → Shared → Prop} (hs : s.heap.IsSliceOf sl vl vu vs) (pl : IsPart vl none) (pu : IsPart vu none) (ps : IsPart vs (some (-1)))
    (h : Q ((n : Int) - 1, -1, n) s) : wpAny (model prog w) A (Builtin.Slice.sliceApplied (.ref sl) (pure (n : Int))) Q E s := by
  obtain ⟨os, hos, hcs, hds⟩ := id hs
  unfold Builtin.Slice.sliceApplied Builtin.Slice.sliceFields
  refine wpAny_bind (wpAny_bind (wpAny_field hos hds (x := vl) rfl (wpAny_bind (wpAny_field hos hds (x := vu) rfl (wpAny_bind (wpAny_field hos hds (x := vs) rfl (wpAny_pure ?_)))))))
  refine wpAny_bind (slicePart_ ps ?_)
  show wpAny _ _ (if ((-1 : Int) == 0) = true then _ else _) _ _ s
  rw [if_neg (by decide)]
  refine wpAny_bind (slicePart_ pl (wpAny_bind (slicePart_ pu (wpAny_bind (wpAny_pure ?_)))))
  show wpAny _ _ (match Builtin.Slice.sliceAdjust none none (-1) (n : Int) with | (lo, hi) => pure (lo, (-1 : Int), Builtin.Slice.slicePlaces lo hi (-1))) _ _ s
  rw [adjust_rev n]
  show wpAny _ _ (pure ((n : Int) - 1, (-1 : Int), Builtin.Slice.slicePlaces ((n : Int) - 1) (-1) (-1))) _ _ s
  rw [places_rev]
  exact wpAny_pure h
theorem pick_rev (xs : Array Value) : ((List.range xs.size).filterMap fun (m : Nat) => xs[((xs.size : Int) - 1 + (m : Int) * (-1)).toNat]?).toArray = xs.toList.reverse.toArray := by
  have e : ((List.range xs.size).filterMap fun (m : Nat) => xs[((xs.size : Int) - 1 + (m : Int) * (-1)).toNat]?) = ((List.range xs.size).map fun k => xs.size - 1 - k).filterMap (xs[·]?) := by
    rw [List.filterMap_map]
    have key : ∀ l : List Nat, (∀ m ∈ l, m < xs.size) → l.filterMap (fun (m : Nat) => xs[((xs.size : Int) - 1 + (m : Int) * (-1)).toNat]?) = l.filterMap ((xs[·]?) ∘ fun k => xs.size - 1 - k) := fun l => by
      induction l with
      | nil => intro _; rfl
      | cons m l ih =>
        intro h
        have hm := h m (by simp)
        have e2 : ((xs.size : Int) - 1 + (m : Int) * (-1)).toNat = xs.size - 1 - m := by omega
        simp only [List.filterMap_cons, e2, Function.comp, ih fun k hk => h k (by simp [hk])]
    exact key _ fun m hm => List.mem_range.mp hm
  rw [e, PySem.W.krv_range, List.filterMap_reverse, PySem.W.krv_all]
theorem getItem_tuple_rev {t sl : Addr} {items : Array Value} {vl vu vs : Value} {Q : Value → Shared → Prop} (ht : IsTup s.heap t items) (hs : s.heap.IsSliceOf sl vl vu vs) (pl : IsPart vl none) (pu : IsPart vu none) (ps : IsPart vs (some (-1)))
    (h : Q (.ref s.heap.objs.size) { s with heap := s.heap.push { cls := .type "tuple", data := .seq items.toList.reverse.toArray } })
    (hsz : items.size ≤ sizeLine) : wpAny (model prog w) A (getItem (.ref t) (.ref sl)) Q E s := by
  have htake : sizeOk (.seq items.toList.reverse.toArray) := by
    show items.toList.reverse.toArray.size ≤ sizeLine
    rw [List.size_toArray, List.length_reverse, Array.length_toList]
    exact hsz
  obtain ⟨os, hos, hcs, hds⟩ := id hs
  have hTs : s.TypeIs (.ref sl) "slice" := ⟨os, hos, hcs⟩
  unfold getItem
  try with_reducible refine wpAny_holding ?_
  first | refine wpAny_bind (wpAny_pure ?_) | skip
  refine wpAny_bind (wpAny_sequenceKey ht.typeIs (by decide) ?_)
  refine wpAny_bind (wpAny_callSpecial?_slot (name := Str.ofString "__getitem__") ht.typeIs PyProof.Rows.slot_tuple_getitem
    (wpAny_call_entry PyProof.Rows.slot_tuple_getitem ht.typeIs entry_tuple_getitem ?_ (args_tuple_getitem _ _)))
  show wpAny _ _ (Builtin.Tuple.tupleItemsOf (.ref t) >>= _) _ _ s
  refine wpAny_bind (tupleItemsOf_ ht ?_)
  refine wpAny_bind (wpAny_typeOf hTs ?_)
  rw [if_pos (by decide)]
  refine wpAny_bind (sliceApplied_rev hs pl pu ps ?_)
  have hno : ¬ ((((items.size : Int) - 1) == 0 && (-1 : Int) == 1 && items.size == items.size) = true) := by simp
  show wpAny _ _ (if (((items.size : Int) - 1) == 0 && (-1 : Int) == 1 && items.size == items.size) = true then _ else _) _ _ s
  rw [if_neg hno, pick_rev]
  first
    | exact wpAny_bind (m := Builtin.Tuple.tupleExact _) (wpAny_newObj_type (wpAny_pure ⟨_, rfl, wpAny_pure h⟩) htake)
    | exact wpAny_bind (m := Builtin.Tuple.tupleExact _) (wpAny_newObj_type (wpAny_bind (wpAny_pure (wpAny_pure ⟨_, rfl, wpAny_pure h⟩))) htake)
    | exact wpAny_bind (wpAny_bind (m := Builtin.Tuple.tupleExact _) (wpAny_newObj_type (wpAny_pure (wpAny_pure ⟨_, rfl, wpAny_pure h⟩)) htake))
    | exact wpAny_bind (wpAny_bind (m := Builtin.Tuple.tupleExact _) (wpAny_newObj_type (wpAny_pure ⟨_, rfl, wpAny_pure h⟩) htake))
end
section
variable {X : Cx} {ca : Nat → Addr}
def tRevA (K : PySem.W.Frag) (te : TE) : TE := fun σ H Q => te σ H fun x H1 => (∃ a xs, x = .ref a ∧ SqL K H1 a xs ∧ ∀ p, H1 p = none → Q (.ref p) (upd H1 p (.lst xs.reverse))) ∨ ∃ a xs, x = .ref a ∧ SqT K H1 a xs ∧ ∀ p, H1 p = none → Q (.ref p) (upd H1 p (.tup xs.reverse))
theorem pe_revA {e : Expr} {te : TE} {k : Nat} {p1 p2 p3 pos : Pos} (he : PE X e te) : PE X (.Subscript e (.Slice none none (some (.UnaryOp .USub (.Constant (.int 1) k p1) p2)) p3) pos) (tRevA X.K te) := by
  refine ⟨fun pins s σ H Q I h => ?_⟩
  refine Subscript_ (thn (he.run pins s σ H _ I h) fun v s1 ⟨x, H1, I1, r1, q1⟩ => ?_)
  have hst : PO X (some (.UnaryOp .USub (.Constant (.int 1) k p1) p2)) (tPart (tUn (rU fun i => .int (-i)) (tC (.int 1)))) := po_some (pe_un un_neg pe_int)
  refine wpAny_Slice (thn (po_none.run pins s1 σ H1 (fun o H2 => o = none ∧ H2 = H1) I1 ⟨rfl, rfl⟩) fun vl s2 ⟨l, H2, I2, pl, el, e2⟩ => ?_)
  subst el e2
  refine thn (po_none.run pins s2 σ H2 (fun o H3 => o = none ∧ H3 = H2) I2 ⟨rfl, rfl⟩) fun vu s3 ⟨u, H3, I3, pu, eu, e3⟩ => ?_
  subst eu e3
  refine thn (hst.run pins s3 σ H3 (fun o H4 => o = some (-1) ∧ H4 = H3) I3 ⟨1, rfl, -1, rfl, rfl, rfl⟩) fun vs s4 ⟨o, H4, I4, ps, eo, e4⟩ => ?_
  subst eo e4
  have I5 : Inv X pins σ H4 { s4 with heap := s4.heap.push { cls := .type "slice", data := .fields #[vl, vu, vs] } } := I4.kept (t' := s4.toks) fun b ob q => Heap.get?_push_of_some _ q
  rcases q1 with ⟨a, xs, ex, hx, q⟩ | ⟨a, xs, ex, hx, q⟩
  · subst ex
    cases r1
    obtain ⟨its, r, ht, hz⟩ := I5.list hx
    have hlen := r.length
    show wpAny (model X.prog X.w) X.A (subscriptTail e (.Slice none none (some (.UnaryOp .USub (.Constant (.int 1) k p1) p2)) p3) (.ref a) (.ref s4.heap.objs.size)) (EP X pins σ Q) X.xe { s4 with heap := s4.heap.push { cls := .type "slice", data := .fields #[vl, vu, vs] } }
    refine tail_any (ops := [.ref a, .ref s4.heap.objs.size]) ht.isList.typeIs (PySem.slot_list_getitem.lookup) ?_ (by with_unfolding_all rfl)
    refine wpAny_getItem_list_slice ht.isList (Heap.IsSliceOf.new _ vl vu vs) pl pu ps (by decide) ?_ (by rw [List.size_toArray]; omega)
    rw [PySem.W.krv_pick]
    refine ⟨.ref _, _, I5.laid (t' := s4.toks) (o := .lst xs.reverse) (fun b ob q => Heap.get?_push_of_some _ q) (Nat.le_refl _) ?_, rfl, q _ (I5.hok.fresh (Nat.le_refl _))⟩
    exact ⟨by rw [List.length_reverse]; exact hz, _, 0, r.reverse, Heap.get?_push_size _ rfl⟩
  · subst ex
    cases r1
    obtain ⟨its, r, ht, hz⟩ := I5.tuple hx
    have hlen := r.length
    show wpAny (model X.prog X.w) X.A (subscriptTail e (.Slice none none (some (.UnaryOp .USub (.Constant (.int 1) k p1) p2)) p3) (.ref a) (.ref s4.heap.objs.size)) (EP X pins σ Q) X.xe { s4 with heap := s4.heap.push { cls := .type "slice", data := .fields #[vl, vu, vs] } }
    refine tail_any (ops := [.ref a, .ref s4.heap.objs.size]) ht.typeIs (PyProof.Rows.slot_tuple_getitem.lookup) ?_ (by with_unfolding_all rfl)
    refine getItem_tuple_rev ht (Heap.IsSliceOf.new _ vl vu vs) pl pu ps ?_ (by rw [List.size_toArray]; omega)
    refine ⟨.ref _, _, I5.laid (t' := s4.toks) (o := .tup xs.reverse) (fun b ob q => Heap.get?_push_of_some _ q) (Nat.le_refl _) ?_, rfl, q _ (I5.hok.fresh (Nat.le_refl _))⟩
    have hT := IsTup.new (s4.heap.push { cls := .type "slice", data := .fields #[vl, vu, vs] }) its.reverse.toArray
    exact ⟨by rw [List.length_reverse]; exact hz, its.reverse, r.reverse, hT⟩
def revD (x : D) (S : Sto) : Rs D := match x with
  | .tup l => .ok (.tup l.reverse) S
  | .fz l => .ok (.obj S.length) (S ++ [.lst l.reverse])
  | .obj n => match S[n]? with
    | some (.lst l) => .ok (.obj S.length) (S ++ [.lst l.reverse])
    | _ => .bad
  | _ => .bad
theorem ev_rev {e : Expr} {me : ME} {k : Nat} {p1 p2 p3 pos : Pos} (he : EV X ca e me) : EV X ca (.Subscript e (.Slice none none (some (.UnaryOp .USub (.Constant (.int 1) k p1) p2)) p3) pos) (unM revD me) :=
  fun W tk => weakE (pe_revA (he W tk)) fun s H Q ⟨q, e, S, at_, pr⟩ => ⟨q, e, S, at_, PR.bind antiD pr fun q1 H1 x d S1 g1 rx s1 pr1 => by
    unfold revD at pr1
    split at pr1
    · obtain ⟨p, xs, rfl, h1, h2⟩ := rx.tup_of
      exact .inr ⟨p, xs, rfl, h1, fun a ha => pr1.tupNew h2.reverse s1 ha⟩
    · obtain ⟨p, xs, rfl, h1, h2⟩ := rx.fz_of
      exact .inl ⟨p, xs, rfl, h1.sq, fun a ha => pr1.objNew h2.reverse s1 ha⟩
    · rename_i n
      obtain ⟨p, rfl, hn⟩ := rx.obj_of
      split at pr1
      · rename_i l el
        obtain ⟨vs, h1, h2⟩ := lst_at s1 hn el
        exact .inl ⟨p, vs, rfl, SqL.of h1, fun a ha => pr1.objNew h2.reverse s1 ha⟩
      · exact pr1.elim
    · exact pr1.elim⟩
end
end L3

/-! L3L: kinds, terms, grammars; what the laws draw of them. -/
namespace L3
open PySem PySem.Spec L2
/-! ### kinds and terms -/
inductive Kd where
  | mk (l : List Kd)
mutual
def Kd.d : Kd → D
  | .mk l => .tup (kds l)
def kds : List Kd → List D
  | [] => []
  | k :: l => k.d :: kds l
end
mutual
def Kd.dep : Kd → Nat
  | .mk l => kdeps l + 1
def kdeps : List Kd → Nat
  | [] => 0
  | k :: l => max k.dep (kdeps l)
end
def Kd.parts : Kd → List Kd
  | .mk l => l
theorem Kd.d_eq (k : Kd) : k.d = .tup (kds k.parts) := by cases k; unfold Kd.d Kd.parts; rfl
theorem kds_map : ∀ l : List Kd, kds l = l.map Kd.d
  | [] => by unfold kds; rfl
  | k :: l => by unfold kds; rw [kds_map l]; rfl
theorem kds_length (l : List Kd) : (kds l).length = l.length := by rw [kds_map]; simp
mutual
theorem Kd.inj : ∀ {a b : Kd}, a.d = b.d → a = b
  | .mk l, .mk m, h => by
    unfold Kd.d at h
    rw [kds_inj (D.tup.inj h)]
theorem kds_inj : ∀ {l m : List Kd}, kds l = kds m → l = m
  | [], [], _ => rfl
  | [], _ :: _, h => by unfold kds at h; cases h
  | _ :: _, [], h => by unfold kds at h; cases h
  | a :: l, b :: m, h => by
    unfold kds at h
    rw [Kd.inj (List.cons.inj h).1, kds_inj (List.cons.inj h).2]
end
mutual
theorem Kd.plain : ∀ k : Kd, L3.plain k.d = true
  | .mk l => by unfold Kd.d L3.plain; exact kds_plain l
theorem kds_plain : ∀ l : List Kd, plains (kds l) = true
  | [] => by unfold kds plains; rfl
  | k :: l => by unfold kds plains; rw [Kd.plain k, kds_plain l]; rfl
end
mutual
theorem Kd.dpt : ∀ k : Kd, L3.dpt k.d = k.dep
  | .mk l => by unfold Kd.d L3.dpt Kd.dep; rw [kds_dpt l]
theorem kds_dpt : ∀ l : List Kd, dpts (kds l) = kdeps l
  | [] => by unfold kds dpts kdeps; rfl
  | k :: l => by unfold kds dpts kdeps; rw [Kd.dpt k, kds_dpt l]
end
theorem kdeps_le {l : List Kd} {n : Nat} : kdeps l ≤ n ↔ ∀ k ∈ l, k.dep ≤ n := by
  induction l with
  | nil => simp [kdeps]
  | cons k l ih => simp [kdeps, Nat.max_le, ih]
theorem kdeps_drop {l : List Kd} {m n : Nat} (h : kdeps l ≤ n) : kdeps (l.drop m) ≤ n := kdeps_le.mpr fun k hk => kdeps_le.mp h k (List.mem_of_mem_drop hk)
/-- kinds compared -/
theorem eq_kk {l m : List Kd} {S : Sto} (h1 : kdeps l ≤ 60) (h2 : kdeps m ≤ 60) : eqD (.tup (kds l)) (.tup (kds m)) S = .ok (.bl (decide (kds l = kds m))) S := by
  rw [eq_dd (by unfold plain; exact kds_plain l) (by unfold plain; exact kds_plain m) (by unfold dpt; rw [kds_dpt]; omega) (by unfold dpt; rw [kds_dpt]; omega)]
  simp
inductive Hd where
  | sym | fn | par
  deriving DecidableEq
def Hd.s : Hd → Str
  | .sym => "sym"
  | .fn => "fun"
  | .par => "par"
theorem Hd.ok (h : Hd) : PyData.strOk h.s = true := by cases h <;> decide +kernel
theorem Hd.inj {a b : Hd} (h : a.s = b.s) : a = b := by
  cases a <;> cases b <;> first
    | rfl
    | (exfalso; revert h; decide +kernel)
theorem hd_eq {h k : Hd} : (h.s = k.s) = (h = k) := propext ⟨Hd.inj, fun e => by rw [e]⟩
inductive Tm where
  | mk (h : Hd) (n : Nat) (l : List Tm)
mutual
def Tm.d : Tm → D
  | .mk h n l => .tup [.str h.s, .int (n : Int), .tup (tds l)]
def tds : List Tm → List D
  | [] => []
  | k :: l => k.d :: tds l
end
mutual
def Tm.dep : Tm → Nat
  | .mk _ _ l => tdeps l + 1
def tdeps : List Tm → Nat
  | [] => 0
  | k :: l => max k.dep (tdeps l)
end
theorem tds_map : ∀ l : List Tm, tds l = l.map Tm.d
  | [] => by unfold tds; rfl
  | k :: l => by unfold tds; rw [tds_map l]; rfl
theorem tds_length (l : List Tm) : (tds l).length = l.length := by rw [tds_map]; simp
theorem tdeps_le {l : List Tm} {n : Nat} : tdeps l ≤ n ↔ ∀ k ∈ l, k.dep ≤ n := by
  induction l with
  | nil => simp [tdeps]
  | cons k l ih => simp [tdeps, Nat.max_le, ih]
/-! ### what a head may be, the kind of a term -/
structure Sig where
  ranks : List Nat
  funs : List (List Kd)
def hk (s : Sig) (ps : List Kd) : Hd → Nat → Option (List Kd)
  | .sym, n => s.ranks[n]?.map fun r => List.replicate r (.mk [])
  | .fn, n => s.funs[n]?
  | .par, n => ps[n]?.map Kd.parts
mutual
inductive HasK (s : Sig) (ps : List Kd) : Tm → List Kd → Prop
  | mk {h : Hd} {n : Nat} {l : List Tm} {ks k : List Kd} : hk s ps h n = some (ks ++ k) → HasKs s ps l ks → HasK s ps (.mk h n l) k
inductive HasKs (s : Sig) (ps : List Kd) : List Tm → List Kd → Prop
  | nil : HasKs s ps [] []
  | cons {t : Tm} {ts : List Tm} {k : Kd} {ks : List Kd} : HasK s ps t k.parts → HasKs s ps ts ks → HasKs s ps (t :: ts) (k :: ks)
end
/-- the datum of a grammar of this form -/
structure GD (s : Sig) (g : D) : Prop where
  ex : ∃ sl fl, g = .tup [.tup sl, .tup fl] ∧ All2 (fun d (r : Nat) => ∃ nm : Str, d = .tup [.str nm, .int (r : Int)]) sl s.ranks ∧ All2 (fun d ks => ∃ (nm : Str) (b : D), d = .tup [.str nm, .tup (kds ks), b]) fl s.funs
/-- kinds that some head has just so, with all their parts -/
def Inh (s : Sig) (k : List Kd) : Prop := hk s [] .sym k.length = some k ∨ ∃ (h : Hd) (n : Nat), h ≠ .par ∧ hk s [] h n = some k
inductive HI (s : Sig) : List Kd → Prop
  | mk {l : List Kd} : (∃ (h : Hd) (n : Nat), h ≠ .par ∧ hk s [] h n = some l) → (∀ x ∈ l, HI s x.parts) → HI s l
theorem HI.part {s : Sig} {l : List Kd} (h : HI s l) : ∀ x ∈ l, HI s x.parts := by cases h; assumption
theorem HI.head {s : Sig} {l : List Kd} (h : HI s l) : ∃ (h : Hd) (n : Nat), h ≠ .par ∧ hk s [] h n = some l := by cases h; assumption
/-- what the drawing of terms needs -/
structure SigOk (s : Sig) : Prop where
  zero : s.ranks[0]? = some 0
  rank : ∀ r ∈ s.ranks, r ≤ 10
  many : s.ranks.length ≤ 100 ∧ s.funs.length ≤ 100
  funs : ∀ f ∈ s.funs, f.length ≤ 100 ∧ kdeps f ≤ 50 ∧ ∀ x ∈ f, HI s x.parts
structure ParOk (s : Sig) (ps : List Kd) : Prop where
  len : ps.length ≤ 100
  ok : ∀ x ∈ ps, HI s x.parts ∧ x.dep ≤ 50 ∧ x.parts.length ≤ 100
theorem hk_par {s : Sig} {ps : List Kd} {h : Hd} {n : Nat} {k : List Kd} (hn : h ≠ .par) (e : hk s [] h n = some k) : hk s ps h n = some k := by
  cases h with
  | par => exact (hn rfl).elim
  | sym => exact e
  | fn => exact e
theorem HI.nil {s : Sig} (h : SigOk s) : HI s [] := .mk ⟨.sym, 0, by decide, by simp [hk, h.zero]⟩ (by simp)
/-- the parts of a head's kind -/
theorem hk_good {s : Sig} {ps : List Kd} (hs : SigOk s) (hp : ParOk s ps) {h : Hd} {n : Nat} {k : List Kd} (e : hk s ps h n = some k) : k.length ≤ 100 ∧ kdeps k ≤ 50 ∧ ∀ x ∈ k, HI s x.parts := by
  cases h with
  | sym =>
    obtain ⟨r, h1, rfl⟩ := Option.map_eq_some_iff.mp e
    have hr := hs.rank r (List.mem_of_getElem? h1)
    refine ⟨by simp; omega, kdeps_le.mpr fun x hx => ?_, fun x hx => ?_⟩
    · rw [(List.mem_replicate.mp hx).2]
      simp [Kd.dep, kdeps]
    · rw [(List.mem_replicate.mp hx).2]
      exact HI.nil hs
  | fn => exact hs.funs k (List.mem_of_getElem? e)
  | par =>
    obtain ⟨x, h1, rfl⟩ := Option.map_eq_some_iff.mp e
    obtain ⟨h2, h3, h4⟩ := hp.ok x (List.mem_of_getElem? h1)
    refine ⟨h4, ?_, h2.part⟩
    cases x with
    | mk l =>
      unfold Kd.dep at h3
      show kdeps l ≤ 50
      omega
inductive GN where
  | law_start
  | law_fill
  | law_take
  | law_kind_of
  | law_heads
  | law_term
  | law_smallest
  | law_grammar
noncomputable def GN_law_start (cf : GN → List D → Sto → Rs D) : MS := (retM (newM (szA (consA (newM (compM (itM srcD (slM (vM 0) noO (someO (cM (.int 63))))) (nmG 1) [1] yesT (unM numD (vM 1)))) (consA (cM (.int 0)) (consA (cM (.int 0)) (consA (cM (.int 0)) (consA (cM (.int 20)) nilA))))))))
noncomputable def GN_law_fill (cf : GN → List D → Sto → Rs D) : MS := (seqM (putM setD (opM addD (opM ixD (vM 0) (cM (.int 3))) (cM (.int 1))) (vM 0) (cM (.int 3)))
    (seqM (setM 1 (opM addD (opM mulD (opM ixD (vM 0) (cM (.int 3))) (cM (.int 69621))) (cM (.int 12345))))
    (seqM (ifS (blT (opM ltD (opM ixD (vM 0) (cM (.int 1))) (unM lenD (opM ixD (vM 0) (cM (.int 0)))))) (seqM (setM 1 (opM ixD (opM ixD (vM 0) (cM (.int 0))) (opM ixD (vM 0) (cM (.int 1)))))
    (seqM (putM setD (opM addD (opM ixD (vM 0) (cM (.int 1))) (cM (.int 1))) (vM 0) (cM (.int 1)))
    (seqM (ifS (blT (opM ltD (vM 1) (cM (.int 0)))) (setM 1 (opM subD (opM subD (cM (.int 0)) (cM (.int 1))) (vM 1)))
    nopM)
    (ifS (blT (opM geD (vM 1) (opM powD (cM (.int 10)) (cM (.int 18))))) (retM (vM 1))
    nopM))))
    nopM)
    (seqM (ifS (andT (trT (opM ixD (vM 0) (cM (.int 0)))) (blT (opM geD (opM ixD (vM 0) (cM (.int 1))) (unM lenD (opM ixD (vM 0) (cM (.int 0))))))) (setM 1 (opM addD (vM 1) (opM modD (unM numD (opM ixD (opM ixD (vM 0) (cM (.int 0))) (unM negD (cM (.int 1))))) (cM (.int 1000003)))))
    nopM)
    (seqM (setM 1 (opM modD (unM numD (opM addD (opM mulD (vM 1) (cM (.int 48271))) (opM mulD (opM ixD (vM 0) (cM (.int 3))) (cM (.int 69621))))) (cM (.int 2147483647))))
    (retM (opM addD (opM fdivD (unM numD (opM addD (opM addD (opM mulD (vM 1) (vM 1)) (opM mulD (opM ixD (vM 0) (cM (.int 3))) (cM (.int 7919)))) (cM (.int 11)))) (cM (.int 64))) (cM (.int 36028797018963968)))))))))
noncomputable def GN_law_take (cf : GN → List D → Sto → Rs D) : MS := (seqM (ifS (blT (opM ltD (opM ixD (vM 0) (cM (.int 2))) (vM 1))) (putM setD (clM 1 (cf .law_fill) (consA (vM 0) nilA)) (vM 0) (cM (.int 2)))
    nopM)
    (seqM (setM 2 (opM modD (unM numD (opM ixD (vM 0) (cM (.int 2)))) (vM 1)))
    (seqM (putM setD (opM fdivD (opM ixD (vM 0) (cM (.int 2))) (vM 1)) (vM 0) (cM (.int 2)))
    (retM (vM 2)))))
noncomputable def GN_law_kind_of (cf : GN → List D → Sto → Rs D) : MS := (seqM (ifS (blT (opM eqD (vM 2) (cM (.str "sym")))) (retM (opM mulD (tupM (consA (tupM nilA) nilA)) (opM ixD (opM ixD (opM ixD (vM 0) (cM (.int 0))) (vM 3)) (cM (.int 1)))))
    nopM)
    (seqM (ifS (blT (opM eqD (vM 2) (cM (.str "fun")))) (retM (opM ixD (opM ixD (opM ixD (vM 0) (cM (.int 1))) (vM 3)) (cM (.int 1))))
    nopM)
    (retM (opM ixD (vM 1) (vM 3)))))
noncomputable def GN_law_heads (cf : GN → List D → Sto → Rs D) : MS := (seqM (setM 2 (opM addD (newM (compM (rngI rng1D (consA (unM lenD (opM ixD (vM 0) (cM (.int 0)))) nilA)) (nmG 3) [3] yesT (tupM (consA (cM (.str "sym")) (consA (vM 3) nilA))))) (newM (compM (rngI rng1D (consA (unM lenD (opM ixD (vM 0) (cM (.int 1)))) nilA)) (nmG 3) [3] yesT (tupM (consA (cM (.str "fun")) (consA (vM 3) nilA)))))))
    (retM (opM addD (vM 2) (newM (compM (rngI rng1D (consA (unM lenD (vM 1)) nilA)) (nmG 3) [3] yesT (tupM (consA (cM (.str "par")) (consA (vM 3) nilA))))))))
noncomputable abbrev GN_law_term_l1 (cf : GN → List D → Sto → Rs D) : MS := (seqM (setM 8 (clM 4 (cf .law_kind_of) (consA (vM 1) (consA (vM 2) (consA (vM 6) (consA (vM 7) nilA))))))
    (seqM (setM 9 (opM subD (unM lenD (vM 8)) (unM lenD (vM 3))))
    (ifS (andT (blT (opM geD (vM 9) (cM (.int 0)))) (andT (blT (opM eqD (slM (vM 8) (someO (vM 9)) noO) (vM 3))) (orT (blT (opM eqD (vM 9) (cM (.int 0)))) (andT (blT (opM gtD (vM 4) (cM (.int 0)))) (blT (opM gtD (opM ixD (vM 0) (cM (.int 4))) (cM (.int 0)))))))) (dropM (metM isLst appD (vM 5) (tupM (consA (vM 6) (consA (vM 7) (consA (vM 9) nilA))))))
    nopM)))
noncomputable def GN_law_term (cf : GN → List D → Sto → Rs D) : MS := (seqM (putM setD (opM subD (opM ixD (vM 0) (cM (.int 4))) (cM (.int 1))) (vM 0) (cM (.int 4)))
    (seqM (setM 5 (newM (szA nilA)))
    (seqM (forM (itM srcD (clM 2 (cf .law_heads) (consA (vM 1) (consA (vM 2) nilA)))) (tupG 2 (consG (nmG 6) (consG (nmG 7) nilG))) (GN_law_term_l1 cf))
    (seqM (ifS (orT (blT (opM eqD (unM lenD (vM 5)) (cM (.int 0)))) (andT (blT (opM eqD (vM 4) (cM (.int 0)))) (andT (blT (opM eqD (vM 3) (tupM nilA))) (blT (opM neD (clM 2 (cf .law_take) (consA (vM 0) (consA (cM (.int 3)) nilA))) (cM (.int 0))))))) (setM 5 (opM addD (vM 5) (newM (compM (itM srcD (clM 3 (cf .law_smallest) (consA (vM 1) (consA (vM 2) (consA (vM 3) nilA))))) (nmG 10) [10] yesT (vM 10)))))
    nopM)
    (seqM (asgM (tupG 3 (consG (nmG 6) (consG (nmG 7) (consG (nmG 9) nilG)))) (opM ixD (vM 5) (clM 2 (cf .law_take) (consA (vM 0) (consA (unM lenD (vM 5)) nilA)))))
    (seqM (setM 8 (clM 4 (cf .law_kind_of) (consA (vM 1) (consA (vM 2) (consA (vM 6) (consA (vM 7) nilA))))))
    (retM (tupM (consA (vM 6) (consA (vM 7) (consA (onL tupL (compM (rngI rng1D (consA (vM 9) nilA)) (nmG 11) [11] yesT (clM 5 (cf .law_term) (consA (vM 0) (consA (vM 1) (consA (vM 2) (consA (opM ixD (vM 8) (vM 11)) (consA (opM max2D (cM (.int 0)) (opM subD (vM 4) (cM (.int 1)))) nilA)))))))) nilA)))))))))))
noncomputable def GN_law_smallest (cf : GN → List D → Sto → Rs D) : MS := (seqM (ifS (blT (opM eqD (vM 2) (tupM nilA))) (retM (newM (szA (consA (tupM (consA (cM (.str "sym")) (consA (cM (.int 0)) (consA (cM (.int 0)) nilA)))) nilA))))
    nopM)
    (seqM (ifS (blT (opM eqD (vM 2) (tupM (consA (tupM (consA (tupM nilA) nilA)) nilA)))) (retM (newM (szA (consA (tupM (consA (cM (.str "fun")) (consA (opM subD (unM lenD (opM ixD (vM 0) (cM (.int 1)))) (cM (.int 1))) (consA (cM (.int 0)) nilA)))) nilA))))
    nopM)
    (retM (newM (szA (consA (tupM (consA (cM (.str "sym")) (consA (unM lenD (vM 2)) (consA (cM (.int 0)) nilA)))) nilA))))))
noncomputable abbrev GN_law_grammar_l1 (cf : GN → List D → Sto → Rs D) : MS := (seqM (setM 6 (onL tupL (compM (rngI rng1D (consA (opM ixD (newM (szA (consA (cM (.int 1)) (consA (cM (.int 2)) (consA (cM (.int 1)) (consA (cM (.int 2)) (consA (cM (.int 0)) (consA (cM (.int 3)) (consA (cM (.int 1)) (consA (cM (.int 5)) nilA)))))))))) (clM 2 (cf .law_take) (consA (vM 0) (consA (cM (.int 8)) nilA)))) nilA)) (nmG 11) [11] yesT (opM ixD (vM 2) (clM 2 (cf .law_take) (consA (vM 0) (consA (cM (.int 6)) nilA)))))))
    (dropM (metM isLst appD (vM 3) (tupM (consA (opM addD (cM (.str "F")) (unM strD (vM 5))) (consA (vM 6) (consA (cM .non) nilA)))))))
noncomputable abbrev GN_law_grammar_l2 (cf : GN → List D → Sto → Rs D) : MS := (seqM (putM setD (opM addD (cM (.int 8)) (clM 2 (cf .law_take) (consA (vM 0) (consA (cM (.int 8)) nilA)))) (vM 0) (cM (.int 4)))
    (dropM (metM isLst appD (vM 8) (tupM (consA (vM 9) (consA (vM 6) (consA (clM 5 (cf .law_term) (consA (vM 0) (consA (vM 7) (consA (vM 6) (consA (tupM nilA) (consA (opM addD (cM (.int 1)) (clM 2 (cf .law_take) (consA (vM 0) (consA (cM (.int 4)) nilA)))) nilA)))))) nilA)))))))
noncomputable def GN_law_grammar (cf : GN → List D → Sto → Rs D) : MS := (seqM (setM 1 (newM (szA (consA (tupM (consA (cM (.str "end")) (consA (cM (.int 0)) nilA))) (consA (tupM (consA (cM (.str "b")) (consA (cM (.int 1)) nilA))) nilA)))))
    (seqM (setM 2 (newM (szA (consA (tupM nilA) (consA (tupM nilA) (consA (tupM (consA (tupM nilA) nilA)) (consA (tupM nilA) (consA (tupM (consA (tupM nilA) nilA)) (consA (tupM nilA) nilA)))))))))
    (seqM (ifS (blT (opM neD (clM 2 (cf .law_take) (consA (vM 0) (consA (cM (.int 4)) nilA))) (cM (.int 0)))) (seqM (dropM (metM isLst appD (vM 1) (tupM (consA (cM (.str "a")) (consA (cM (.int 2)) nilA)))))
    (seqM (putM setD (tupM (consA (tupM nilA) (consA (tupM nilA) nilA))) (vM 2) (cM (.int 4)))
    (ifS (blT (opM eqD (clM 2 (cf .law_take) (consA (vM 0) (consA (cM (.int 2)) nilA))) (cM (.int 0)))) (dropM (metM isLst appD (vM 1) (tupM (consA (cM (.str "t")) (consA (cM (.int 3)) nilA)))))
    nopM)))
    nopM)
    (seqM (ifS (blT (opM eqD (clM 2 (cf .law_take) (consA (vM 0) (consA (cM (.int 3)) nilA))) (cM (.int 0)))) (dropM (metM isLst appD (vM 1) (tupM (consA (cM (.str "e2")) (consA (clM 2 (cf .law_take) (consA (vM 0) (consA (cM (.int 2)) nilA))) nilA)))))
    nopM)
    (seqM (setM 3 (newM (szA (consA (tupM (consA (cM (.str "S")) (consA (tupM nilA) (consA (cM .non) nilA)))) nilA))))
    (seqM (setM 4 (opM eqD (clM 2 (cf .law_take) (consA (vM 0) (consA (cM (.int 4)) nilA))) (cM (.int 0))))
    (seqM (ifS (trT (vM 4)) (putM setD (tupM (consA (tupM (consA (tupM nilA) nilA)) nilA)) (vM 2) (cM (.int 0)))
    nopM)
    (seqM (forM (rngI rng1D (consA (opM ixD (newM (szA (consA (cM (.int 0)) (consA (cM (.int 1)) (consA (cM (.int 2)) (consA (cM (.int 3)) (consA (cM (.int 1)) (consA (cM (.int 2)) (consA (cM (.int 3)) (consA (cM (.int 7)) nilA)))))))))) (clM 2 (cf .law_take) (consA (vM 0) (consA (cM (.int 8)) nilA)))) nilA)) (nmG 5) (GN_law_grammar_l1 cf))
    (seqM (ifS (trT (vM 4)) (dropM (metM isLst appD (vM 3) (tupM (consA (cM (.str "H")) (consA (tupM (consA (tupM (consA (tupM nilA) nilA)) nilA)) (consA (cM .non) nilA))))))
    nopM)
    (seqM (setM 7 (tupM (consA (unM tupD (vM 1)) (consA (unM tupD (vM 3)) nilA))))
    (seqM (setM 8 (newM (szA nilA)))
    (seqM (forM (itM srcD (vM 3)) (tupG 3 (consG (nmG 9) (consG (nmG 6) (consG (nmG 10) nilG)))) (GN_law_grammar_l2 cf))
    (retM (tupM (consA (unM tupD (vM 1)) (consA (unM tupD (vM 8)) nilA))))))))))))))))
structure GNSrc (F : Nat → GN → List D → Sto → Rs D) : Prop where
  law_start : ∀ k, F (k + 1) .law_start = fnM 2 (GN_law_start (F k))
  law_fill : ∀ k, F (k + 1) .law_fill = fnM 2 (GN_law_fill (F k))
  law_take : ∀ k, F (k + 1) .law_take = fnM 3 (GN_law_take (F k))
  law_kind_of : ∀ k, F (k + 1) .law_kind_of = fnM 4 (GN_law_kind_of (F k))
  law_heads : ∀ k, F (k + 1) .law_heads = fnM 4 (GN_law_heads (F k))
  law_term : ∀ k, F (k + 1) .law_term = fnM 12 (GN_law_term (F k))
  law_smallest : ∀ k, F (k + 1) .law_smallest = fnM 3 (GN_law_smallest (F k))
  law_grammar : ∀ k, F (k + 1) .law_grammar = fnM 12 (GN_law_grammar (F k))

section
variable {F : Nat → GN → List D → Sto → Rs D}
theorem take_gn (src : GNSrc F) {k : Nat} {t : List D} {S : Sto} {n : Nat} {many : Int} (h : CI t S n) (h0 : 0 < many) (h1 : many < 1073741824) : ∃ d S', F (k + 2) .law_take [.obj n, .int many] S = .ok (.int d) S' ∧ 0 ≤ d ∧ d < many ∧ CI t S' n ∧ Kp n S S' := by
  rw [src.law_take]
  exact take_spec (f := F (k + 1) .law_fill) (fun S n h => by rw [src.law_fill]; exact fill_spec h) h h0 h1
theorem start_gn (src : GNSrc F) {k : Nat} {ns : List Int} {S : Sto} : ∃ S' n, F (k + 1) .law_start [.fz (ns.map D.int)] S = .ok (.obj n) S' ∧ CI [.int 20] S' n ∧ n = S.length + 2 ∧ S'.length = S.length + 3 := by
  rw [src.law_start]
  exact start_spec (t := consA (cM (.int 20)) nilA) (fun e S => rfl) (by simp)
theorem gd_sym {s : Sig} {g : D} (h : GD s g) {n r : Nat} (e : s.ranks[n]? = some r) {S : Sto} : ∃ sl fl nm, g = .tup [.tup sl, .tup fl] ∧ ixD (.tup sl) (.int (n : Int)) S = .ok (.tup [.str nm, .int (r : Int)]) S := by
  obtain ⟨sl, fl, rfl, h1, h2⟩ := h.ex
  obtain ⟨d, e1, nm, rfl⟩ := h1.get' e
  exact ⟨sl, fl, nm, rfl, ix_tup (atI_nat e1)⟩
theorem gd_fun {s : Sig} {g : D} (h : GD s g) {n : Nat} {ks : List Kd} (e : s.funs[n]? = some ks) {S : Sto} : ∃ sl fl nm b, g = .tup [.tup sl, .tup fl] ∧ ixD (.tup fl) (.int (n : Int)) S = .ok (.tup [.str nm, .tup (kds ks), b]) S := by
  obtain ⟨sl, fl, rfl, h1, h2⟩ := h.ex
  obtain ⟨d, e1, nm, b, rfl⟩ := h2.get' e
  exact ⟨sl, fl, nm, b, rfl, ix_tup (atI_nat e1)⟩
theorem sym_ok : PyData.strOk (Str.ofString "sym") = true := by decide +kernel
theorem fun_ok : PyData.strOk (Str.ofString "fun") = true := by decide +kernel
theorem par_ok : PyData.strOk (Str.ofString "par") = true := by decide +kernel
theorem eq_sym {h : Hd} {S : Sto} : eqD (.str h.s) (.str "sym") S = .ok (.bl (decide (h = .sym))) S := by
  rw [eq_ss h.ok sym_ok, show (Str.ofString "sym") = Hd.sym.s from rfl]
  simp only [hd_eq]
theorem eq_fun {h : Hd} {S : Sto} : eqD (.str h.s) (.str "fun") S = .ok (.bl (decide (h = .fn))) S := by
  rw [eq_ss h.ok fun_ok, show (Str.ofString "fun") = Hd.fn.s from rfl]
  simp only [hd_eq]
theorem eq_par {h : Hd} {S : Sto} : eqD (.str h.s) (.str "par") S = .ok (.bl (decide (h = .par))) S := by
  rw [eq_ss h.ok par_ok, show (Str.ofString "par") = Hd.par.s from rfl]
  simp only [hd_eq]
theorem ne_par {h : Hd} {S : Sto} : neD (.str h.s) (.str "par") S = .ok (.bl (!decide (h = .par))) S := by
  rw [ne_ss h.ok par_ok, show (Str.ofString "par") = Hd.par.s from rfl]
  simp only [hd_eq]
theorem kind_gn (src : GNSrc F) {k : Nat} {s : Sig} {g : D} {ps : List Kd} {h : Hd} {n : Nat} {ks : List Kd} {S : Sto} (hs : SigOk s) (hg : GD s g) (e : hk s ps h n = some ks) : F (k + 1) .law_kind_of [g, .tup (kds ps), .str h.s, .int (n : Int)] S = .ok (.tup (kds ks)) S := by
  rw [src.law_kind_of]
  simp only [GN_law_kind_of, fnM_ev, startD, List.replicate, seqM_ev, thenT_nx, thenT_rt, thenT_bk, thenT_ct, thenT_rse, nopM_ev, brkM_ev, cntM_ev, setM_ev, setT_ok, setT_rse, setLM_ev, setLT_ok, dropM_ev, dropT_ok, dropT_rse, retM_ev, retT_ok, retT_rse, ifS_ev, ifT_true, ifT_false, asgM_ev, asgT_ok', optT_some, cM_ev, vM_ev, vR_some, opM_ev, op1_ok, op1_rse, op2_ok, op2_rse, unM_ev, un1_ok, un1_rse, blT_ev, blR_ok, blR_rse, trT_ev, trR_ok, tru_bl, tru_non, tru_tup, tru_int, andT_ev, and1_true, and1_false, orT_ev, or1_true, or1_false, notT_ev, not1_ok, andM_ev, andV_true, andV_false, orM_ev, orV_true, orV_false, ifM_ev, if1_true, if1_false, chM_ev, ch1_ok, ch2_ok, ch3_true, ch3_false, nilA_ev, consA_ev, con1_ok, con1_rse, con2_ok, tupM_ev, tup1_0, tup1_1, tup1_2, tup1_3, tup1_4, szA_ev, sz1_0, sz1_1, sz1_2, sz1_3, sz1_4, sz1_5, sz1_6, sz1_8, sz1_10, newM_ev, new1_ok, onL_ev, onL1_ok, tupL_ev, clM_ev, cl1_rse, cl1_0, cl1_1, cl1_2, cl1_3, cl1_4, cl1_5, putM_ev, putT_ok, putT2_ok, putT3_ok, putT4_some, augM_ev, augT_some, noO_ev, someO_ev, some1_ok, slM_ev, sl1_ok, sl2_ok, sl3_ok, metM_ev, met0_ev, intD0_ev, add_ii, sub_ii, neg_i, lt_ii, le_ii, gt_ii, ge_ii, isN_ev, notN_ev, num_i, num_b, notD_b, isi_bool_bl, len_tup, len_fz, tup_tup, ix_tup0, ix_tup1, ix_tup2, itM_ev, it1_ok, src_tup, src_fz, src_str, fixC_ev, lvI_ev, lv1_ok, rngI_ev, rg1_ok, forM_ev, for1_ok, turnT_nx, turnT_ct, turnT_bk, turnT_rt, turnT_rse, nmG_ev, tupG_ev, consG_ev, nilG_ev, compM_ev, yesT_ev, fn1_nx, fn1_rt, fn1_rse, eq_ii, eq_bb, max_ii, min_ii, slD_tup, List.getElem?_cons_zero, List.getElem?_cons_succ, List.set_cons_zero, List.set_cons_succ, List.map_cons, List.map_nil, List.length_cons, List.length_nil, List.cons_append, List.nil_append, Option.bind_some, decide_true, decide_false, Bool.not_true, Bool.not_false, ne_ii, ne_bb, forL_nil0]
  simp only [eq_sym, seqM_ev, thenT_nx, thenT_rt, thenT_bk, thenT_ct, thenT_rse, nopM_ev, brkM_ev, cntM_ev, setM_ev, setT_ok, setT_rse, setLM_ev, setLT_ok, dropM_ev, dropT_ok, dropT_rse, retM_ev, retT_ok, retT_rse, ifS_ev, ifT_true, ifT_false, asgM_ev, asgT_ok', optT_some, cM_ev, vM_ev, vR_some, opM_ev, op1_ok, op1_rse, op2_ok, op2_rse, unM_ev, un1_ok, un1_rse, blT_ev, blR_ok, blR_rse, trT_ev, trR_ok, tru_bl, tru_non, tru_tup, tru_int, andT_ev, and1_true, and1_false, orT_ev, or1_true, or1_false, notT_ev, not1_ok, andM_ev, andV_true, andV_false, orM_ev, orV_true, orV_false, ifM_ev, if1_true, if1_false, chM_ev, ch1_ok, ch2_ok, ch3_true, ch3_false, nilA_ev, consA_ev, con1_ok, con1_rse, con2_ok, tupM_ev, tup1_0, tup1_1, tup1_2, tup1_3, tup1_4, szA_ev, sz1_0, sz1_1, sz1_2, sz1_3, sz1_4, sz1_5, sz1_6, sz1_8, sz1_10, newM_ev, new1_ok, onL_ev, onL1_ok, tupL_ev, clM_ev, cl1_rse, cl1_0, cl1_1, cl1_2, cl1_3, cl1_4, cl1_5, putM_ev, putT_ok, putT2_ok, putT3_ok, putT4_some, augM_ev, augT_some, noO_ev, someO_ev, some1_ok, slM_ev, sl1_ok, sl2_ok, sl3_ok, metM_ev, met0_ev, intD0_ev, add_ii, sub_ii, neg_i, lt_ii, le_ii, gt_ii, ge_ii, isN_ev, notN_ev, num_i, num_b, notD_b, isi_bool_bl, len_tup, len_fz, tup_tup, ix_tup0, ix_tup1, ix_tup2, itM_ev, it1_ok, src_tup, src_fz, src_str, fixC_ev, lvI_ev, lv1_ok, rngI_ev, rg1_ok, forM_ev, for1_ok, turnT_nx, turnT_ct, turnT_bk, turnT_rt, turnT_rse, nmG_ev, tupG_ev, consG_ev, nilG_ev, compM_ev, yesT_ev, fn1_nx, fn1_rt, fn1_rse, eq_ii, eq_bb, max_ii, min_ii, slD_tup, List.getElem?_cons_zero, List.getElem?_cons_succ, List.set_cons_zero, List.set_cons_succ, List.map_cons, List.map_nil, List.length_cons, List.length_nil, List.cons_append, List.nil_append, Option.bind_some, decide_true, decide_false, Bool.not_true, Bool.not_false, ne_ii, ne_bb, forL_nil0]
  cases h with
  | sym =>
    obtain ⟨r, h1, rfl⟩ := Option.map_eq_some_iff.mp e
    have hr := hs.rank r (List.mem_of_getElem? h1)
    obtain ⟨sl, fl, nm, rfl, h2⟩ := gd_sym hg h1 (S := S)
    simp only [seqM_ev, thenT_nx, thenT_rt, thenT_bk, thenT_ct, thenT_rse, nopM_ev, brkM_ev, cntM_ev, setM_ev, setT_ok, setT_rse, setLM_ev, setLT_ok, dropM_ev, dropT_ok, dropT_rse, retM_ev, retT_ok, retT_rse, ifS_ev, ifT_true, ifT_false, asgM_ev, asgT_ok', optT_some, cM_ev, vM_ev, vR_some, opM_ev, op1_ok, op1_rse, op2_ok, op2_rse, unM_ev, un1_ok, un1_rse, blT_ev, blR_ok, blR_rse, trT_ev, trR_ok, tru_bl, tru_non, tru_tup, tru_int, andT_ev, and1_true, and1_false, orT_ev, or1_true, or1_false, notT_ev, not1_ok, andM_ev, andV_true, andV_false, orM_ev, orV_true, orV_false, ifM_ev, if1_true, if1_false, chM_ev, ch1_ok, ch2_ok, ch3_true, ch3_false, nilA_ev, consA_ev, con1_ok, con1_rse, con2_ok, tupM_ev, tup1_0, tup1_1, tup1_2, tup1_3, tup1_4, szA_ev, sz1_0, sz1_1, sz1_2, sz1_3, sz1_4, sz1_5, sz1_6, sz1_8, sz1_10, newM_ev, new1_ok, onL_ev, onL1_ok, tupL_ev, clM_ev, cl1_rse, cl1_0, cl1_1, cl1_2, cl1_3, cl1_4, cl1_5, putM_ev, putT_ok, putT2_ok, putT3_ok, putT4_some, augM_ev, augT_some, noO_ev, someO_ev, some1_ok, slM_ev, sl1_ok, sl2_ok, sl3_ok, metM_ev, met0_ev, intD0_ev, add_ii, sub_ii, neg_i, lt_ii, le_ii, gt_ii, ge_ii, isN_ev, notN_ev, num_i, num_b, notD_b, isi_bool_bl, len_tup, len_fz, tup_tup, ix_tup0, ix_tup1, ix_tup2, itM_ev, it1_ok, src_tup, src_fz, src_str, fixC_ev, lvI_ev, lv1_ok, rngI_ev, rg1_ok, forM_ev, for1_ok, turnT_nx, turnT_ct, turnT_bk, turnT_rt, turnT_rse, nmG_ev, tupG_ev, consG_ev, nilG_ev, compM_ev, yesT_ev, fn1_nx, fn1_rt, fn1_rse, eq_ii, eq_bb, max_ii, min_ii, slD_tup, List.getElem?_cons_zero, List.getElem?_cons_succ, List.set_cons_zero, List.set_cons_succ, List.map_cons, List.map_nil, List.length_cons, List.length_nil, List.cons_append, List.nil_append, Option.bind_some, decide_true, decide_false, Bool.not_true, Bool.not_false, ne_ii, ne_bb, forL_nil0, h2]
    rw [mulT_ok (by simp) (by omega)]
    simp only [seqM_ev, thenT_nx, thenT_rt, thenT_bk, thenT_ct, thenT_rse, nopM_ev, brkM_ev, cntM_ev, setM_ev, setT_ok, setT_rse, setLM_ev, setLT_ok, dropM_ev, dropT_ok, dropT_rse, retM_ev, retT_ok, retT_rse, ifS_ev, ifT_true, ifT_false, asgM_ev, asgT_ok', optT_some, cM_ev, vM_ev, vR_some, opM_ev, op1_ok, op1_rse, op2_ok, op2_rse, unM_ev, un1_ok, un1_rse, blT_ev, blR_ok, blR_rse, trT_ev, trR_ok, tru_bl, tru_non, tru_tup, tru_int, andT_ev, and1_true, and1_false, orT_ev, or1_true, or1_false, notT_ev, not1_ok, andM_ev, andV_true, andV_false, orM_ev, orV_true, orV_false, ifM_ev, if1_true, if1_false, chM_ev, ch1_ok, ch2_ok, ch3_true, ch3_false, nilA_ev, consA_ev, con1_ok, con1_rse, con2_ok, tupM_ev, tup1_0, tup1_1, tup1_2, tup1_3, tup1_4, szA_ev, sz1_0, sz1_1, sz1_2, sz1_3, sz1_4, sz1_5, sz1_6, sz1_8, sz1_10, newM_ev, new1_ok, onL_ev, onL1_ok, tupL_ev, clM_ev, cl1_rse, cl1_0, cl1_1, cl1_2, cl1_3, cl1_4, cl1_5, putM_ev, putT_ok, putT2_ok, putT3_ok, putT4_some, augM_ev, augT_some, noO_ev, someO_ev, some1_ok, slM_ev, sl1_ok, sl2_ok, sl3_ok, metM_ev, met0_ev, intD0_ev, add_ii, sub_ii, neg_i, lt_ii, le_ii, gt_ii, ge_ii, isN_ev, notN_ev, num_i, num_b, notD_b, isi_bool_bl, len_tup, len_fz, tup_tup, ix_tup0, ix_tup1, ix_tup2, itM_ev, it1_ok, src_tup, src_fz, src_str, fixC_ev, lvI_ev, lv1_ok, rngI_ev, rg1_ok, forM_ev, for1_ok, turnT_nx, turnT_ct, turnT_bk, turnT_rt, turnT_rse, nmG_ev, tupG_ev, consG_ev, nilG_ev, compM_ev, yesT_ev, fn1_nx, fn1_rt, fn1_rse, eq_ii, eq_bb, max_ii, min_ii, slD_tup, List.getElem?_cons_zero, List.getElem?_cons_succ, List.set_cons_zero, List.set_cons_succ, List.map_cons, List.map_nil, List.length_cons, List.length_nil, List.cons_append, List.nil_append, Option.bind_some, decide_true, decide_false, Bool.not_true, Bool.not_false, ne_ii, ne_bb, forL_nil0, repL_1, kds_map, List.map_replicate]
    simp [Kd.d, kds]
  | fn =>
    obtain ⟨sl, fl, nm, b, rfl, h2⟩ := gd_fun hg e (S := S)
    rw [show decide (Hd.fn = Hd.sym) = false from rfl]
    simp only [seqM_ev, thenT_nx, thenT_rt, thenT_bk, thenT_ct, thenT_rse, nopM_ev, brkM_ev, cntM_ev, setM_ev, setT_ok, setT_rse, setLM_ev, setLT_ok, dropM_ev, dropT_ok, dropT_rse, retM_ev, retT_ok, retT_rse, ifS_ev, ifT_true, ifT_false, asgM_ev, asgT_ok', optT_some, cM_ev, vM_ev, vR_some, opM_ev, op1_ok, op1_rse, op2_ok, op2_rse, unM_ev, un1_ok, un1_rse, blT_ev, blR_ok, blR_rse, trT_ev, trR_ok, tru_bl, tru_non, tru_tup, tru_int, andT_ev, and1_true, and1_false, orT_ev, or1_true, or1_false, notT_ev, not1_ok, andM_ev, andV_true, andV_false, orM_ev, orV_true, orV_false, ifM_ev, if1_true, if1_false, chM_ev, ch1_ok, ch2_ok, ch3_true, ch3_false, nilA_ev, consA_ev, con1_ok, con1_rse, con2_ok, tupM_ev, tup1_0, tup1_1, tup1_2, tup1_3, tup1_4, szA_ev, sz1_0, sz1_1, sz1_2, sz1_3, sz1_4, sz1_5, sz1_6, sz1_8, sz1_10, newM_ev, new1_ok, onL_ev, onL1_ok, tupL_ev, clM_ev, cl1_rse, cl1_0, cl1_1, cl1_2, cl1_3, cl1_4, cl1_5, putM_ev, putT_ok, putT2_ok, putT3_ok, putT4_some, augM_ev, augT_some, noO_ev, someO_ev, some1_ok, slM_ev, sl1_ok, sl2_ok, sl3_ok, metM_ev, met0_ev, intD0_ev, add_ii, sub_ii, neg_i, lt_ii, le_ii, gt_ii, ge_ii, isN_ev, notN_ev, num_i, num_b, notD_b, isi_bool_bl, len_tup, len_fz, tup_tup, ix_tup0, ix_tup1, ix_tup2, itM_ev, it1_ok, src_tup, src_fz, src_str, fixC_ev, lvI_ev, lv1_ok, rngI_ev, rg1_ok, forM_ev, for1_ok, turnT_nx, turnT_ct, turnT_bk, turnT_rt, turnT_rse, nmG_ev, tupG_ev, consG_ev, nilG_ev, compM_ev, yesT_ev, fn1_nx, fn1_rt, fn1_rse, eq_ii, eq_bb, max_ii, min_ii, slD_tup, List.getElem?_cons_zero, List.getElem?_cons_succ, List.set_cons_zero, List.set_cons_succ, List.map_cons, List.map_nil, List.length_cons, List.length_nil, List.cons_append, List.nil_append, Option.bind_some, decide_true, decide_false, Bool.not_true, Bool.not_false, ne_ii, ne_bb, forL_nil0, eq_fun, h2]
  | par =>
    obtain ⟨x, h1, rfl⟩ := Option.map_eq_some_iff.mp e
    rw [show decide (Hd.par = Hd.sym) = false from rfl]
    simp only [seqM_ev, thenT_nx, thenT_rt, thenT_bk, thenT_ct, thenT_rse, nopM_ev, brkM_ev, cntM_ev, setM_ev, setT_ok, setT_rse, setLM_ev, setLT_ok, dropM_ev, dropT_ok, dropT_rse, retM_ev, retT_ok, retT_rse, ifS_ev, ifT_true, ifT_false, asgM_ev, asgT_ok', optT_some, cM_ev, vM_ev, vR_some, opM_ev, op1_ok, op1_rse, op2_ok, op2_rse, unM_ev, un1_ok, un1_rse, blT_ev, blR_ok, blR_rse, trT_ev, trR_ok, tru_bl, tru_non, tru_tup, tru_int, andT_ev, and1_true, and1_false, orT_ev, or1_true, or1_false, notT_ev, not1_ok, andM_ev, andV_true, andV_false, orM_ev, orV_true, orV_false, ifM_ev, if1_true, if1_false, chM_ev, ch1_ok, ch2_ok, ch3_true, ch3_false, nilA_ev, consA_ev, con1_ok, con1_rse, con2_ok, tupM_ev, tup1_0, tup1_1, tup1_2, tup1_3, tup1_4, szA_ev, sz1_0, sz1_1, sz1_2, sz1_3, sz1_4, sz1_5, sz1_6, sz1_8, sz1_10, newM_ev, new1_ok, onL_ev, onL1_ok, tupL_ev, clM_ev, cl1_rse, cl1_0, cl1_1, cl1_2, cl1_3, cl1_4, cl1_5, putM_ev, putT_ok, putT2_ok, putT3_ok, putT4_some, augM_ev, augT_some, noO_ev, someO_ev, some1_ok, slM_ev, sl1_ok, sl2_ok, sl3_ok, metM_ev, met0_ev, intD0_ev, add_ii, sub_ii, neg_i, lt_ii, le_ii, gt_ii, ge_ii, isN_ev, notN_ev, num_i, num_b, notD_b, isi_bool_bl, len_tup, len_fz, tup_tup, ix_tup0, ix_tup1, ix_tup2, itM_ev, it1_ok, src_tup, src_fz, src_str, fixC_ev, lvI_ev, lv1_ok, rngI_ev, rg1_ok, forM_ev, for1_ok, turnT_nx, turnT_ct, turnT_bk, turnT_rt, turnT_rse, nmG_ev, tupG_ev, consG_ev, nilG_ev, compM_ev, yesT_ev, fn1_nx, fn1_rt, fn1_rse, eq_ii, eq_bb, max_ii, min_ii, slD_tup, List.getElem?_cons_zero, List.getElem?_cons_succ, List.set_cons_zero, List.set_cons_succ, List.map_cons, List.map_nil, List.length_cons, List.length_nil, List.cons_append, List.nil_append, Option.bind_some, decide_true, decide_false, Bool.not_true, Bool.not_false, ne_ii, ne_bb, forL_nil0, eq_fun, show decide (Hd.par = Hd.fn) = false from rfl]
    have h2 : ixD (.tup (kds ps)) (.int (n : Int)) S = .ok x.d S := ix_tup (atI_nat (by rw [kds_map, List.getElem?_map, h1]; rfl))
    simp only [seqM_ev, thenT_nx, thenT_rt, thenT_bk, thenT_ct, thenT_rse, nopM_ev, brkM_ev, cntM_ev, setM_ev, setT_ok, setT_rse, setLM_ev, setLT_ok, dropM_ev, dropT_ok, dropT_rse, retM_ev, retT_ok, retT_rse, ifS_ev, ifT_true, ifT_false, asgM_ev, asgT_ok', optT_some, cM_ev, vM_ev, vR_some, opM_ev, op1_ok, op1_rse, op2_ok, op2_rse, unM_ev, un1_ok, un1_rse, blT_ev, blR_ok, blR_rse, trT_ev, trR_ok, tru_bl, tru_non, tru_tup, tru_int, andT_ev, and1_true, and1_false, orT_ev, or1_true, or1_false, notT_ev, not1_ok, andM_ev, andV_true, andV_false, orM_ev, orV_true, orV_false, ifM_ev, if1_true, if1_false, chM_ev, ch1_ok, ch2_ok, ch3_true, ch3_false, nilA_ev, consA_ev, con1_ok, con1_rse, con2_ok, tupM_ev, tup1_0, tup1_1, tup1_2, tup1_3, tup1_4, szA_ev, sz1_0, sz1_1, sz1_2, sz1_3, sz1_4, sz1_5, sz1_6, sz1_8, sz1_10, newM_ev, new1_ok, onL_ev, onL1_ok, tupL_ev, clM_ev, cl1_rse, cl1_0, cl1_1, cl1_2, cl1_3, cl1_4, cl1_5, putM_ev, putT_ok, putT2_ok, putT3_ok, putT4_some, augM_ev, augT_some, noO_ev, someO_ev, some1_ok, slM_ev, sl1_ok, sl2_ok, sl3_ok, metM_ev, met0_ev, intD0_ev, add_ii, sub_ii, neg_i, lt_ii, le_ii, gt_ii, ge_ii, isN_ev, notN_ev, num_i, num_b, notD_b, isi_bool_bl, len_tup, len_fz, tup_tup, ix_tup0, ix_tup1, ix_tup2, itM_ev, it1_ok, src_tup, src_fz, src_str, fixC_ev, lvI_ev, lv1_ok, rngI_ev, rg1_ok, forM_ev, for1_ok, turnT_nx, turnT_ct, turnT_bk, turnT_rt, turnT_rse, nmG_ev, tupG_ev, consG_ev, nilG_ev, compM_ev, yesT_ev, fn1_nx, fn1_rt, fn1_rse, eq_ii, eq_bb, max_ii, min_ii, slD_tup, List.getElem?_cons_zero, List.getElem?_cons_succ, List.set_cons_zero, List.set_cons_succ, List.map_cons, List.map_nil, List.length_cons, List.length_nil, List.cons_append, List.nil_append, Option.bind_some, decide_true, decide_false, Bool.not_true, Bool.not_false, ne_ii, ne_bb, forL_nil0, h2, Kd.d_eq]
def headD (p : Hd × Nat) : D := .tup [.str p.1.s, .int (p.2 : Int)]
def headsL (s : Sig) (ps : List Kd) : List (Hd × Nat) := (List.range s.ranks.length).map (fun i => (Hd.sym, i)) ++ (List.range s.funs.length).map (fun i => (Hd.fn, i)) ++ (List.range ps.length).map fun i => (Hd.par, i)
theorem headsL_mem {s : Sig} {ps : List Kd} {h : Hd} {i : Nat} : (h, i) ∈ headsL s ps ↔ ∃ k, hk s ps h i = some k := by
  have q : ∀ {α : Type} {l : List α}, (∃ k, l[i]? = some k) ↔ i < l.length := fun {α l} => by
    constructor
    · rintro ⟨k, e⟩
      exact (List.getElem?_eq_some_iff.mp e).1
    · intro e
      exact ⟨_, List.getElem?_eq_getElem e⟩
  cases h
  · simp [headsL, hk]
    rw [← q]
    constructor
    · rintro ⟨k, e⟩; exact ⟨_, k, e, rfl⟩
    · rintro ⟨_, k, e, _⟩; exact ⟨k, e⟩
  · simp [headsL, hk, q]
  · simp [headsL, hk]
    rw [← q]
    constructor
    · rintro ⟨k, e⟩; exact ⟨_, k, e, rfl⟩
    · rintro ⟨_, k, e, _⟩; exact ⟨k, e⟩
theorem heads_gn (src : GNSrc F) {k : Nat} {s : Sig} {g : D} {ps : List Kd} {S : Sto} (hs : SigOk s) (hp : ParOk s ps) (hg : GD s g) :
    ∃ T hm, F (k + 1) .law_heads [g, .tup (kds ps)] S = .ok (.obj hm) (S ++ T) ∧ (S ++ T)[hm]? = some (.lst ((headsL s ps).map headD)) ∧ S.length ≤ hm := by
  rw [src.law_heads]
  obtain ⟨sl, fl, rfl, h1, h2⟩ := hg.ex
  have l1 := h1.length
  have l2 := h2.length
  have m1 := hs.many
  have m2 := hp.len
  have one : ∀ (x : Str) (n : Nat) (hn : n ≤ 1000) (x1 x2 x3 x4 : Option D) (S : Sto), cmp1 (.ok (upto 0 n, fixC) S) (nmG 3) [3] yesT (tupM (consA (cM (.str x)) (consA (vM 3) nilA))) [x1, x2, x3, x4] = .ok ((upto 0 n).map fun i => .tup [.str x, i]) S := fun x n hn x1 x2 x3 x4 S =>
    cmp1_map (by rw [upto_length]; omega) rfl fun i _ => ⟨_, rfl, by simp only [seqM_ev, thenT_nx, thenT_rt, thenT_bk, thenT_ct, thenT_rse, nopM_ev, brkM_ev, cntM_ev, setM_ev, setT_ok, setT_rse, setLM_ev, setLT_ok, dropM_ev, dropT_ok, dropT_rse, retM_ev, retT_ok, retT_rse, ifS_ev, ifT_true, ifT_false, asgM_ev, asgT_ok', optT_some, cM_ev, vM_ev, vR_some, opM_ev, op1_ok, op1_rse, op2_ok, op2_rse, unM_ev, un1_ok, un1_rse, blT_ev, blR_ok, blR_rse, trT_ev, trR_ok, tru_bl, tru_non, tru_tup, tru_int, andT_ev, and1_true, and1_false, orT_ev, or1_true, or1_false, notT_ev, not1_ok, andM_ev, andV_true, andV_false, orM_ev, orV_true, orV_false, ifM_ev, if1_true, if1_false, chM_ev, ch1_ok, ch2_ok, ch3_true, ch3_false, nilA_ev, consA_ev, con1_ok, con1_rse, con2_ok, tupM_ev, tup1_0, tup1_1, tup1_2, tup1_3, tup1_4, szA_ev, sz1_0, sz1_1, sz1_2, sz1_3, sz1_4, sz1_5, sz1_6, sz1_8, sz1_10, newM_ev, new1_ok, onL_ev, onL1_ok, tupL_ev, clM_ev, cl1_rse, cl1_0, cl1_1, cl1_2, cl1_3, cl1_4, cl1_5, putM_ev, putT_ok, putT2_ok, putT3_ok, putT4_some, augM_ev, augT_some, noO_ev, someO_ev, some1_ok, slM_ev, sl1_ok, sl2_ok, sl3_ok, metM_ev, met0_ev, intD0_ev, add_ii, sub_ii, neg_i, lt_ii, le_ii, gt_ii, ge_ii, isN_ev, notN_ev, num_i, num_b, notD_b, isi_bool_bl, len_tup, len_fz, tup_tup, ix_tup0, ix_tup1, ix_tup2, itM_ev, it1_ok, src_tup, src_fz, src_str, fixC_ev, lvI_ev, lv1_ok, rngI_ev, rg1_ok, forM_ev, for1_ok, turnT_nx, turnT_ct, turnT_bk, turnT_rt, turnT_rse, nmG_ev, tupG_ev, consG_ev, nilG_ev, compM_ev, yesT_ev, fn1_nx, fn1_rt, fn1_rse, eq_ii, eq_bb, max_ii, min_ii, slD_tup, List.getElem?_cons_zero, List.getElem?_cons_succ, List.set_cons_zero, List.set_cons_succ, List.map_cons, List.map_nil, List.length_cons, List.length_nil, List.cons_append, List.nil_append, Option.bind_some, decide_true, decide_false, Bool.not_true, Bool.not_false, ne_ii, ne_bb, forL_nil0, wipeD]⟩
  have up : ∀ (x : Hd) (n : Nat), (upto 0 n).map (fun i => D.tup [.str x.s, i]) = ((List.range n).map fun i => (x, i)).map headD := fun x n => by
    rw [upto_eq, List.map_map, List.map_map]
    rfl
  simp only [GN_law_heads, fnM_ev, startD, List.replicate, seqM_ev, thenT_nx, thenT_rt, thenT_bk, thenT_ct, thenT_rse, nopM_ev, brkM_ev, cntM_ev, setM_ev, setT_ok, setT_rse, setLM_ev, setLT_ok, dropM_ev, dropT_ok, dropT_rse, retM_ev, retT_ok, retT_rse, ifS_ev, ifT_true, ifT_false, asgM_ev, asgT_ok', optT_some, cM_ev, vM_ev, vR_some, opM_ev, op1_ok, op1_rse, op2_ok, op2_rse, unM_ev, un1_ok, un1_rse, blT_ev, blR_ok, blR_rse, trT_ev, trR_ok, tru_bl, tru_non, tru_tup, tru_int, andT_ev, and1_true, and1_false, orT_ev, or1_true, or1_false, notT_ev, not1_ok, andM_ev, andV_true, andV_false, orM_ev, orV_true, orV_false, ifM_ev, if1_true, if1_false, chM_ev, ch1_ok, ch2_ok, ch3_true, ch3_false, nilA_ev, consA_ev, con1_ok, con1_rse, con2_ok, tupM_ev, tup1_0, tup1_1, tup1_2, tup1_3, tup1_4, szA_ev, sz1_0, sz1_1, sz1_2, sz1_3, sz1_4, sz1_5, sz1_6, sz1_8, sz1_10, newM_ev, new1_ok, onL_ev, onL1_ok, tupL_ev, clM_ev, cl1_rse, cl1_0, cl1_1, cl1_2, cl1_3, cl1_4, cl1_5, putM_ev, putT_ok, putT2_ok, putT3_ok, putT4_some, augM_ev, augT_some, noO_ev, someO_ev, some1_ok, slM_ev, sl1_ok, sl2_ok, sl3_ok, metM_ev, met0_ev, intD0_ev, add_ii, sub_ii, neg_i, lt_ii, le_ii, gt_ii, ge_ii, isN_ev, notN_ev, num_i, num_b, notD_b, isi_bool_bl, len_tup, len_fz, tup_tup, ix_tup0, ix_tup1, ix_tup2, itM_ev, it1_ok, src_tup, src_fz, src_str, fixC_ev, lvI_ev, lv1_ok, rngI_ev, rg1_ok, forM_ev, for1_ok, turnT_nx, turnT_ct, turnT_bk, turnT_rt, turnT_rse, nmG_ev, tupG_ev, consG_ev, nilG_ev, compM_ev, yesT_ev, fn1_nx, fn1_rt, fn1_rse, eq_ii, eq_bb, max_ii, min_ii, slD_tup, List.getElem?_cons_zero, List.getElem?_cons_succ, List.set_cons_zero, List.set_cons_succ, List.map_cons, List.map_nil, List.length_cons, List.length_nil, List.cons_append, List.nil_append, Option.bind_some, decide_true, decide_false, Bool.not_true, Bool.not_false, ne_ii, ne_bb, forL_nil0, rng1_nat (show sl.length ≤ 1000000 by omega), rng1_nat (show fl.length ≤ 1000000 by omega), rng1_nat (show (kds ps).length ≤ 1000000 by rw [kds_length]; omega), one "sym" sl.length (by omega), one "fun" fl.length (by omega)]
  rw [addL_ok (l := (upto 0 sl.length).map fun i => .tup [.str "sym", i]) (l2 := (upto 0 fl.length).map fun i => .tup [.str "fun", i]) (by rw [get_app (by simp)]; exact get_new) get_new (by simp [upto_length]; omega)]
  simp only [seqM_ev, thenT_nx, thenT_rt, thenT_bk, thenT_ct, thenT_rse, nopM_ev, brkM_ev, cntM_ev, setM_ev, setT_ok, setT_rse, setLM_ev, setLT_ok, dropM_ev, dropT_ok, dropT_rse, retM_ev, retT_ok, retT_rse, ifS_ev, ifT_true, ifT_false, asgM_ev, asgT_ok', optT_some, cM_ev, vM_ev, vR_some, opM_ev, op1_ok, op1_rse, op2_ok, op2_rse, unM_ev, un1_ok, un1_rse, blT_ev, blR_ok, blR_rse, trT_ev, trR_ok, tru_bl, tru_non, tru_tup, tru_int, andT_ev, and1_true, and1_false, orT_ev, or1_true, or1_false, notT_ev, not1_ok, andM_ev, andV_true, andV_false, orM_ev, orV_true, orV_false, ifM_ev, if1_true, if1_false, chM_ev, ch1_ok, ch2_ok, ch3_true, ch3_false, nilA_ev, consA_ev, con1_ok, con1_rse, con2_ok, tupM_ev, tup1_0, tup1_1, tup1_2, tup1_3, tup1_4, szA_ev, sz1_0, sz1_1, sz1_2, sz1_3, sz1_4, sz1_5, sz1_6, sz1_8, sz1_10, newM_ev, new1_ok, onL_ev, onL1_ok, tupL_ev, clM_ev, cl1_rse, cl1_0, cl1_1, cl1_2, cl1_3, cl1_4, cl1_5, putM_ev, putT_ok, putT2_ok, putT3_ok, putT4_some, augM_ev, augT_some, noO_ev, someO_ev, some1_ok, slM_ev, sl1_ok, sl2_ok, sl3_ok, metM_ev, met0_ev, intD0_ev, add_ii, sub_ii, neg_i, lt_ii, le_ii, gt_ii, ge_ii, isN_ev, notN_ev, num_i, num_b, notD_b, isi_bool_bl, len_tup, len_fz, tup_tup, ix_tup0, ix_tup1, ix_tup2, itM_ev, it1_ok, src_tup, src_fz, src_str, fixC_ev, lvI_ev, lv1_ok, rngI_ev, rg1_ok, forM_ev, for1_ok, turnT_nx, turnT_ct, turnT_bk, turnT_rt, turnT_rse, nmG_ev, tupG_ev, consG_ev, nilG_ev, compM_ev, yesT_ev, fn1_nx, fn1_rt, fn1_rse, eq_ii, eq_bb, max_ii, min_ii, slD_tup, List.getElem?_cons_zero, List.getElem?_cons_succ, List.set_cons_zero, List.set_cons_succ, List.map_cons, List.map_nil, List.length_cons, List.length_nil, List.cons_append, List.nil_append, Option.bind_some, decide_true, decide_false, Bool.not_true, Bool.not_false, ne_ii, ne_bb, forL_nil0, rng1_nat (show (kds ps).length ≤ 1000000 by rw [kds_length]; omega), one "par" (kds ps).length (by rw [kds_length]; omega)]
  rw [addL_ok (l := ((upto 0 sl.length).map fun i => .tup [.str "sym", i]) ++ ((upto 0 fl.length).map fun i => .tup [.str "fun", i])) (l2 := (upto 0 (kds ps).length).map fun i => .tup [.str "par", i]) (by rw [get_app (by simp)]; exact get_new) get_new (by simp [upto_length, kds_length]; omega)]
  simp only [seqM_ev, thenT_nx, thenT_rt, thenT_bk, thenT_ct, thenT_rse, nopM_ev, brkM_ev, cntM_ev, setM_ev, setT_ok, setT_rse, setLM_ev, setLT_ok, dropM_ev, dropT_ok, dropT_rse, retM_ev, retT_ok, retT_rse, ifS_ev, ifT_true, ifT_false, asgM_ev, asgT_ok', optT_some, cM_ev, vM_ev, vR_some, opM_ev, op1_ok, op1_rse, op2_ok, op2_rse, unM_ev, un1_ok, un1_rse, blT_ev, blR_ok, blR_rse, trT_ev, trR_ok, tru_bl, tru_non, tru_tup, tru_int, andT_ev, and1_true, and1_false, orT_ev, or1_true, or1_false, notT_ev, not1_ok, andM_ev, andV_true, andV_false, orM_ev, orV_true, orV_false, ifM_ev, if1_true, if1_false, chM_ev, ch1_ok, ch2_ok, ch3_true, ch3_false, nilA_ev, consA_ev, con1_ok, con1_rse, con2_ok, tupM_ev, tup1_0, tup1_1, tup1_2, tup1_3, tup1_4, szA_ev, sz1_0, sz1_1, sz1_2, sz1_3, sz1_4, sz1_5, sz1_6, sz1_8, sz1_10, newM_ev, new1_ok, onL_ev, onL1_ok, tupL_ev, clM_ev, cl1_rse, cl1_0, cl1_1, cl1_2, cl1_3, cl1_4, cl1_5, putM_ev, putT_ok, putT2_ok, putT3_ok, putT4_some, augM_ev, augT_some, noO_ev, someO_ev, some1_ok, slM_ev, sl1_ok, sl2_ok, sl3_ok, metM_ev, met0_ev, intD0_ev, add_ii, sub_ii, neg_i, lt_ii, le_ii, gt_ii, ge_ii, isN_ev, notN_ev, num_i, num_b, notD_b, isi_bool_bl, len_tup, len_fz, tup_tup, ix_tup0, ix_tup1, ix_tup2, itM_ev, it1_ok, src_tup, src_fz, src_str, fixC_ev, lvI_ev, lv1_ok, rngI_ev, rg1_ok, forM_ev, for1_ok, turnT_nx, turnT_ct, turnT_bk, turnT_rt, turnT_rse, nmG_ev, tupG_ev, consG_ev, nilG_ev, compM_ev, yesT_ev, fn1_nx, fn1_rt, fn1_rse, eq_ii, eq_bb, max_ii, min_ii, slD_tup, List.getElem?_cons_zero, List.getElem?_cons_succ, List.set_cons_zero, List.set_cons_succ, List.map_cons, List.map_nil, List.length_cons, List.length_nil, List.cons_append, List.nil_append, Option.bind_some, decide_true, decide_false, Bool.not_true, Bool.not_false, ne_ii, ne_bb, forL_nil0]
  refine ⟨_, _, by simp only [List.append_assoc]; rfl, ?_, by simp⟩
  have e1 := up .sym sl.length
  have e2 := up .fn fl.length
  have e3 := up .par (kds ps).length
  simp only [Hd.s] at e1 e2 e3
  rw [e1, e2, e3]
  simp [headsL, l1, l2, kds_length, ← List.append_assoc]
def fitD (p : Hd × Nat × Nat) : D := .tup [.str p.1.s, .int (p.2.1 : Int), .int (p.2.2 : Int)]
def Fit (s : Sig) (ps kd : List Kd) (dep : Nat) (p : Hd × Nat × Nat) : Prop := ∃ ks, hk s ps p.1 p.2.1 = some (ks ++ kd) ∧ ks.length = p.2.2 ∧ (p.2.2 = 0 ∨ 0 < dep)
theorem kds_drop {l : List Kd} {m : Nat} : (kds l).drop m = kds (l.drop m) := by rw [kds_map, kds_map, List.map_drop]
theorem fits_loop (src : GNSrc F) {k : Nat} {s : Sig} {g : D} {ps kd : List Kd} {n f hm dep : Nat} {L : List D} {x : Int} {x10 x11 : Option D} (hs : SigOk s) (hp : ParOk s ps) (hg : GD s g) (hkd : kdeps kd ≤ 50) (hnf : n ≠ f) (hmf : hm ≠ f) :
    ∀ (hl : List (Hd × Nat)) (Fs : List (Hd × Nat × Nat)) (S : Sto) (x6 x7 x8 x9 : Option D), (∀ p ∈ hl, ∃ k, hk s ps p.1 p.2 = some k) → Fs.length + hl.length ≤ 1000 → S[f]? = some (.lst (Fs.map fitD)) → (∀ p ∈ Fs, Fit s ps kd dep p) →
      (∃ a b c d, S[n]? = some (.lst [a, b, c, d, .int x])) → S[hm]? = some (.lst L) →
      ∃ Fs' S' y6 y7 y8 y9, forL (sameC hm L) (tupG 2 (consG (nmG 6) (consG (nmG 7) nilG))) (GN_law_term_l1 (F (k + 1))) (hl.map headD) [some (.obj n), some g, some (.tup (kds ps)), some (.tup (kds kd)), some (.int (dep : Int)), some (.obj f), x6, x7, x8, x9, x10, x11] S
      = .nx [some (.obj n), some g, some (.tup (kds ps)), some (.tup (kds kd)), some (.int (dep : Int)), some (.obj f), y6, y7, y8, y9, x10, x11] S' ∧
      S'[f]? = some (.lst (Fs'.map fitD)) ∧ (∀ p ∈ Fs', Fit s ps kd dep p) ∧ ((Fs ≠ [] ∨ ∃ p ∈ hl, hk s ps p.1 p.2 = some kd) → Fs' ≠ []) ∧ Fs'.length ≤ Fs.length + hl.length ∧ Kp f S S'
  | [], Fs, S, x6, x7, x8, x9, hh, hz, hf, hF, hn, hL => ⟨Fs, S, x6, x7, x8, x9, forL_nil (sameC_ev hL), hf, hF, fun h => by simpa using h, by simp, .refl⟩
  | (h, i) :: hl, Fs, S, x6, x7, x8, x9, hh, hz, hf, hF, hn, hL => by
    obtain ⟨own, ho⟩ := hh (h, i) (by simp)
    obtain ⟨o1, o2, o3⟩ := hk_good hs hp ho
    simp only [List.length_cons] at hz
    have hlt := lt_of_get hf
    rw [List.map_cons, forL_cons (e1 := [some (.obj n), some g, some (.tup (kds ps)), some (.tup (kds kd)), some (.int (dep : Int)), some (.obj f), some (.str h.s), some (.int (i : Int)), x8, x9, x10, x11]) (sameC_ev hL) (by simp [headD])]
    simp only [seqM_ev, thenT_nx, thenT_rt, thenT_bk, thenT_ct, thenT_rse, nopM_ev, brkM_ev, cntM_ev, setM_ev, setT_ok, setT_rse, setLM_ev, setLT_ok, dropM_ev, dropT_ok, dropT_rse, retM_ev, retT_ok, retT_rse, ifS_ev, ifT_true, ifT_false, asgM_ev, asgT_ok', optT_some, cM_ev, vM_ev, vR_some, opM_ev, op1_ok, op1_rse, op2_ok, op2_rse, unM_ev, un1_ok, un1_rse, blT_ev, blR_ok, blR_rse, trT_ev, trR_ok, tru_bl, tru_non, tru_tup, tru_int, andT_ev, and1_true, and1_false, orT_ev, or1_true, or1_false, notT_ev, not1_ok, andM_ev, andV_true, andV_false, orM_ev, orV_true, orV_false, ifM_ev, if1_true, if1_false, chM_ev, ch1_ok, ch2_ok, ch3_true, ch3_false, nilA_ev, consA_ev, con1_ok, con1_rse, con2_ok, tupM_ev, tup1_0, tup1_1, tup1_2, tup1_3, tup1_4, szA_ev, sz1_0, sz1_1, sz1_2, sz1_3, sz1_4, sz1_5, sz1_6, sz1_8, sz1_10, newM_ev, new1_ok, onL_ev, onL1_ok, tupL_ev, clM_ev, cl1_rse, cl1_0, cl1_1, cl1_2, cl1_3, cl1_4, cl1_5, putM_ev, putT_ok, putT2_ok, putT3_ok, putT4_some, augM_ev, augT_some, noO_ev, someO_ev, some1_ok, slM_ev, sl1_ok, sl2_ok, sl3_ok, metM_ev, met0_ev, intD0_ev, add_ii, sub_ii, neg_i, lt_ii, le_ii, gt_ii, ge_ii, isN_ev, notN_ev, num_i, num_b, notD_b, isi_bool_bl, len_tup, len_fz, tup_tup, ix_tup0, ix_tup1, ix_tup2, itM_ev, it1_ok, src_tup, src_fz, src_str, fixC_ev, lvI_ev, lv1_ok, rngI_ev, rg1_ok, forM_ev, for1_ok, turnT_nx, turnT_ct, turnT_bk, turnT_rt, turnT_rse, nmG_ev, tupG_ev, consG_ev, nilG_ev, compM_ev, yesT_ev, fn1_nx, fn1_rt, fn1_rse, eq_ii, eq_bb, max_ii, min_ii, slD_tup, List.getElem?_cons_zero, List.getElem?_cons_succ, List.set_cons_zero, List.set_cons_succ, List.map_cons, List.map_nil, List.length_cons, List.length_nil, List.cons_append, List.nil_append, Option.bind_some, decide_true, decide_false, Bool.not_true, Bool.not_false, ne_ii, ne_bb, forL_nil0, kind_gn src hs hg ho, kds_length]
    -- a turn that keeps nothing
    have skip : ∀ y8 y9, hk s ps h i ≠ some kd → _ := fun y8 y9 hne => fits_loop src (k := k) (x := x) (x10 := x10) (x11 := x11) hs hp hg hkd hnf hmf hl Fs S (some (.str h.s)) (some (.int (i : Int))) y8 y9 (fun p hp => hh p (by simp [hp])) (by omega) hf hF hn hL
    have skip2 : ∀ y8 y9, hk s ps h i ≠ some kd → ∃ Fs' S' y6 y7 z8 z9, forL (sameC hm L) (tupG 2 (consG (nmG 6) (consG (nmG 7) nilG))) (GN_law_term_l1 (F (k + 1))) (hl.map headD) [some (.obj n), some g, some (.tup (kds ps)), some (.tup (kds kd)), some (.int (dep : Int)), some (.obj f), some (.str h.s), some (.int (i : Int)), y8, y9, x10, x11] S
      = .nx [some (.obj n), some g, some (.tup (kds ps)), some (.tup (kds kd)), some (.int (dep : Int)), some (.obj f), y6, y7, z8, z9, x10, x11] S' ∧
      S'[f]? = some (.lst (Fs'.map fitD)) ∧ (∀ p ∈ Fs', Fit s ps kd dep p) ∧ ((Fs ≠ [] ∨ ∃ p ∈ (h, i) :: hl, hk s ps p.1 p.2 = some kd) → Fs' ≠ []) ∧ Fs'.length ≤ Fs.length + (hl.length + 1) ∧ Kp f S S' := fun y8 y9 hne => by
      obtain ⟨Fs', S', y6, y7, z8, z9, r1, r2, r3, r4, r5, r6⟩ := skip y8 y9 hne
      refine ⟨Fs', S', y6, y7, z8, z9, r1, r2, r3, fun hq => r4 ?_, by omega, r6⟩
      rcases hq with hq | ⟨p, hp', hq⟩
      · exact .inl hq
      · rcases List.mem_cons.mp hp' with rfl | hp'
        · exact (hne hq).elim
        · exact .inr ⟨p, hp', hq⟩
    by_cases hl1 : own.length < kd.length
    · rw [decide_eq_false (show ¬ (0 : Int) ≤ (own.length : Int) - kd.length by omega)]
      simp only [seqM_ev, thenT_nx, thenT_rt, thenT_bk, thenT_ct, thenT_rse, nopM_ev, brkM_ev, cntM_ev, setM_ev, setT_ok, setT_rse, setLM_ev, setLT_ok, dropM_ev, dropT_ok, dropT_rse, retM_ev, retT_ok, retT_rse, ifS_ev, ifT_true, ifT_false, asgM_ev, asgT_ok', optT_some, cM_ev, vM_ev, vR_some, opM_ev, op1_ok, op1_rse, op2_ok, op2_rse, unM_ev, un1_ok, un1_rse, blT_ev, blR_ok, blR_rse, trT_ev, trR_ok, tru_bl, tru_non, tru_tup, tru_int, andT_ev, and1_true, and1_false, orT_ev, or1_true, or1_false, notT_ev, not1_ok, andM_ev, andV_true, andV_false, orM_ev, orV_true, orV_false, ifM_ev, if1_true, if1_false, chM_ev, ch1_ok, ch2_ok, ch3_true, ch3_false, nilA_ev, consA_ev, con1_ok, con1_rse, con2_ok, tupM_ev, tup1_0, tup1_1, tup1_2, tup1_3, tup1_4, szA_ev, sz1_0, sz1_1, sz1_2, sz1_3, sz1_4, sz1_5, sz1_6, sz1_8, sz1_10, newM_ev, new1_ok, onL_ev, onL1_ok, tupL_ev, clM_ev, cl1_rse, cl1_0, cl1_1, cl1_2, cl1_3, cl1_4, cl1_5, putM_ev, putT_ok, putT2_ok, putT3_ok, putT4_some, augM_ev, augT_some, noO_ev, someO_ev, some1_ok, slM_ev, sl1_ok, sl2_ok, sl3_ok, metM_ev, met0_ev, intD0_ev, add_ii, sub_ii, neg_i, lt_ii, le_ii, gt_ii, ge_ii, isN_ev, notN_ev, num_i, num_b, notD_b, isi_bool_bl, len_tup, len_fz, tup_tup, ix_tup0, ix_tup1, ix_tup2, itM_ev, it1_ok, src_tup, src_fz, src_str, fixC_ev, lvI_ev, lv1_ok, rngI_ev, rg1_ok, forM_ev, for1_ok, turnT_nx, turnT_ct, turnT_bk, turnT_rt, turnT_rse, nmG_ev, tupG_ev, consG_ev, nilG_ev, compM_ev, yesT_ev, fn1_nx, fn1_rt, fn1_rse, eq_ii, eq_bb, max_ii, min_ii, slD_tup, List.getElem?_cons_zero, List.getElem?_cons_succ, List.set_cons_zero, List.set_cons_succ, List.map_cons, List.map_nil, List.length_cons, List.length_nil, List.cons_append, List.nil_append, Option.bind_some, decide_true, decide_false, Bool.not_true, Bool.not_false, ne_ii, ne_bb, forL_nil0]
      exact skip2 _ _ fun z => by rw [ho] at z; cases z; omega
    · obtain ⟨m, hm'⟩ : ∃ m, own.length = m + kd.length := ⟨own.length - kd.length, by omega⟩
      have hmi : (own.length : Int) - kd.length = (m : Int) := by omega
      rw [hmi, decide_eq_true (show (0 : Int) ≤ (m : Int) by omega)]
      simp only [seqM_ev, thenT_nx, thenT_rt, thenT_bk, thenT_ct, thenT_rse, nopM_ev, brkM_ev, cntM_ev, setM_ev, setT_ok, setT_rse, setLM_ev, setLT_ok, dropM_ev, dropT_ok, dropT_rse, retM_ev, retT_ok, retT_rse, ifS_ev, ifT_true, ifT_false, asgM_ev, asgT_ok', optT_some, cM_ev, vM_ev, vR_some, opM_ev, op1_ok, op1_rse, op2_ok, op2_rse, unM_ev, un1_ok, un1_rse, blT_ev, blR_ok, blR_rse, trT_ev, trR_ok, tru_bl, tru_non, tru_tup, tru_int, andT_ev, and1_true, and1_false, orT_ev, or1_true, or1_false, notT_ev, not1_ok, andM_ev, andV_true, andV_false, orM_ev, orV_true, orV_false, ifM_ev, if1_true, if1_false, chM_ev, ch1_ok, ch2_ok, ch3_true, ch3_false, nilA_ev, consA_ev, con1_ok, con1_rse, con2_ok, tupM_ev, tup1_0, tup1_1, tup1_2, tup1_3, tup1_4, szA_ev, sz1_0, sz1_1, sz1_2, sz1_3, sz1_4, sz1_5, sz1_6, sz1_8, sz1_10, newM_ev, new1_ok, onL_ev, onL1_ok, tupL_ev, clM_ev, cl1_rse, cl1_0, cl1_1, cl1_2, cl1_3, cl1_4, cl1_5, putM_ev, putT_ok, putT2_ok, putT3_ok, putT4_some, augM_ev, augT_some, noO_ev, someO_ev, some1_ok, slM_ev, sl1_ok, sl2_ok, sl3_ok, metM_ev, met0_ev, intD0_ev, add_ii, sub_ii, neg_i, lt_ii, le_ii, gt_ii, ge_ii, isN_ev, notN_ev, num_i, num_b, notD_b, isi_bool_bl, len_tup, len_fz, tup_tup, ix_tup0, ix_tup1, ix_tup2, itM_ev, it1_ok, src_tup, src_fz, src_str, fixC_ev, lvI_ev, lv1_ok, rngI_ev, rg1_ok, forM_ev, for1_ok, turnT_nx, turnT_ct, turnT_bk, turnT_rt, turnT_rse, nmG_ev, tupG_ev, consG_ev, nilG_ev, compM_ev, yesT_ev, fn1_nx, fn1_rt, fn1_rse, eq_ii, eq_bb, max_ii, min_ii, slD_tup, List.getElem?_cons_zero, List.getElem?_cons_succ, List.set_cons_zero, List.set_cons_succ, List.map_cons, List.map_nil, List.length_cons, List.length_nil, List.cons_append, List.nil_append, Option.bind_some, decide_true, decide_false, Bool.not_true, Bool.not_false, ne_ii, ne_bb, forL_nil0, cut_from, kds_drop, eq_kk (Nat.le_trans (kdeps_drop o2) (by decide)) (Nat.le_trans hkd (by decide))]
      by_cases hq : own.drop m = kd
      · have hown : own = own.take m ++ kd := by rw [← hq, List.take_append_drop]
        have htl : (own.take m).length = m := by rw [List.length_take]; omega
        rw [decide_eq_true (by rw [hq])]
        simp only [seqM_ev, thenT_nx, thenT_rt, thenT_bk, thenT_ct, thenT_rse, nopM_ev, brkM_ev, cntM_ev, setM_ev, setT_ok, setT_rse, setLM_ev, setLT_ok, dropM_ev, dropT_ok, dropT_rse, retM_ev, retT_ok, retT_rse, ifS_ev, ifT_true, ifT_false, asgM_ev, asgT_ok', optT_some, cM_ev, vM_ev, vR_some, opM_ev, op1_ok, op1_rse, op2_ok, op2_rse, unM_ev, un1_ok, un1_rse, blT_ev, blR_ok, blR_rse, trT_ev, trR_ok, tru_bl, tru_non, tru_tup, tru_int, andT_ev, and1_true, and1_false, orT_ev, or1_true, or1_false, notT_ev, not1_ok, andM_ev, andV_true, andV_false, orM_ev, orV_true, orV_false, ifM_ev, if1_true, if1_false, chM_ev, ch1_ok, ch2_ok, ch3_true, ch3_false, nilA_ev, consA_ev, con1_ok, con1_rse, con2_ok, tupM_ev, tup1_0, tup1_1, tup1_2, tup1_3, tup1_4, szA_ev, sz1_0, sz1_1, sz1_2, sz1_3, sz1_4, sz1_5, sz1_6, sz1_8, sz1_10, newM_ev, new1_ok, onL_ev, onL1_ok, tupL_ev, clM_ev, cl1_rse, cl1_0, cl1_1, cl1_2, cl1_3, cl1_4, cl1_5, putM_ev, putT_ok, putT2_ok, putT3_ok, putT4_some, augM_ev, augT_some, noO_ev, someO_ev, some1_ok, slM_ev, sl1_ok, sl2_ok, sl3_ok, metM_ev, met0_ev, intD0_ev, add_ii, sub_ii, neg_i, lt_ii, le_ii, gt_ii, ge_ii, isN_ev, notN_ev, num_i, num_b, notD_b, isi_bool_bl, len_tup, len_fz, tup_tup, ix_tup0, ix_tup1, ix_tup2, itM_ev, it1_ok, src_tup, src_fz, src_str, fixC_ev, lvI_ev, lv1_ok, rngI_ev, rg1_ok, forM_ev, for1_ok, turnT_nx, turnT_ct, turnT_bk, turnT_rt, turnT_rse, nmG_ev, tupG_ev, consG_ev, nilG_ev, compM_ev, yesT_ev, fn1_nx, fn1_rt, fn1_rse, eq_ii, eq_bb, max_ii, min_ii, slD_tup, List.getElem?_cons_zero, List.getElem?_cons_succ, List.set_cons_zero, List.set_cons_succ, List.map_cons, List.map_nil, List.length_cons, List.length_nil, List.cons_append, List.nil_append, Option.bind_some, decide_true, decide_false, Bool.not_true, Bool.not_false, ne_ii, ne_bb, forL_nil0]
        -- a turn that keeps the head
        have keep : (m = 0 ∨ 0 < dep) → ∃ Fs' S' y6 y7 z8 z9, forL (sameC hm L) (tupG 2 (consG (nmG 6) (consG (nmG 7) nilG))) (GN_law_term_l1 (F (k + 1))) (hl.map headD) [some (.obj n), some g, some (.tup (kds ps)), some (.tup (kds kd)), some (.int (dep : Int)), some (.obj f), some (.str h.s), some (.int (i : Int)), some (.tup (kds own)), some (.int (m : Int)), x10, x11] (S.set f (.lst ((Fs ++ [(h, i, m)]).map fitD)))
      = .nx [some (.obj n), some g, some (.tup (kds ps)), some (.tup (kds kd)), some (.int (dep : Int)), some (.obj f), y6, y7, z8, z9, x10, x11] S' ∧
      S'[f]? = some (.lst (Fs'.map fitD)) ∧ (∀ p ∈ Fs', Fit s ps kd dep p) ∧ ((Fs ≠ [] ∨ ∃ p ∈ (h, i) :: hl, hk s ps p.1 p.2 = some kd) → Fs' ≠ []) ∧ Fs'.length ≤ Fs.length + (hl.length + 1) ∧ Kp f S S' := fun hmd => by
          obtain ⟨a, b, c, d, hn'⟩ := hn
          obtain ⟨Fs', S', y6, y7, z8, z9, r1, r2, r3, r4, r5, r6⟩ := fits_loop src (k := k) (x := x) (x10 := x10) (x11 := x11) hs hp hg hkd hnf hmf hl (Fs ++ [(h, i, m)]) (S.set f (.lst ((Fs ++ [(h, i, m)]).map fitD))) (some (.str h.s)) (some (.int (i : Int))) (some (.tup (kds own))) (some (.int (m : Int))) (fun p hp => hh p (by simp [hp])) (by simp; omega) (get_set hlt)
            (fun p hp => by
              rcases List.mem_append.mp hp with hp | hp
              · exact hF p hp
              · simp at hp
                subst hp
                exact ⟨own.take m, by rw [← hown]; exact ho, htl, hmd⟩) ⟨a, b, c, d, (get_set' (Ne.symm hnf)).trans hn'⟩ ((get_set' (Ne.symm hmf)).trans hL)
          exact ⟨Fs', S', y6, y7, z8, z9, r1, r2, r3, fun _ => r4 (.inl (by simp)), by simp at r5; omega, kp_set.trans r6⟩
        have app : ∀ e : Sl, appD (.obj f) (.tup [.str h.s, .int (i : Int), .int (m : Int)]) S = .ok .non (S.set f (.lst ((Fs ++ [(h, i, m)]).map fitD))) := fun _ => by
          rw [app_ok hf (by simp; omega)]
          simp [fitD]
        by_cases hm0 : m = 0
        · rw [decide_eq_true (show (m : Int) = 0 by omega)]
          simp only [seqM_ev, thenT_nx, thenT_rt, thenT_bk, thenT_ct, thenT_rse, nopM_ev, brkM_ev, cntM_ev, setM_ev, setT_ok, setT_rse, setLM_ev, setLT_ok, dropM_ev, dropT_ok, dropT_rse, retM_ev, retT_ok, retT_rse, ifS_ev, ifT_true, ifT_false, asgM_ev, asgT_ok', optT_some, cM_ev, vM_ev, vR_some, opM_ev, op1_ok, op1_rse, op2_ok, op2_rse, unM_ev, un1_ok, un1_rse, blT_ev, blR_ok, blR_rse, trT_ev, trR_ok, tru_bl, tru_non, tru_tup, tru_int, andT_ev, and1_true, and1_false, orT_ev, or1_true, or1_false, notT_ev, not1_ok, andM_ev, andV_true, andV_false, orM_ev, orV_true, orV_false, ifM_ev, if1_true, if1_false, chM_ev, ch1_ok, ch2_ok, ch3_true, ch3_false, nilA_ev, consA_ev, con1_ok, con1_rse, con2_ok, tupM_ev, tup1_0, tup1_1, tup1_2, tup1_3, tup1_4, szA_ev, sz1_0, sz1_1, sz1_2, sz1_3, sz1_4, sz1_5, sz1_6, sz1_8, sz1_10, newM_ev, new1_ok, onL_ev, onL1_ok, tupL_ev, clM_ev, cl1_rse, cl1_0, cl1_1, cl1_2, cl1_3, cl1_4, cl1_5, putM_ev, putT_ok, putT2_ok, putT3_ok, putT4_some, augM_ev, augT_some, noO_ev, someO_ev, some1_ok, slM_ev, sl1_ok, sl2_ok, sl3_ok, metM_ev, met0_ev, intD0_ev, add_ii, sub_ii, neg_i, lt_ii, le_ii, gt_ii, ge_ii, isN_ev, notN_ev, num_i, num_b, notD_b, isi_bool_bl, len_tup, len_fz, tup_tup, ix_tup0, ix_tup1, ix_tup2, itM_ev, it1_ok, src_tup, src_fz, src_str, fixC_ev, lvI_ev, lv1_ok, rngI_ev, rg1_ok, forM_ev, for1_ok, turnT_nx, turnT_ct, turnT_bk, turnT_rt, turnT_rse, nmG_ev, tupG_ev, consG_ev, nilG_ev, compM_ev, yesT_ev, fn1_nx, fn1_rt, fn1_rse, eq_ii, eq_bb, max_ii, min_ii, slD_tup, List.getElem?_cons_zero, List.getElem?_cons_succ, List.set_cons_zero, List.set_cons_succ, List.map_cons, List.map_nil, List.length_cons, List.length_nil, List.cons_append, List.nil_append, Option.bind_some, decide_true, decide_false, Bool.not_true, Bool.not_false, ne_ii, ne_bb, forL_nil0, met1_lst hf, app []]
          exact keep (.inl hm0)
        · rw [decide_eq_false (show ¬ (m : Int) = 0 by omega)]
          simp only [seqM_ev, thenT_nx, thenT_rt, thenT_bk, thenT_ct, thenT_rse, nopM_ev, brkM_ev, cntM_ev, setM_ev, setT_ok, setT_rse, setLM_ev, setLT_ok, dropM_ev, dropT_ok, dropT_rse, retM_ev, retT_ok, retT_rse, ifS_ev, ifT_true, ifT_false, asgM_ev, asgT_ok', optT_some, cM_ev, vM_ev, vR_some, opM_ev, op1_ok, op1_rse, op2_ok, op2_rse, unM_ev, un1_ok, un1_rse, blT_ev, blR_ok, blR_rse, trT_ev, trR_ok, tru_bl, tru_non, tru_tup, tru_int, andT_ev, and1_true, and1_false, orT_ev, or1_true, or1_false, notT_ev, not1_ok, andM_ev, andV_true, andV_false, orM_ev, orV_true, orV_false, ifM_ev, if1_true, if1_false, chM_ev, ch1_ok, ch2_ok, ch3_true, ch3_false, nilA_ev, consA_ev, con1_ok, con1_rse, con2_ok, tupM_ev, tup1_0, tup1_1, tup1_2, tup1_3, tup1_4, szA_ev, sz1_0, sz1_1, sz1_2, sz1_3, sz1_4, sz1_5, sz1_6, sz1_8, sz1_10, newM_ev, new1_ok, onL_ev, onL1_ok, tupL_ev, clM_ev, cl1_rse, cl1_0, cl1_1, cl1_2, cl1_3, cl1_4, cl1_5, putM_ev, putT_ok, putT2_ok, putT3_ok, putT4_some, augM_ev, augT_some, noO_ev, someO_ev, some1_ok, slM_ev, sl1_ok, sl2_ok, sl3_ok, metM_ev, met0_ev, intD0_ev, add_ii, sub_ii, neg_i, lt_ii, le_ii, gt_ii, ge_ii, isN_ev, notN_ev, num_i, num_b, notD_b, isi_bool_bl, len_tup, len_fz, tup_tup, ix_tup0, ix_tup1, ix_tup2, itM_ev, it1_ok, src_tup, src_fz, src_str, fixC_ev, lvI_ev, lv1_ok, rngI_ev, rg1_ok, forM_ev, for1_ok, turnT_nx, turnT_ct, turnT_bk, turnT_rt, turnT_rse, nmG_ev, tupG_ev, consG_ev, nilG_ev, compM_ev, yesT_ev, fn1_nx, fn1_rt, fn1_rse, eq_ii, eq_bb, max_ii, min_ii, slD_tup, List.getElem?_cons_zero, List.getElem?_cons_succ, List.set_cons_zero, List.set_cons_succ, List.map_cons, List.map_nil, List.length_cons, List.length_nil, List.cons_append, List.nil_append, Option.bind_some, decide_true, decide_false, Bool.not_true, Bool.not_false, ne_ii, ne_bb, forL_nil0]
          have hne : hk s ps h i ≠ some kd := fun z => by rw [ho] at z; cases z; omega
          by_cases hd : 0 < dep
          · rw [decide_eq_true (show (0 : Int) < (dep : Int) by omega)]
            obtain ⟨a, b, c, d, hn'⟩ := id hn
            simp only [seqM_ev, thenT_nx, thenT_rt, thenT_bk, thenT_ct, thenT_rse, nopM_ev, brkM_ev, cntM_ev, setM_ev, setT_ok, setT_rse, setLM_ev, setLT_ok, dropM_ev, dropT_ok, dropT_rse, retM_ev, retT_ok, retT_rse, ifS_ev, ifT_true, ifT_false, asgM_ev, asgT_ok', optT_some, cM_ev, vM_ev, vR_some, opM_ev, op1_ok, op1_rse, op2_ok, op2_rse, unM_ev, un1_ok, un1_rse, blT_ev, blR_ok, blR_rse, trT_ev, trR_ok, tru_bl, tru_non, tru_tup, tru_int, andT_ev, and1_true, and1_false, orT_ev, or1_true, or1_false, notT_ev, not1_ok, andM_ev, andV_true, andV_false, orM_ev, orV_true, orV_false, ifM_ev, if1_true, if1_false, chM_ev, ch1_ok, ch2_ok, ch3_true, ch3_false, nilA_ev, consA_ev, con1_ok, con1_rse, con2_ok, tupM_ev, tup1_0, tup1_1, tup1_2, tup1_3, tup1_4, szA_ev, sz1_0, sz1_1, sz1_2, sz1_3, sz1_4, sz1_5, sz1_6, sz1_8, sz1_10, newM_ev, new1_ok, onL_ev, onL1_ok, tupL_ev, clM_ev, cl1_rse, cl1_0, cl1_1, cl1_2, cl1_3, cl1_4, cl1_5, putM_ev, putT_ok, putT2_ok, putT3_ok, putT4_some, augM_ev, augT_some, noO_ev, someO_ev, some1_ok, slM_ev, sl1_ok, sl2_ok, sl3_ok, metM_ev, met0_ev, intD0_ev, add_ii, sub_ii, neg_i, lt_ii, le_ii, gt_ii, ge_ii, isN_ev, notN_ev, num_i, num_b, notD_b, isi_bool_bl, len_tup, len_fz, tup_tup, ix_tup0, ix_tup1, ix_tup2, itM_ev, it1_ok, src_tup, src_fz, src_str, fixC_ev, lvI_ev, lv1_ok, rngI_ev, rg1_ok, forM_ev, for1_ok, turnT_nx, turnT_ct, turnT_bk, turnT_rt, turnT_rse, nmG_ev, tupG_ev, consG_ev, nilG_ev, compM_ev, yesT_ev, fn1_nx, fn1_rt, fn1_rse, eq_ii, eq_bb, max_ii, min_ii, slD_tup, List.getElem?_cons_zero, List.getElem?_cons_succ, List.set_cons_zero, List.set_cons_succ, List.map_cons, List.map_nil, List.length_cons, List.length_nil, List.cons_append, List.nil_append, Option.bind_some, decide_true, decide_false, Bool.not_true, Bool.not_false, ne_ii, ne_bb, forL_nil0, ix_lst4 hn']
            by_cases hx : 0 < x
            · rw [decide_eq_true hx]
              simp only [seqM_ev, thenT_nx, thenT_rt, thenT_bk, thenT_ct, thenT_rse, nopM_ev, brkM_ev, cntM_ev, setM_ev, setT_ok, setT_rse, setLM_ev, setLT_ok, dropM_ev, dropT_ok, dropT_rse, retM_ev, retT_ok, retT_rse, ifS_ev, ifT_true, ifT_false, asgM_ev, asgT_ok', optT_some, cM_ev, vM_ev, vR_some, opM_ev, op1_ok, op1_rse, op2_ok, op2_rse, unM_ev, un1_ok, un1_rse, blT_ev, blR_ok, blR_rse, trT_ev, trR_ok, tru_bl, tru_non, tru_tup, tru_int, andT_ev, and1_true, and1_false, orT_ev, or1_true, or1_false, notT_ev, not1_ok, andM_ev, andV_true, andV_false, orM_ev, orV_true, orV_false, ifM_ev, if1_true, if1_false, chM_ev, ch1_ok, ch2_ok, ch3_true, ch3_false, nilA_ev, consA_ev, con1_ok, con1_rse, con2_ok, tupM_ev, tup1_0, tup1_1, tup1_2, tup1_3, tup1_4, szA_ev, sz1_0, sz1_1, sz1_2, sz1_3, sz1_4, sz1_5, sz1_6, sz1_8, sz1_10, newM_ev, new1_ok, onL_ev, onL1_ok, tupL_ev, clM_ev, cl1_rse, cl1_0, cl1_1, cl1_2, cl1_3, cl1_4, cl1_5, putM_ev, putT_ok, putT2_ok, putT3_ok, putT4_some, augM_ev, augT_some, noO_ev, someO_ev, some1_ok, slM_ev, sl1_ok, sl2_ok, sl3_ok, metM_ev, met0_ev, intD0_ev, add_ii, sub_ii, neg_i, lt_ii, le_ii, gt_ii, ge_ii, isN_ev, notN_ev, num_i, num_b, notD_b, isi_bool_bl, len_tup, len_fz, tup_tup, ix_tup0, ix_tup1, ix_tup2, itM_ev, it1_ok, src_tup, src_fz, src_str, fixC_ev, lvI_ev, lv1_ok, rngI_ev, rg1_ok, forM_ev, for1_ok, turnT_nx, turnT_ct, turnT_bk, turnT_rt, turnT_rse, nmG_ev, tupG_ev, consG_ev, nilG_ev, compM_ev, yesT_ev, fn1_nx, fn1_rt, fn1_rse, eq_ii, eq_bb, max_ii, min_ii, slD_tup, List.getElem?_cons_zero, List.getElem?_cons_succ, List.set_cons_zero, List.set_cons_succ, List.map_cons, List.map_nil, List.length_cons, List.length_nil, List.cons_append, List.nil_append, Option.bind_some, decide_true, decide_false, Bool.not_true, Bool.not_false, ne_ii, ne_bb, forL_nil0, met1_lst hf, app []]
              exact keep (.inr hd)
            · rw [decide_eq_false hx]
              simp only [seqM_ev, thenT_nx, thenT_rt, thenT_bk, thenT_ct, thenT_rse, nopM_ev, brkM_ev, cntM_ev, setM_ev, setT_ok, setT_rse, setLM_ev, setLT_ok, dropM_ev, dropT_ok, dropT_rse, retM_ev, retT_ok, retT_rse, ifS_ev, ifT_true, ifT_false, asgM_ev, asgT_ok', optT_some, cM_ev, vM_ev, vR_some, opM_ev, op1_ok, op1_rse, op2_ok, op2_rse, unM_ev, un1_ok, un1_rse, blT_ev, blR_ok, blR_rse, trT_ev, trR_ok, tru_bl, tru_non, tru_tup, tru_int, andT_ev, and1_true, and1_false, orT_ev, or1_true, or1_false, notT_ev, not1_ok, andM_ev, andV_true, andV_false, orM_ev, orV_true, orV_false, ifM_ev, if1_true, if1_false, chM_ev, ch1_ok, ch2_ok, ch3_true, ch3_false, nilA_ev, consA_ev, con1_ok, con1_rse, con2_ok, tupM_ev, tup1_0, tup1_1, tup1_2, tup1_3, tup1_4, szA_ev, sz1_0, sz1_1, sz1_2, sz1_3, sz1_4, sz1_5, sz1_6, sz1_8, sz1_10, newM_ev, new1_ok, onL_ev, onL1_ok, tupL_ev, clM_ev, cl1_rse, cl1_0, cl1_1, cl1_2, cl1_3, cl1_4, cl1_5, putM_ev, putT_ok, putT2_ok, putT3_ok, putT4_some, augM_ev, augT_some, noO_ev, someO_ev, some1_ok, slM_ev, sl1_ok, sl2_ok, sl3_ok, metM_ev, met0_ev, intD0_ev, add_ii, sub_ii, neg_i, lt_ii, le_ii, gt_ii, ge_ii, isN_ev, notN_ev, num_i, num_b, notD_b, isi_bool_bl, len_tup, len_fz, tup_tup, ix_tup0, ix_tup1, ix_tup2, itM_ev, it1_ok, src_tup, src_fz, src_str, fixC_ev, lvI_ev, lv1_ok, rngI_ev, rg1_ok, forM_ev, for1_ok, turnT_nx, turnT_ct, turnT_bk, turnT_rt, turnT_rse, nmG_ev, tupG_ev, consG_ev, nilG_ev, compM_ev, yesT_ev, fn1_nx, fn1_rt, fn1_rse, eq_ii, eq_bb, max_ii, min_ii, slD_tup, List.getElem?_cons_zero, List.getElem?_cons_succ, List.set_cons_zero, List.set_cons_succ, List.map_cons, List.map_nil, List.length_cons, List.length_nil, List.cons_append, List.nil_append, Option.bind_some, decide_true, decide_false, Bool.not_true, Bool.not_false, ne_ii, ne_bb, forL_nil0]
              exact skip2 _ _ hne
          · rw [decide_eq_false (show ¬ (0 : Int) < (dep : Int) by omega)]
            simp only [seqM_ev, thenT_nx, thenT_rt, thenT_bk, thenT_ct, thenT_rse, nopM_ev, brkM_ev, cntM_ev, setM_ev, setT_ok, setT_rse, setLM_ev, setLT_ok, dropM_ev, dropT_ok, dropT_rse, retM_ev, retT_ok, retT_rse, ifS_ev, ifT_true, ifT_false, asgM_ev, asgT_ok', optT_some, cM_ev, vM_ev, vR_some, opM_ev, op1_ok, op1_rse, op2_ok, op2_rse, unM_ev, un1_ok, un1_rse, blT_ev, blR_ok, blR_rse, trT_ev, trR_ok, tru_bl, tru_non, tru_tup, tru_int, andT_ev, and1_true, and1_false, orT_ev, or1_true, or1_false, notT_ev, not1_ok, andM_ev, andV_true, andV_false, orM_ev, orV_true, orV_false, ifM_ev, if1_true, if1_false, chM_ev, ch1_ok, ch2_ok, ch3_true, ch3_false, nilA_ev, consA_ev, con1_ok, con1_rse, con2_ok, tupM_ev, tup1_0, tup1_1, tup1_2, tup1_3, tup1_4, szA_ev, sz1_0, sz1_1, sz1_2, sz1_3, sz1_4, sz1_5, sz1_6, sz1_8, sz1_10, newM_ev, new1_ok, onL_ev, onL1_ok, tupL_ev, clM_ev, cl1_rse, cl1_0, cl1_1, cl1_2, cl1_3, cl1_4, cl1_5, putM_ev, putT_ok, putT2_ok, putT3_ok, putT4_some, augM_ev, augT_some, noO_ev, someO_ev, some1_ok, slM_ev, sl1_ok, sl2_ok, sl3_ok, metM_ev, met0_ev, intD0_ev, add_ii, sub_ii, neg_i, lt_ii, le_ii, gt_ii, ge_ii, isN_ev, notN_ev, num_i, num_b, notD_b, isi_bool_bl, len_tup, len_fz, tup_tup, ix_tup0, ix_tup1, ix_tup2, itM_ev, it1_ok, src_tup, src_fz, src_str, fixC_ev, lvI_ev, lv1_ok, rngI_ev, rg1_ok, forM_ev, for1_ok, turnT_nx, turnT_ct, turnT_bk, turnT_rt, turnT_rse, nmG_ev, tupG_ev, consG_ev, nilG_ev, compM_ev, yesT_ev, fn1_nx, fn1_rt, fn1_rse, eq_ii, eq_bb, max_ii, min_ii, slD_tup, List.getElem?_cons_zero, List.getElem?_cons_succ, List.set_cons_zero, List.set_cons_succ, List.map_cons, List.map_nil, List.length_cons, List.length_nil, List.cons_append, List.nil_append, Option.bind_some, decide_true, decide_false, Bool.not_true, Bool.not_false, ne_ii, ne_bb, forL_nil0]
            exact skip2 _ _ hne
      · rw [decide_eq_false (fun z => hq (kds_inj z))]
        simp only [seqM_ev, thenT_nx, thenT_rt, thenT_bk, thenT_ct, thenT_rse, nopM_ev, brkM_ev, cntM_ev, setM_ev, setT_ok, setT_rse, setLM_ev, setLT_ok, dropM_ev, dropT_ok, dropT_rse, retM_ev, retT_ok, retT_rse, ifS_ev, ifT_true, ifT_false, asgM_ev, asgT_ok', optT_some, cM_ev, vM_ev, vR_some, opM_ev, op1_ok, op1_rse, op2_ok, op2_rse, unM_ev, un1_ok, un1_rse, blT_ev, blR_ok, blR_rse, trT_ev, trR_ok, tru_bl, tru_non, tru_tup, tru_int, andT_ev, and1_true, and1_false, orT_ev, or1_true, or1_false, notT_ev, not1_ok, andM_ev, andV_true, andV_false, orM_ev, orV_true, orV_false, ifM_ev, if1_true, if1_false, chM_ev, ch1_ok, ch2_ok, ch3_true, ch3_false, nilA_ev, consA_ev, con1_ok, con1_rse, con2_ok, tupM_ev, tup1_0, tup1_1, tup1_2, tup1_3, tup1_4, szA_ev, sz1_0, sz1_1, sz1_2, sz1_3, sz1_4, sz1_5, sz1_6, sz1_8, sz1_10, newM_ev, new1_ok, onL_ev, onL1_ok, tupL_ev, clM_ev, cl1_rse, cl1_0, cl1_1, cl1_2, cl1_3, cl1_4, cl1_5, putM_ev, putT_ok, putT2_ok, putT3_ok, putT4_some, augM_ev, augT_some, noO_ev, someO_ev, some1_ok, slM_ev, sl1_ok, sl2_ok, sl3_ok, metM_ev, met0_ev, intD0_ev, add_ii, sub_ii, neg_i, lt_ii, le_ii, gt_ii, ge_ii, isN_ev, notN_ev, num_i, num_b, notD_b, isi_bool_bl, len_tup, len_fz, tup_tup, ix_tup0, ix_tup1, ix_tup2, itM_ev, it1_ok, src_tup, src_fz, src_str, fixC_ev, lvI_ev, lv1_ok, rngI_ev, rg1_ok, forM_ev, for1_ok, turnT_nx, turnT_ct, turnT_bk, turnT_rt, turnT_rse, nmG_ev, tupG_ev, consG_ev, nilG_ev, compM_ev, yesT_ev, fn1_nx, fn1_rt, fn1_rse, eq_ii, eq_bb, max_ii, min_ii, slD_tup, List.getElem?_cons_zero, List.getElem?_cons_succ, List.set_cons_zero, List.set_cons_succ, List.map_cons, List.map_nil, List.length_cons, List.length_nil, List.cons_append, List.nil_append, Option.bind_some, decide_true, decide_false, Bool.not_true, Bool.not_false, ne_ii, ne_bb, forL_nil0]
        refine skip2 _ _ fun z => hq ?_
        rw [ho] at z
        cases z
        have : m = 0 := by omega
        rw [this]
        rfl
theorem HI.good {s : Sig} {l : List Kd} (hs : SigOk s) (h : HI s l) : l.length ≤ 100 ∧ kdeps l ≤ 50 := by
  obtain ⟨h, i, _, e⟩ := h.head
  have := hk_good hs (ps := []) ⟨by simp, fun x hx => by simp at hx⟩ e
  exact ⟨this.1, this.2.1⟩
theorem eq_k0 {l : List Kd} {S : Sto} (h : kdeps l ≤ 60) : eqD (.tup (kds l)) (.tup []) S = .ok (.bl (decide (l = []))) S := by
  have := eq_kk (l := l) (m := []) (S := S) h (by simp [kdeps])
  simp only [show kds [] = [] by unfold kds; rfl] at this
  rw [this]
  congr 2
  rw [decide_eq_decide]
  cases l with
  | nil => simp [kds]
  | cons a l => simp [kds]
theorem smallest0_gn (src : GNSrc F) {k : Nat} {g q : D} {S : Sto} : F (k + 1) .law_smallest [g, q, .tup []] S = .ok (.obj S.length) (S ++ [.lst [fitD (.sym, 0, 0)]]) := by
  rw [src.law_smallest]
  have := eq_k0 (l := []) (S := S) (by simp [kdeps])
  simp only [show kds [] = [] by unfold kds; rfl] at this
  simp only [GN_law_smallest, fnM_ev, startD, List.replicate, seqM_ev, thenT_nx, thenT_rt, thenT_bk, thenT_ct, thenT_rse, nopM_ev, brkM_ev, cntM_ev, setM_ev, setT_ok, setT_rse, setLM_ev, setLT_ok, dropM_ev, dropT_ok, dropT_rse, retM_ev, retT_ok, retT_rse, ifS_ev, ifT_true, ifT_false, asgM_ev, asgT_ok', optT_some, cM_ev, vM_ev, vR_some, opM_ev, op1_ok, op1_rse, op2_ok, op2_rse, unM_ev, un1_ok, un1_rse, blT_ev, blR_ok, blR_rse, trT_ev, trR_ok, tru_bl, tru_non, tru_tup, tru_int, andT_ev, and1_true, and1_false, orT_ev, or1_true, or1_false, notT_ev, not1_ok, andM_ev, andV_true, andV_false, orM_ev, orV_true, orV_false, ifM_ev, if1_true, if1_false, chM_ev, ch1_ok, ch2_ok, ch3_true, ch3_false, nilA_ev, consA_ev, con1_ok, con1_rse, con2_ok, tupM_ev, tup1_0, tup1_1, tup1_2, tup1_3, tup1_4, szA_ev, sz1_0, sz1_1, sz1_2, sz1_3, sz1_4, sz1_5, sz1_6, sz1_8, sz1_10, newM_ev, new1_ok, onL_ev, onL1_ok, tupL_ev, clM_ev, cl1_rse, cl1_0, cl1_1, cl1_2, cl1_3, cl1_4, cl1_5, putM_ev, putT_ok, putT2_ok, putT3_ok, putT4_some, augM_ev, augT_some, noO_ev, someO_ev, some1_ok, slM_ev, sl1_ok, sl2_ok, sl3_ok, metM_ev, met0_ev, intD0_ev, add_ii, sub_ii, neg_i, lt_ii, le_ii, gt_ii, ge_ii, isN_ev, notN_ev, num_i, num_b, notD_b, isi_bool_bl, len_tup, len_fz, tup_tup, ix_tup0, ix_tup1, ix_tup2, itM_ev, it1_ok, src_tup, src_fz, src_str, fixC_ev, lvI_ev, lv1_ok, rngI_ev, rg1_ok, forM_ev, for1_ok, turnT_nx, turnT_ct, turnT_bk, turnT_rt, turnT_rse, nmG_ev, tupG_ev, consG_ev, nilG_ev, compM_ev, yesT_ev, fn1_nx, fn1_rt, fn1_rse, eq_ii, eq_bb, max_ii, min_ii, slD_tup, List.getElem?_cons_zero, List.getElem?_cons_succ, List.set_cons_zero, List.set_cons_succ, List.map_cons, List.map_nil, List.length_cons, List.length_nil, List.cons_append, List.nil_append, Option.bind_some, decide_true, decide_false, Bool.not_true, Bool.not_false, ne_ii, ne_bb, forL_nil0, this]
  rfl
/-- what a drawn term is -/
def TermQ (s : Sig) (ps kd : List Kd) (dep n : Nat) (S : Sto) (d : D) (S' : Sto) : Prop := ∃ t x', d = Tm.d t ∧ HasK s ps t kd ∧ t.dep ≤ dep + 1 ∧ CI [.int x'] S' n ∧ Kx n S S'
theorem Kp.toX {n f : Nat} {S S' T : Sto} (k : Kx n T S) (h : Kp f S S') (hf : T.length ≤ f) : Kx n T S' := ⟨by rw [h.len]; exact k.le, fun i hi ne => (h.at_ i (by omega)).trans (k.at_ i hi ne)⟩
theorem hasKs_of {s : Sig} {ps : List Kd} {dep : Nat} : ∀ {ks : List Kd} {ys : List D}, All2 (fun (k : Kd) d => ∃ t : Tm, d = t.d ∧ HasK s ps t k.parts ∧ t.dep ≤ dep) ks ys → ∃ ts : List Tm, ys = tds ts ∧ HasKs s ps ts ks ∧ tdeps ts ≤ dep
  | [], _, .nil => ⟨[], by unfold tds; rfl, .nil, by simp [tdeps]⟩
  | _ :: _, _, .cons r h => by
    obtain ⟨t, rfl, h1, h2⟩ := r
    obtain ⟨ts, rfl, h3, h4⟩ := hasKs_of h
    exact ⟨t :: ts, by conv => rhs; unfold tds, .cons h1 h3, by simp only [tdeps, Nat.max_le]; exact ⟨h2, h4⟩⟩
theorem term_gn (src : GNSrc F) {s : Sig} {g : D} {ps : List Kd} (hs : SigOk s) (hp : ParOk s ps) (hg : GD s g) : ∀ (dep k : Nat) (kd : List Kd) (S : Sto) (n : Nat) (x : Int), kdeps kd ≤ 50 → kd.length ≤ 100 → HI s kd → CI [.int x] S n →
    Ends (F (k + dep + 3) .law_term [.obj n, g, .tup (kds ps), .tup (kds kd), .int (dep : Int)] S) (TermQ s ps kd dep n S) := by
  -- one step, from the steps below
  have step : ∀ dep : Nat, (∀ dep', dep = dep' + 1 → ∀ (k : Nat) (kd : List Kd) (S : Sto) (n : Nat) (x : Int), kdeps kd ≤ 50 → kd.length ≤ 100 → HI s kd → CI [.int x] S n → Ends (F (k + dep' + 3) .law_term [.obj n, g, .tup (kds ps), .tup (kds kd), .int (dep' : Int)] S) (TermQ s ps kd dep' n S)) →
      ∀ (k : Nat) (kd : List Kd) (S : Sto) (n : Nat) (x : Int), kdeps kd ≤ 50 → kd.length ≤ 100 → HI s kd → CI [.int x] S n → Ends (F (k + dep + 3) .law_term [.obj n, g, .tup (kds ps), .tup (kds kd), .int (dep : Int)] S) (TermQ s ps kd dep n S) := by
    intro dep ih k kd S n x hk1 hk2 hi ci
    rw [show k + dep + 3 = (k + dep + 2) + 1 from rfl, src.law_term]
    obtain ⟨mo, xs, p, b, c, hn, hm, hmn, hp0, hb0, hc0⟩ := ci.ex
    have hlt := lt_of_get hn
    simp only [GN_law_term, fnM_ev, startD, List.replicate, seqM_ev, thenT_nx, thenT_rt, thenT_bk, thenT_ct, thenT_rse, nopM_ev, brkM_ev, cntM_ev, setM_ev, setT_ok, setT_rse, setLM_ev, setLT_ok, dropM_ev, dropT_ok, dropT_rse, retM_ev, retT_ok, retT_rse, ifS_ev, ifT_true, ifT_false, asgM_ev, asgT_ok', optT_some, cM_ev, vM_ev, vR_some, opM_ev, op1_ok, op1_rse, op2_ok, op2_rse, unM_ev, un1_ok, un1_rse, blT_ev, blR_ok, blR_rse, trT_ev, trR_ok, tru_bl, tru_non, tru_tup, tru_int, andT_ev, and1_true, and1_false, orT_ev, or1_true, or1_false, notT_ev, not1_ok, andM_ev, andV_true, andV_false, orM_ev, orV_true, orV_false, ifM_ev, if1_true, if1_false, chM_ev, ch1_ok, ch2_ok, ch3_true, ch3_false, nilA_ev, consA_ev, con1_ok, con1_rse, con2_ok, tupM_ev, tup1_0, tup1_1, tup1_2, tup1_3, tup1_4, szA_ev, sz1_0, sz1_1, sz1_2, sz1_3, sz1_4, sz1_5, sz1_6, sz1_8, sz1_10, newM_ev, new1_ok, onL_ev, onL1_ok, tupL_ev, clM_ev, cl1_rse, cl1_0, cl1_1, cl1_2, cl1_3, cl1_4, cl1_5, putM_ev, putT_ok, putT2_ok, putT3_ok, putT4_some, augM_ev, augT_some, noO_ev, someO_ev, some1_ok, slM_ev, sl1_ok, sl2_ok, sl3_ok, metM_ev, met0_ev, intD0_ev, add_ii, sub_ii, neg_i, lt_ii, le_ii, gt_ii, ge_ii, isN_ev, notN_ev, num_i, num_b, notD_b, isi_bool_bl, len_tup, len_fz, tup_tup, ix_tup0, ix_tup1, ix_tup2, itM_ev, it1_ok, src_tup, src_fz, src_str, fixC_ev, lvI_ev, lv1_ok, rngI_ev, rg1_ok, forM_ev, for1_ok, turnT_nx, turnT_ct, turnT_bk, turnT_rt, turnT_rse, nmG_ev, tupG_ev, consG_ev, nilG_ev, compM_ev, yesT_ev, fn1_nx, fn1_rt, fn1_rse, eq_ii, eq_bb, max_ii, min_ii, slD_tup, List.getElem?_cons_zero, List.getElem?_cons_succ, List.set_cons_zero, List.set_cons_succ, List.map_cons, List.map_nil, List.length_cons, List.length_nil, List.cons_append, List.nil_append, Option.bind_some, decide_true, decide_false, Bool.not_true, Bool.not_false, ne_ii, ne_bb, forL_nil0, ix_lst4 hn, set_lst4 hn]
    -- the store behind the count
    have c1 : CI [.int (x - 1)] (S.set n (.lst [.obj mo, .int p, .int b, .int c, .int (x - 1)])) n := ⟨mo, xs, p, b, c, get_set hlt, (get_set' (Nat.ne_of_gt hmn)).trans hm, hmn, hp0, hb0, hc0⟩
    have k1 : Kx n S (S.set n (.lst [.obj mo, .int p, .int b, .int c, .int (x - 1)])) := kp_set.x
    have l1 : (S.set n (.lst [.obj mo, .int p, .int b, .int c, .int (x - 1)])).length = S.length := by simp
    generalize S.set n (.lst [.obj mo, .int p, .int b, .int c, .int (x - 1)]) = S1 at c1 k1 l1
    have hlt1 := c1.lt
    obtain ⟨T, hm', eh, h1, h2⟩ := heads_gn src (k := k + dep + 1) (S := S1 ++ [.lst []]) hs hp hg
    rw [show k + dep + 1 + 1 = k + dep + 2 from rfl] at eh
    simp only [seqM_ev, thenT_nx, thenT_rt, thenT_bk, thenT_ct, thenT_rse, nopM_ev, brkM_ev, cntM_ev, setM_ev, setT_ok, setT_rse, setLM_ev, setLT_ok, dropM_ev, dropT_ok, dropT_rse, retM_ev, retT_ok, retT_rse, ifS_ev, ifT_true, ifT_false, asgM_ev, asgT_ok', optT_some, cM_ev, vM_ev, vR_some, opM_ev, op1_ok, op1_rse, op2_ok, op2_rse, unM_ev, un1_ok, un1_rse, blT_ev, blR_ok, blR_rse, trT_ev, trR_ok, tru_bl, tru_non, tru_tup, tru_int, andT_ev, and1_true, and1_false, orT_ev, or1_true, or1_false, notT_ev, not1_ok, andM_ev, andV_true, andV_false, orM_ev, orV_true, orV_false, ifM_ev, if1_true, if1_false, chM_ev, ch1_ok, ch2_ok, ch3_true, ch3_false, nilA_ev, consA_ev, con1_ok, con1_rse, con2_ok, tupM_ev, tup1_0, tup1_1, tup1_2, tup1_3, tup1_4, szA_ev, sz1_0, sz1_1, sz1_2, sz1_3, sz1_4, sz1_5, sz1_6, sz1_8, sz1_10, newM_ev, new1_ok, onL_ev, onL1_ok, tupL_ev, clM_ev, cl1_rse, cl1_0, cl1_1, cl1_2, cl1_3, cl1_4, cl1_5, putM_ev, putT_ok, putT2_ok, putT3_ok, putT4_some, augM_ev, augT_some, noO_ev, someO_ev, some1_ok, slM_ev, sl1_ok, sl2_ok, sl3_ok, metM_ev, met0_ev, intD0_ev, add_ii, sub_ii, neg_i, lt_ii, le_ii, gt_ii, ge_ii, isN_ev, notN_ev, num_i, num_b, notD_b, isi_bool_bl, len_tup, len_fz, tup_tup, ix_tup0, ix_tup1, ix_tup2, itM_ev, it1_ok, src_tup, src_fz, src_str, fixC_ev, lvI_ev, lv1_ok, rngI_ev, rg1_ok, forM_ev, for1_ok, turnT_nx, turnT_ct, turnT_bk, turnT_rt, turnT_rse, nmG_ev, tupG_ev, consG_ev, nilG_ev, compM_ev, yesT_ev, fn1_nx, fn1_rt, fn1_rse, eq_ii, eq_bb, max_ii, min_ii, slD_tup, List.getElem?_cons_zero, List.getElem?_cons_succ, List.set_cons_zero, List.set_cons_succ, List.map_cons, List.map_nil, List.length_cons, List.length_nil, List.cons_append, List.nil_append, Option.bind_some, decide_true, decide_false, Bool.not_true, Bool.not_false, ne_ii, ne_bb, forL_nil0, eh, src_lst h1]
    have c2 : CI [.int (x - 1)] (S1 ++ [.lst []] ++ T) n := c1.keep fun i hi => by rw [get_app (by simp; omega), get_app (by omega)]
    have k2 : Kx n S (S1 ++ [.lst []] ++ T) := k1.trans (by rw [List.append_assoc]; exact Kx.app)
    obtain ⟨mo2, xs2, p2, b2, c2', hn2, -⟩ := c2.ex
    have hf0 : (S1 ++ [.lst []] ++ T)[S1.length]? = some (.lst (([] : List (Hd × Nat × Nat)).map fitD)) := by
      rw [get_app (by simp)]
      exact get_new
    obtain ⟨Fs, S3, y6, y7, y8, y9, r1, r2, r3, r4, r5, r6⟩ := fits_loop src (k := k + dep + 1) (x := x - 1) (x10 := none) (x11 := none) (n := n) (f := S1.length) (hm := hm') (dep := dep) (L := (headsL s ps).map headD) hs hp hg hk1 (Nat.ne_of_lt hlt1) (by simp at h2; omega) (headsL s ps) [] (S1 ++ [.lst []] ++ T) none none none none
      (fun q hq => headsL_mem.mp hq) (by have := hs.many; have := hp.len; simp [headsL]; omega) hf0 (fun q hq => by simp at hq) ⟨_, _, _, _, hn2⟩ h1
    rw [show k + dep + 1 + 1 = k + dep + 2 from rfl] at r1
    have hne : Fs ≠ [] := r4 (.inr (by
      obtain ⟨h, i, e1, e2⟩ := hi.head
      exact ⟨(h, i), headsL_mem.mpr ⟨kd, hk_par e1 e2⟩, hk_par e1 e2⟩))
    have hlen : 0 < Fs.length := List.length_pos_iff.mpr hne
    have c3 : CI [.int (x - 1)] S3 n := c2.keep fun i hi => r6.at_ i (by omega)
    have k3 : Kx n S S3 := Kp.toX k2 r6 (by omega)
    have hz3 : Fs.length ≤ 400 := by have := hs.many; have := hp.len; simp [headsL] at r5; omega
    rw [r1]
    simp only [seqM_ev, thenT_nx, thenT_rt, thenT_bk, thenT_ct, thenT_rse, nopM_ev, brkM_ev, cntM_ev, setM_ev, setT_ok, setT_rse, setLM_ev, setLT_ok, dropM_ev, dropT_ok, dropT_rse, retM_ev, retT_ok, retT_rse, ifS_ev, ifT_true, ifT_false, asgM_ev, asgT_ok', optT_some, cM_ev, vM_ev, vR_some, opM_ev, op1_ok, op1_rse, op2_ok, op2_rse, unM_ev, un1_ok, un1_rse, blT_ev, blR_ok, blR_rse, trT_ev, trR_ok, tru_bl, tru_non, tru_tup, tru_int, andT_ev, and1_true, and1_false, orT_ev, or1_true, or1_false, notT_ev, not1_ok, andM_ev, andV_true, andV_false, orM_ev, orV_true, orV_false, ifM_ev, if1_true, if1_false, chM_ev, ch1_ok, ch2_ok, ch3_true, ch3_false, nilA_ev, consA_ev, con1_ok, con1_rse, con2_ok, tupM_ev, tup1_0, tup1_1, tup1_2, tup1_3, tup1_4, szA_ev, sz1_0, sz1_1, sz1_2, sz1_3, sz1_4, sz1_5, sz1_6, sz1_8, sz1_10, newM_ev, new1_ok, onL_ev, onL1_ok, tupL_ev, clM_ev, cl1_rse, cl1_0, cl1_1, cl1_2, cl1_3, cl1_4, cl1_5, putM_ev, putT_ok, putT2_ok, putT3_ok, putT4_some, augM_ev, augT_some, noO_ev, someO_ev, some1_ok, slM_ev, sl1_ok, sl2_ok, sl3_ok, metM_ev, met0_ev, intD0_ev, add_ii, sub_ii, neg_i, lt_ii, le_ii, gt_ii, ge_ii, isN_ev, notN_ev, num_i, num_b, notD_b, isi_bool_bl, len_tup, len_fz, tup_tup, ix_tup0, ix_tup1, ix_tup2, itM_ev, it1_ok, src_tup, src_fz, src_str, fixC_ev, lvI_ev, lv1_ok, rngI_ev, rg1_ok, forM_ev, for1_ok, turnT_nx, turnT_ct, turnT_bk, turnT_rt, turnT_rse, nmG_ev, tupG_ev, consG_ev, nilG_ev, compM_ev, yesT_ev, fn1_nx, fn1_rt, fn1_rse, eq_ii, eq_bb, max_ii, min_ii, slD_tup, List.getElem?_cons_zero, List.getElem?_cons_succ, List.set_cons_zero, List.set_cons_succ, List.map_cons, List.map_nil, List.length_cons, List.length_nil, List.cons_append, List.nil_append, Option.bind_some, decide_true, decide_false, Bool.not_true, Bool.not_false, ne_ii, ne_bb, forL_nil0, len_lst r2, List.length_map, decide_eq_false (show ¬ (Fs.length : Int) = 0 by omega)]
    -- one of the fits
    refine ends_then (A := fun e S4 => ∃ Fs f x4, e = [some (.obj n), some g, some (.tup (kds ps)), some (.tup (kds kd)), some (.int (dep : Int)), some (.obj f), y6, y7, y8, y9, none, none] ∧ S4[f]? = some (.lst (Fs.map fitD)) ∧ (∀ q ∈ Fs, Fit s ps kd dep q) ∧ Fs ≠ [] ∧ Fs.length ≤ 500 ∧ f ≠ n ∧ CI [.int x4] S4 n ∧ Kx n S S4) ?_ ?_
    · by_cases hd : dep = 0
      · rw [decide_eq_true (show (dep : Int) = 0 by omega)]
        simp only [seqM_ev, thenT_nx, thenT_rt, thenT_bk, thenT_ct, thenT_rse, nopM_ev, brkM_ev, cntM_ev, setM_ev, setT_ok, setT_rse, setLM_ev, setLT_ok, dropM_ev, dropT_ok, dropT_rse, retM_ev, retT_ok, retT_rse, ifS_ev, ifT_true, ifT_false, asgM_ev, asgT_ok', optT_some, cM_ev, vM_ev, vR_some, opM_ev, op1_ok, op1_rse, op2_ok, op2_rse, unM_ev, un1_ok, un1_rse, blT_ev, blR_ok, blR_rse, trT_ev, trR_ok, tru_bl, tru_non, tru_tup, tru_int, andT_ev, and1_true, and1_false, orT_ev, or1_true, or1_false, notT_ev, not1_ok, andM_ev, andV_true, andV_false, orM_ev, orV_true, orV_false, ifM_ev, if1_true, if1_false, chM_ev, ch1_ok, ch2_ok, ch3_true, ch3_false, nilA_ev, consA_ev, con1_ok, con1_rse, con2_ok, tupM_ev, tup1_0, tup1_1, tup1_2, tup1_3, tup1_4, szA_ev, sz1_0, sz1_1, sz1_2, sz1_3, sz1_4, sz1_5, sz1_6, sz1_8, sz1_10, newM_ev, new1_ok, onL_ev, onL1_ok, tupL_ev, clM_ev, cl1_rse, cl1_0, cl1_1, cl1_2, cl1_3, cl1_4, cl1_5, putM_ev, putT_ok, putT2_ok, putT3_ok, putT4_some, augM_ev, augT_some, noO_ev, someO_ev, some1_ok, slM_ev, sl1_ok, sl2_ok, sl3_ok, metM_ev, met0_ev, intD0_ev, add_ii, sub_ii, neg_i, lt_ii, le_ii, gt_ii, ge_ii, isN_ev, notN_ev, num_i, num_b, notD_b, isi_bool_bl, len_tup, len_fz, tup_tup, ix_tup0, ix_tup1, ix_tup2, itM_ev, it1_ok, src_tup, src_fz, src_str, fixC_ev, lvI_ev, lv1_ok, rngI_ev, rg1_ok, forM_ev, for1_ok, turnT_nx, turnT_ct, turnT_bk, turnT_rt, turnT_rse, nmG_ev, tupG_ev, consG_ev, nilG_ev, compM_ev, yesT_ev, fn1_nx, fn1_rt, fn1_rse, eq_ii, eq_bb, max_ii, min_ii, slD_tup, List.getElem?_cons_zero, List.getElem?_cons_succ, List.set_cons_zero, List.set_cons_succ, List.map_cons, List.map_nil, List.length_cons, List.length_nil, List.cons_append, List.nil_append, Option.bind_some, decide_true, decide_false, Bool.not_true, Bool.not_false, ne_ii, ne_bb, forL_nil0, eq_k0 (Nat.le_trans hk1 (by decide))]
        by_cases hkd : kd = []
        · rw [decide_eq_true hkd]
          obtain ⟨d, S4, e4, _, _, c4, k4⟩ := take_gn src (k := k + dep) (many := 3) c3 (by decide) (by decide)
          have q2 : S4[S1.length]? = some (.lst (Fs.map fitD)) := (k4.at_ _ (by omega)).trans r2
          simp only [seqM_ev, thenT_nx, thenT_rt, thenT_bk, thenT_ct, thenT_rse, nopM_ev, brkM_ev, cntM_ev, setM_ev, setT_ok, setT_rse, setLM_ev, setLT_ok, dropM_ev, dropT_ok, dropT_rse, retM_ev, retT_ok, retT_rse, ifS_ev, ifT_true, ifT_false, asgM_ev, asgT_ok', optT_some, cM_ev, vM_ev, vR_some, opM_ev, op1_ok, op1_rse, op2_ok, op2_rse, unM_ev, un1_ok, un1_rse, blT_ev, blR_ok, blR_rse, trT_ev, trR_ok, tru_bl, tru_non, tru_tup, tru_int, andT_ev, and1_true, and1_false, orT_ev, or1_true, or1_false, notT_ev, not1_ok, andM_ev, andV_true, andV_false, orM_ev, orV_true, orV_false, ifM_ev, if1_true, if1_false, chM_ev, ch1_ok, ch2_ok, ch3_true, ch3_false, nilA_ev, consA_ev, con1_ok, con1_rse, con2_ok, tupM_ev, tup1_0, tup1_1, tup1_2, tup1_3, tup1_4, szA_ev, sz1_0, sz1_1, sz1_2, sz1_3, sz1_4, sz1_5, sz1_6, sz1_8, sz1_10, newM_ev, new1_ok, onL_ev, onL1_ok, tupL_ev, clM_ev, cl1_rse, cl1_0, cl1_1, cl1_2, cl1_3, cl1_4, cl1_5, putM_ev, putT_ok, putT2_ok, putT3_ok, putT4_some, augM_ev, augT_some, noO_ev, someO_ev, some1_ok, slM_ev, sl1_ok, sl2_ok, sl3_ok, metM_ev, met0_ev, intD0_ev, add_ii, sub_ii, neg_i, lt_ii, le_ii, gt_ii, ge_ii, isN_ev, notN_ev, num_i, num_b, notD_b, isi_bool_bl, len_tup, len_fz, tup_tup, ix_tup0, ix_tup1, ix_tup2, itM_ev, it1_ok, src_tup, src_fz, src_str, fixC_ev, lvI_ev, lv1_ok, rngI_ev, rg1_ok, forM_ev, for1_ok, turnT_nx, turnT_ct, turnT_bk, turnT_rt, turnT_rse, nmG_ev, tupG_ev, consG_ev, nilG_ev, compM_ev, yesT_ev, fn1_nx, fn1_rt, fn1_rse, eq_ii, eq_bb, max_ii, min_ii, slD_tup, List.getElem?_cons_zero, List.getElem?_cons_succ, List.set_cons_zero, List.set_cons_succ, List.map_cons, List.map_nil, List.length_cons, List.length_nil, List.cons_append, List.nil_append, Option.bind_some, decide_true, decide_false, Bool.not_true, Bool.not_false, ne_ii, ne_bb, forL_nil0, e4]
          by_cases hd0 : d = 0
          · rw [decide_eq_true hd0]
            simp only [seqM_ev, thenT_nx, thenT_rt, thenT_bk, thenT_ct, thenT_rse, nopM_ev, brkM_ev, cntM_ev, setM_ev, setT_ok, setT_rse, setLM_ev, setLT_ok, dropM_ev, dropT_ok, dropT_rse, retM_ev, retT_ok, retT_rse, ifS_ev, ifT_true, ifT_false, asgM_ev, asgT_ok', optT_some, cM_ev, vM_ev, vR_some, opM_ev, op1_ok, op1_rse, op2_ok, op2_rse, unM_ev, un1_ok, un1_rse, blT_ev, blR_ok, blR_rse, trT_ev, trR_ok, tru_bl, tru_non, tru_tup, tru_int, andT_ev, and1_true, and1_false, orT_ev, or1_true, or1_false, notT_ev, not1_ok, andM_ev, andV_true, andV_false, orM_ev, orV_true, orV_false, ifM_ev, if1_true, if1_false, chM_ev, ch1_ok, ch2_ok, ch3_true, ch3_false, nilA_ev, consA_ev, con1_ok, con1_rse, con2_ok, tupM_ev, tup1_0, tup1_1, tup1_2, tup1_3, tup1_4, szA_ev, sz1_0, sz1_1, sz1_2, sz1_3, sz1_4, sz1_5, sz1_6, sz1_8, sz1_10, newM_ev, new1_ok, onL_ev, onL1_ok, tupL_ev, clM_ev, cl1_rse, cl1_0, cl1_1, cl1_2, cl1_3, cl1_4, cl1_5, putM_ev, putT_ok, putT2_ok, putT3_ok, putT4_some, augM_ev, augT_some, noO_ev, someO_ev, some1_ok, slM_ev, sl1_ok, sl2_ok, sl3_ok, metM_ev, met0_ev, intD0_ev, add_ii, sub_ii, neg_i, lt_ii, le_ii, gt_ii, ge_ii, isN_ev, notN_ev, num_i, num_b, notD_b, isi_bool_bl, len_tup, len_fz, tup_tup, ix_tup0, ix_tup1, ix_tup2, itM_ev, it1_ok, src_tup, src_fz, src_str, fixC_ev, lvI_ev, lv1_ok, rngI_ev, rg1_ok, forM_ev, for1_ok, turnT_nx, turnT_ct, turnT_bk, turnT_rt, turnT_rse, nmG_ev, tupG_ev, consG_ev, nilG_ev, compM_ev, yesT_ev, fn1_nx, fn1_rt, fn1_rse, eq_ii, eq_bb, max_ii, min_ii, slD_tup, List.getElem?_cons_zero, List.getElem?_cons_succ, List.set_cons_zero, List.set_cons_succ, List.map_cons, List.map_nil, List.length_cons, List.length_nil, List.cons_append, List.nil_append, Option.bind_some, decide_true, decide_false, Bool.not_true, Bool.not_false, ne_ii, ne_bb, forL_nil0]
            exact ⟨_, _, rfl, Fs, S1.length, x - 1, rfl, q2, r3, hne, by omega, by omega, c4, k3.trans k4.x⟩
          · rw [decide_eq_false hd0]
            have es := smallest0_gn src (k := k + dep + 1) (g := g) (q := .tup (kds ps)) (S := S4)
            rw [show k + dep + 1 + 1 = k + dep + 2 from rfl] at es
            rw [hkd]
            simp only [show kds [] = [] by unfold kds; rfl, seqM_ev, thenT_nx, thenT_rt, thenT_bk, thenT_ct, thenT_rse, nopM_ev, brkM_ev, cntM_ev, setM_ev, setT_ok, setT_rse, setLM_ev, setLT_ok, dropM_ev, dropT_ok, dropT_rse, retM_ev, retT_ok, retT_rse, ifS_ev, ifT_true, ifT_false, asgM_ev, asgT_ok', optT_some, cM_ev, vM_ev, vR_some, opM_ev, op1_ok, op1_rse, op2_ok, op2_rse, unM_ev, un1_ok, un1_rse, blT_ev, blR_ok, blR_rse, trT_ev, trR_ok, tru_bl, tru_non, tru_tup, tru_int, andT_ev, and1_true, and1_false, orT_ev, or1_true, or1_false, notT_ev, not1_ok, andM_ev, andV_true, andV_false, orM_ev, orV_true, orV_false, ifM_ev, if1_true, if1_false, chM_ev, ch1_ok, ch2_ok, ch3_true, ch3_false, nilA_ev, consA_ev, con1_ok, con1_rse, con2_ok, tupM_ev, tup1_0, tup1_1, tup1_2, tup1_3, tup1_4, szA_ev, sz1_0, sz1_1, sz1_2, sz1_3, sz1_4, sz1_5, sz1_6, sz1_8, sz1_10, newM_ev, new1_ok, onL_ev, onL1_ok, tupL_ev, clM_ev, cl1_rse, cl1_0, cl1_1, cl1_2, cl1_3, cl1_4, cl1_5, putM_ev, putT_ok, putT2_ok, putT3_ok, putT4_some, augM_ev, augT_some, noO_ev, someO_ev, some1_ok, slM_ev, sl1_ok, sl2_ok, sl3_ok, metM_ev, met0_ev, intD0_ev, add_ii, sub_ii, neg_i, lt_ii, le_ii, gt_ii, ge_ii, isN_ev, notN_ev, num_i, num_b, notD_b, isi_bool_bl, len_tup, len_fz, tup_tup, ix_tup0, ix_tup1, ix_tup2, itM_ev, it1_ok, src_tup, src_fz, src_str, fixC_ev, lvI_ev, lv1_ok, rngI_ev, rg1_ok, forM_ev, for1_ok, turnT_nx, turnT_ct, turnT_bk, turnT_rt, turnT_rse, nmG_ev, tupG_ev, consG_ev, nilG_ev, compM_ev, yesT_ev, fn1_nx, fn1_rt, fn1_rse, eq_ii, eq_bb, max_ii, min_ii, slD_tup, List.getElem?_cons_zero, List.getElem?_cons_succ, List.set_cons_zero, List.set_cons_succ, List.map_cons, List.map_nil, List.length_cons, List.length_nil, List.cons_append, List.nil_append, Option.bind_some, decide_true, decide_false, Bool.not_true, Bool.not_false, ne_ii, ne_bb, forL_nil0, es, src_lst get_new]
            have hc : cmp1 (.ok ([fitD (.sym, 0, 0)], sameC S4.length [fitD (.sym, 0, 0)]) (S4 ++ [.lst [fitD (.sym, 0, 0)]])) (nmG 10) [10] yesT (vM 10) [some (.obj n), some g, some (.tup (kds ps)), some (.tup []), some (.int (dep : Int)), some (.obj S1.length), y6, y7, y8, y9, none, none] = .ok ([fitD (.sym, 0, 0)].map id) (S4 ++ [.lst [fitD (.sym, 0, 0)]]) :=
              cmp1_map (by simp) (sameC_ev get_new) fun x hx => ⟨_, rfl, by simp [wipeD]⟩
            rw [List.map_id] at hc
            simp only [hc, seqM_ev, thenT_nx, thenT_rt, thenT_bk, thenT_ct, thenT_rse, nopM_ev, brkM_ev, cntM_ev, setM_ev, setT_ok, setT_rse, setLM_ev, setLT_ok, dropM_ev, dropT_ok, dropT_rse, retM_ev, retT_ok, retT_rse, ifS_ev, ifT_true, ifT_false, asgM_ev, asgT_ok', optT_some, cM_ev, vM_ev, vR_some, opM_ev, op1_ok, op1_rse, op2_ok, op2_rse, unM_ev, un1_ok, un1_rse, blT_ev, blR_ok, blR_rse, trT_ev, trR_ok, tru_bl, tru_non, tru_tup, tru_int, andT_ev, and1_true, and1_false, orT_ev, or1_true, or1_false, notT_ev, not1_ok, andM_ev, andV_true, andV_false, orM_ev, orV_true, orV_false, ifM_ev, if1_true, if1_false, chM_ev, ch1_ok, ch2_ok, ch3_true, ch3_false, nilA_ev, consA_ev, con1_ok, con1_rse, con2_ok, tupM_ev, tup1_0, tup1_1, tup1_2, tup1_3, tup1_4, szA_ev, sz1_0, sz1_1, sz1_2, sz1_3, sz1_4, sz1_5, sz1_6, sz1_8, sz1_10, newM_ev, new1_ok, onL_ev, onL1_ok, tupL_ev, clM_ev, cl1_rse, cl1_0, cl1_1, cl1_2, cl1_3, cl1_4, cl1_5, putM_ev, putT_ok, putT2_ok, putT3_ok, putT4_some, augM_ev, augT_some, noO_ev, someO_ev, some1_ok, slM_ev, sl1_ok, sl2_ok, sl3_ok, metM_ev, met0_ev, intD0_ev, add_ii, sub_ii, neg_i, lt_ii, le_ii, gt_ii, ge_ii, isN_ev, notN_ev, num_i, num_b, notD_b, isi_bool_bl, len_tup, len_fz, tup_tup, ix_tup0, ix_tup1, ix_tup2, itM_ev, it1_ok, src_tup, src_fz, src_str, fixC_ev, lvI_ev, lv1_ok, rngI_ev, rg1_ok, forM_ev, for1_ok, turnT_nx, turnT_ct, turnT_bk, turnT_rt, turnT_rse, nmG_ev, tupG_ev, consG_ev, nilG_ev, compM_ev, yesT_ev, fn1_nx, fn1_rt, fn1_rse, eq_ii, eq_bb, max_ii, min_ii, slD_tup, List.getElem?_cons_zero, List.getElem?_cons_succ, List.set_cons_zero, List.set_cons_succ, List.map_cons, List.map_nil, List.length_cons, List.length_nil, List.cons_append, List.nil_append, Option.bind_some, decide_true, decide_false, Bool.not_true, Bool.not_false, ne_ii, ne_bb, forL_nil0]
            have hl4 := lt_of_get q2
            rw [addL_ok (l := Fs.map fitD) (l2 := [fitD (.sym, 0, 0)]) (by rw [get_app (by simp; omega), get_app hl4]; exact q2) get_new (by simp; omega)]
            simp only [seqM_ev, thenT_nx, thenT_rt, thenT_bk, thenT_ct, thenT_rse, nopM_ev, brkM_ev, cntM_ev, setM_ev, setT_ok, setT_rse, setLM_ev, setLT_ok, dropM_ev, dropT_ok, dropT_rse, retM_ev, retT_ok, retT_rse, ifS_ev, ifT_true, ifT_false, asgM_ev, asgT_ok', optT_some, cM_ev, vM_ev, vR_some, opM_ev, op1_ok, op1_rse, op2_ok, op2_rse, unM_ev, un1_ok, un1_rse, blT_ev, blR_ok, blR_rse, trT_ev, trR_ok, tru_bl, tru_non, tru_tup, tru_int, andT_ev, and1_true, and1_false, orT_ev, or1_true, or1_false, notT_ev, not1_ok, andM_ev, andV_true, andV_false, orM_ev, orV_true, orV_false, ifM_ev, if1_true, if1_false, chM_ev, ch1_ok, ch2_ok, ch3_true, ch3_false, nilA_ev, consA_ev, con1_ok, con1_rse, con2_ok, tupM_ev, tup1_0, tup1_1, tup1_2, tup1_3, tup1_4, szA_ev, sz1_0, sz1_1, sz1_2, sz1_3, sz1_4, sz1_5, sz1_6, sz1_8, sz1_10, newM_ev, new1_ok, onL_ev, onL1_ok, tupL_ev, clM_ev, cl1_rse, cl1_0, cl1_1, cl1_2, cl1_3, cl1_4, cl1_5, putM_ev, putT_ok, putT2_ok, putT3_ok, putT4_some, augM_ev, augT_some, noO_ev, someO_ev, some1_ok, slM_ev, sl1_ok, sl2_ok, sl3_ok, metM_ev, met0_ev, intD0_ev, add_ii, sub_ii, neg_i, lt_ii, le_ii, gt_ii, ge_ii, isN_ev, notN_ev, num_i, num_b, notD_b, isi_bool_bl, len_tup, len_fz, tup_tup, ix_tup0, ix_tup1, ix_tup2, itM_ev, it1_ok, src_tup, src_fz, src_str, fixC_ev, lvI_ev, lv1_ok, rngI_ev, rg1_ok, forM_ev, for1_ok, turnT_nx, turnT_ct, turnT_bk, turnT_rt, turnT_rse, nmG_ev, tupG_ev, consG_ev, nilG_ev, compM_ev, yesT_ev, fn1_nx, fn1_rt, fn1_rse, eq_ii, eq_bb, max_ii, min_ii, slD_tup, List.getElem?_cons_zero, List.getElem?_cons_succ, List.set_cons_zero, List.set_cons_succ, List.map_cons, List.map_nil, List.length_cons, List.length_nil, List.cons_append, List.nil_append, Option.bind_some, decide_true, decide_false, Bool.not_true, Bool.not_false, ne_ii, ne_bb, forL_nil0]
            have hn4 := c4.lt
            refine ⟨_, _, rfl, Fs ++ [(.sym, 0, 0)], _, x - 1, rfl, by rw [get_new]; simp, fun q hq => ?_, by simp, by simp; omega, by simp; omega, c4.keep fun i hi => ?_, (k3.trans k4.x).trans (by rw [List.append_assoc, List.append_assoc]; exact Kx.app)⟩
            · rcases List.mem_append.mp hq with hq | hq
              · rw [← hkd]; exact r3 q hq
              · simp at hq
                subst hq
                exact ⟨[], by simp [hk, hs.zero], rfl, .inl rfl⟩
            · rw [get_app (by simp; omega), get_app (by simp; omega), get_app (by omega)]
        · rw [decide_eq_false hkd]
          simp only [seqM_ev, thenT_nx, thenT_rt, thenT_bk, thenT_ct, thenT_rse, nopM_ev, brkM_ev, cntM_ev, setM_ev, setT_ok, setT_rse, setLM_ev, setLT_ok, dropM_ev, dropT_ok, dropT_rse, retM_ev, retT_ok, retT_rse, ifS_ev, ifT_true, ifT_false, asgM_ev, asgT_ok', optT_some, cM_ev, vM_ev, vR_some, opM_ev, op1_ok, op1_rse, op2_ok, op2_rse, unM_ev, un1_ok, un1_rse, blT_ev, blR_ok, blR_rse, trT_ev, trR_ok, tru_bl, tru_non, tru_tup, tru_int, andT_ev, and1_true, and1_false, orT_ev, or1_true, or1_false, notT_ev, not1_ok, andM_ev, andV_true, andV_false, orM_ev, orV_true, orV_false, ifM_ev, if1_true, if1_false, chM_ev, ch1_ok, ch2_ok, ch3_true, ch3_false, nilA_ev, consA_ev, con1_ok, con1_rse, con2_ok, tupM_ev, tup1_0, tup1_1, tup1_2, tup1_3, tup1_4, szA_ev, sz1_0, sz1_1, sz1_2, sz1_3, sz1_4, sz1_5, sz1_6, sz1_8, sz1_10, newM_ev, new1_ok, onL_ev, onL1_ok, tupL_ev, clM_ev, cl1_rse, cl1_0, cl1_1, cl1_2, cl1_3, cl1_4, cl1_5, putM_ev, putT_ok, putT2_ok, putT3_ok, putT4_some, augM_ev, augT_some, noO_ev, someO_ev, some1_ok, slM_ev, sl1_ok, sl2_ok, sl3_ok, metM_ev, met0_ev, intD0_ev, add_ii, sub_ii, neg_i, lt_ii, le_ii, gt_ii, ge_ii, isN_ev, notN_ev, num_i, num_b, notD_b, isi_bool_bl, len_tup, len_fz, tup_tup, ix_tup0, ix_tup1, ix_tup2, itM_ev, it1_ok, src_tup, src_fz, src_str, fixC_ev, lvI_ev, lv1_ok, rngI_ev, rg1_ok, forM_ev, for1_ok, turnT_nx, turnT_ct, turnT_bk, turnT_rt, turnT_rse, nmG_ev, tupG_ev, consG_ev, nilG_ev, compM_ev, yesT_ev, fn1_nx, fn1_rt, fn1_rse, eq_ii, eq_bb, max_ii, min_ii, slD_tup, List.getElem?_cons_zero, List.getElem?_cons_succ, List.set_cons_zero, List.set_cons_succ, List.map_cons, List.map_nil, List.length_cons, List.length_nil, List.cons_append, List.nil_append, Option.bind_some, decide_true, decide_false, Bool.not_true, Bool.not_false, ne_ii, ne_bb, forL_nil0]
          exact ⟨_, _, rfl, Fs, S1.length, x - 1, rfl, r2, r3, hne, by omega, by omega, c3, k3⟩
      · rw [decide_eq_false (show ¬ (dep : Int) = 0 by omega)]
        simp only [seqM_ev, thenT_nx, thenT_rt, thenT_bk, thenT_ct, thenT_rse, nopM_ev, brkM_ev, cntM_ev, setM_ev, setT_ok, setT_rse, setLM_ev, setLT_ok, dropM_ev, dropT_ok, dropT_rse, retM_ev, retT_ok, retT_rse, ifS_ev, ifT_true, ifT_false, asgM_ev, asgT_ok', optT_some, cM_ev, vM_ev, vR_some, opM_ev, op1_ok, op1_rse, op2_ok, op2_rse, unM_ev, un1_ok, un1_rse, blT_ev, blR_ok, blR_rse, trT_ev, trR_ok, tru_bl, tru_non, tru_tup, tru_int, andT_ev, and1_true, and1_false, orT_ev, or1_true, or1_false, notT_ev, not1_ok, andM_ev, andV_true, andV_false, orM_ev, orV_true, orV_false, ifM_ev, if1_true, if1_false, chM_ev, ch1_ok, ch2_ok, ch3_true, ch3_false, nilA_ev, consA_ev, con1_ok, con1_rse, con2_ok, tupM_ev, tup1_0, tup1_1, tup1_2, tup1_3, tup1_4, szA_ev, sz1_0, sz1_1, sz1_2, sz1_3, sz1_4, sz1_5, sz1_6, sz1_8, sz1_10, newM_ev, new1_ok, onL_ev, onL1_ok, tupL_ev, clM_ev, cl1_rse, cl1_0, cl1_1, cl1_2, cl1_3, cl1_4, cl1_5, putM_ev, putT_ok, putT2_ok, putT3_ok, putT4_some, augM_ev, augT_some, noO_ev, someO_ev, some1_ok, slM_ev, sl1_ok, sl2_ok, sl3_ok, metM_ev, met0_ev, intD0_ev, add_ii, sub_ii, neg_i, lt_ii, le_ii, gt_ii, ge_ii, isN_ev, notN_ev, num_i, num_b, notD_b, isi_bool_bl, len_tup, len_fz, tup_tup, ix_tup0, ix_tup1, ix_tup2, itM_ev, it1_ok, src_tup, src_fz, src_str, fixC_ev, lvI_ev, lv1_ok, rngI_ev, rg1_ok, forM_ev, for1_ok, turnT_nx, turnT_ct, turnT_bk, turnT_rt, turnT_rse, nmG_ev, tupG_ev, consG_ev, nilG_ev, compM_ev, yesT_ev, fn1_nx, fn1_rt, fn1_rse, eq_ii, eq_bb, max_ii, min_ii, slD_tup, List.getElem?_cons_zero, List.getElem?_cons_succ, List.set_cons_zero, List.set_cons_succ, List.map_cons, List.map_nil, List.length_cons, List.length_nil, List.cons_append, List.nil_append, Option.bind_some, decide_true, decide_false, Bool.not_true, Bool.not_false, ne_ii, ne_bb, forL_nil0]
        exact ⟨_, _, rfl, Fs, S1.length, x - 1, rfl, r2, r3, hne, by omega, by omega, c3, k3⟩
    · rintro e S4 ⟨Fs, f, x4, rfl, q1, q2, q3, q4, q5, c4, k4⟩
      have hlen : 0 < Fs.length := List.length_pos_iff.mpr q3
      obtain ⟨d, S5, e5, d0, d1, c5, k5⟩ := take_gn src (k := k + dep) (many := (Fs.length : Int)) c4 (by omega) (by omega)
      have q6 : S5[f]? = some (.lst (Fs.map fitD)) := (k5.at_ _ q5).trans q1
      obtain ⟨v, hv, hv2⟩ := atI_at (l := Fs.map fitD) d0 (by simpa using d1)
      rw [List.getElem?_map] at hv2
      obtain ⟨⟨h, i, m⟩, hq, rfl⟩ := Option.map_eq_some_iff.mp hv2
      obtain ⟨ks, g1, g2, g3⟩ := q2 _ (List.mem_of_getElem? hq)
      simp only at g1 g2 g3
      subst g2
      obtain ⟨o1, o2, o3⟩ := hk_good hs hp g1
      have ek := kind_gn src (k := k + dep + 1) (S := S5) hs hg g1
      rw [show k + dep + 1 + 1 = k + dep + 2 from rfl] at ek
      simp only [seqM_ev, thenT_nx, thenT_rt, thenT_bk, thenT_ct, thenT_rse, nopM_ev, brkM_ev, cntM_ev, setM_ev, setT_ok, setT_rse, setLM_ev, setLT_ok, dropM_ev, dropT_ok, dropT_rse, retM_ev, retT_ok, retT_rse, ifS_ev, ifT_true, ifT_false, asgM_ev, asgT_ok', optT_some, cM_ev, vM_ev, vR_some, opM_ev, op1_ok, op1_rse, op2_ok, op2_rse, unM_ev, un1_ok, un1_rse, blT_ev, blR_ok, blR_rse, trT_ev, trR_ok, tru_bl, tru_non, tru_tup, tru_int, andT_ev, and1_true, and1_false, orT_ev, or1_true, or1_false, notT_ev, not1_ok, andM_ev, andV_true, andV_false, orM_ev, orV_true, orV_false, ifM_ev, if1_true, if1_false, chM_ev, ch1_ok, ch2_ok, ch3_true, ch3_false, nilA_ev, consA_ev, con1_ok, con1_rse, con2_ok, tupM_ev, tup1_0, tup1_1, tup1_2, tup1_3, tup1_4, szA_ev, sz1_0, sz1_1, sz1_2, sz1_3, sz1_4, sz1_5, sz1_6, sz1_8, sz1_10, newM_ev, new1_ok, onL_ev, onL1_ok, tupL_ev, clM_ev, cl1_rse, cl1_0, cl1_1, cl1_2, cl1_3, cl1_4, cl1_5, putM_ev, putT_ok, putT2_ok, putT3_ok, putT4_some, augM_ev, augT_some, noO_ev, someO_ev, some1_ok, slM_ev, sl1_ok, sl2_ok, sl3_ok, metM_ev, met0_ev, intD0_ev, add_ii, sub_ii, neg_i, lt_ii, le_ii, gt_ii, ge_ii, isN_ev, notN_ev, num_i, num_b, notD_b, isi_bool_bl, len_tup, len_fz, tup_tup, ix_tup0, ix_tup1, ix_tup2, itM_ev, it1_ok, src_tup, src_fz, src_str, fixC_ev, lvI_ev, lv1_ok, rngI_ev, rg1_ok, forM_ev, for1_ok, turnT_nx, turnT_ct, turnT_bk, turnT_rt, turnT_rse, nmG_ev, tupG_ev, consG_ev, nilG_ev, compM_ev, yesT_ev, fn1_nx, fn1_rt, fn1_rse, eq_ii, eq_bb, max_ii, min_ii, slD_tup, List.getElem?_cons_zero, List.getElem?_cons_succ, List.set_cons_zero, List.set_cons_succ, List.map_cons, List.map_nil, List.length_cons, List.length_nil, List.cons_append, List.nil_append, Option.bind_some, decide_true, decide_false, Bool.not_true, Bool.not_false, ne_ii, ne_bb, forL_nil0, len_lst q1, List.length_map, e5, ix_lst q6 hv]
      simp only [fitD, seqM_ev, thenT_nx, thenT_rt, thenT_bk, thenT_ct, thenT_rse, nopM_ev, brkM_ev, cntM_ev, setM_ev, setT_ok, setT_rse, setLM_ev, setLT_ok, dropM_ev, dropT_ok, dropT_rse, retM_ev, retT_ok, retT_rse, ifS_ev, ifT_true, ifT_false, asgM_ev, asgT_ok', optT_some, cM_ev, vM_ev, vR_some, opM_ev, op1_ok, op1_rse, op2_ok, op2_rse, unM_ev, un1_ok, un1_rse, blT_ev, blR_ok, blR_rse, trT_ev, trR_ok, tru_bl, tru_non, tru_tup, tru_int, andT_ev, and1_true, and1_false, orT_ev, or1_true, or1_false, notT_ev, not1_ok, andM_ev, andV_true, andV_false, orM_ev, orV_true, orV_false, ifM_ev, if1_true, if1_false, chM_ev, ch1_ok, ch2_ok, ch3_true, ch3_false, nilA_ev, consA_ev, con1_ok, con1_rse, con2_ok, tupM_ev, tup1_0, tup1_1, tup1_2, tup1_3, tup1_4, szA_ev, sz1_0, sz1_1, sz1_2, sz1_3, sz1_4, sz1_5, sz1_6, sz1_8, sz1_10, newM_ev, new1_ok, onL_ev, onL1_ok, tupL_ev, clM_ev, cl1_rse, cl1_0, cl1_1, cl1_2, cl1_3, cl1_4, cl1_5, putM_ev, putT_ok, putT2_ok, putT3_ok, putT4_some, augM_ev, augT_some, noO_ev, someO_ev, some1_ok, slM_ev, sl1_ok, sl2_ok, sl3_ok, metM_ev, met0_ev, intD0_ev, add_ii, sub_ii, neg_i, lt_ii, le_ii, gt_ii, ge_ii, isN_ev, notN_ev, num_i, num_b, notD_b, isi_bool_bl, len_tup, len_fz, tup_tup, ix_tup0, ix_tup1, ix_tup2, itM_ev, it1_ok, src_tup, src_fz, src_str, fixC_ev, lvI_ev, lv1_ok, rngI_ev, rg1_ok, forM_ev, for1_ok, turnT_nx, turnT_ct, turnT_bk, turnT_rt, turnT_rse, nmG_ev, tupG_ev, consG_ev, nilG_ev, compM_ev, yesT_ev, fn1_nx, fn1_rt, fn1_rse, eq_ii, eq_bb, max_ii, min_ii, slD_tup, List.getElem?_cons_zero, List.getElem?_cons_succ, List.set_cons_zero, List.set_cons_succ, List.map_cons, List.map_nil, List.length_cons, List.length_nil, List.cons_append, List.nil_append, Option.bind_some, decide_true, decide_false, Bool.not_true, Bool.not_false, ne_ii, ne_bb, forL_nil0, if_true, ek, rng1_nat (show ks.length ≤ 1000000 by simp at o1; omega)]
      obtain ⟨ys, S6, e6, h6, c6, k6⟩ := cmp1_all (chk := fixC) (g := nmG 11) (own := [11]) (a := clM 5 (F (k + dep + 2) .law_term) (consA (vM 0) (consA (vM 1) (consA (vM 2) (consA (opM ixD (vM 8) (vM 11)) (consA (opM max2D (cM (.int 0)) (opM subD (vM 4) (cM (.int 1)))) nilA))))))
        (e := [some (.obj n), some g, some (.tup (kds ps)), some (.tup (kds kd)), some (.int (dep : Int)), some (.obj f), some (.str h.s), some (.int (i : Int)), some (.tup (kds (ks ++ kd))), some (.int (ks.length : Int)), none, none]) (l := upto 0 ks.length) (S := S5) (I := fun S' => (∃ x', CI [.int x'] S' n) ∧ Kx n S4 S')
        (Q := fun z y => ∀ (j : Nat) (kk : Kd), z = .int (j : Int) → ks[j]? = some kk → ∃ t : Tm, y = t.d ∧ HasK s ps t kk.parts ∧ t.dep ≤ dep)
        (by rw [upto_length]; simp at o1; omega) ⟨⟨x4, c5⟩, k5.x⟩ (fun _ _ => rfl) (fun z hz S' hI => by
          obtain ⟨⟨x', c'⟩, k'⟩ := hI
          rw [upto_eq] at hz
          obtain ⟨j, hj, rfl⟩ := List.mem_map.mp hz
          have hj : j < ks.length := by simpa using hj
          obtain ⟨dep', rfl⟩ : ∃ dep', dep = dep' + 1 := ⟨dep - 1, by omega⟩
          have hkk : (ks ++ kd)[j]? = some ks[j] := by rw [List.getElem?_append_left hj]; exact List.getElem?_eq_getElem hj
          have hix : ixD (.tup (kds (ks ++ kd))) (.int (j : Int)) S' = .ok (.tup (kds ks[j].parts)) S' := by
            rw [← Kd.d_eq]
            exact ix_tup (atI_nat (by rw [kds_map, List.getElem?_map, hkk]; rfl))
          have hI2 := o3 _ (List.mem_of_getElem? hkk)
          obtain ⟨w1, w2⟩ := HI.good hs hI2
          obtain ⟨d', S'', e', t, x'', rfl, t1, t2, t3, t4⟩ := ih dep' rfl k ks[j].parts S' n x' w2 w1 hI2 c'
          rw [show k + dep' + 3 = k + (dep' + 1) + 2 by omega] at e'
          refine ⟨_, t.d, S'', rfl, ?_, ?_, ⟨x'', t3⟩, k'.trans t4⟩
          · simp only [wipeD, seqM_ev, thenT_nx, thenT_rt, thenT_bk, thenT_ct, thenT_rse, nopM_ev, brkM_ev, cntM_ev, setM_ev, setT_ok, setT_rse, setLM_ev, setLT_ok, dropM_ev, dropT_ok, dropT_rse, retM_ev, retT_ok, retT_rse, ifS_ev, ifT_true, ifT_false, asgM_ev, asgT_ok', optT_some, cM_ev, vM_ev, vR_some, opM_ev, op1_ok, op1_rse, op2_ok, op2_rse, unM_ev, un1_ok, un1_rse, blT_ev, blR_ok, blR_rse, trT_ev, trR_ok, tru_bl, tru_non, tru_tup, tru_int, andT_ev, and1_true, and1_false, orT_ev, or1_true, or1_false, notT_ev, not1_ok, andM_ev, andV_true, andV_false, orM_ev, orV_true, orV_false, ifM_ev, if1_true, if1_false, chM_ev, ch1_ok, ch2_ok, ch3_true, ch3_false, nilA_ev, consA_ev, con1_ok, con1_rse, con2_ok, tupM_ev, tup1_0, tup1_1, tup1_2, tup1_3, tup1_4, szA_ev, sz1_0, sz1_1, sz1_2, sz1_3, sz1_4, sz1_5, sz1_6, sz1_8, sz1_10, newM_ev, new1_ok, onL_ev, onL1_ok, tupL_ev, clM_ev, cl1_rse, cl1_0, cl1_1, cl1_2, cl1_3, cl1_4, cl1_5, putM_ev, putT_ok, putT2_ok, putT3_ok, putT4_some, augM_ev, augT_some, noO_ev, someO_ev, some1_ok, slM_ev, sl1_ok, sl2_ok, sl3_ok, metM_ev, met0_ev, intD0_ev, add_ii, sub_ii, neg_i, lt_ii, le_ii, gt_ii, ge_ii, isN_ev, notN_ev, num_i, num_b, notD_b, isi_bool_bl, len_tup, len_fz, tup_tup, ix_tup0, ix_tup1, ix_tup2, itM_ev, it1_ok, src_tup, src_fz, src_str, fixC_ev, lvI_ev, lv1_ok, rngI_ev, rg1_ok, forM_ev, for1_ok, turnT_nx, turnT_ct, turnT_bk, turnT_rt, turnT_rse, nmG_ev, tupG_ev, consG_ev, nilG_ev, compM_ev, yesT_ev, fn1_nx, fn1_rt, fn1_rse, eq_ii, eq_bb, max_ii, min_ii, slD_tup, List.getElem?_cons_zero, List.getElem?_cons_succ, List.set_cons_zero, List.set_cons_succ, List.map_cons, List.map_nil, List.length_cons, List.length_nil, List.cons_append, List.nil_append, Option.bind_some, decide_true, decide_false, Bool.not_true, Bool.not_false, ne_ii, ne_bb, forL_nil0, hix, show ((dep' + 1 : Nat) : Int) - 1 = (dep' : Int) by omega, show (if (dep' : Int) > 0 then (dep' : Int) else 0) = (dep' : Int) by split <;> omega, e']
          · intro j' kk hj' hkk'
            have : j' = j := by
              have := D.int.inj hj'
              omega
            subst this
            rw [List.getElem?_eq_getElem hj] at hkk'
            cases hkk'
            exact ⟨t, rfl, t1, t2⟩)
      rw [e6]
      simp only [seqM_ev, thenT_nx, thenT_rt, thenT_bk, thenT_ct, thenT_rse, nopM_ev, brkM_ev, cntM_ev, setM_ev, setT_ok, setT_rse, setLM_ev, setLT_ok, dropM_ev, dropT_ok, dropT_rse, retM_ev, retT_ok, retT_rse, ifS_ev, ifT_true, ifT_false, asgM_ev, asgT_ok', optT_some, cM_ev, vM_ev, vR_some, opM_ev, op1_ok, op1_rse, op2_ok, op2_rse, unM_ev, un1_ok, un1_rse, blT_ev, blR_ok, blR_rse, trT_ev, trR_ok, tru_bl, tru_non, tru_tup, tru_int, andT_ev, and1_true, and1_false, orT_ev, or1_true, or1_false, notT_ev, not1_ok, andM_ev, andV_true, andV_false, orM_ev, orV_true, orV_false, ifM_ev, if1_true, if1_false, chM_ev, ch1_ok, ch2_ok, ch3_true, ch3_false, nilA_ev, consA_ev, con1_ok, con1_rse, con2_ok, tupM_ev, tup1_0, tup1_1, tup1_2, tup1_3, tup1_4, szA_ev, sz1_0, sz1_1, sz1_2, sz1_3, sz1_4, sz1_5, sz1_6, sz1_8, sz1_10, newM_ev, new1_ok, onL_ev, onL1_ok, tupL_ev, clM_ev, cl1_rse, cl1_0, cl1_1, cl1_2, cl1_3, cl1_4, cl1_5, putM_ev, putT_ok, putT2_ok, putT3_ok, putT4_some, augM_ev, augT_some, noO_ev, someO_ev, some1_ok, slM_ev, sl1_ok, sl2_ok, sl3_ok, metM_ev, met0_ev, intD0_ev, add_ii, sub_ii, neg_i, lt_ii, le_ii, gt_ii, ge_ii, isN_ev, notN_ev, num_i, num_b, notD_b, isi_bool_bl, len_tup, len_fz, tup_tup, ix_tup0, ix_tup1, ix_tup2, itM_ev, it1_ok, src_tup, src_fz, src_str, fixC_ev, lvI_ev, lv1_ok, rngI_ev, rg1_ok, forM_ev, for1_ok, turnT_nx, turnT_ct, turnT_bk, turnT_rt, turnT_rse, nmG_ev, tupG_ev, consG_ev, nilG_ev, compM_ev, yesT_ev, fn1_nx, fn1_rt, fn1_rse, eq_ii, eq_bb, max_ii, min_ii, slD_tup, List.getElem?_cons_zero, List.getElem?_cons_succ, List.set_cons_zero, List.set_cons_succ, List.map_cons, List.map_nil, List.length_cons, List.length_nil, List.cons_append, List.nil_append, Option.bind_some, decide_true, decide_false, Bool.not_true, Bool.not_false, ne_ii, ne_bb, forL_nil0]
      have hl6 := h6.length
      rw [upto_length] at hl6
      have h7 : All2 (fun (kk : Kd) y => ∃ t : Tm, y = t.d ∧ HasK s ps t kk.parts ∧ t.dep ≤ dep) ks ys := all2_of_get hl6 fun j kk y hj hy => by
        obtain ⟨z, hz, hQ⟩ := h6.get' hy
        have hjl : j < ks.length := (List.getElem?_eq_some_iff.mp hj).1
        rw [upto_get hjl] at hz
        cases hz
        exact hQ j kk (by simp) hj
      obtain ⟨ts, rfl, t1, t2⟩ := hasKs_of h7
      exact ⟨_, _, rfl, .mk h i ts, _, by unfold Tm.d; rfl, .mk g1 t1, by unfold Tm.dep; omega, c6.choose_spec, k4.trans k6⟩
  intro dep
  refine Nat.rec (motive := fun dep => ∀ (k : Nat) (kd : List Kd) (S : Sto) (n : Nat) (x : Int), kdeps kd ≤ 50 → kd.length ≤ 100 → HI s kd → CI [.int x] S n →
    Ends (F (k + dep + 3) .law_term [.obj n, g, .tup (kds ps), .tup (kds kd), .int (dep : Int)] S) (TermQ s ps kd dep n S)) ?zero ?succ dep
  · exact step 0 fun _ h => by omega
  · exact fun dep ih => step (dep + 1) fun dep' h => by
      have : dep' = dep := by omega
      subst this
      exact ih
end
end L3

/-! L3M: the grammar that the laws draw. -/
namespace L3
open PySem PySem.Spec L2
abbrev kO : Kd := .mk []
def symD (p : Str × Nat) : D := .tup [.str p.1, .int (p.2 : Int)]
def fnD0 (p : Str × List Kd) : D := .tup [.str p.1, .tup (kds p.2), .non]
def fnD (p : Str × List Kd × Tm) : D := .tup [.str p.1, .tup (kds p.2.1), p.2.2.d]
structure Gr where
  syms : List (Str × Nat)
  funs : List (Str × List Kd × Tm)
def Gr.d (g : Gr) : D := .tup [.tup (g.syms.map symD), .tup (g.funs.map fnD)]
def Gr.sig (g : Gr) : Sig := ⟨g.syms.map (·.2), g.funs.map (·.2.1)⟩
def grSyms (a t : Bool) (e : Option Nat) : List (Str × Nat) := [(Str.ofString "end", 0), (Str.ofString "b", 1)] ++ (if a then (Str.ofString "a", 2) :: (if t then [(Str.ofString "t", 3)] else []) else []) ++ (match e with | some r => [(Str.ofString "e2", r)] | none => [])
def grNames (m : Nat) (high : Bool) : List Str := Str.ofString "S" :: (List.range m).map (fun (k : Nat) => Str.ofString "F" ++ Str.ofString (toString (k : Int))) ++ (if high then [Str.ofString "H"] else [])
def menuL (a h : Bool) : List (List Kd) := [if h then [.mk [kO]] else [], [], [kO], [], if a then [kO, kO] else [kO], []]
def MenuK (a h : Bool) (l : List Kd) : Prop := l ∈ menuL a h
def kD (l : List Kd) : D := .tup (kds l)
structure GrOk (g : Gr) : Prop where
  sig : SigOk g.sig
  par : ∀ f ∈ g.funs, ParOk g.sig f.2.1
  body : ∀ f ∈ g.funs, HasK g.sig f.2.1 f.2.2 []
  dep : ∀ f ∈ g.funs, f.2.2.dep ≤ 5
  start : ∃ t, g.funs[0]? = some (Str.ofString "S", [], t)
  many : ∀ f ∈ g.funs, f.2.1.length ≤ 5
  syms : ∃ a t e, g.syms = grSyms a t e ∧ ∀ r, e = some r → r ≤ 1
  names : ∃ m high, m ≤ 7 ∧ g.funs.map (·.1) = grNames m high
theorem Gr.gd (g : Gr) : GD g.sig g.d := ⟨_, _, rfl, all2_of_get (by simp [Gr.sig]) fun i a b h1 h2 => by
    rw [List.getElem?_map] at h1
    obtain ⟨p, e, rfl⟩ := Option.map_eq_some_iff.mp h1
    simp only [Gr.sig, List.getElem?_map, e, Option.map_some, Option.some.injEq] at h2
    subst h2
    exact ⟨p.1, rfl⟩, all2_of_get (by simp [Gr.sig]) fun i a b h1 h2 => by
    rw [List.getElem?_map] at h1
    obtain ⟨p, e, rfl⟩ := Option.map_eq_some_iff.mp h1
    simp only [Gr.sig, List.getElem?_map, e, Option.map_some, Option.some.injEq] at h2
    subst h2
    exact ⟨p.1, p.2.2.d, rfl⟩⟩
/-! ### the kinds of the menu are had by heads -/
structure SigM (a h : Bool) (s : Sig) : Prop where
  syms : ∃ t e, s.ranks = (grSyms a t e).map (·.2) ∧ ∀ r, e = some r → r ≤ 1
  funs : ∀ f ∈ s.funs, f.length ≤ 5 ∧ ∀ x ∈ f, MenuK a h x.parts
  high : h = true → ∃ n : Nat, s.funs[n]? = some [.mk [kO]]
  many : s.funs.length ≤ 20
theorem SigM.r0 {a h : Bool} {s : Sig} (m : SigM a h s) : s.ranks[0]? = some 0 := by
  obtain ⟨t, e, h1, _⟩ := m.syms
  rw [h1]
  cases a <;> rfl
theorem SigM.r1 {a h : Bool} {s : Sig} (m : SigM a h s) : s.ranks[1]? = some 1 := by
  obtain ⟨t, e, h1, _⟩ := m.syms
  rw [h1]
  cases a <;> rfl
theorem SigM.r2 {h : Bool} {s : Sig} (m : SigM true h s) : s.ranks[2]? = some 2 := by
  obtain ⟨t, e, h1, _⟩ := m.syms
  rw [h1]
  rfl
theorem hi_nil {a h : Bool} {s : Sig} (m : SigM a h s) : HI s [] := .mk ⟨.sym, 0, by decide, by simp [hk, m.r0]⟩ (by simp)
theorem hi_o {a h : Bool} {s : Sig} (m : SigM a h s) : HI s [kO] := .mk ⟨.sym, 1, by decide, by simp [hk, m.r1]⟩ (by simp only [List.mem_singleton]; rintro _ rfl; exact hi_nil m)
theorem hi_menu {a h : Bool} {s : Sig} (m : SigM a h s) {l : List Kd} (hl : MenuK a h l) : HI s l := by
  simp only [MenuK, menuL, List.mem_cons, List.not_mem_nil, or_false] at hl
  rcases hl with hl | hl | hl | hl | hl | hl
  · cases h with
    | false => subst hl; exact hi_nil m
    | true =>
      subst hl
      obtain ⟨n, hn⟩ := m.high rfl
      exact .mk ⟨.fn, n, by decide, hn⟩ (by simp only [if_true, List.mem_singleton]; rintro _ rfl; exact hi_o m)
  · subst hl; exact hi_nil m
  · subst hl; exact hi_o m
  · subst hl; exact hi_nil m
  · cases a with
    | false => subst hl; exact hi_o m
    | true =>
      subst hl
      exact .mk ⟨.sym, 2, by decide, by simp [hk, m.r2]⟩ (by simp only [if_true, List.mem_cons, List.not_mem_nil, or_false]; rintro _ (rfl | rfl) <;> exact hi_nil m)
  · subst hl; exact hi_nil m
theorem menu_dep {a h : Bool} {l : List Kd} (hl : MenuK a h l) : kdeps l ≤ 3 ∧ l.length ≤ 2 := by
  simp only [MenuK, menuL, List.mem_cons, List.not_mem_nil, or_false] at hl
  rcases hl with hl | hl | hl | hl | hl | hl <;> subst hl <;> first
    | (cases h <;> simp [kdeps, Kd.dep])
    | (cases a <;> simp [kdeps, Kd.dep])
theorem kd_parts (x : Kd) : x = .mk x.parts := by cases x; rfl
theorem kd_dep {x : Kd} {n : Nat} (h : kdeps x.parts ≤ n) : x.dep ≤ n + 1 := by
  cases x with
  | mk l =>
    have : kdeps l ≤ n := h
    unfold Kd.dep
    omega
theorem sig_ok {a h : Bool} {s : Sig} (m : SigM a h s) : SigOk s where
  zero := m.r0
  rank := by
    obtain ⟨t, e, h1, h2⟩ := m.syms
    rw [h1]
    intro r hr
    cases e with
    | none => cases a <;> cases t <;> simp [grSyms] at hr <;> omega
    | some q =>
      have := h2 q rfl
      cases a <;> cases t <;> simp [grSyms] at hr <;> omega
  many := by
    obtain ⟨t, e, h1, h2⟩ := m.syms
    refine ⟨?_, by have := m.many; omega⟩
    rw [h1]
    cases a <;> cases t <;> cases e <;> simp [grSyms]
  funs := fun f hf => by
    obtain ⟨h1, h2⟩ := m.funs f hf
    exact ⟨by omega, kdeps_le.mpr fun x hx => Nat.le_trans (kd_dep (menu_dep (h2 x hx)).1) (by decide), fun x hx => hi_menu m (h2 x hx)⟩
theorem par_okM {a h : Bool} {s : Sig} (m : SigM a h s) {f : List Kd} (h1 : f.length ≤ 5) (h2 : ∀ x ∈ f, MenuK a h x.parts) : ParOk s f :=
  ⟨by omega, fun x hx => ⟨hi_menu m (h2 x hx), Nat.le_trans (kd_dep (menu_dep (h2 x hx)).1) (by decide), Nat.le_trans (menu_dep (h2 x hx)).2 (by decide)⟩⟩
/-! ### the drawing -/
section
variable {F : Nat → GN → List D → Sto → Rs D}
/-- the objects of the drawing: the source n, symbols A, menu B, functions C -/
structure Gs (n A B : Nat) (a h : Bool) (sy : List (Str × Nat)) (S0 S : Sto) : Prop where
  ci : ∃ x, CI [.int x] S n
  kx : Kx n S0 S
  sA : S[A]? = some (.lst (sy.map symD))
  sB : S[B]? = some (.lst ((menuL a h).map kD))
  nA : n < A ∧ n < B ∧ A ≠ B ∧ S0.length ≤ A ∧ S0.length ≤ B
theorem Gs.take {n A B : Nat} {a h : Bool} {sy : List (Str × Nat)} {S0 S : Sto} (src : GNSrc F) (q : Gs n A B a h sy S0 S) {k : Nat} {many : Int} (h0 : 0 < many) (h1 : many < 1073741824) :
    ∃ d S', F (k + 2) .law_take [.obj n, .int many] S = .ok (.int d) S' ∧ 0 ≤ d ∧ d < many ∧ Gs n A B a h sy S0 S' ∧ Kp n S S' := by
  obtain ⟨x, c⟩ := q.ci
  obtain ⟨d, S', e, d0, d1, c', k'⟩ := take_gn src (k := k) c h0 h1
  exact ⟨d, S', e, d0, d1, ⟨⟨x, c'⟩, q.kx.trans k'.x, (k'.at_ _ (Nat.ne_of_gt q.nA.1)).trans q.sA, (k'.at_ _ (Nat.ne_of_gt q.nA.2.1)).trans q.sB, q.nA⟩, k'⟩
/-- other things change -/
theorem Gs.keep {n A B : Nat} {a h : Bool} {sy : List (Str × Nat)} {S0 S S' : Sto} (q : Gs n A B a h sy S0 S) (k : ∀ i, i ≤ n ∨ i = A ∨ i = B → S'[i]? = S[i]?) (kx : Kx n S0 S') : Gs n A B a h sy S0 S' := by
  obtain ⟨x, c⟩ := q.ci
  exact ⟨⟨x, c.keep fun i hi => k i (.inl hi)⟩, kx, (k _ (.inr (.inl rfl))).trans q.sA, (k _ (.inr (.inr rfl))).trans q.sB, q.nA⟩
theorem kx_set {n m : Nat} {S0 S : Sto} {o : O} (h : Kx n S0 S) (hm : S0.length ≤ m) : Kx n S0 (S.set m o) := ⟨by simpa using h.le, fun i hi ne => (get_set' (by omega)).trans (h.at_ i hi ne)⟩
theorem Gs.setA {n A B : Nat} {a h : Bool} {sy sy' : List (Str × Nat)} {S0 S : Sto} (q : Gs n A B a h sy S0 S) : Gs n A B a h sy' S0 (S.set A (.lst (sy'.map symD))) := by
  obtain ⟨x, c⟩ := q.ci
  obtain ⟨n1, n2, n3, n4, n5⟩ := q.nA
  exact ⟨⟨x, c.keep fun i hi => get_set' (by omega)⟩, kx_set q.kx n4, get_set (lt_of_get q.sA), (get_set' n3).trans q.sB, q.nA⟩
theorem Gs.setB {n A B : Nat} {a h a' h' : Bool} {sy : List (Str × Nat)} {S0 S : Sto} (q : Gs n A B a h sy S0 S) {l : List D} (e : l = (menuL a' h').map kD) : Gs n A B a' h' sy S0 (S.set B (.lst l)) := by
  obtain ⟨x, c⟩ := q.ci
  obtain ⟨n1, n2, n3, n4, n5⟩ := q.nA
  subst e
  exact ⟨⟨x, c.keep fun i hi => get_set' (by omega)⟩, kx_set q.kx n5, (get_set' (Ne.symm n3)).trans q.sA, get_set (lt_of_get q.sB), q.nA⟩
theorem Gs.app {n A B : Nat} {a h : Bool} {sy : List (Str × Nat)} {S0 S T : Sto} (q : Gs n A B a h sy S0 S) : Gs n A B a h sy S0 (S ++ T) := by
  obtain ⟨x, c⟩ := q.ci
  have h1 := lt_of_get q.sA
  have h2 := lt_of_get q.sB
  have h3 := q.nA
  exact q.keep (fun i hi => get_app (by omega)) (q.kx.trans Kx.app)
/-- appended to a list -/
theorem app_lst {S : Sto} {m : Nat} {α : Type} {f : α → D} {l : List α} {x : α} {d : D} (h : S[m]? = some (.lst (l.map f))) (hz : l.length ≤ 1000000) (hd : d = f x) : appD (.obj m) d S = .ok .non (S.set m (.lst ((l ++ [x]).map f))) := by
  rw [app_ok h (by simpa using hz), hd]
  simp
structure Gf (n A B C : Nat) (a h : Bool) (sy : List (Str × Nat)) (fs : List (Str × List Kd)) (S0 S : Sto) : Prop where
  gs : Gs n A B a h sy S0 S
  sC : S[C]? = some (.lst (fs.map fnD0))
  nC : n < C ∧ C ≠ A ∧ C ≠ B ∧ S0.length ≤ C
theorem Gf.take {n A B C : Nat} {a h : Bool} {sy : List (Str × Nat)} {fs : List (Str × List Kd)} {S0 S : Sto} (src : GNSrc F) (q : Gf n A B C a h sy fs S0 S) {k : Nat} {many : Int} (h0 : 0 < many) (h1 : many < 1073741824) :
    ∃ d S', F (k + 2) .law_take [.obj n, .int many] S = .ok (.int d) S' ∧ 0 ≤ d ∧ d < many ∧ Gf n A B C a h sy fs S0 S' ∧ Kp n S S' := by
  obtain ⟨d, S', e, d0, d1, g, k'⟩ := q.gs.take src (k := k) h0 h1
  exact ⟨d, S', e, d0, d1, ⟨g, (k'.at_ _ (Nat.ne_of_gt q.nC.1)).trans q.sC, q.nC⟩, k'⟩
theorem Gf.app {n A B C : Nat} {a h : Bool} {sy : List (Str × Nat)} {fs : List (Str × List Kd)} {S0 S T : Sto} (q : Gf n A B C a h sy fs S0 S) : Gf n A B C a h sy fs S0 (S ++ T) :=
  ⟨q.gs.app, (get_app (lt_of_get q.sC)).trans q.sC, q.nC⟩
theorem Gf.setC {n A B C : Nat} {a h : Bool} {sy : List (Str × Nat)} {fs fs' : List (Str × List Kd)} {S0 S : Sto} (q : Gf n A B C a h sy fs S0 S) : Gf n A B C a h sy fs' S0 (S.set C (.lst (fs'.map fnD0))) := by
  obtain ⟨n1, n2, n3, n4⟩ := q.nC
  exact ⟨q.gs.keep (fun i hi => get_set' (by omega)) (kx_set q.gs.kx n4), get_set (lt_of_get q.sC), q.nC⟩
theorem kinds_of {P : List Kd → Prop} {zs ys : List D} (h : All2 (fun _ y => ∃ l, y = kD l ∧ P l) zs ys) : ∃ ks : List Kd, ys = kds ks ∧ (∀ x ∈ ks, P x.parts) ∧ ks.length = zs.length := by
  induction h with
  | nil => exact ⟨[], by unfold kds; rfl, by simp, rfl⟩
  | cons r _ ih =>
    obtain ⟨l, rfl, hl⟩ := r
    obtain ⟨ks, rfl, h1, h2⟩ := ih
    refine ⟨.mk l :: ks, by conv => rhs; unfold kds
                            unfold Kd.d kD; rfl, fun x hx => ?_, by simp [h2]⟩
    rcases List.mem_cons.mp hx with rfl | hx
    · exact hl
    · exact h1 x hx
theorem str_small : ∀ i : Nat, i < 8 → (Str.ofString (toString (i : Int))).length ≤ 100 ∧ PyData.strOk (Str.ofString (toString (i : Int))) = true := by decide +kernel
theorem str_i {i : Nat} (h : i < 1000) {S : Sto} : strD (.int (i : Int)) S = .ok (.str (Str.ofString (toString (i : Int)))) S := by
  unfold strD
  dsimp only
  rw [if_pos]
  have : (i : Int).natAbs = i := by simp
  rw [this]
  by_cases h0 : i = 0
  · subst h0; decide
  · have := Nat.log2_lt (n := i) (k := 10) h0
    have : i.log2 < 10 := this.mpr (by omega)
    omega
theorem gram_loop1 (src : GNSrc F) {k n A B C : Nat} {a h : Bool} {sy : List (Str × Nat)} {S0 S : Sto} {m : Nat} (hm : m ≤ 7) (q : Gf n A B C a h sy [(Str.ofString "S", [])] S0 S) :
    ∃ e' S', forL fixC (nmG 5) (GN_law_grammar_l1 (F (k + 2))) (upto 0 m) [some (.obj n), some (.obj A), some (.obj B), some (.obj C), some (.bl h), none, none, none, none, none, none, none] S = .nx e' S' ∧
      ∃ fs y5 y6, e' = [some (.obj n), some (.obj A), some (.obj B), some (.obj C), some (.bl h), y5, y6, none, none, none, none, none] ∧ Gf n A B C a h sy fs S0 S' ∧ (∀ f ∈ fs, f.2.length ≤ 5 ∧ ∀ x ∈ f.2, MenuK a h x.parts) ∧ fs.map (·.1) = grNames m false ∧ fs[0]? = some (Str.ofString "S", []) := by
  have key := for_idx (chk := fixC) (g := nmG 5) (b := GN_law_grammar_l1 (F (k + 2))) (l := upto 0 m) (e := [some (.obj n), some (.obj A), some (.obj B), some (.obj C), some (.bl h), none, none, none, none, none, none, none]) (S := S)
    (I := fun i e' S' => i ≤ m ∧ ∃ fs y5 y6, e' = [some (.obj n), some (.obj A), some (.obj B), some (.obj C), some (.bl h), y5, y6, none, none, none, none, none] ∧ Gf n A B C a h sy fs S0 S' ∧ (∀ f ∈ fs, f.2.length ≤ 5 ∧ ∀ x ∈ f.2, MenuK a h x.parts) ∧ fs.map (·.1) = grNames i false ∧ fs[0]? = some (Str.ofString "S", []))
    (fun _ _ _ _ => rfl) ⟨Nat.zero_le _, [(Str.ofString "S", [])], none, none, rfl, q, by simp, rfl, rfl⟩ ?_
  · obtain ⟨e', S', h1, h2⟩ := key
    rw [upto_length] at h2
    exact ⟨e', S', h1, h2.2⟩
  rintro i x _ S1 hx ⟨him, fs, y5, y6, rfl, q1, hf, hnm, hz⟩
  have hi : i < m := by
    have := (List.getElem?_eq_some_iff.mp hx).1
    rwa [upto_length] at this
  rw [upto_get hi] at hx
  cases hx
  have hlen : fs.length = i + 1 := by
    have := congrArg List.length hnm
    simpa [grNames] using this
  rw [show (0 : Int) + (i : Int) = (i : Int) by omega]
  -- how many parameters
  obtain ⟨d2, S2, e2, d20, d21, q2, kp2⟩ := (q1.app (T := [.lst ([1, 2, 1, 2, 0, 3, 1, 5].map D.int)])).take src (k := k) (many := 8) (by decide) (by decide)
  simp only [seqM_ev, thenT_nx, thenT_rt, thenT_bk, thenT_ct, thenT_rse, nopM_ev, brkM_ev, cntM_ev, setM_ev, setT_ok, setT_rse, setLM_ev, setLT_ok, dropM_ev, dropT_ok, dropT_rse, retM_ev, retT_ok, retT_rse, ifS_ev, ifT_true, ifT_false, asgM_ev, asgT_ok', optT_some, cM_ev, vM_ev, vR_some, opM_ev, op1_ok, op1_rse, op2_ok, op2_rse, unM_ev, un1_ok, un1_rse, blT_ev, blR_ok, blR_rse, trT_ev, trR_ok, tru_bl, tru_non, tru_tup, tru_int, andT_ev, and1_true, and1_false, orT_ev, or1_true, or1_false, notT_ev, not1_ok, andM_ev, andV_true, andV_false, orM_ev, orV_true, orV_false, ifM_ev, if1_true, if1_false, chM_ev, ch1_ok, ch2_ok, ch3_true, ch3_false, nilA_ev, consA_ev, con1_ok, con1_rse, con2_ok, tupM_ev, tup1_0, tup1_1, tup1_2, tup1_3, tup1_4, szA_ev, sz1_0, sz1_1, sz1_2, sz1_3, sz1_4, sz1_5, sz1_6, sz1_8, sz1_10, newM_ev, new1_ok, onL_ev, onL1_ok, tupL_ev, clM_ev, cl1_rse, cl1_0, cl1_1, cl1_2, cl1_3, cl1_4, cl1_5, putM_ev, putT_ok, putT2_ok, putT3_ok, putT4_some, augM_ev, augT_some, noO_ev, someO_ev, some1_ok, slM_ev, sl1_ok, sl2_ok, sl3_ok, metM_ev, met0_ev, intD0_ev, add_ii, sub_ii, neg_i, lt_ii, le_ii, gt_ii, ge_ii, isN_ev, notN_ev, num_i, num_b, notD_b, isi_bool_bl, len_tup, len_fz, tup_tup, ix_tup0, ix_tup1, ix_tup2, itM_ev, it1_ok, src_tup, src_fz, src_str, fixC_ev, lvI_ev, lv1_ok, rngI_ev, rg1_ok, forM_ev, for1_ok, turnT_nx, turnT_ct, turnT_bk, turnT_rt, turnT_rse, nmG_ev, tupG_ev, consG_ev, nilG_ev, compM_ev, yesT_ev, fn1_nx, fn1_rt, fn1_rse, eq_ii, eq_bb, max_ii, min_ii, slD_tup, List.getElem?_cons_zero, List.getElem?_cons_succ, List.set_cons_zero, List.set_cons_succ, List.map_cons, List.map_nil, List.length_cons, List.length_nil, List.cons_append, List.nil_append, Option.bind_some, decide_true, decide_false, Bool.not_true, Bool.not_false, ne_ii, ne_bb, forL_nil0] at e2
  have g2 : S2[S1.length]? = some (.lst ([1, 2, 1, 2, 0, 3, 1, 5].map D.int)) := (kp2.at_ _ (by have := q1.gs.ci.choose_spec.lt; omega)).trans get_new
  obtain ⟨mm, hm1, hm2⟩ := pick_int (l := [1, 2, 1, 2, 0, 3, 1, 5]) (m := 5) d20 (by simpa using d21) (by decide)
  simp only [seqM_ev, thenT_nx, thenT_rt, thenT_bk, thenT_ct, thenT_rse, nopM_ev, brkM_ev, cntM_ev, setM_ev, setT_ok, setT_rse, setLM_ev, setLT_ok, dropM_ev, dropT_ok, dropT_rse, retM_ev, retT_ok, retT_rse, ifS_ev, ifT_true, ifT_false, asgM_ev, asgT_ok', optT_some, cM_ev, vM_ev, vR_some, opM_ev, op1_ok, op1_rse, op2_ok, op2_rse, unM_ev, un1_ok, un1_rse, blT_ev, blR_ok, blR_rse, trT_ev, trR_ok, tru_bl, tru_non, tru_tup, tru_int, andT_ev, and1_true, and1_false, orT_ev, or1_true, or1_false, notT_ev, not1_ok, andM_ev, andV_true, andV_false, orM_ev, orV_true, orV_false, ifM_ev, if1_true, if1_false, chM_ev, ch1_ok, ch2_ok, ch3_true, ch3_false, nilA_ev, consA_ev, con1_ok, con1_rse, con2_ok, tupM_ev, tup1_0, tup1_1, tup1_2, tup1_3, tup1_4, szA_ev, sz1_0, sz1_1, sz1_2, sz1_3, sz1_4, sz1_5, sz1_6, sz1_8, sz1_10, newM_ev, new1_ok, onL_ev, onL1_ok, tupL_ev, clM_ev, cl1_rse, cl1_0, cl1_1, cl1_2, cl1_3, cl1_4, cl1_5, putM_ev, putT_ok, putT2_ok, putT3_ok, putT4_some, augM_ev, augT_some, noO_ev, someO_ev, some1_ok, slM_ev, sl1_ok, sl2_ok, sl3_ok, metM_ev, met0_ev, intD0_ev, add_ii, sub_ii, neg_i, lt_ii, le_ii, gt_ii, ge_ii, isN_ev, notN_ev, num_i, num_b, notD_b, isi_bool_bl, len_tup, len_fz, tup_tup, ix_tup0, ix_tup1, ix_tup2, itM_ev, it1_ok, src_tup, src_fz, src_str, fixC_ev, lvI_ev, lv1_ok, rngI_ev, rg1_ok, forM_ev, for1_ok, turnT_nx, turnT_ct, turnT_bk, turnT_rt, turnT_rse, nmG_ev, tupG_ev, consG_ev, nilG_ev, compM_ev, yesT_ev, fn1_nx, fn1_rt, fn1_rse, eq_ii, eq_bb, max_ii, min_ii, slD_tup, List.getElem?_cons_zero, List.getElem?_cons_succ, List.set_cons_zero, List.set_cons_succ, List.map_cons, List.map_nil, List.length_cons, List.length_nil, List.cons_append, List.nil_append, Option.bind_some, decide_true, decide_false, Bool.not_true, Bool.not_false, ne_ii, ne_bb, forL_nil0] at g2 hm1
  -- their kinds
  obtain ⟨ys, S3, e3, h3, q3⟩ := cmp1_all (chk := fixC) (g := nmG 11) (own := [11]) (a := opM ixD (vM 2) (clM 2 (F (k + 2) .law_take) (consA (vM 0) (consA (cM (.int 6)) nilA))))
    (e := [some (.obj n), some (.obj A), some (.obj B), some (.obj C), some (.bl h), some (.int (i : Int)), y6, none, none, none, none, none]) (l := upto 0 mm) (S := S2) (I := fun S' => Gf n A B C a h sy fs S0 S')
    (Q := fun _ y => ∃ l, y = kD l ∧ MenuK a h l) (by rw [upto_length]; omega) q2 (fun _ _ => rfl) (fun z hz S' hI => by
      obtain ⟨d4, S4, e4, d40, d41, q4, kp4⟩ := hI.take src (k := k) (many := 6) (by decide) (by decide)
      obtain ⟨v, hv, hv2⟩ := atI_at (l := (menuL a h).map kD) d40 (by simpa [menuL] using d41)
      rw [List.getElem?_map] at hv2
      obtain ⟨l, hl, rfl⟩ := Option.map_eq_some_iff.mp hv2
      refine ⟨_, kD l, S4, rfl, ?_, ⟨l, rfl, List.mem_of_getElem? hl⟩, q4⟩
      simp only [wipeD, seqM_ev, thenT_nx, thenT_rt, thenT_bk, thenT_ct, thenT_rse, nopM_ev, brkM_ev, cntM_ev, setM_ev, setT_ok, setT_rse, setLM_ev, setLT_ok, dropM_ev, dropT_ok, dropT_rse, retM_ev, retT_ok, retT_rse, ifS_ev, ifT_true, ifT_false, asgM_ev, asgT_ok', optT_some, cM_ev, vM_ev, vR_some, opM_ev, op1_ok, op1_rse, op2_ok, op2_rse, unM_ev, un1_ok, un1_rse, blT_ev, blR_ok, blR_rse, trT_ev, trR_ok, tru_bl, tru_non, tru_tup, tru_int, andT_ev, and1_true, and1_false, orT_ev, or1_true, or1_false, notT_ev, not1_ok, andM_ev, andV_true, andV_false, orM_ev, orV_true, orV_false, ifM_ev, if1_true, if1_false, chM_ev, ch1_ok, ch2_ok, ch3_true, ch3_false, nilA_ev, consA_ev, con1_ok, con1_rse, con2_ok, tupM_ev, tup1_0, tup1_1, tup1_2, tup1_3, tup1_4, szA_ev, sz1_0, sz1_1, sz1_2, sz1_3, sz1_4, sz1_5, sz1_6, sz1_8, sz1_10, newM_ev, new1_ok, onL_ev, onL1_ok, tupL_ev, clM_ev, cl1_rse, cl1_0, cl1_1, cl1_2, cl1_3, cl1_4, cl1_5, putM_ev, putT_ok, putT2_ok, putT3_ok, putT4_some, augM_ev, augT_some, noO_ev, someO_ev, some1_ok, slM_ev, sl1_ok, sl2_ok, sl3_ok, metM_ev, met0_ev, intD0_ev, add_ii, sub_ii, neg_i, lt_ii, le_ii, gt_ii, ge_ii, isN_ev, notN_ev, num_i, num_b, notD_b, isi_bool_bl, len_tup, len_fz, tup_tup, ix_tup0, ix_tup1, ix_tup2, itM_ev, it1_ok, src_tup, src_fz, src_str, fixC_ev, lvI_ev, lv1_ok, rngI_ev, rg1_ok, forM_ev, for1_ok, turnT_nx, turnT_ct, turnT_bk, turnT_rt, turnT_rse, nmG_ev, tupG_ev, consG_ev, nilG_ev, compM_ev, yesT_ev, fn1_nx, fn1_rt, fn1_rse, eq_ii, eq_bb, max_ii, min_ii, slD_tup, List.getElem?_cons_zero, List.getElem?_cons_succ, List.set_cons_zero, List.set_cons_succ, List.map_cons, List.map_nil, List.length_cons, List.length_nil, List.cons_append, List.nil_append, Option.bind_some, decide_true, decide_false, Bool.not_true, Bool.not_false, ne_ii, ne_bb, forL_nil0, e4, ix_lst q4.gs.sB hv])
  obtain ⟨ks, rfl, hk1, hk2⟩ := kinds_of h3
  rw [upto_length] at hk2
  have hs8 := str_small i (by omega)
  have hF : (Str.ofString "F").length ≤ 10 := by decide
  have hsz : (Str.ofString "F").length + (Str.ofString (toString (i : Int))).length ≤ 1000000 := by omega
  have eB : GN_law_grammar_l1 (F (k + 2)) [some (.obj n), some (.obj A), some (.obj B), some (.obj C), some (.bl h), some (.int (i : Int)), y6, none, none, none, none, none] S1 =
      .nx [some (.obj n), some (.obj A), some (.obj B), some (.obj C), some (.bl h), some (.int (i : Int)), some (.tup (kds ks)), none, none, none, none, none] (S3.set C (.lst ((fs ++ [(Str.ofString "F" ++ Str.ofString (toString (i : Int)), ks)]).map fnD0))) := by
    simp only [seqM_ev, thenT_nx, thenT_rt, thenT_bk, thenT_ct, thenT_rse, nopM_ev, brkM_ev, cntM_ev, setM_ev, setT_ok, setT_rse, setLM_ev, setLT_ok, dropM_ev, dropT_ok, dropT_rse, retM_ev, retT_ok, retT_rse, ifS_ev, ifT_true, ifT_false, asgM_ev, asgT_ok', optT_some, cM_ev, vM_ev, vR_some, opM_ev, op1_ok, op1_rse, op2_ok, op2_rse, unM_ev, un1_ok, un1_rse, blT_ev, blR_ok, blR_rse, trT_ev, trR_ok, tru_bl, tru_non, tru_tup, tru_int, andT_ev, and1_true, and1_false, orT_ev, or1_true, or1_false, notT_ev, not1_ok, andM_ev, andV_true, andV_false, orM_ev, orV_true, orV_false, ifM_ev, if1_true, if1_false, chM_ev, ch1_ok, ch2_ok, ch3_true, ch3_false, nilA_ev, consA_ev, con1_ok, con1_rse, con2_ok, tupM_ev, tup1_0, tup1_1, tup1_2, tup1_3, tup1_4, szA_ev, sz1_0, sz1_1, sz1_2, sz1_3, sz1_4, sz1_5, sz1_6, sz1_8, sz1_10, newM_ev, new1_ok, onL_ev, onL1_ok, tupL_ev, clM_ev, cl1_rse, cl1_0, cl1_1, cl1_2, cl1_3, cl1_4, cl1_5, putM_ev, putT_ok, putT2_ok, putT3_ok, putT4_some, augM_ev, augT_some, noO_ev, someO_ev, some1_ok, slM_ev, sl1_ok, sl2_ok, sl3_ok, metM_ev, met0_ev, intD0_ev, add_ii, sub_ii, neg_i, lt_ii, le_ii, gt_ii, ge_ii, isN_ev, notN_ev, num_i, num_b, notD_b, isi_bool_bl, len_tup, len_fz, tup_tup, ix_tup0, ix_tup1, ix_tup2, itM_ev, it1_ok, src_tup, src_fz, src_str, fixC_ev, lvI_ev, lv1_ok, rngI_ev, rg1_ok, forM_ev, for1_ok, turnT_nx, turnT_ct, turnT_bk, turnT_rt, turnT_rse, nmG_ev, tupG_ev, consG_ev, nilG_ev, compM_ev, yesT_ev, fn1_nx, fn1_rt, fn1_rse, eq_ii, eq_bb, max_ii, min_ii, slD_tup, List.getElem?_cons_zero, List.getElem?_cons_succ, List.set_cons_zero, List.set_cons_succ, List.map_cons, List.map_nil, List.length_cons, List.length_nil, List.cons_append, List.nil_append, Option.bind_some, decide_true, decide_false, Bool.not_true, Bool.not_false, ne_ii, ne_bb, forL_nil0, e2, ix_lst g2 hm1, rng1_nat (show mm ≤ 1000000 by omega), e3, met1_lst q3.sC, str_i (show i < 1000 by omega), addS_ok hsz,
      app_lst (f := fnD0) (x := (Str.ofString "F" ++ Str.ofString (toString (i : Int)), ks)) (d := .tup [.str (Str.ofString "F" ++ Str.ofString (toString (i : Int))), .tup (kds ks), .non]) q3.sC (by omega) rfl]
  refine ⟨_, _, _, rfl, .inl eB, by omega, _, _, _, rfl, q3.setC, fun f hf' => ?_, ?_, ?_⟩
  · rcases List.mem_append.mp hf' with hf' | hf'
    · exact hf f hf'
    · simp at hf'
      subst hf'
      exact ⟨show ks.length ≤ 5 by omega, hk1⟩
  · rw [List.map_append, hnm]
    simp [grNames, List.range_succ]
  · rw [List.getElem?_append_left (by omega)]
    exact hz
theorem Gs.ofKx {n A B : Nat} {a h : Bool} {sy : List (Str × Nat)} {S0 S S' : Sto} (q : Gs n A B a h sy S0 S) (k : Kx n S S') (c : ∃ x, CI [.int x] S' n) : Gs n A B a h sy S0 S' :=
  ⟨c, q.kx.trans k, k.get q.sA (Nat.ne_of_gt q.nA.1), k.get q.sB (Nat.ne_of_gt q.nA.2.1), q.nA⟩
theorem Gf.ofKx {n A B C : Nat} {a h : Bool} {sy : List (Str × Nat)} {fs : List (Str × List Kd)} {S0 S S' : Sto} (q : Gf n A B C a h sy fs S0 S) (k : Kx n S S') (c : ∃ x, CI [.int x] S' n) : Gf n A B C a h sy fs S0 S' :=
  ⟨q.gs.ofKx k c, k.get q.sC (Nat.ne_of_gt q.nC.1), q.nC⟩
theorem gram_loop2 (src : GNSrc F) {k n A B C E : Nat} {a h : Bool} {sy : List (Str × Nat)} {fs : List (Str × List Kd)} {S0 S : Sto} {s : Sig} {gD : D} {y5 y6 : Option D} (hs : SigM a h s) (hg : GD s gD) (q : Gf n A B C a h sy fs S0 S) (hE : S[E]? = some (.lst []))
    (nE : n < E ∧ E ≠ A ∧ E ≠ B ∧ E ≠ C ∧ S0.length ≤ E) (hf : ∀ f ∈ fs, f.2.length ≤ 5 ∧ ∀ x ∈ f.2, MenuK a h x.parts) (hfl : fs.length ≤ 20) :
    ∃ e' S', forL (sameC C (fs.map fnD0)) (tupG 3 (consG (nmG 9) (consG (nmG 6) (consG (nmG 10) nilG)))) (GN_law_grammar_l2 (F (k + 8))) (fs.map fnD0) [some (.obj n), some (.obj A), some (.obj B), some (.obj C), some (.bl h), y5, y6, some gD, some (.obj E), none, none, none] S = .nx e' S' ∧
      ∃ (ts : List (Str × List Kd × Tm)) (y6 y9 y10 : Option D), e' = [some (.obj n), some (.obj A), some (.obj B), some (.obj C), some (.bl h), y5, y6, some gD, some (.obj E), y9, y10, none] ∧ Gf n A B C a h sy fs S0 S' ∧ S'[E]? = some (.lst (ts.map fnD)) ∧ ts.map (fun t => (t.1, t.2.1)) = fs ∧ ∀ t ∈ ts, HasK s t.2.1 t.2.2 [] ∧ t.2.2.dep ≤ 5 := by
  have key := for_idx (chk := sameC C (fs.map fnD0)) (g := tupG 3 (consG (nmG 9) (consG (nmG 6) (consG (nmG 10) nilG)))) (b := GN_law_grammar_l2 (F (k + 8))) (l := fs.map fnD0) (e := [some (.obj n), some (.obj A), some (.obj B), some (.obj C), some (.bl h), y5, y6, some gD, some (.obj E), none, none, none]) (S := S)
    (I := fun i e' S' => ∃ (ts : List (Str × List Kd × Tm)) (y6 y9 y10 : Option D), e' = [some (.obj n), some (.obj A), some (.obj B), some (.obj C), some (.bl h), y5, y6, some gD, some (.obj E), y9, y10, none] ∧ Gf n A B C a h sy fs S0 S' ∧ S'[E]? = some (.lst (ts.map fnD)) ∧ ts.map (fun t => (t.1, t.2.1)) = fs.take i ∧ ∀ t ∈ ts, HasK s t.2.1 t.2.2 [] ∧ t.2.2.dep ≤ 5)
    (fun i e S' ⟨ts, _, _, _, _, q', _⟩ => sameC_ev q'.sC) ⟨[], y6, none, none, rfl, q, hE, rfl, by simp⟩ ?_
  · obtain ⟨e', S', h1, ts, y6, y9, y10, h2, h3, h4, h5, h6⟩ := key
    exact ⟨e', S', h1, ts, y6, y9, y10, h2, h3, h4, by rw [h5]; simp, h6⟩
  rintro i x _ S1 hx ⟨ts, z6, z9, z10, rfl, q1, hE1, ht, hb⟩
  rw [List.getElem?_map] at hx
  obtain ⟨⟨nm, ks⟩, hfx, rfl⟩ := Option.map_eq_some_iff.mp hx
  obtain ⟨f1, f2⟩ := hf _ (List.mem_of_getElem? hfx)
  have hsig := sig_ok hs
  have hpar := par_okM hs f1 f2
  simp only at f1 f2 hpar
  have hil : i < fs.length := (List.getElem?_eq_some_iff.mp hfx).1
  have htl : ts.length = i := by
    have := congrArg List.length ht
    simp at this
    omega
  -- the count of symbols
  obtain ⟨d2, S2, e2, d20, d21, q2, kp2⟩ := q1.take src (k := k + 6) (many := 8) (by decide) (by decide)
  have hE2 : S2[E]? = some (.lst (ts.map fnD)) := (kp2.at_ _ (Nat.ne_of_gt nE.1)).trans hE1
  obtain ⟨x2, c2⟩ := q2.gs.ci
  obtain ⟨mo, xs, p, b, c, hn, hm, hmn, hp0, hb0, hc0⟩ := id c2.ex
  have hlt := lt_of_get hn
  have c3 : CI [.int (8 + d2)] (S2.set n (.lst [.obj mo, .int p, .int b, .int c, .int (8 + d2)])) n := ⟨mo, xs, p, b, c, get_set hlt, (get_set' (Nat.ne_of_gt hmn)).trans hm, hmn, hp0, hb0, hc0⟩
  have q3 := q2.ofKx kp_set.x ⟨_, c3⟩
  have hE3 : (S2.set n (.lst [.obj mo, .int p, .int b, .int c, .int (8 + d2)]))[E]? = some (.lst (ts.map fnD)) := (get_set' (Nat.ne_of_lt nE.1)).trans hE2
  -- the depth
  obtain ⟨d4, S4, e4, d40, d41, q4, kp4⟩ := q3.take src (k := k + 6) (many := 4) (by decide) (by decide)
  have hE4 : S4[E]? = some (.lst (ts.map fnD)) := (kp4.at_ _ (Nat.ne_of_gt nE.1)).trans hE3
  obtain ⟨x4, c4⟩ := q4.gs.ci
  obtain ⟨dd, hdd⟩ : ∃ dd : Nat, (1 : Int) + d4 = (dd : Int) := ⟨(1 + d4).toNat, by omega⟩
  obtain ⟨k', hk'⟩ : ∃ k', k + 8 = k' + dd + 3 := ⟨k + 5 - dd, by omega⟩
  obtain ⟨d5, S5, e5, tm, x5, rfl, t1, t2, t3, t4⟩ := term_gn src hsig hpar hg dd k' [] S4 n x4 (by simp [kdeps]) (by simp) (hi_nil hs) c4
  rw [← hk'] at e5
  rw [show kds ([] : List Kd) = [] by unfold kds; rfl] at e5
  have q5 := q4.ofKx t4 ⟨_, t3⟩
  have hE5 : S5[E]? = some (.lst (ts.map fnD)) := t4.get hE4 (Nat.ne_of_gt nE.1)
  have eB : GN_law_grammar_l2 (F (k + 8)) [some (.obj n), some (.obj A), some (.obj B), some (.obj C), some (.bl h), y5, some (.tup (kds ks)), some gD, some (.obj E), some (.str nm), some .non, none] S1 =
      .nx [some (.obj n), some (.obj A), some (.obj B), some (.obj C), some (.bl h), y5, some (.tup (kds ks)), some gD, some (.obj E), some (.str nm), some .non, none] (S5.set E (.lst ((ts ++ [(nm, ks, tm)]).map fnD))) := by
    simp only [seqM_ev, thenT_nx, thenT_rt, thenT_bk, thenT_ct, thenT_rse, nopM_ev, brkM_ev, cntM_ev, setM_ev, setT_ok, setT_rse, setLM_ev, setLT_ok, dropM_ev, dropT_ok, dropT_rse, retM_ev, retT_ok, retT_rse, ifS_ev, ifT_true, ifT_false, asgM_ev, asgT_ok', optT_some, cM_ev, vM_ev, vR_some, opM_ev, op1_ok, op1_rse, op2_ok, op2_rse, unM_ev, un1_ok, un1_rse, blT_ev, blR_ok, blR_rse, trT_ev, trR_ok, tru_bl, tru_non, tru_tup, tru_int, andT_ev, and1_true, and1_false, orT_ev, or1_true, or1_false, notT_ev, not1_ok, andM_ev, andV_true, andV_false, orM_ev, orV_true, orV_false, ifM_ev, if1_true, if1_false, chM_ev, ch1_ok, ch2_ok, ch3_true, ch3_false, nilA_ev, consA_ev, con1_ok, con1_rse, con2_ok, tupM_ev, tup1_0, tup1_1, tup1_2, tup1_3, tup1_4, szA_ev, sz1_0, sz1_1, sz1_2, sz1_3, sz1_4, sz1_5, sz1_6, sz1_8, sz1_10, newM_ev, new1_ok, onL_ev, onL1_ok, tupL_ev, clM_ev, cl1_rse, cl1_0, cl1_1, cl1_2, cl1_3, cl1_4, cl1_5, putM_ev, putT_ok, putT2_ok, putT3_ok, putT4_some, augM_ev, augT_some, noO_ev, someO_ev, some1_ok, slM_ev, sl1_ok, sl2_ok, sl3_ok, metM_ev, met0_ev, intD0_ev, add_ii, sub_ii, neg_i, lt_ii, le_ii, gt_ii, ge_ii, isN_ev, notN_ev, num_i, num_b, notD_b, isi_bool_bl, len_tup, len_fz, tup_tup, ix_tup0, ix_tup1, ix_tup2, itM_ev, it1_ok, src_tup, src_fz, src_str, fixC_ev, lvI_ev, lv1_ok, rngI_ev, rg1_ok, forM_ev, for1_ok, turnT_nx, turnT_ct, turnT_bk, turnT_rt, turnT_rse, nmG_ev, tupG_ev, consG_ev, nilG_ev, compM_ev, yesT_ev, fn1_nx, fn1_rt, fn1_rse, eq_ii, eq_bb, max_ii, min_ii, slD_tup, List.getElem?_cons_zero, List.getElem?_cons_succ, List.set_cons_zero, List.set_cons_succ, List.map_cons, List.map_nil, List.length_cons, List.length_nil, List.cons_append, List.nil_append, Option.bind_some, decide_true, decide_false, Bool.not_true, Bool.not_false, ne_ii, ne_bb, forL_nil0, e2, set_lst4 hn, met1_lst hE3, e4, hdd, e5, app_lst (f := fnD) (x := (nm, ks, tm)) (d := .tup [.str nm, .tup (kds ks), tm.d]) hE5 (by omega) rfl]
  refine ⟨_, _, _, by simp [fnD0], .inl eB, _, _, _, _, rfl, ⟨q5.gs.keep (fun j hj => get_set' (by omega)) (kx_set q5.gs.kx nE.2.2.2.2), (get_set' nE.2.2.2.1).trans q5.sC, q5.nC⟩, get_set (lt_of_get hE5), ?_, fun t ht' => ?_⟩
  · rw [List.map_append, ht, List.take_succ, hfx]
    rfl
  · rcases List.mem_append.mp ht' with ht' | ht'
    · exact hb t ht'
    · have := List.mem_singleton.mp ht'
      subst this
      exact ⟨t1, show tm.dep ≤ 5 by omega⟩
theorem grammar_gn (src : GNSrc F) {k n : Nat} {S : Sto} {x : Int} (ci : CI [.int x] S n) : Ends (F (k + 9) .law_grammar [.obj n] S) fun d S' => ∃ g : Gr, d = g.d ∧ GrOk g ∧ (∃ x', CI [.int x'] S' n) ∧ Kx n S S' := by
  have hn := ci.lt
  rw [show k + 9 = (k + 8) + 1 from rfl, src.law_grammar]
  simp only [GN_law_grammar, fnM_ev, startD, List.replicate, seqM_ev, thenT_nx, thenT_rt, thenT_bk, thenT_ct, thenT_rse, nopM_ev, brkM_ev, cntM_ev, setM_ev, setT_ok, setT_rse, setLM_ev, setLT_ok, dropM_ev, dropT_ok, dropT_rse, retM_ev, retT_ok, retT_rse, ifS_ev, ifT_true, ifT_false, asgM_ev, asgT_ok', optT_some, cM_ev, vM_ev, vR_some, opM_ev, op1_ok, op1_rse, op2_ok, op2_rse, unM_ev, un1_ok, un1_rse, blT_ev, blR_ok, blR_rse, trT_ev, trR_ok, tru_bl, tru_non, tru_tup, tru_int, andT_ev, and1_true, and1_false, orT_ev, or1_true, or1_false, notT_ev, not1_ok, andM_ev, andV_true, andV_false, orM_ev, orV_true, orV_false, ifM_ev, if1_true, if1_false, chM_ev, ch1_ok, ch2_ok, ch3_true, ch3_false, nilA_ev, consA_ev, con1_ok, con1_rse, con2_ok, tupM_ev, tup1_0, tup1_1, tup1_2, tup1_3, tup1_4, szA_ev, sz1_0, sz1_1, sz1_2, sz1_3, sz1_4, sz1_5, sz1_6, sz1_8, sz1_10, newM_ev, new1_ok, onL_ev, onL1_ok, tupL_ev, clM_ev, cl1_rse, cl1_0, cl1_1, cl1_2, cl1_3, cl1_4, cl1_5, putM_ev, putT_ok, putT2_ok, putT3_ok, putT4_some, augM_ev, augT_some, noO_ev, someO_ev, some1_ok, slM_ev, sl1_ok, sl2_ok, sl3_ok, metM_ev, met0_ev, intD0_ev, add_ii, sub_ii, neg_i, lt_ii, le_ii, gt_ii, ge_ii, isN_ev, notN_ev, num_i, num_b, notD_b, isi_bool_bl, len_tup, len_fz, tup_tup, ix_tup0, ix_tup1, ix_tup2, itM_ev, it1_ok, src_tup, src_fz, src_str, fixC_ev, lvI_ev, lv1_ok, rngI_ev, rg1_ok, forM_ev, for1_ok, turnT_nx, turnT_ct, turnT_bk, turnT_rt, turnT_rse, nmG_ev, tupG_ev, consG_ev, nilG_ev, compM_ev, yesT_ev, fn1_nx, fn1_rt, fn1_rse, eq_ii, eq_bb, max_ii, min_ii, slD_tup, List.getElem?_cons_zero, List.getElem?_cons_succ, List.set_cons_zero, List.set_cons_succ, List.map_cons, List.map_nil, List.length_cons, List.length_nil, List.cons_append, List.nil_append, Option.bind_some, decide_true, decide_false, Bool.not_true, Bool.not_false, ne_ii, ne_bb, forL_nil0]
  have q0 : Gs n S.length (S ++ [O.lst [D.tup [D.str "end", D.int 0], D.tup [D.str "b", D.int 1]]]).length false false (grSyms false false none) S (S ++ [O.lst [D.tup [D.str "end", D.int 0], D.tup [D.str "b", D.int 1]]] ++ [O.lst [D.tup [], D.tup [], D.tup [D.tup []], D.tup [], D.tup [D.tup []], D.tup []]]) := by
    refine ⟨⟨x, ci.keep fun i hi => by rw [get_app (by simp; omega), get_app (by omega)]⟩, by rw [List.append_assoc]; exact Kx.app, by rw [get_app (by simp)]; rw [get_new]; rfl, by rw [get_new]; simp [menuL, kD, kds, Kd.d], by simp; omega⟩
  have len0 : (S ++ [O.lst [D.tup [D.str "end", D.int 0], D.tup [D.str "b", D.int 1]]]).length = S.length + 1 := by simp
  generalize (S ++ [O.lst [D.tup [D.str "end", D.int 0], D.tup [D.str "b", D.int 1]]] ++ [O.lst [D.tup [], D.tup [], D.tup [D.tup []], D.tup [], D.tup [D.tup []], D.tup []]]) = S1 at q0
  generalize (S ++ [O.lst [D.tup [D.str "end", D.int 0], D.tup [D.str "b", D.int 1]]]).length = B at q0 len0
  have hB : S.length < B := by omega
  generalize hA : S.length = A at q0 hB
  have hAS : S.length ≤ A := by omega
  -- the symbols a, t
  refine ends_then (A := fun e S' => ∃ a t, e = [some (.obj n), some (.obj A), some (.obj B), none, none, none, none, none, none, none, none, none] ∧ Gs n A B a false (grSyms a t none) S S') ?_ ?_
  · obtain ⟨d, S2, e2, d0, d1, q, kp⟩ := q0.take src (k := k + 6) (many := 4) (by decide) (by decide)
    simp only [seqM_ev, thenT_nx, thenT_rt, thenT_bk, thenT_ct, thenT_rse, nopM_ev, brkM_ev, cntM_ev, setM_ev, setT_ok, setT_rse, setLM_ev, setLT_ok, dropM_ev, dropT_ok, dropT_rse, retM_ev, retT_ok, retT_rse, ifS_ev, ifT_true, ifT_false, asgM_ev, asgT_ok', optT_some, cM_ev, vM_ev, vR_some, opM_ev, op1_ok, op1_rse, op2_ok, op2_rse, unM_ev, un1_ok, un1_rse, blT_ev, blR_ok, blR_rse, trT_ev, trR_ok, tru_bl, tru_non, tru_tup, tru_int, andT_ev, and1_true, and1_false, orT_ev, or1_true, or1_false, notT_ev, not1_ok, andM_ev, andV_true, andV_false, orM_ev, orV_true, orV_false, ifM_ev, if1_true, if1_false, chM_ev, ch1_ok, ch2_ok, ch3_true, ch3_false, nilA_ev, consA_ev, con1_ok, con1_rse, con2_ok, tupM_ev, tup1_0, tup1_1, tup1_2, tup1_3, tup1_4, szA_ev, sz1_0, sz1_1, sz1_2, sz1_3, sz1_4, sz1_5, sz1_6, sz1_8, sz1_10, newM_ev, new1_ok, onL_ev, onL1_ok, tupL_ev, clM_ev, cl1_rse, cl1_0, cl1_1, cl1_2, cl1_3, cl1_4, cl1_5, putM_ev, putT_ok, putT2_ok, putT3_ok, putT4_some, augM_ev, augT_some, noO_ev, someO_ev, some1_ok, slM_ev, sl1_ok, sl2_ok, sl3_ok, metM_ev, met0_ev, intD0_ev, add_ii, sub_ii, neg_i, lt_ii, le_ii, gt_ii, ge_ii, isN_ev, notN_ev, num_i, num_b, notD_b, isi_bool_bl, len_tup, len_fz, tup_tup, ix_tup0, ix_tup1, ix_tup2, itM_ev, it1_ok, src_tup, src_fz, src_str, fixC_ev, lvI_ev, lv1_ok, rngI_ev, rg1_ok, forM_ev, for1_ok, turnT_nx, turnT_ct, turnT_bk, turnT_rt, turnT_rse, nmG_ev, tupG_ev, consG_ev, nilG_ev, compM_ev, yesT_ev, fn1_nx, fn1_rt, fn1_rse, eq_ii, eq_bb, max_ii, min_ii, slD_tup, List.getElem?_cons_zero, List.getElem?_cons_succ, List.set_cons_zero, List.set_cons_succ, List.map_cons, List.map_nil, List.length_cons, List.length_nil, List.cons_append, List.nil_append, Option.bind_some, decide_true, decide_false, Bool.not_true, Bool.not_false, ne_ii, ne_bb, forL_nil0, e2]
    by_cases hd : d = 0
    · rw [decide_eq_true hd]
      simp only [seqM_ev, thenT_nx, thenT_rt, thenT_bk, thenT_ct, thenT_rse, nopM_ev, brkM_ev, cntM_ev, setM_ev, setT_ok, setT_rse, setLM_ev, setLT_ok, dropM_ev, dropT_ok, dropT_rse, retM_ev, retT_ok, retT_rse, ifS_ev, ifT_true, ifT_false, asgM_ev, asgT_ok', optT_some, cM_ev, vM_ev, vR_some, opM_ev, op1_ok, op1_rse, op2_ok, op2_rse, unM_ev, un1_ok, un1_rse, blT_ev, blR_ok, blR_rse, trT_ev, trR_ok, tru_bl, tru_non, tru_tup, tru_int, andT_ev, and1_true, and1_false, orT_ev, or1_true, or1_false, notT_ev, not1_ok, andM_ev, andV_true, andV_false, orM_ev, orV_true, orV_false, ifM_ev, if1_true, if1_false, chM_ev, ch1_ok, ch2_ok, ch3_true, ch3_false, nilA_ev, consA_ev, con1_ok, con1_rse, con2_ok, tupM_ev, tup1_0, tup1_1, tup1_2, tup1_3, tup1_4, szA_ev, sz1_0, sz1_1, sz1_2, sz1_3, sz1_4, sz1_5, sz1_6, sz1_8, sz1_10, newM_ev, new1_ok, onL_ev, onL1_ok, tupL_ev, clM_ev, cl1_rse, cl1_0, cl1_1, cl1_2, cl1_3, cl1_4, cl1_5, putM_ev, putT_ok, putT2_ok, putT3_ok, putT4_some, augM_ev, augT_some, noO_ev, someO_ev, some1_ok, slM_ev, sl1_ok, sl2_ok, sl3_ok, metM_ev, met0_ev, intD0_ev, add_ii, sub_ii, neg_i, lt_ii, le_ii, gt_ii, ge_ii, isN_ev, notN_ev, num_i, num_b, notD_b, isi_bool_bl, len_tup, len_fz, tup_tup, ix_tup0, ix_tup1, ix_tup2, itM_ev, it1_ok, src_tup, src_fz, src_str, fixC_ev, lvI_ev, lv1_ok, rngI_ev, rg1_ok, forM_ev, for1_ok, turnT_nx, turnT_ct, turnT_bk, turnT_rt, turnT_rse, nmG_ev, tupG_ev, consG_ev, nilG_ev, compM_ev, yesT_ev, fn1_nx, fn1_rt, fn1_rse, eq_ii, eq_bb, max_ii, min_ii, slD_tup, List.getElem?_cons_zero, List.getElem?_cons_succ, List.set_cons_zero, List.set_cons_succ, List.map_cons, List.map_nil, List.length_cons, List.length_nil, List.cons_append, List.nil_append, Option.bind_some, decide_true, decide_false, Bool.not_true, Bool.not_false, ne_ii, ne_bb, forL_nil0]
      exact ⟨_, _, rfl, false, false, rfl, q⟩
    · rw [decide_eq_false hd]
      simp only [seqM_ev, thenT_nx, thenT_rt, thenT_bk, thenT_ct, thenT_rse, nopM_ev, brkM_ev, cntM_ev, setM_ev, setT_ok, setT_rse, setLM_ev, setLT_ok, dropM_ev, dropT_ok, dropT_rse, retM_ev, retT_ok, retT_rse, ifS_ev, ifT_true, ifT_false, asgM_ev, asgT_ok', optT_some, cM_ev, vM_ev, vR_some, opM_ev, op1_ok, op1_rse, op2_ok, op2_rse, unM_ev, un1_ok, un1_rse, blT_ev, blR_ok, blR_rse, trT_ev, trR_ok, tru_bl, tru_non, tru_tup, tru_int, andT_ev, and1_true, and1_false, orT_ev, or1_true, or1_false, notT_ev, not1_ok, andM_ev, andV_true, andV_false, orM_ev, orV_true, orV_false, ifM_ev, if1_true, if1_false, chM_ev, ch1_ok, ch2_ok, ch3_true, ch3_false, nilA_ev, consA_ev, con1_ok, con1_rse, con2_ok, tupM_ev, tup1_0, tup1_1, tup1_2, tup1_3, tup1_4, szA_ev, sz1_0, sz1_1, sz1_2, sz1_3, sz1_4, sz1_5, sz1_6, sz1_8, sz1_10, newM_ev, new1_ok, onL_ev, onL1_ok, tupL_ev, clM_ev, cl1_rse, cl1_0, cl1_1, cl1_2, cl1_3, cl1_4, cl1_5, putM_ev, putT_ok, putT2_ok, putT3_ok, putT4_some, augM_ev, augT_some, noO_ev, someO_ev, some1_ok, slM_ev, sl1_ok, sl2_ok, sl3_ok, metM_ev, met0_ev, intD0_ev, add_ii, sub_ii, neg_i, lt_ii, le_ii, gt_ii, ge_ii, isN_ev, notN_ev, num_i, num_b, notD_b, isi_bool_bl, len_tup, len_fz, tup_tup, ix_tup0, ix_tup1, ix_tup2, itM_ev, it1_ok, src_tup, src_fz, src_str, fixC_ev, lvI_ev, lv1_ok, rngI_ev, rg1_ok, forM_ev, for1_ok, turnT_nx, turnT_ct, turnT_bk, turnT_rt, turnT_rse, nmG_ev, tupG_ev, consG_ev, nilG_ev, compM_ev, yesT_ev, fn1_nx, fn1_rt, fn1_rse, eq_ii, eq_bb, max_ii, min_ii, slD_tup, List.getElem?_cons_zero, List.getElem?_cons_succ, List.set_cons_zero, List.set_cons_succ, List.map_cons, List.map_nil, List.length_cons, List.length_nil, List.cons_append, List.nil_append, Option.bind_some, decide_true, decide_false, Bool.not_true, Bool.not_false, ne_ii, ne_bb, forL_nil0, met1_lst q.sA, app_lst (f := symD) (x := (Str.ofString "a", 2)) (d := .tup [.str (Str.ofString "a"), .int 2]) q.sA (by simp [grSyms]) rfl]
      have q' := q.setA (sy' := grSyms false false none ++ [(Str.ofString "a", 2)])
      simp only [set_lst (i := 4) (j := 4) q'.sB (by show ixN 6 4 = some 4; exact ixN_4), seqM_ev, thenT_nx, thenT_rt, thenT_bk, thenT_ct, thenT_rse, nopM_ev, brkM_ev, cntM_ev, setM_ev, setT_ok, setT_rse, setLM_ev, setLT_ok, dropM_ev, dropT_ok, dropT_rse, retM_ev, retT_ok, retT_rse, ifS_ev, ifT_true, ifT_false, asgM_ev, asgT_ok', optT_some, cM_ev, vM_ev, vR_some, opM_ev, op1_ok, op1_rse, op2_ok, op2_rse, unM_ev, un1_ok, un1_rse, blT_ev, blR_ok, blR_rse, trT_ev, trR_ok, tru_bl, tru_non, tru_tup, tru_int, andT_ev, and1_true, and1_false, orT_ev, or1_true, or1_false, notT_ev, not1_ok, andM_ev, andV_true, andV_false, orM_ev, orV_true, orV_false, ifM_ev, if1_true, if1_false, chM_ev, ch1_ok, ch2_ok, ch3_true, ch3_false, nilA_ev, consA_ev, con1_ok, con1_rse, con2_ok, tupM_ev, tup1_0, tup1_1, tup1_2, tup1_3, tup1_4, szA_ev, sz1_0, sz1_1, sz1_2, sz1_3, sz1_4, sz1_5, sz1_6, sz1_8, sz1_10, newM_ev, new1_ok, onL_ev, onL1_ok, tupL_ev, clM_ev, cl1_rse, cl1_0, cl1_1, cl1_2, cl1_3, cl1_4, cl1_5, putM_ev, putT_ok, putT2_ok, putT3_ok, putT4_some, augM_ev, augT_some, noO_ev, someO_ev, some1_ok, slM_ev, sl1_ok, sl2_ok, sl3_ok, metM_ev, met0_ev, intD0_ev, add_ii, sub_ii, neg_i, lt_ii, le_ii, gt_ii, ge_ii, isN_ev, notN_ev, num_i, num_b, notD_b, isi_bool_bl, len_tup, len_fz, tup_tup, ix_tup0, ix_tup1, ix_tup2, itM_ev, it1_ok, src_tup, src_fz, src_str, fixC_ev, lvI_ev, lv1_ok, rngI_ev, rg1_ok, forM_ev, for1_ok, turnT_nx, turnT_ct, turnT_bk, turnT_rt, turnT_rse, nmG_ev, tupG_ev, consG_ev, nilG_ev, compM_ev, yesT_ev, fn1_nx, fn1_rt, fn1_rse, eq_ii, eq_bb, max_ii, min_ii, slD_tup, List.getElem?_cons_zero, List.getElem?_cons_succ, List.set_cons_zero, List.set_cons_succ, List.map_cons, List.map_nil, List.length_cons, List.length_nil, List.cons_append, List.nil_append, Option.bind_some, decide_true, decide_false, Bool.not_true, Bool.not_false, ne_ii, ne_bb, forL_nil0]
      have q'' := q'.setB (a' := true) (h' := false) (l := ((menuL false false).map kD).set 4 (.tup [.tup [], .tup []])) (by simp [menuL, kD, kds, Kd.d])
      obtain ⟨d2, S4, e4, d20, d21, q4, kp4⟩ := q''.take src (k := k + 6) (many := 2) (by decide) (by decide)
      simp only [seqM_ev, thenT_nx, thenT_rt, thenT_bk, thenT_ct, thenT_rse, nopM_ev, brkM_ev, cntM_ev, setM_ev, setT_ok, setT_rse, setLM_ev, setLT_ok, dropM_ev, dropT_ok, dropT_rse, retM_ev, retT_ok, retT_rse, ifS_ev, ifT_true, ifT_false, asgM_ev, asgT_ok', optT_some, cM_ev, vM_ev, vR_some, opM_ev, op1_ok, op1_rse, op2_ok, op2_rse, unM_ev, un1_ok, un1_rse, blT_ev, blR_ok, blR_rse, trT_ev, trR_ok, tru_bl, tru_non, tru_tup, tru_int, andT_ev, and1_true, and1_false, orT_ev, or1_true, or1_false, notT_ev, not1_ok, andM_ev, andV_true, andV_false, orM_ev, orV_true, orV_false, ifM_ev, if1_true, if1_false, chM_ev, ch1_ok, ch2_ok, ch3_true, ch3_false, nilA_ev, consA_ev, con1_ok, con1_rse, con2_ok, tupM_ev, tup1_0, tup1_1, tup1_2, tup1_3, tup1_4, szA_ev, sz1_0, sz1_1, sz1_2, sz1_3, sz1_4, sz1_5, sz1_6, sz1_8, sz1_10, newM_ev, new1_ok, onL_ev, onL1_ok, tupL_ev, clM_ev, cl1_rse, cl1_0, cl1_1, cl1_2, cl1_3, cl1_4, cl1_5, putM_ev, putT_ok, putT2_ok, putT3_ok, putT4_some, augM_ev, augT_some, noO_ev, someO_ev, some1_ok, slM_ev, sl1_ok, sl2_ok, sl3_ok, metM_ev, met0_ev, intD0_ev, add_ii, sub_ii, neg_i, lt_ii, le_ii, gt_ii, ge_ii, isN_ev, notN_ev, num_i, num_b, notD_b, isi_bool_bl, len_tup, len_fz, tup_tup, ix_tup0, ix_tup1, ix_tup2, itM_ev, it1_ok, src_tup, src_fz, src_str, fixC_ev, lvI_ev, lv1_ok, rngI_ev, rg1_ok, forM_ev, for1_ok, turnT_nx, turnT_ct, turnT_bk, turnT_rt, turnT_rse, nmG_ev, tupG_ev, consG_ev, nilG_ev, compM_ev, yesT_ev, fn1_nx, fn1_rt, fn1_rse, eq_ii, eq_bb, max_ii, min_ii, slD_tup, List.getElem?_cons_zero, List.getElem?_cons_succ, List.set_cons_zero, List.set_cons_succ, List.map_cons, List.map_nil, List.length_cons, List.length_nil, List.cons_append, List.nil_append, Option.bind_some, decide_true, decide_false, Bool.not_true, Bool.not_false, ne_ii, ne_bb, forL_nil0, e4]
      by_cases hd2 : d2 = 0
      · rw [decide_eq_true hd2]
        simp only [seqM_ev, thenT_nx, thenT_rt, thenT_bk, thenT_ct, thenT_rse, nopM_ev, brkM_ev, cntM_ev, setM_ev, setT_ok, setT_rse, setLM_ev, setLT_ok, dropM_ev, dropT_ok, dropT_rse, retM_ev, retT_ok, retT_rse, ifS_ev, ifT_true, ifT_false, asgM_ev, asgT_ok', optT_some, cM_ev, vM_ev, vR_some, opM_ev, op1_ok, op1_rse, op2_ok, op2_rse, unM_ev, un1_ok, un1_rse, blT_ev, blR_ok, blR_rse, trT_ev, trR_ok, tru_bl, tru_non, tru_tup, tru_int, andT_ev, and1_true, and1_false, orT_ev, or1_true, or1_false, notT_ev, not1_ok, andM_ev, andV_true, andV_false, orM_ev, orV_true, orV_false, ifM_ev, if1_true, if1_false, chM_ev, ch1_ok, ch2_ok, ch3_true, ch3_false, nilA_ev, consA_ev, con1_ok, con1_rse, con2_ok, tupM_ev, tup1_0, tup1_1, tup1_2, tup1_3, tup1_4, szA_ev, sz1_0, sz1_1, sz1_2, sz1_3, sz1_4, sz1_5, sz1_6, sz1_8, sz1_10, newM_ev, new1_ok, onL_ev, onL1_ok, tupL_ev, clM_ev, cl1_rse, cl1_0, cl1_1, cl1_2, cl1_3, cl1_4, cl1_5, putM_ev, putT_ok, putT2_ok, putT3_ok, putT4_some, augM_ev, augT_some, noO_ev, someO_ev, some1_ok, slM_ev, sl1_ok, sl2_ok, sl3_ok, metM_ev, met0_ev, intD0_ev, add_ii, sub_ii, neg_i, lt_ii, le_ii, gt_ii, ge_ii, isN_ev, notN_ev, num_i, num_b, notD_b, isi_bool_bl, len_tup, len_fz, tup_tup, ix_tup0, ix_tup1, ix_tup2, itM_ev, it1_ok, src_tup, src_fz, src_str, fixC_ev, lvI_ev, lv1_ok, rngI_ev, rg1_ok, forM_ev, for1_ok, turnT_nx, turnT_ct, turnT_bk, turnT_rt, turnT_rse, nmG_ev, tupG_ev, consG_ev, nilG_ev, compM_ev, yesT_ev, fn1_nx, fn1_rt, fn1_rse, eq_ii, eq_bb, max_ii, min_ii, slD_tup, List.getElem?_cons_zero, List.getElem?_cons_succ, List.set_cons_zero, List.set_cons_succ, List.map_cons, List.map_nil, List.length_cons, List.length_nil, List.cons_append, List.nil_append, Option.bind_some, decide_true, decide_false, Bool.not_true, Bool.not_false, ne_ii, ne_bb, forL_nil0, met1_lst q4.sA, app_lst (f := symD) (x := (Str.ofString "t", 3)) (d := .tup [.str (Str.ofString "t"), .int 3]) q4.sA (by simp [grSyms]) rfl]
        exact ⟨_, _, rfl, true, true, rfl, q4.setA⟩
      · rw [decide_eq_false hd2]
        simp only [seqM_ev, thenT_nx, thenT_rt, thenT_bk, thenT_ct, thenT_rse, nopM_ev, brkM_ev, cntM_ev, setM_ev, setT_ok, setT_rse, setLM_ev, setLT_ok, dropM_ev, dropT_ok, dropT_rse, retM_ev, retT_ok, retT_rse, ifS_ev, ifT_true, ifT_false, asgM_ev, asgT_ok', optT_some, cM_ev, vM_ev, vR_some, opM_ev, op1_ok, op1_rse, op2_ok, op2_rse, unM_ev, un1_ok, un1_rse, blT_ev, blR_ok, blR_rse, trT_ev, trR_ok, tru_bl, tru_non, tru_tup, tru_int, andT_ev, and1_true, and1_false, orT_ev, or1_true, or1_false, notT_ev, not1_ok, andM_ev, andV_true, andV_false, orM_ev, orV_true, orV_false, ifM_ev, if1_true, if1_false, chM_ev, ch1_ok, ch2_ok, ch3_true, ch3_false, nilA_ev, consA_ev, con1_ok, con1_rse, con2_ok, tupM_ev, tup1_0, tup1_1, tup1_2, tup1_3, tup1_4, szA_ev, sz1_0, sz1_1, sz1_2, sz1_3, sz1_4, sz1_5, sz1_6, sz1_8, sz1_10, newM_ev, new1_ok, onL_ev, onL1_ok, tupL_ev, clM_ev, cl1_rse, cl1_0, cl1_1, cl1_2, cl1_3, cl1_4, cl1_5, putM_ev, putT_ok, putT2_ok, putT3_ok, putT4_some, augM_ev, augT_some, noO_ev, someO_ev, some1_ok, slM_ev, sl1_ok, sl2_ok, sl3_ok, metM_ev, met0_ev, intD0_ev, add_ii, sub_ii, neg_i, lt_ii, le_ii, gt_ii, ge_ii, isN_ev, notN_ev, num_i, num_b, notD_b, isi_bool_bl, len_tup, len_fz, tup_tup, ix_tup0, ix_tup1, ix_tup2, itM_ev, it1_ok, src_tup, src_fz, src_str, fixC_ev, lvI_ev, lv1_ok, rngI_ev, rg1_ok, forM_ev, for1_ok, turnT_nx, turnT_ct, turnT_bk, turnT_rt, turnT_rse, nmG_ev, tupG_ev, consG_ev, nilG_ev, compM_ev, yesT_ev, fn1_nx, fn1_rt, fn1_rse, eq_ii, eq_bb, max_ii, min_ii, slD_tup, List.getElem?_cons_zero, List.getElem?_cons_succ, List.set_cons_zero, List.set_cons_succ, List.map_cons, List.map_nil, List.length_cons, List.length_nil, List.cons_append, List.nil_append, Option.bind_some, decide_true, decide_false, Bool.not_true, Bool.not_false, ne_ii, ne_bb, forL_nil0]
        exact ⟨_, _, rfl, true, false, rfl, q4⟩
  rintro _ S2 ⟨a, t, rfl, q2⟩
  clear q0
  simp only [seqM_ev, thenT_nx, thenT_rt, thenT_bk, thenT_ct, thenT_rse, nopM_ev, brkM_ev, cntM_ev, setM_ev, setT_ok, setT_rse, setLM_ev, setLT_ok, dropM_ev, dropT_ok, dropT_rse, retM_ev, retT_ok, retT_rse, ifS_ev, ifT_true, ifT_false, asgM_ev, asgT_ok', optT_some, cM_ev, vM_ev, vR_some, opM_ev, op1_ok, op1_rse, op2_ok, op2_rse, unM_ev, un1_ok, un1_rse, blT_ev, blR_ok, blR_rse, trT_ev, trR_ok, tru_bl, tru_non, tru_tup, tru_int, andT_ev, and1_true, and1_false, orT_ev, or1_true, or1_false, notT_ev, not1_ok, andM_ev, andV_true, andV_false, orM_ev, orV_true, orV_false, ifM_ev, if1_true, if1_false, chM_ev, ch1_ok, ch2_ok, ch3_true, ch3_false, nilA_ev, consA_ev, con1_ok, con1_rse, con2_ok, tupM_ev, tup1_0, tup1_1, tup1_2, tup1_3, tup1_4, szA_ev, sz1_0, sz1_1, sz1_2, sz1_3, sz1_4, sz1_5, sz1_6, sz1_8, sz1_10, newM_ev, new1_ok, onL_ev, onL1_ok, tupL_ev, clM_ev, cl1_rse, cl1_0, cl1_1, cl1_2, cl1_3, cl1_4, cl1_5, putM_ev, putT_ok, putT2_ok, putT3_ok, putT4_some, augM_ev, augT_some, noO_ev, someO_ev, some1_ok, slM_ev, sl1_ok, sl2_ok, sl3_ok, metM_ev, met0_ev, intD0_ev, add_ii, sub_ii, neg_i, lt_ii, le_ii, gt_ii, ge_ii, isN_ev, notN_ev, num_i, num_b, notD_b, isi_bool_bl, len_tup, len_fz, tup_tup, ix_tup0, ix_tup1, ix_tup2, itM_ev, it1_ok, src_tup, src_fz, src_str, fixC_ev, lvI_ev, lv1_ok, rngI_ev, rg1_ok, forM_ev, for1_ok, turnT_nx, turnT_ct, turnT_bk, turnT_rt, turnT_rse, nmG_ev, tupG_ev, consG_ev, nilG_ev, compM_ev, yesT_ev, fn1_nx, fn1_rt, fn1_rse, eq_ii, eq_bb, max_ii, min_ii, slD_tup, List.getElem?_cons_zero, List.getElem?_cons_succ, List.set_cons_zero, List.set_cons_succ, List.map_cons, List.map_nil, List.length_cons, List.length_nil, List.cons_append, List.nil_append, Option.bind_some, decide_true, decide_false, Bool.not_true, Bool.not_false, ne_ii, ne_bb, forL_nil0]
  refine ends_then (A := fun e S' => ∃ w, (∀ r, w = some r → r ≤ 1) ∧ e = [some (.obj n), some (.obj A), some (.obj B), none, none, none, none, none, none, none, none, none] ∧ Gs n A B a false (grSyms a t w) S S') ?_ ?_
  · obtain ⟨d, S3, e3, d0, d1, q, kp⟩ := q2.take src (k := k + 6) (many := 3) (by decide) (by decide)
    simp only [seqM_ev, thenT_nx, thenT_rt, thenT_bk, thenT_ct, thenT_rse, nopM_ev, brkM_ev, cntM_ev, setM_ev, setT_ok, setT_rse, setLM_ev, setLT_ok, dropM_ev, dropT_ok, dropT_rse, retM_ev, retT_ok, retT_rse, ifS_ev, ifT_true, ifT_false, asgM_ev, asgT_ok', optT_some, cM_ev, vM_ev, vR_some, opM_ev, op1_ok, op1_rse, op2_ok, op2_rse, unM_ev, un1_ok, un1_rse, blT_ev, blR_ok, blR_rse, trT_ev, trR_ok, tru_bl, tru_non, tru_tup, tru_int, andT_ev, and1_true, and1_false, orT_ev, or1_true, or1_false, notT_ev, not1_ok, andM_ev, andV_true, andV_false, orM_ev, orV_true, orV_false, ifM_ev, if1_true, if1_false, chM_ev, ch1_ok, ch2_ok, ch3_true, ch3_false, nilA_ev, consA_ev, con1_ok, con1_rse, con2_ok, tupM_ev, tup1_0, tup1_1, tup1_2, tup1_3, tup1_4, szA_ev, sz1_0, sz1_1, sz1_2, sz1_3, sz1_4, sz1_5, sz1_6, sz1_8, sz1_10, newM_ev, new1_ok, onL_ev, onL1_ok, tupL_ev, clM_ev, cl1_rse, cl1_0, cl1_1, cl1_2, cl1_3, cl1_4, cl1_5, putM_ev, putT_ok, putT2_ok, putT3_ok, putT4_some, augM_ev, augT_some, noO_ev, someO_ev, some1_ok, slM_ev, sl1_ok, sl2_ok, sl3_ok, metM_ev, met0_ev, intD0_ev, add_ii, sub_ii, neg_i, lt_ii, le_ii, gt_ii, ge_ii, isN_ev, notN_ev, num_i, num_b, notD_b, isi_bool_bl, len_tup, len_fz, tup_tup, ix_tup0, ix_tup1, ix_tup2, itM_ev, it1_ok, src_tup, src_fz, src_str, fixC_ev, lvI_ev, lv1_ok, rngI_ev, rg1_ok, forM_ev, for1_ok, turnT_nx, turnT_ct, turnT_bk, turnT_rt, turnT_rse, nmG_ev, tupG_ev, consG_ev, nilG_ev, compM_ev, yesT_ev, fn1_nx, fn1_rt, fn1_rse, eq_ii, eq_bb, max_ii, min_ii, slD_tup, List.getElem?_cons_zero, List.getElem?_cons_succ, List.set_cons_zero, List.set_cons_succ, List.map_cons, List.map_nil, List.length_cons, List.length_nil, List.cons_append, List.nil_append, Option.bind_some, decide_true, decide_false, Bool.not_true, Bool.not_false, ne_ii, ne_bb, forL_nil0, e3]
    by_cases hd : d = 0
    · rw [decide_eq_true hd]
      obtain ⟨d2, S4, e4, d20, d21, q4, kp4⟩ := q.take src (k := k + 6) (many := 2) (by decide) (by decide)
      simp only [seqM_ev, thenT_nx, thenT_rt, thenT_bk, thenT_ct, thenT_rse, nopM_ev, brkM_ev, cntM_ev, setM_ev, setT_ok, setT_rse, setLM_ev, setLT_ok, dropM_ev, dropT_ok, dropT_rse, retM_ev, retT_ok, retT_rse, ifS_ev, ifT_true, ifT_false, asgM_ev, asgT_ok', optT_some, cM_ev, vM_ev, vR_some, opM_ev, op1_ok, op1_rse, op2_ok, op2_rse, unM_ev, un1_ok, un1_rse, blT_ev, blR_ok, blR_rse, trT_ev, trR_ok, tru_bl, tru_non, tru_tup, tru_int, andT_ev, and1_true, and1_false, orT_ev, or1_true, or1_false, notT_ev, not1_ok, andM_ev, andV_true, andV_false, orM_ev, orV_true, orV_false, ifM_ev, if1_true, if1_false, chM_ev, ch1_ok, ch2_ok, ch3_true, ch3_false, nilA_ev, consA_ev, con1_ok, con1_rse, con2_ok, tupM_ev, tup1_0, tup1_1, tup1_2, tup1_3, tup1_4, szA_ev, sz1_0, sz1_1, sz1_2, sz1_3, sz1_4, sz1_5, sz1_6, sz1_8, sz1_10, newM_ev, new1_ok, onL_ev, onL1_ok, tupL_ev, clM_ev, cl1_rse, cl1_0, cl1_1, cl1_2, cl1_3, cl1_4, cl1_5, putM_ev, putT_ok, putT2_ok, putT3_ok, putT4_some, augM_ev, augT_some, noO_ev, someO_ev, some1_ok, slM_ev, sl1_ok, sl2_ok, sl3_ok, metM_ev, met0_ev, intD0_ev, add_ii, sub_ii, neg_i, lt_ii, le_ii, gt_ii, ge_ii, isN_ev, notN_ev, num_i, num_b, notD_b, isi_bool_bl, len_tup, len_fz, tup_tup, ix_tup0, ix_tup1, ix_tup2, itM_ev, it1_ok, src_tup, src_fz, src_str, fixC_ev, lvI_ev, lv1_ok, rngI_ev, rg1_ok, forM_ev, for1_ok, turnT_nx, turnT_ct, turnT_bk, turnT_rt, turnT_rse, nmG_ev, tupG_ev, consG_ev, nilG_ev, compM_ev, yesT_ev, fn1_nx, fn1_rt, fn1_rse, eq_ii, eq_bb, max_ii, min_ii, slD_tup, List.getElem?_cons_zero, List.getElem?_cons_succ, List.set_cons_zero, List.set_cons_succ, List.map_cons, List.map_nil, List.length_cons, List.length_nil, List.cons_append, List.nil_append, Option.bind_some, decide_true, decide_false, Bool.not_true, Bool.not_false, ne_ii, ne_bb, forL_nil0, met1_lst q.sA, e4, app_lst (f := symD) (x := (Str.ofString "e2", d2.toNat)) (d := .tup [.str (Str.ofString "e2"), .int d2]) q4.sA (by cases a <;> cases t <;> simp [grSyms]) (by simp [symD, Int.toNat_of_nonneg d20])]
      have hg : grSyms a t none ++ [(Str.ofString "e2", d2.toNat)] = grSyms a t (some d2.toNat) := by simp [grSyms]
      rw [hg]
      exact ⟨_, _, rfl, some d2.toNat, fun r hr => by cases hr; omega, rfl, q4.setA⟩
    · rw [decide_eq_false hd]
      simp only [seqM_ev, thenT_nx, thenT_rt, thenT_bk, thenT_ct, thenT_rse, nopM_ev, brkM_ev, cntM_ev, setM_ev, setT_ok, setT_rse, setLM_ev, setLT_ok, dropM_ev, dropT_ok, dropT_rse, retM_ev, retT_ok, retT_rse, ifS_ev, ifT_true, ifT_false, asgM_ev, asgT_ok', optT_some, cM_ev, vM_ev, vR_some, opM_ev, op1_ok, op1_rse, op2_ok, op2_rse, unM_ev, un1_ok, un1_rse, blT_ev, blR_ok, blR_rse, trT_ev, trR_ok, tru_bl, tru_non, tru_tup, tru_int, andT_ev, and1_true, and1_false, orT_ev, or1_true, or1_false, notT_ev, not1_ok, andM_ev, andV_true, andV_false, orM_ev, orV_true, orV_false, ifM_ev, if1_true, if1_false, chM_ev, ch1_ok, ch2_ok, ch3_true, ch3_false, nilA_ev, consA_ev, con1_ok, con1_rse, con2_ok, tupM_ev, tup1_0, tup1_1, tup1_2, tup1_3, tup1_4, szA_ev, sz1_0, sz1_1, sz1_2, sz1_3, sz1_4, sz1_5, sz1_6, sz1_8, sz1_10, newM_ev, new1_ok, onL_ev, onL1_ok, tupL_ev, clM_ev, cl1_rse, cl1_0, cl1_1, cl1_2, cl1_3, cl1_4, cl1_5, putM_ev, putT_ok, putT2_ok, putT3_ok, putT4_some, augM_ev, augT_some, noO_ev, someO_ev, some1_ok, slM_ev, sl1_ok, sl2_ok, sl3_ok, metM_ev, met0_ev, intD0_ev, add_ii, sub_ii, neg_i, lt_ii, le_ii, gt_ii, ge_ii, isN_ev, notN_ev, num_i, num_b, notD_b, isi_bool_bl, len_tup, len_fz, tup_tup, ix_tup0, ix_tup1, ix_tup2, itM_ev, it1_ok, src_tup, src_fz, src_str, fixC_ev, lvI_ev, lv1_ok, rngI_ev, rg1_ok, forM_ev, for1_ok, turnT_nx, turnT_ct, turnT_bk, turnT_rt, turnT_rse, nmG_ev, tupG_ev, consG_ev, nilG_ev, compM_ev, yesT_ev, fn1_nx, fn1_rt, fn1_rse, eq_ii, eq_bb, max_ii, min_ii, slD_tup, List.getElem?_cons_zero, List.getElem?_cons_succ, List.set_cons_zero, List.set_cons_succ, List.map_cons, List.map_nil, List.length_cons, List.length_nil, List.cons_append, List.nil_append, Option.bind_some, decide_true, decide_false, Bool.not_true, Bool.not_false, ne_ii, ne_bb, forL_nil0]
      exact ⟨_, _, rfl, none, by simp, rfl, q⟩
  rintro _ S3 ⟨w, hw, rfl, q3⟩
  clear q2
  -- the functions
  simp only [seqM_ev, thenT_nx, thenT_rt, thenT_bk, thenT_ct, thenT_rse, nopM_ev, brkM_ev, cntM_ev, setM_ev, setT_ok, setT_rse, setLM_ev, setLT_ok, dropM_ev, dropT_ok, dropT_rse, retM_ev, retT_ok, retT_rse, ifS_ev, ifT_true, ifT_false, asgM_ev, asgT_ok', optT_some, cM_ev, vM_ev, vR_some, opM_ev, op1_ok, op1_rse, op2_ok, op2_rse, unM_ev, un1_ok, un1_rse, blT_ev, blR_ok, blR_rse, trT_ev, trR_ok, tru_bl, tru_non, tru_tup, tru_int, andT_ev, and1_true, and1_false, orT_ev, or1_true, or1_false, notT_ev, not1_ok, andM_ev, andV_true, andV_false, orM_ev, orV_true, orV_false, ifM_ev, if1_true, if1_false, chM_ev, ch1_ok, ch2_ok, ch3_true, ch3_false, nilA_ev, consA_ev, con1_ok, con1_rse, con2_ok, tupM_ev, tup1_0, tup1_1, tup1_2, tup1_3, tup1_4, szA_ev, sz1_0, sz1_1, sz1_2, sz1_3, sz1_4, sz1_5, sz1_6, sz1_8, sz1_10, newM_ev, new1_ok, onL_ev, onL1_ok, tupL_ev, clM_ev, cl1_rse, cl1_0, cl1_1, cl1_2, cl1_3, cl1_4, cl1_5, putM_ev, putT_ok, putT2_ok, putT3_ok, putT4_some, augM_ev, augT_some, noO_ev, someO_ev, some1_ok, slM_ev, sl1_ok, sl2_ok, sl3_ok, metM_ev, met0_ev, intD0_ev, add_ii, sub_ii, neg_i, lt_ii, le_ii, gt_ii, ge_ii, isN_ev, notN_ev, num_i, num_b, notD_b, isi_bool_bl, len_tup, len_fz, tup_tup, ix_tup0, ix_tup1, ix_tup2, itM_ev, it1_ok, src_tup, src_fz, src_str, fixC_ev, lvI_ev, lv1_ok, rngI_ev, rg1_ok, forM_ev, for1_ok, turnT_nx, turnT_ct, turnT_bk, turnT_rt, turnT_rse, nmG_ev, tupG_ev, consG_ev, nilG_ev, compM_ev, yesT_ev, fn1_nx, fn1_rt, fn1_rse, eq_ii, eq_bb, max_ii, min_ii, slD_tup, List.getElem?_cons_zero, List.getElem?_cons_succ, List.set_cons_zero, List.set_cons_succ, List.map_cons, List.map_nil, List.length_cons, List.length_nil, List.cons_append, List.nil_append, Option.bind_some, decide_true, decide_false, Bool.not_true, Bool.not_false, ne_ii, ne_bb, forL_nil0]
  have hA3 := lt_of_get q3.sA
  have hB3 := lt_of_get q3.sB
  have f4 : Gf n A B S3.length a false (grSyms a t w) [(Str.ofString "S", [])] S (S3 ++ [.lst [.tup [.str (Str.ofString "S"), .tup [], .non]]]) :=
    ⟨q3.app, by rw [get_new]; simp [fnD0, kds], by have := q3.kx.le; omega⟩
  generalize S3.length = C at f4
  generalize S3 ++ [.lst [.tup [.str (Str.ofString "S"), .tup [], .non]]] = S4 at f4
  obtain ⟨d5, S5, e5, d50, d51, f5, kp5⟩ := f4.take src (k := k + 6) (many := 4) (by decide) (by decide)
  simp only [seqM_ev, thenT_nx, thenT_rt, thenT_bk, thenT_ct, thenT_rse, nopM_ev, brkM_ev, cntM_ev, setM_ev, setT_ok, setT_rse, setLM_ev, setLT_ok, dropM_ev, dropT_ok, dropT_rse, retM_ev, retT_ok, retT_rse, ifS_ev, ifT_true, ifT_false, asgM_ev, asgT_ok', optT_some, cM_ev, vM_ev, vR_some, opM_ev, op1_ok, op1_rse, op2_ok, op2_rse, unM_ev, un1_ok, un1_rse, blT_ev, blR_ok, blR_rse, trT_ev, trR_ok, tru_bl, tru_non, tru_tup, tru_int, andT_ev, and1_true, and1_false, orT_ev, or1_true, or1_false, notT_ev, not1_ok, andM_ev, andV_true, andV_false, orM_ev, orV_true, orV_false, ifM_ev, if1_true, if1_false, chM_ev, ch1_ok, ch2_ok, ch3_true, ch3_false, nilA_ev, consA_ev, con1_ok, con1_rse, con2_ok, tupM_ev, tup1_0, tup1_1, tup1_2, tup1_3, tup1_4, szA_ev, sz1_0, sz1_1, sz1_2, sz1_3, sz1_4, sz1_5, sz1_6, sz1_8, sz1_10, newM_ev, new1_ok, onL_ev, onL1_ok, tupL_ev, clM_ev, cl1_rse, cl1_0, cl1_1, cl1_2, cl1_3, cl1_4, cl1_5, putM_ev, putT_ok, putT2_ok, putT3_ok, putT4_some, augM_ev, augT_some, noO_ev, someO_ev, some1_ok, slM_ev, sl1_ok, sl2_ok, sl3_ok, metM_ev, met0_ev, intD0_ev, add_ii, sub_ii, neg_i, lt_ii, le_ii, gt_ii, ge_ii, isN_ev, notN_ev, num_i, num_b, notD_b, isi_bool_bl, len_tup, len_fz, tup_tup, ix_tup0, ix_tup1, ix_tup2, itM_ev, it1_ok, src_tup, src_fz, src_str, fixC_ev, lvI_ev, lv1_ok, rngI_ev, rg1_ok, forM_ev, for1_ok, turnT_nx, turnT_ct, turnT_bk, turnT_rt, turnT_rse, nmG_ev, tupG_ev, consG_ev, nilG_ev, compM_ev, yesT_ev, fn1_nx, fn1_rt, fn1_rse, eq_ii, eq_bb, max_ii, min_ii, slD_tup, List.getElem?_cons_zero, List.getElem?_cons_succ, List.set_cons_zero, List.set_cons_succ, List.map_cons, List.map_nil, List.length_cons, List.length_nil, List.cons_append, List.nil_append, Option.bind_some, decide_true, decide_false, Bool.not_true, Bool.not_false, ne_ii, ne_bb, forL_nil0, e5]
  clear f4 q3
  -- the high ones
  refine ends_then (A := fun e S' => e = [some (.obj n), some (.obj A), some (.obj B), some (.obj C), some (.bl (decide (d5 = 0))), none, none, none, none, none, none, none] ∧ Gf n A B C a (decide (d5 = 0)) (grSyms a t w) [(Str.ofString "S", [])] S S') ?_ ?_
  · by_cases hd : d5 = 0
    · rw [decide_eq_true hd]
      simp only [seqM_ev, thenT_nx, thenT_rt, thenT_bk, thenT_ct, thenT_rse, nopM_ev, brkM_ev, cntM_ev, setM_ev, setT_ok, setT_rse, setLM_ev, setLT_ok, dropM_ev, dropT_ok, dropT_rse, retM_ev, retT_ok, retT_rse, ifS_ev, ifT_true, ifT_false, asgM_ev, asgT_ok', optT_some, cM_ev, vM_ev, vR_some, opM_ev, op1_ok, op1_rse, op2_ok, op2_rse, unM_ev, un1_ok, un1_rse, blT_ev, blR_ok, blR_rse, trT_ev, trR_ok, tru_bl, tru_non, tru_tup, tru_int, andT_ev, and1_true, and1_false, orT_ev, or1_true, or1_false, notT_ev, not1_ok, andM_ev, andV_true, andV_false, orM_ev, orV_true, orV_false, ifM_ev, if1_true, if1_false, chM_ev, ch1_ok, ch2_ok, ch3_true, ch3_false, nilA_ev, consA_ev, con1_ok, con1_rse, con2_ok, tupM_ev, tup1_0, tup1_1, tup1_2, tup1_3, tup1_4, szA_ev, sz1_0, sz1_1, sz1_2, sz1_3, sz1_4, sz1_5, sz1_6, sz1_8, sz1_10, newM_ev, new1_ok, onL_ev, onL1_ok, tupL_ev, clM_ev, cl1_rse, cl1_0, cl1_1, cl1_2, cl1_3, cl1_4, cl1_5, putM_ev, putT_ok, putT2_ok, putT3_ok, putT4_some, augM_ev, augT_some, noO_ev, someO_ev, some1_ok, slM_ev, sl1_ok, sl2_ok, sl3_ok, metM_ev, met0_ev, intD0_ev, add_ii, sub_ii, neg_i, lt_ii, le_ii, gt_ii, ge_ii, isN_ev, notN_ev, num_i, num_b, notD_b, isi_bool_bl, len_tup, len_fz, tup_tup, ix_tup0, ix_tup1, ix_tup2, itM_ev, it1_ok, src_tup, src_fz, src_str, fixC_ev, lvI_ev, lv1_ok, rngI_ev, rg1_ok, forM_ev, for1_ok, turnT_nx, turnT_ct, turnT_bk, turnT_rt, turnT_rse, nmG_ev, tupG_ev, consG_ev, nilG_ev, compM_ev, yesT_ev, fn1_nx, fn1_rt, fn1_rse, eq_ii, eq_bb, max_ii, min_ii, slD_tup, List.getElem?_cons_zero, List.getElem?_cons_succ, List.set_cons_zero, List.set_cons_succ, List.map_cons, List.map_nil, List.length_cons, List.length_nil, List.cons_append, List.nil_append, Option.bind_some, decide_true, decide_false, Bool.not_true, Bool.not_false, ne_ii, ne_bb, forL_nil0, set_lst (i := 0) (j := 0) f5.gs.sB (by show ixN 6 0 = some 0; exact ixN_0)]
      have g := f5.gs.setB (a' := a) (h' := true) (l := ((menuL a false).map kD).set 0 (.tup [.tup [.tup []]])) (by simp [menuL, kD, kds, Kd.d])
      exact ⟨_, _, rfl, rfl, g, (get_set' (Ne.symm f5.nC.2.2.1)).trans f5.sC, f5.nC⟩
    · rw [decide_eq_false hd]
      simp only [seqM_ev, thenT_nx, thenT_rt, thenT_bk, thenT_ct, thenT_rse, nopM_ev, brkM_ev, cntM_ev, setM_ev, setT_ok, setT_rse, setLM_ev, setLT_ok, dropM_ev, dropT_ok, dropT_rse, retM_ev, retT_ok, retT_rse, ifS_ev, ifT_true, ifT_false, asgM_ev, asgT_ok', optT_some, cM_ev, vM_ev, vR_some, opM_ev, op1_ok, op1_rse, op2_ok, op2_rse, unM_ev, un1_ok, un1_rse, blT_ev, blR_ok, blR_rse, trT_ev, trR_ok, tru_bl, tru_non, tru_tup, tru_int, andT_ev, and1_true, and1_false, orT_ev, or1_true, or1_false, notT_ev, not1_ok, andM_ev, andV_true, andV_false, orM_ev, orV_true, orV_false, ifM_ev, if1_true, if1_false, chM_ev, ch1_ok, ch2_ok, ch3_true, ch3_false, nilA_ev, consA_ev, con1_ok, con1_rse, con2_ok, tupM_ev, tup1_0, tup1_1, tup1_2, tup1_3, tup1_4, szA_ev, sz1_0, sz1_1, sz1_2, sz1_3, sz1_4, sz1_5, sz1_6, sz1_8, sz1_10, newM_ev, new1_ok, onL_ev, onL1_ok, tupL_ev, clM_ev, cl1_rse, cl1_0, cl1_1, cl1_2, cl1_3, cl1_4, cl1_5, putM_ev, putT_ok, putT2_ok, putT3_ok, putT4_some, augM_ev, augT_some, noO_ev, someO_ev, some1_ok, slM_ev, sl1_ok, sl2_ok, sl3_ok, metM_ev, met0_ev, intD0_ev, add_ii, sub_ii, neg_i, lt_ii, le_ii, gt_ii, ge_ii, isN_ev, notN_ev, num_i, num_b, notD_b, isi_bool_bl, len_tup, len_fz, tup_tup, ix_tup0, ix_tup1, ix_tup2, itM_ev, it1_ok, src_tup, src_fz, src_str, fixC_ev, lvI_ev, lv1_ok, rngI_ev, rg1_ok, forM_ev, for1_ok, turnT_nx, turnT_ct, turnT_bk, turnT_rt, turnT_rse, nmG_ev, tupG_ev, consG_ev, nilG_ev, compM_ev, yesT_ev, fn1_nx, fn1_rt, fn1_rse, eq_ii, eq_bb, max_ii, min_ii, slD_tup, List.getElem?_cons_zero, List.getElem?_cons_succ, List.set_cons_zero, List.set_cons_succ, List.map_cons, List.map_nil, List.length_cons, List.length_nil, List.cons_append, List.nil_append, Option.bind_some, decide_true, decide_false, Bool.not_true, Bool.not_false, ne_ii, ne_bb, forL_nil0]
      exact ⟨_, _, rfl, rfl, f5⟩
  generalize decide (d5 = 0) = h
  rintro _ S6 ⟨rfl, f6⟩
  clear f5
  simp only [seqM_ev, thenT_nx, thenT_rt, thenT_bk, thenT_ct, thenT_rse, nopM_ev, brkM_ev, cntM_ev, setM_ev, setT_ok, setT_rse, setLM_ev, setLT_ok, dropM_ev, dropT_ok, dropT_rse, retM_ev, retT_ok, retT_rse, ifS_ev, ifT_true, ifT_false, asgM_ev, asgT_ok', optT_some, cM_ev, vM_ev, vR_some, opM_ev, op1_ok, op1_rse, op2_ok, op2_rse, unM_ev, un1_ok, un1_rse, blT_ev, blR_ok, blR_rse, trT_ev, trR_ok, tru_bl, tru_non, tru_tup, tru_int, andT_ev, and1_true, and1_false, orT_ev, or1_true, or1_false, notT_ev, not1_ok, andM_ev, andV_true, andV_false, orM_ev, orV_true, orV_false, ifM_ev, if1_true, if1_false, chM_ev, ch1_ok, ch2_ok, ch3_true, ch3_false, nilA_ev, consA_ev, con1_ok, con1_rse, con2_ok, tupM_ev, tup1_0, tup1_1, tup1_2, tup1_3, tup1_4, szA_ev, sz1_0, sz1_1, sz1_2, sz1_3, sz1_4, sz1_5, sz1_6, sz1_8, sz1_10, newM_ev, new1_ok, onL_ev, onL1_ok, tupL_ev, clM_ev, cl1_rse, cl1_0, cl1_1, cl1_2, cl1_3, cl1_4, cl1_5, putM_ev, putT_ok, putT2_ok, putT3_ok, putT4_some, augM_ev, augT_some, noO_ev, someO_ev, some1_ok, slM_ev, sl1_ok, sl2_ok, sl3_ok, metM_ev, met0_ev, intD0_ev, add_ii, sub_ii, neg_i, lt_ii, le_ii, gt_ii, ge_ii, isN_ev, notN_ev, num_i, num_b, notD_b, isi_bool_bl, len_tup, len_fz, tup_tup, ix_tup0, ix_tup1, ix_tup2, itM_ev, it1_ok, src_tup, src_fz, src_str, fixC_ev, lvI_ev, lv1_ok, rngI_ev, rg1_ok, forM_ev, for1_ok, turnT_nx, turnT_ct, turnT_bk, turnT_rt, turnT_rse, nmG_ev, tupG_ev, consG_ev, nilG_ev, compM_ev, yesT_ev, fn1_nx, fn1_rt, fn1_rse, eq_ii, eq_bb, max_ii, min_ii, slD_tup, List.getElem?_cons_zero, List.getElem?_cons_succ, List.set_cons_zero, List.set_cons_succ, List.map_cons, List.map_nil, List.length_cons, List.length_nil, List.cons_append, List.nil_append, Option.bind_some, decide_true, decide_false, Bool.not_true, Bool.not_false, ne_ii, ne_bb, forL_nil0]
  obtain ⟨d7, S7, e7, d70, d71, f7, kp7⟩ := (f6.app (T := [.lst ([0, 1, 2, 3, 1, 2, 3, 7].map D.int)])).take src (k := k + 6) (many := 8) (by decide) (by decide)
  simp only [seqM_ev, thenT_nx, thenT_rt, thenT_bk, thenT_ct, thenT_rse, nopM_ev, brkM_ev, cntM_ev, setM_ev, setT_ok, setT_rse, setLM_ev, setLT_ok, dropM_ev, dropT_ok, dropT_rse, retM_ev, retT_ok, retT_rse, ifS_ev, ifT_true, ifT_false, asgM_ev, asgT_ok', optT_some, cM_ev, vM_ev, vR_some, opM_ev, op1_ok, op1_rse, op2_ok, op2_rse, unM_ev, un1_ok, un1_rse, blT_ev, blR_ok, blR_rse, trT_ev, trR_ok, tru_bl, tru_non, tru_tup, tru_int, andT_ev, and1_true, and1_false, orT_ev, or1_true, or1_false, notT_ev, not1_ok, andM_ev, andV_true, andV_false, orM_ev, orV_true, orV_false, ifM_ev, if1_true, if1_false, chM_ev, ch1_ok, ch2_ok, ch3_true, ch3_false, nilA_ev, consA_ev, con1_ok, con1_rse, con2_ok, tupM_ev, tup1_0, tup1_1, tup1_2, tup1_3, tup1_4, szA_ev, sz1_0, sz1_1, sz1_2, sz1_3, sz1_4, sz1_5, sz1_6, sz1_8, sz1_10, newM_ev, new1_ok, onL_ev, onL1_ok, tupL_ev, clM_ev, cl1_rse, cl1_0, cl1_1, cl1_2, cl1_3, cl1_4, cl1_5, putM_ev, putT_ok, putT2_ok, putT3_ok, putT4_some, augM_ev, augT_some, noO_ev, someO_ev, some1_ok, slM_ev, sl1_ok, sl2_ok, sl3_ok, metM_ev, met0_ev, intD0_ev, add_ii, sub_ii, neg_i, lt_ii, le_ii, gt_ii, ge_ii, isN_ev, notN_ev, num_i, num_b, notD_b, isi_bool_bl, len_tup, len_fz, tup_tup, ix_tup0, ix_tup1, ix_tup2, itM_ev, it1_ok, src_tup, src_fz, src_str, fixC_ev, lvI_ev, lv1_ok, rngI_ev, rg1_ok, forM_ev, for1_ok, turnT_nx, turnT_ct, turnT_bk, turnT_rt, turnT_rse, nmG_ev, tupG_ev, consG_ev, nilG_ev, compM_ev, yesT_ev, fn1_nx, fn1_rt, fn1_rse, eq_ii, eq_bb, max_ii, min_ii, slD_tup, List.getElem?_cons_zero, List.getElem?_cons_succ, List.set_cons_zero, List.set_cons_succ, List.map_cons, List.map_nil, List.length_cons, List.length_nil, List.cons_append, List.nil_append, Option.bind_some, decide_true, decide_false, Bool.not_true, Bool.not_false, ne_ii, ne_bb, forL_nil0] at e7
  have g7 : S7[S6.length]? = some (.lst ([0, 1, 2, 3, 1, 2, 3, 7].map D.int)) := (kp7.at_ _ (by have := f6.gs.ci.choose_spec.lt; omega)).trans get_new
  obtain ⟨m, hm1, hm2⟩ := pick_int (l := [0, 1, 2, 3, 1, 2, 3, 7]) (m := 7) d70 (by simpa using d71) (by decide)
  simp only [seqM_ev, thenT_nx, thenT_rt, thenT_bk, thenT_ct, thenT_rse, nopM_ev, brkM_ev, cntM_ev, setM_ev, setT_ok, setT_rse, setLM_ev, setLT_ok, dropM_ev, dropT_ok, dropT_rse, retM_ev, retT_ok, retT_rse, ifS_ev, ifT_true, ifT_false, asgM_ev, asgT_ok', optT_some, cM_ev, vM_ev, vR_some, opM_ev, op1_ok, op1_rse, op2_ok, op2_rse, unM_ev, un1_ok, un1_rse, blT_ev, blR_ok, blR_rse, trT_ev, trR_ok, tru_bl, tru_non, tru_tup, tru_int, andT_ev, and1_true, and1_false, orT_ev, or1_true, or1_false, notT_ev, not1_ok, andM_ev, andV_true, andV_false, orM_ev, orV_true, orV_false, ifM_ev, if1_true, if1_false, chM_ev, ch1_ok, ch2_ok, ch3_true, ch3_false, nilA_ev, consA_ev, con1_ok, con1_rse, con2_ok, tupM_ev, tup1_0, tup1_1, tup1_2, tup1_3, tup1_4, szA_ev, sz1_0, sz1_1, sz1_2, sz1_3, sz1_4, sz1_5, sz1_6, sz1_8, sz1_10, newM_ev, new1_ok, onL_ev, onL1_ok, tupL_ev, clM_ev, cl1_rse, cl1_0, cl1_1, cl1_2, cl1_3, cl1_4, cl1_5, putM_ev, putT_ok, putT2_ok, putT3_ok, putT4_some, augM_ev, augT_some, noO_ev, someO_ev, some1_ok, slM_ev, sl1_ok, sl2_ok, sl3_ok, metM_ev, met0_ev, intD0_ev, add_ii, sub_ii, neg_i, lt_ii, le_ii, gt_ii, ge_ii, isN_ev, notN_ev, num_i, num_b, notD_b, isi_bool_bl, len_tup, len_fz, tup_tup, ix_tup0, ix_tup1, ix_tup2, itM_ev, it1_ok, src_tup, src_fz, src_str, fixC_ev, lvI_ev, lv1_ok, rngI_ev, rg1_ok, forM_ev, for1_ok, turnT_nx, turnT_ct, turnT_bk, turnT_rt, turnT_rse, nmG_ev, tupG_ev, consG_ev, nilG_ev, compM_ev, yesT_ev, fn1_nx, fn1_rt, fn1_rse, eq_ii, eq_bb, max_ii, min_ii, slD_tup, List.getElem?_cons_zero, List.getElem?_cons_succ, List.set_cons_zero, List.set_cons_succ, List.map_cons, List.map_nil, List.length_cons, List.length_nil, List.cons_append, List.nil_append, Option.bind_some, decide_true, decide_false, Bool.not_true, Bool.not_false, ne_ii, ne_bb, forL_nil0] at g7 hm1
  simp only [e7, seqM_ev, thenT_nx, thenT_rt, thenT_bk, thenT_ct, thenT_rse, nopM_ev, brkM_ev, cntM_ev, setM_ev, setT_ok, setT_rse, setLM_ev, setLT_ok, dropM_ev, dropT_ok, dropT_rse, retM_ev, retT_ok, retT_rse, ifS_ev, ifT_true, ifT_false, asgM_ev, asgT_ok', optT_some, cM_ev, vM_ev, vR_some, opM_ev, op1_ok, op1_rse, op2_ok, op2_rse, unM_ev, un1_ok, un1_rse, blT_ev, blR_ok, blR_rse, trT_ev, trR_ok, tru_bl, tru_non, tru_tup, tru_int, andT_ev, and1_true, and1_false, orT_ev, or1_true, or1_false, notT_ev, not1_ok, andM_ev, andV_true, andV_false, orM_ev, orV_true, orV_false, ifM_ev, if1_true, if1_false, chM_ev, ch1_ok, ch2_ok, ch3_true, ch3_false, nilA_ev, consA_ev, con1_ok, con1_rse, con2_ok, tupM_ev, tup1_0, tup1_1, tup1_2, tup1_3, tup1_4, szA_ev, sz1_0, sz1_1, sz1_2, sz1_3, sz1_4, sz1_5, sz1_6, sz1_8, sz1_10, newM_ev, new1_ok, onL_ev, onL1_ok, tupL_ev, clM_ev, cl1_rse, cl1_0, cl1_1, cl1_2, cl1_3, cl1_4, cl1_5, putM_ev, putT_ok, putT2_ok, putT3_ok, putT4_some, augM_ev, augT_some, noO_ev, someO_ev, some1_ok, slM_ev, sl1_ok, sl2_ok, sl3_ok, metM_ev, met0_ev, intD0_ev, add_ii, sub_ii, neg_i, lt_ii, le_ii, gt_ii, ge_ii, isN_ev, notN_ev, num_i, num_b, notD_b, isi_bool_bl, len_tup, len_fz, tup_tup, ix_tup0, ix_tup1, ix_tup2, itM_ev, it1_ok, src_tup, src_fz, src_str, fixC_ev, lvI_ev, lv1_ok, rngI_ev, rg1_ok, forM_ev, for1_ok, turnT_nx, turnT_ct, turnT_bk, turnT_rt, turnT_rse, nmG_ev, tupG_ev, consG_ev, nilG_ev, compM_ev, yesT_ev, fn1_nx, fn1_rt, fn1_rse, eq_ii, eq_bb, max_ii, min_ii, slD_tup, List.getElem?_cons_zero, List.getElem?_cons_succ, List.set_cons_zero, List.set_cons_succ, List.map_cons, List.map_nil, List.length_cons, List.length_nil, List.cons_append, List.nil_append, Option.bind_some, decide_true, decide_false, Bool.not_true, Bool.not_false, ne_ii, ne_bb, forL_nil0, ix_lst g7 hm1, rng1_nat (show m ≤ 1000000 by omega)]
  obtain ⟨_, S8, e8, fs, y5, y6, rfl, f8, hf8, hn8, hz8⟩ := gram_loop1 src (k := k + 6) hm2 f7
  rw [show k + 6 + 2 = k + 8 from rfl] at e8
  rw [e8]
  have hl8 : fs.length = m + 1 := by
    have := congrArg List.length hn8
    simpa [grNames] using this
  simp only [seqM_ev, thenT_nx, thenT_rt, thenT_bk, thenT_ct, thenT_rse, nopM_ev, brkM_ev, cntM_ev, setM_ev, setT_ok, setT_rse, setLM_ev, setLT_ok, dropM_ev, dropT_ok, dropT_rse, retM_ev, retT_ok, retT_rse, ifS_ev, ifT_true, ifT_false, asgM_ev, asgT_ok', optT_some, cM_ev, vM_ev, vR_some, opM_ev, op1_ok, op1_rse, op2_ok, op2_rse, unM_ev, un1_ok, un1_rse, blT_ev, blR_ok, blR_rse, trT_ev, trR_ok, tru_bl, tru_non, tru_tup, tru_int, andT_ev, and1_true, and1_false, orT_ev, or1_true, or1_false, notT_ev, not1_ok, andM_ev, andV_true, andV_false, orM_ev, orV_true, orV_false, ifM_ev, if1_true, if1_false, chM_ev, ch1_ok, ch2_ok, ch3_true, ch3_false, nilA_ev, consA_ev, con1_ok, con1_rse, con2_ok, tupM_ev, tup1_0, tup1_1, tup1_2, tup1_3, tup1_4, szA_ev, sz1_0, sz1_1, sz1_2, sz1_3, sz1_4, sz1_5, sz1_6, sz1_8, sz1_10, newM_ev, new1_ok, onL_ev, onL1_ok, tupL_ev, clM_ev, cl1_rse, cl1_0, cl1_1, cl1_2, cl1_3, cl1_4, cl1_5, putM_ev, putT_ok, putT2_ok, putT3_ok, putT4_some, augM_ev, augT_some, noO_ev, someO_ev, some1_ok, slM_ev, sl1_ok, sl2_ok, sl3_ok, metM_ev, met0_ev, intD0_ev, add_ii, sub_ii, neg_i, lt_ii, le_ii, gt_ii, ge_ii, isN_ev, notN_ev, num_i, num_b, notD_b, isi_bool_bl, len_tup, len_fz, tup_tup, ix_tup0, ix_tup1, ix_tup2, itM_ev, it1_ok, src_tup, src_fz, src_str, fixC_ev, lvI_ev, lv1_ok, rngI_ev, rg1_ok, forM_ev, for1_ok, turnT_nx, turnT_ct, turnT_bk, turnT_rt, turnT_rse, nmG_ev, tupG_ev, consG_ev, nilG_ev, compM_ev, yesT_ev, fn1_nx, fn1_rt, fn1_rse, eq_ii, eq_bb, max_ii, min_ii, slD_tup, List.getElem?_cons_zero, List.getElem?_cons_succ, List.set_cons_zero, List.set_cons_succ, List.map_cons, List.map_nil, List.length_cons, List.length_nil, List.cons_append, List.nil_append, Option.bind_some, decide_true, decide_false, Bool.not_true, Bool.not_false, ne_ii, ne_bb, forL_nil0]
  clear f6 f7 e7
  -- H
  refine ends_then (A := fun e S' => ∃ fs y5 y6, e = [some (.obj n), some (.obj A), some (.obj B), some (.obj C), some (.bl h), y5, y6, none, none, none, none, none] ∧ Gf n A B C a h (grSyms a t w) fs S S' ∧ (∀ f ∈ fs, f.2.length ≤ 5 ∧ ∀ x ∈ f.2, MenuK a h x.parts) ∧ fs.map (·.1) = grNames m h ∧ fs[0]? = some (Str.ofString "S", []) ∧ (h = true → ∃ j : Nat, (fs.map (·.2))[j]? = some [.mk [kO]])) ?_ ?_
  · cases h with
    | true =>
      simp only [seqM_ev, thenT_nx, thenT_rt, thenT_bk, thenT_ct, thenT_rse, nopM_ev, brkM_ev, cntM_ev, setM_ev, setT_ok, setT_rse, setLM_ev, setLT_ok, dropM_ev, dropT_ok, dropT_rse, retM_ev, retT_ok, retT_rse, ifS_ev, ifT_true, ifT_false, asgM_ev, asgT_ok', optT_some, cM_ev, vM_ev, vR_some, opM_ev, op1_ok, op1_rse, op2_ok, op2_rse, unM_ev, un1_ok, un1_rse, blT_ev, blR_ok, blR_rse, trT_ev, trR_ok, tru_bl, tru_non, tru_tup, tru_int, andT_ev, and1_true, and1_false, orT_ev, or1_true, or1_false, notT_ev, not1_ok, andM_ev, andV_true, andV_false, orM_ev, orV_true, orV_false, ifM_ev, if1_true, if1_false, chM_ev, ch1_ok, ch2_ok, ch3_true, ch3_false, nilA_ev, consA_ev, con1_ok, con1_rse, con2_ok, tupM_ev, tup1_0, tup1_1, tup1_2, tup1_3, tup1_4, szA_ev, sz1_0, sz1_1, sz1_2, sz1_3, sz1_4, sz1_5, sz1_6, sz1_8, sz1_10, newM_ev, new1_ok, onL_ev, onL1_ok, tupL_ev, clM_ev, cl1_rse, cl1_0, cl1_1, cl1_2, cl1_3, cl1_4, cl1_5, putM_ev, putT_ok, putT2_ok, putT3_ok, putT4_some, augM_ev, augT_some, noO_ev, someO_ev, some1_ok, slM_ev, sl1_ok, sl2_ok, sl3_ok, metM_ev, met0_ev, intD0_ev, add_ii, sub_ii, neg_i, lt_ii, le_ii, gt_ii, ge_ii, isN_ev, notN_ev, num_i, num_b, notD_b, isi_bool_bl, len_tup, len_fz, tup_tup, ix_tup0, ix_tup1, ix_tup2, itM_ev, it1_ok, src_tup, src_fz, src_str, fixC_ev, lvI_ev, lv1_ok, rngI_ev, rg1_ok, forM_ev, for1_ok, turnT_nx, turnT_ct, turnT_bk, turnT_rt, turnT_rse, nmG_ev, tupG_ev, consG_ev, nilG_ev, compM_ev, yesT_ev, fn1_nx, fn1_rt, fn1_rse, eq_ii, eq_bb, max_ii, min_ii, slD_tup, List.getElem?_cons_zero, List.getElem?_cons_succ, List.set_cons_zero, List.set_cons_succ, List.map_cons, List.map_nil, List.length_cons, List.length_nil, List.cons_append, List.nil_append, Option.bind_some, decide_true, decide_false, Bool.not_true, Bool.not_false, ne_ii, ne_bb, forL_nil0, met1_lst f8.sC, app_lst (f := fnD0) (x := (Str.ofString "H", [.mk [kO]])) (d := .tup [.str (Str.ofString "H"), .tup [.tup [.tup []]], .non]) f8.sC (by omega) (by simp [fnD0, kds, Kd.d])]
      refine ⟨_, _, rfl, _, _, _, rfl, f8.setC, fun f hf => ?_, ?_, ?_, fun _ => ⟨fs.length, by simp⟩⟩
      · rcases List.mem_append.mp hf with hf | hf
        · exact hf8 f hf
        · have := List.mem_singleton.mp hf
          subst this
          exact ⟨by show 1 ≤ 5; decide, fun x hx => by
            have := List.mem_singleton.mp hx
            subst this
            simp [MenuK, menuL, Kd.parts]⟩
      · rw [List.map_append, hn8]
        simp [grNames]
      · rw [List.getElem?_append_left (by omega)]
        exact hz8
    | false =>
      simp only [seqM_ev, thenT_nx, thenT_rt, thenT_bk, thenT_ct, thenT_rse, nopM_ev, brkM_ev, cntM_ev, setM_ev, setT_ok, setT_rse, setLM_ev, setLT_ok, dropM_ev, dropT_ok, dropT_rse, retM_ev, retT_ok, retT_rse, ifS_ev, ifT_true, ifT_false, asgM_ev, asgT_ok', optT_some, cM_ev, vM_ev, vR_some, opM_ev, op1_ok, op1_rse, op2_ok, op2_rse, unM_ev, un1_ok, un1_rse, blT_ev, blR_ok, blR_rse, trT_ev, trR_ok, tru_bl, tru_non, tru_tup, tru_int, andT_ev, and1_true, and1_false, orT_ev, or1_true, or1_false, notT_ev, not1_ok, andM_ev, andV_true, andV_false, orM_ev, orV_true, orV_false, ifM_ev, if1_true, if1_false, chM_ev, ch1_ok, ch2_ok, ch3_true, ch3_false, nilA_ev, consA_ev, con1_ok, con1_rse, con2_ok, tupM_ev, tup1_0, tup1_1, tup1_2, tup1_3, tup1_4, szA_ev, sz1_0, sz1_1, sz1_2, sz1_3, sz1_4, sz1_5, sz1_6, sz1_8, sz1_10, newM_ev, new1_ok, onL_ev, onL1_ok, tupL_ev, clM_ev, cl1_rse, cl1_0, cl1_1, cl1_2, cl1_3, cl1_4, cl1_5, putM_ev, putT_ok, putT2_ok, putT3_ok, putT4_some, augM_ev, augT_some, noO_ev, someO_ev, some1_ok, slM_ev, sl1_ok, sl2_ok, sl3_ok, metM_ev, met0_ev, intD0_ev, add_ii, sub_ii, neg_i, lt_ii, le_ii, gt_ii, ge_ii, isN_ev, notN_ev, num_i, num_b, notD_b, isi_bool_bl, len_tup, len_fz, tup_tup, ix_tup0, ix_tup1, ix_tup2, itM_ev, it1_ok, src_tup, src_fz, src_str, fixC_ev, lvI_ev, lv1_ok, rngI_ev, rg1_ok, forM_ev, for1_ok, turnT_nx, turnT_ct, turnT_bk, turnT_rt, turnT_rse, nmG_ev, tupG_ev, consG_ev, nilG_ev, compM_ev, yesT_ev, fn1_nx, fn1_rt, fn1_rse, eq_ii, eq_bb, max_ii, min_ii, slD_tup, List.getElem?_cons_zero, List.getElem?_cons_succ, List.set_cons_zero, List.set_cons_succ, List.map_cons, List.map_nil, List.length_cons, List.length_nil, List.cons_append, List.nil_append, Option.bind_some, decide_true, decide_false, Bool.not_true, Bool.not_false, ne_ii, ne_bb, forL_nil0]
      exact ⟨_, _, rfl, fs, _, _, rfl, f8, hf8, hn8, hz8, by simp⟩
  clear hn8 hz8 hf8 f8 e8 hl8
  rintro _ S9 ⟨fs, y5, y6, rfl, f9, hf9, hn9, hz9, hh9⟩
  have hl9 : fs.length ≤ 9 := by
    have := congrArg List.length hn9
    cases h <;> simp [grNames] at this <;> omega
  simp only [seqM_ev, thenT_nx, thenT_rt, thenT_bk, thenT_ct, thenT_rse, nopM_ev, brkM_ev, cntM_ev, setM_ev, setT_ok, setT_rse, setLM_ev, setLT_ok, dropM_ev, dropT_ok, dropT_rse, retM_ev, retT_ok, retT_rse, ifS_ev, ifT_true, ifT_false, asgM_ev, asgT_ok', optT_some, cM_ev, vM_ev, vR_some, opM_ev, op1_ok, op1_rse, op2_ok, op2_rse, unM_ev, un1_ok, un1_rse, blT_ev, blR_ok, blR_rse, trT_ev, trR_ok, tru_bl, tru_non, tru_tup, tru_int, andT_ev, and1_true, and1_false, orT_ev, or1_true, or1_false, notT_ev, not1_ok, andM_ev, andV_true, andV_false, orM_ev, orV_true, orV_false, ifM_ev, if1_true, if1_false, chM_ev, ch1_ok, ch2_ok, ch3_true, ch3_false, nilA_ev, consA_ev, con1_ok, con1_rse, con2_ok, tupM_ev, tup1_0, tup1_1, tup1_2, tup1_3, tup1_4, szA_ev, sz1_0, sz1_1, sz1_2, sz1_3, sz1_4, sz1_5, sz1_6, sz1_8, sz1_10, newM_ev, new1_ok, onL_ev, onL1_ok, tupL_ev, clM_ev, cl1_rse, cl1_0, cl1_1, cl1_2, cl1_3, cl1_4, cl1_5, putM_ev, putT_ok, putT2_ok, putT3_ok, putT4_some, augM_ev, augT_some, noO_ev, someO_ev, some1_ok, slM_ev, sl1_ok, sl2_ok, sl3_ok, metM_ev, met0_ev, intD0_ev, add_ii, sub_ii, neg_i, lt_ii, le_ii, gt_ii, ge_ii, isN_ev, notN_ev, num_i, num_b, notD_b, isi_bool_bl, len_tup, len_fz, tup_tup, ix_tup0, ix_tup1, ix_tup2, itM_ev, it1_ok, src_tup, src_fz, src_str, fixC_ev, lvI_ev, lv1_ok, rngI_ev, rg1_ok, forM_ev, for1_ok, turnT_nx, turnT_ct, turnT_bk, turnT_rt, turnT_rse, nmG_ev, tupG_ev, consG_ev, nilG_ev, compM_ev, yesT_ev, fn1_nx, fn1_rt, fn1_rse, eq_ii, eq_bb, max_ii, min_ii, slD_tup, List.getElem?_cons_zero, List.getElem?_cons_succ, List.set_cons_zero, List.set_cons_succ, List.map_cons, List.map_nil, List.length_cons, List.length_nil, List.cons_append, List.nil_append, Option.bind_some, decide_true, decide_false, Bool.not_true, Bool.not_false, ne_ii, ne_bb, forL_nil0, tup_lst f9.gs.sA, tup_lst f9.sC]
  have hC9 := lt_of_get f9.sC
  have hA9 := lt_of_get f9.gs.sA
  have hB9 := lt_of_get f9.gs.sB
  have hn9' := f9.gs.ci.choose_spec.lt
  have f10 : Gf n A B C a h (grSyms a t w) fs S (S9 ++ [.lst []]) := f9.app
  simp only [src_lst f10.sC, seqM_ev, thenT_nx, thenT_rt, thenT_bk, thenT_ct, thenT_rse, nopM_ev, brkM_ev, cntM_ev, setM_ev, setT_ok, setT_rse, setLM_ev, setLT_ok, dropM_ev, dropT_ok, dropT_rse, retM_ev, retT_ok, retT_rse, ifS_ev, ifT_true, ifT_false, asgM_ev, asgT_ok', optT_some, cM_ev, vM_ev, vR_some, opM_ev, op1_ok, op1_rse, op2_ok, op2_rse, unM_ev, un1_ok, un1_rse, blT_ev, blR_ok, blR_rse, trT_ev, trR_ok, tru_bl, tru_non, tru_tup, tru_int, andT_ev, and1_true, and1_false, orT_ev, or1_true, or1_false, notT_ev, not1_ok, andM_ev, andV_true, andV_false, orM_ev, orV_true, orV_false, ifM_ev, if1_true, if1_false, chM_ev, ch1_ok, ch2_ok, ch3_true, ch3_false, nilA_ev, consA_ev, con1_ok, con1_rse, con2_ok, tupM_ev, tup1_0, tup1_1, tup1_2, tup1_3, tup1_4, szA_ev, sz1_0, sz1_1, sz1_2, sz1_3, sz1_4, sz1_5, sz1_6, sz1_8, sz1_10, newM_ev, new1_ok, onL_ev, onL1_ok, tupL_ev, clM_ev, cl1_rse, cl1_0, cl1_1, cl1_2, cl1_3, cl1_4, cl1_5, putM_ev, putT_ok, putT2_ok, putT3_ok, putT4_some, augM_ev, augT_some, noO_ev, someO_ev, some1_ok, slM_ev, sl1_ok, sl2_ok, sl3_ok, metM_ev, met0_ev, intD0_ev, add_ii, sub_ii, neg_i, lt_ii, le_ii, gt_ii, ge_ii, isN_ev, notN_ev, num_i, num_b, notD_b, isi_bool_bl, len_tup, len_fz, tup_tup, ix_tup0, ix_tup1, ix_tup2, itM_ev, it1_ok, src_tup, src_fz, src_str, fixC_ev, lvI_ev, lv1_ok, rngI_ev, rg1_ok, forM_ev, for1_ok, turnT_nx, turnT_ct, turnT_bk, turnT_rt, turnT_rse, nmG_ev, tupG_ev, consG_ev, nilG_ev, compM_ev, yesT_ev, fn1_nx, fn1_rt, fn1_rse, eq_ii, eq_bb, max_ii, min_ii, slD_tup, List.getElem?_cons_zero, List.getElem?_cons_succ, List.set_cons_zero, List.set_cons_succ, List.map_cons, List.map_nil, List.length_cons, List.length_nil, List.cons_append, List.nil_append, Option.bind_some, decide_true, decide_false, Bool.not_true, Bool.not_false, ne_ii, ne_bb, forL_nil0]
  let s : Sig := ⟨(grSyms a t w).map (·.2), fs.map (·.2)⟩
  have hs : SigM a h s := ⟨⟨t, w, rfl, hw⟩, fun f hf => by
    obtain ⟨p, hp, rfl⟩ := List.mem_map.mp hf
    exact hf9 p hp, hh9, by simp [s]; omega⟩
  have hg : GD s (.tup [.tup ((grSyms a t w).map symD), .tup (fs.map fnD0)]) := ⟨_, _, rfl, all2_of_get (by simp [s]) fun i x y h1 h2 => by
    rw [List.getElem?_map] at h1
    obtain ⟨p, e, rfl⟩ := Option.map_eq_some_iff.mp h1
    simp only [s, List.getElem?_map, e, Option.map_some, Option.some.injEq] at h2
    subst h2
    exact ⟨p.1, rfl⟩, all2_of_get (by simp [s]) fun i x y h1 h2 => by
    rw [List.getElem?_map] at h1
    obtain ⟨p, e, rfl⟩ := Option.map_eq_some_iff.mp h1
    simp only [s, List.getElem?_map, e, Option.map_some, Option.some.injEq] at h2
    subst h2
    exact ⟨p.1, .non, rfl⟩⟩
  obtain ⟨_, S11, e11, ts, z6, z9, z10, rfl, f11, hE11, hts, hb11⟩ := gram_loop2 src (k := k) (y5 := y5) (y6 := y6) hs hg f10 (E := S9.length) get_new ⟨by omega, by omega, by omega, by omega, by have := f9.gs.kx.le; omega⟩ hf9 (by omega)
  rw [e11]
  simp only [seqM_ev, thenT_nx, thenT_rt, thenT_bk, thenT_ct, thenT_rse, nopM_ev, brkM_ev, cntM_ev, setM_ev, setT_ok, setT_rse, setLM_ev, setLT_ok, dropM_ev, dropT_ok, dropT_rse, retM_ev, retT_ok, retT_rse, ifS_ev, ifT_true, ifT_false, asgM_ev, asgT_ok', optT_some, cM_ev, vM_ev, vR_some, opM_ev, op1_ok, op1_rse, op2_ok, op2_rse, unM_ev, un1_ok, un1_rse, blT_ev, blR_ok, blR_rse, trT_ev, trR_ok, tru_bl, tru_non, tru_tup, tru_int, andT_ev, and1_true, and1_false, orT_ev, or1_true, or1_false, notT_ev, not1_ok, andM_ev, andV_true, andV_false, orM_ev, orV_true, orV_false, ifM_ev, if1_true, if1_false, chM_ev, ch1_ok, ch2_ok, ch3_true, ch3_false, nilA_ev, consA_ev, con1_ok, con1_rse, con2_ok, tupM_ev, tup1_0, tup1_1, tup1_2, tup1_3, tup1_4, szA_ev, sz1_0, sz1_1, sz1_2, sz1_3, sz1_4, sz1_5, sz1_6, sz1_8, sz1_10, newM_ev, new1_ok, onL_ev, onL1_ok, tupL_ev, clM_ev, cl1_rse, cl1_0, cl1_1, cl1_2, cl1_3, cl1_4, cl1_5, putM_ev, putT_ok, putT2_ok, putT3_ok, putT4_some, augM_ev, augT_some, noO_ev, someO_ev, some1_ok, slM_ev, sl1_ok, sl2_ok, sl3_ok, metM_ev, met0_ev, intD0_ev, add_ii, sub_ii, neg_i, lt_ii, le_ii, gt_ii, ge_ii, isN_ev, notN_ev, num_i, num_b, notD_b, isi_bool_bl, len_tup, len_fz, tup_tup, ix_tup0, ix_tup1, ix_tup2, itM_ev, it1_ok, src_tup, src_fz, src_str, fixC_ev, lvI_ev, lv1_ok, rngI_ev, rg1_ok, forM_ev, for1_ok, turnT_nx, turnT_ct, turnT_bk, turnT_rt, turnT_rse, nmG_ev, tupG_ev, consG_ev, nilG_ev, compM_ev, yesT_ev, fn1_nx, fn1_rt, fn1_rse, eq_ii, eq_bb, max_ii, min_ii, slD_tup, List.getElem?_cons_zero, List.getElem?_cons_succ, List.set_cons_zero, List.set_cons_succ, List.map_cons, List.map_nil, List.length_cons, List.length_nil, List.cons_append, List.nil_append, Option.bind_some, decide_true, decide_false, Bool.not_true, Bool.not_false, ne_ii, ne_bb, forL_nil0, tup_lst f11.gs.sA, tup_lst hE11]
  have hsig : (Gr.mk (grSyms a t w) ts).sig = s := by
    show (⟨(grSyms a t w).map (·.2), ts.map (·.2.1)⟩ : Sig) = ⟨(grSyms a t w).map (·.2), fs.map (·.2)⟩
    rw [← hts, List.map_map]
    rfl
  have hmem : ∀ f ∈ ts, (f.1, f.2.1) ∈ fs := fun f hf => by
    rw [← hts]
    exact List.mem_map.mpr ⟨f, hf, rfl⟩
  refine Ends.of ⟨⟨grSyms a t w, ts⟩, rfl, ⟨?_, ?_, ?_, fun f hf => (hb11 f hf).2, ?_, fun f hf => (hf9 _ (hmem f hf)).1, ⟨a, t, w, rfl, hw⟩, ⟨m, h, hm2, ?_⟩⟩, f11.gs.ci, f11.gs.kx⟩
  · rw [hsig]; exact sig_ok hs
  · rw [hsig]; exact fun f hf => par_okM hs (hf9 _ (hmem f hf)).1 (hf9 _ (hmem f hf)).2
  · rw [hsig]; exact fun f hf => (hb11 f hf).1
  · rw [← hts, List.getElem?_map] at hz9
    obtain ⟨⟨a1, a2, a3⟩, h1, h2⟩ := Option.map_eq_some_iff.mp hz9
    cases h2
    exact ⟨a3, h1⟩
  · rw [← hn9, ← hts, List.map_map]
    rfl
end
end L3

/-! L3N: parameters replaced, heads unfolded. -/
namespace L3
open PySem PySem.Spec L2
mutual
def sub (as : List Tm) : Tm → Tm
  | .mk .par n l => match as[n]? with
    | some (.mk h' n' l') => .mk h' n' (l' ++ subs as l)
    | none => .mk .par n (subs as l)
  | .mk .sym n l => .mk .sym n (subs as l)
  | .mk .fn n l => .mk .fn n (subs as l)
def subs (as : List Tm) : List Tm → List Tm
  | [] => []
  | t :: l => sub as t :: subs as l
end
section
variable {s : Sig} {qs ps : List Kd} {as : List Tm}
theorem HasKs.get : ∀ {as : List Tm} {ps : List Kd} {n : Nat} {k : Kd}, HasKs s qs as ps → ps[n]? = some k → ∃ a, as[n]? = some a ∧ HasK s qs a k.parts
  | _, _, _, _, .nil, e => by simp at e
  | _, _, 0, _, .cons h _, e => by simp at e; subst e; exact ⟨_, rfl, h⟩
  | _, _, n + 1, k, .cons _ hs, e => by simpa using HasKs.get hs (by simpa using e)
theorem HasKs.get' : ∀ {as : List Tm} {ps : List Kd} {n : Nat} {a : Tm}, HasKs s qs as ps → as[n]? = some a → ∃ k, ps[n]? = some k ∧ HasK s qs a k.parts
  | _, _, _, _, .nil, e => by simp at e
  | _, _, 0, _, .cons h _, e => by simp at e; subst e; exact ⟨_, rfl, h⟩
  | _, _, n + 1, k, .cons _ hs, e => by simpa using HasKs.get' hs (by simpa using e)
theorem HasKs.append : ∀ {as bs : List Tm} {ps ks : List Kd}, HasKs s qs as ps → HasKs s qs bs ks → HasKs s qs (as ++ bs) (ps ++ ks)
  | _, _, _, _, .nil, h => h
  | _, _, _, _, .cons a t, h => .cons a (HasKs.append t h)
theorem HasKs.length : ∀ {as : List Tm} {ps : List Kd}, HasKs s qs as ps → as.length = ps.length
  | _, _, .nil => rfl
  | _, _, .cons _ t => congrArg Nat.succ (HasKs.length t)
mutual
theorem sub_has (ha : HasKs s qs as ps) : ∀ {t : Tm} {k : List Kd}, HasK s ps t k → HasK s qs (sub as t) k
  | .mk .sym n l, k, .mk e hl => by unfold sub; exact .mk e (subs_has ha hl)
  | .mk .fn n l, k, .mk e hl => by unfold sub; exact .mk e (subs_has ha hl)
  | .mk .par n l, k, .mk (ks := ks) e hl => by
    obtain ⟨x, h1, h2⟩ := Option.map_eq_some_iff.mp e
    obtain ⟨a, h3, h4⟩ := ha.get h1
    have hl' := subs_has ha hl
    unfold sub
    rw [h3]
    cases h4 with
    | @mk h' n' l' ks' _ e' hl'' =>
      rw [h2, ← List.append_assoc] at e'
      exact .mk e' (hl''.append hl')
theorem subs_has (ha : HasKs s qs as ps) : ∀ {ts : List Tm} {ks : List Kd}, HasKs s ps ts ks → HasKs s qs (subs as ts) ks
  | [], _, .nil => by unfold subs; exact .nil
  | t :: ts, _, .cons h hs => by unfold subs; exact .cons (sub_has ha h) (subs_has ha hs)
end
theorem has_len (hs : SigOk s) (hp : ParOk s ps) {h : Hd} {n : Nat} {l : List Tm} {k : List Kd} (e : HasK s ps (.mk h n l) k) : l.length ≤ 100 := by
  cases e with
  | mk e hl =>
    have := (hk_good hs hp e).1
    rw [hl.length]
    simp at this
    omega
theorem tm_d {h : Hd} {n : Nat} {l : List Tm} : (Tm.mk h n l).d = .tup [.str h.s, .int (n : Int), .tup (tds l)] := by unfold Tm.d; rfl
theorem tds_nil : tds [] = [] := by unfold tds; rfl
theorem tds_cons {t : Tm} {l : List Tm} : tds (t :: l) = t.d :: tds l := by simp [tds_map]
theorem subs_cons {t : Tm} {l : List Tm} : subs as (t :: l) = sub as t :: subs as l := by conv => lhs; unfold subs
theorem sub_sym {n : Nat} {l : List Tm} : sub as (.mk .sym n l) = .mk .sym n (subs as l) := by conv => lhs; unfold sub
theorem sub_fn {n : Nat} {l : List Tm} : sub as (.mk .fn n l) = .mk .fn n (subs as l) := by conv => lhs; unfold sub
theorem sub_par {n n' : Nat} {h' : Hd} {l l' : List Tm} (h : as[n]? = some (.mk h' n' l')) : sub as (.mk .par n l) = .mk h' n' (l' ++ subs as l) := by
  conv => lhs; unfold sub
  rw [h]
theorem subs_length : ∀ l : List Tm, (subs as l).length = l.length
  | [] => by unfold subs; rfl
  | t :: l => by unfold subs; simp [subs_length l]
theorem tds_append {l m : List Tm} : tds (l ++ m) = tds l ++ tds m := by simp [tds_map]
/-- the parts, one by one -/
theorem comp_subs {f : List D → Sto → Rs D} {i : Nat} (hi : i ≠ 1) {S : Sto} {e : Sl} {A : D} (h1 : e[1]? = some (some A)) (hl : i < e.length) : ∀ l : List Tm, (∀ t ∈ l, f [t.d, A] S = .ok (sub as t).d S) →
    compL fixC (nmG i) yesT (clM 2 f (consA (vM i) (consA (vM 1) nilA))) (tds l) e S = some (tds (subs as l), S)
  | [], _ => by unfold tds subs; exact compL_nil' rfl
  | t :: l, h => by
    have ih := comp_subs hi h1 hl l fun t ht => h t (by simp [ht])
    rw [tds_cons, subs_cons, tds_cons]
    refine compL_yes rfl rfl rfl ?_ ih
    have g1 : (e.set i (some t.d))[i]? = some (some t.d) := List.getElem?_set_self hl
    have g2 : (e.set i (some t.d))[1]? = some (some A) := by rw [List.getElem?_set_ne hi]; exact h1
    simp only [seqM_ev, thenT_nx, thenT_rt, thenT_bk, thenT_ct, thenT_rse, nopM_ev, brkM_ev, cntM_ev, setM_ev, setT_ok, setT_rse, setLM_ev, setLT_ok, dropM_ev, dropT_ok, dropT_rse, retM_ev, retT_ok, retT_rse, ifS_ev, ifT_true, ifT_false, asgM_ev, asgT_ok', optT_some, cM_ev, vM_ev, vR_some, opM_ev, op1_ok, op1_rse, op2_ok, op2_rse, unM_ev, un1_ok, un1_rse, blT_ev, blR_ok, blR_rse, trT_ev, trR_ok, tru_bl, tru_non, tru_tup, tru_int, andT_ev, and1_true, and1_false, orT_ev, or1_true, or1_false, notT_ev, not1_ok, andM_ev, andV_true, andV_false, orM_ev, orV_true, orV_false, ifM_ev, if1_true, if1_false, chM_ev, ch1_ok, ch2_ok, ch3_true, ch3_false, nilA_ev, consA_ev, con1_ok, con1_rse, con2_ok, tupM_ev, tup1_0, tup1_1, tup1_2, tup1_3, tup1_4, szA_ev, sz1_0, sz1_1, sz1_2, sz1_3, sz1_4, sz1_5, sz1_6, sz1_8, sz1_10, newM_ev, new1_ok, onL_ev, onL1_ok, tupL_ev, clM_ev, cl1_rse, cl1_0, cl1_1, cl1_2, cl1_3, cl1_4, cl1_5, putM_ev, putT_ok, putT2_ok, putT3_ok, putT4_some, augM_ev, augT_some, noO_ev, someO_ev, some1_ok, slM_ev, sl1_ok, sl2_ok, sl3_ok, metM_ev, met0_ev, intD0_ev, add_ii, sub_ii, neg_i, lt_ii, le_ii, gt_ii, ge_ii, isN_ev, notN_ev, num_i, num_b, notD_b, isi_bool_bl, len_tup, len_fz, tup_tup, ix_tup0, ix_tup1, ix_tup2, itM_ev, it1_ok, src_tup, src_fz, src_str, fixC_ev, lvI_ev, lv1_ok, rngI_ev, rg1_ok, forM_ev, for1_ok, turnT_nx, turnT_ct, turnT_bk, turnT_rt, turnT_rse, nmG_ev, tupG_ev, consG_ev, nilG_ev, compM_ev, yesT_ev, fn1_nx, fn1_rt, fn1_rse, eq_ii, eq_bb, max_ii, min_ii, slD_tup, List.getElem?_cons_zero, List.getElem?_cons_succ, List.set_cons_zero, List.set_cons_succ, List.map_cons, List.map_nil, List.length_cons, List.length_nil, List.cons_append, List.nil_append, Option.bind_some, decide_true, decide_false, Bool.not_true, Bool.not_false, ne_ii, ne_bb, forL_nil0, g1, g2, h t (by simp)]
end
inductive TN where
  | replace
  | unfold
  | law_put
  | law_unfolded
noncomputable def TN_replace (cf : TN → List D → Sto → Rs D) : MS := (seqM (asgM (tupG 3 (consG (nmG 2) (consG (nmG 3) (consG (nmG 4) nilG)))) (vM 0))
    (seqM (setM 4 (onL tupL (compM (itM srcD (vM 4)) (nmG 6) [6] yesT (clM 2 (cf .replace) (consA (vM 6) (consA (vM 1) nilA))))))
    (seqM (ifS (blT (opM neD (vM 2) (cM (.str "par")))) (retM (tupM (consA (vM 2) (consA (vM 3) (consA (vM 4) nilA)))))
    nopM)
    (seqM (setM 5 (opM ixD (vM 1) (vM 3)))
    (retM (tupM (consA (opM ixD (vM 5) (cM (.int 0))) (consA (opM ixD (vM 5) (cM (.int 1))) (consA (opM addD (opM ixD (vM 5) (cM (.int 2))) (vM 4)) nilA)))))))))
noncomputable abbrev TN_unfold_l1 (cf : TN → List D → Sto → Rs D) : MS := (seqM (ifS (blT (opM eqD (vM 2) (cM (.int 0)))) (retM (cM .non))
    nopM)
    (seqM (augM 2 subD (cM (.int 1)))
    (setM 1 (clM 2 (cf .replace) (consA (opM ixD (opM ixD (vM 3) (opM ixD (vM 1) (cM (.int 1)))) (cM (.int 2))) (consA (opM ixD (vM 1) (cM (.int 2))) nilA))))))
noncomputable def TN_unfold (cf : TN → List D → Sto → Rs D) : MS := (seqM (setM 3 (opM ixD (vM 0) (cM (.int 1))))
    (seqM (whM (blT (opM eqD (opM ixD (vM 1) (cM (.int 0))) (cM (.str "fun")))) (TN_unfold_l1 cf))
    (retM (tupM (consA (vM 1) (consA (vM 2) nilA))))))
noncomputable def TN_law_put (cf : TN → List D → Sto → Rs D) : MS := (seqM (setM 2 (onL tupL (compM (itM srcD (opM ixD (vM 0) (cM (.int 2)))) (nmG 4) [4] yesT (clM 2 (cf .law_put) (consA (vM 4) (consA (vM 1) nilA))))))
    (seqM (ifS (blT (opM eqD (opM ixD (vM 0) (cM (.int 0))) (cM (.str "par")))) (seqM (setM 3 (opM ixD (vM 1) (opM ixD (vM 0) (cM (.int 1)))))
    (retM (tupM (consA (opM ixD (vM 3) (cM (.int 0))) (consA (opM ixD (vM 3) (cM (.int 1))) (consA (opM addD (opM ixD (vM 3) (cM (.int 2))) (vM 2)) nilA))))))
    nopM)
    (retM (tupM (consA (opM ixD (vM 0) (cM (.int 0))) (consA (opM ixD (vM 0) (cM (.int 1))) (consA (vM 2) nilA)))))))
noncomputable abbrev TN_law_unfolded_l1 (cf : TN → List D → Sto → Rs D) : MS := (seqM (ifS (blT (opM geD (vM 3) (vM 2))) (retM (cM .non))
    nopM)
    (seqM (setM 3 (opM addD (vM 3) (cM (.int 1))))
    (setM 1 (clM 2 (cf .law_put) (consA (opM ixD (opM ixD (opM ixD (vM 0) (cM (.int 1))) (opM ixD (vM 1) (cM (.int 1)))) (cM (.int 2))) (consA (opM ixD (vM 1) (cM (.int 2))) nilA))))))
noncomputable def TN_law_unfolded (cf : TN → List D → Sto → Rs D) : MS := (seqM (setM 3 (cM (.int 0)))
    (seqM (whM (blT (opM eqD (opM ixD (vM 1) (cM (.int 0))) (cM (.str "fun")))) (TN_law_unfolded_l1 cf))
    (retM (newM (szA (consA (vM 1) (consA (vM 3) nilA)))))))
structure TNSrc (F : Nat → TN → List D → Sto → Rs D) : Prop where
  replace : ∀ k, F (k + 1) .replace = fnM 7 (TN_replace (F k))
  unfold : ∀ k, F (k + 1) .unfold = fnM 4 (TN_unfold (F k))
  law_put : ∀ k, F (k + 1) .law_put = fnM 5 (TN_law_put (F k))
  law_unfolded : ∀ k, F (k + 1) .law_unfolded = fnM 4 (TN_law_unfolded (F k))

section
variable {F : Nat → TN → List D → Sto → Rs D} {s : Sig} {qs ps : List Kd} {as : List Tm}
theorem Tm.d_eq (t : Tm) : ∃ h n l, t = .mk h n l ∧ t.d = .tup [.str h.s, .int (n : Int), .tup (tds l)] := by
  cases t with
  | mk h n l => exact ⟨h, n, l, rfl, by unfold Tm.d; rfl⟩
theorem replace_gn (src : TNSrc F) {k : Nat} (hs : SigOk s) (hp : ParOk s ps) (hq : ParOk s qs) (ha : HasKs s qs as ps) : ∀ (d : Nat) (t : Tm) (kd : List Kd) (S : Sto), t.dep ≤ d → HasK s ps t kd → F (k + d) .replace [t.d, .tup (tds as)] S = .ok (sub as t).d S
  | 0, t, kd, S, hd, ht => by cases t; unfold Tm.dep at hd; omega
  | d + 1, .mk h n l, kd, S, hd, ht => by
    unfold Tm.dep at hd
    have hl := has_len hs hp ht
    cases ht with
    | mk e hls =>
      rw [show k + (d + 1) = (k + d) + 1 from rfl, src.replace]
      have hc : ∀ x0 x2 x3, cmp1 (.ok (tds l, fixC) S) (nmG 6) [6] yesT (clM 2 (F (k + d) .replace) (consA (vM 6) (consA (vM 1) nilA))) [x0, some (.tup (tds as)), x2, x3, some (.tup (tds l)), none, none] = .ok (tds (subs as l)) S := fun x0 x2 x3 =>
        cmp1_ok (by rw [tds_length]; omega) (comp_subs (by decide) rfl (by simp [wipeD]) l fun t ht => by
          obtain ⟨i, hi⟩ := List.mem_iff_getElem?.mp ht
          obtain ⟨k', _, hk'⟩ := hls.get' hi
          exact replace_gn src hs hp hq ha d t _ S (tdeps_le.mp (by omega) t ht) hk')
      rw [tm_d]
      simp only [TN_replace, fnM_ev, startD, List.replicate, seqM_ev, thenT_nx, thenT_rt, thenT_bk, thenT_ct, thenT_rse, nopM_ev, brkM_ev, cntM_ev, setM_ev, setT_ok, setT_rse, setLM_ev, setLT_ok, dropM_ev, dropT_ok, dropT_rse, retM_ev, retT_ok, retT_rse, ifS_ev, ifT_true, ifT_false, asgM_ev, asgT_ok', optT_some, cM_ev, vM_ev, vR_some, opM_ev, op1_ok, op1_rse, op2_ok, op2_rse, unM_ev, un1_ok, un1_rse, blT_ev, blR_ok, blR_rse, trT_ev, trR_ok, tru_bl, tru_non, tru_tup, tru_int, andT_ev, and1_true, and1_false, orT_ev, or1_true, or1_false, notT_ev, not1_ok, andM_ev, andV_true, andV_false, orM_ev, orV_true, orV_false, ifM_ev, if1_true, if1_false, chM_ev, ch1_ok, ch2_ok, ch3_true, ch3_false, nilA_ev, consA_ev, con1_ok, con1_rse, con2_ok, tupM_ev, tup1_0, tup1_1, tup1_2, tup1_3, tup1_4, szA_ev, sz1_0, sz1_1, sz1_2, sz1_3, sz1_4, sz1_5, sz1_6, sz1_8, sz1_10, newM_ev, new1_ok, onL_ev, onL1_ok, tupL_ev, clM_ev, cl1_rse, cl1_0, cl1_1, cl1_2, cl1_3, cl1_4, cl1_5, putM_ev, putT_ok, putT2_ok, putT3_ok, putT4_some, augM_ev, augT_some, noO_ev, someO_ev, some1_ok, slM_ev, sl1_ok, sl2_ok, sl3_ok, metM_ev, met0_ev, intD0_ev, add_ii, sub_ii, neg_i, lt_ii, le_ii, gt_ii, ge_ii, isN_ev, notN_ev, num_i, num_b, notD_b, isi_bool_bl, len_tup, len_fz, tup_tup, ix_tup0, ix_tup1, ix_tup2, itM_ev, it1_ok, src_tup, src_fz, src_str, fixC_ev, lvI_ev, lv1_ok, rngI_ev, rg1_ok, forM_ev, for1_ok, turnT_nx, turnT_ct, turnT_bk, turnT_rt, turnT_rse, nmG_ev, tupG_ev, consG_ev, nilG_ev, compM_ev, yesT_ev, fn1_nx, fn1_rt, fn1_rse, eq_ii, eq_bb, max_ii, min_ii, slD_tup, List.getElem?_cons_zero, List.getElem?_cons_succ, List.set_cons_zero, List.set_cons_succ, List.map_cons, List.map_nil, List.length_cons, List.length_nil, List.cons_append, List.nil_append, Option.bind_some, decide_true, decide_false, Bool.not_true, Bool.not_false, ne_ii, ne_bb, forL_nil0, if_true, hc, ne_par]
      cases h with
      | sym =>
        rw [decide_eq_false (show ¬ Hd.sym = Hd.par by decide)]
        simp only [seqM_ev, thenT_nx, thenT_rt, thenT_bk, thenT_ct, thenT_rse, nopM_ev, brkM_ev, cntM_ev, setM_ev, setT_ok, setT_rse, setLM_ev, setLT_ok, dropM_ev, dropT_ok, dropT_rse, retM_ev, retT_ok, retT_rse, ifS_ev, ifT_true, ifT_false, asgM_ev, asgT_ok', optT_some, cM_ev, vM_ev, vR_some, opM_ev, op1_ok, op1_rse, op2_ok, op2_rse, unM_ev, un1_ok, un1_rse, blT_ev, blR_ok, blR_rse, trT_ev, trR_ok, tru_bl, tru_non, tru_tup, tru_int, andT_ev, and1_true, and1_false, orT_ev, or1_true, or1_false, notT_ev, not1_ok, andM_ev, andV_true, andV_false, orM_ev, orV_true, orV_false, ifM_ev, if1_true, if1_false, chM_ev, ch1_ok, ch2_ok, ch3_true, ch3_false, nilA_ev, consA_ev, con1_ok, con1_rse, con2_ok, tupM_ev, tup1_0, tup1_1, tup1_2, tup1_3, tup1_4, szA_ev, sz1_0, sz1_1, sz1_2, sz1_3, sz1_4, sz1_5, sz1_6, sz1_8, sz1_10, newM_ev, new1_ok, onL_ev, onL1_ok, tupL_ev, clM_ev, cl1_rse, cl1_0, cl1_1, cl1_2, cl1_3, cl1_4, cl1_5, putM_ev, putT_ok, putT2_ok, putT3_ok, putT4_some, augM_ev, augT_some, noO_ev, someO_ev, some1_ok, slM_ev, sl1_ok, sl2_ok, sl3_ok, metM_ev, met0_ev, intD0_ev, add_ii, sub_ii, neg_i, lt_ii, le_ii, gt_ii, ge_ii, isN_ev, notN_ev, num_i, num_b, notD_b, isi_bool_bl, len_tup, len_fz, tup_tup, ix_tup0, ix_tup1, ix_tup2, itM_ev, it1_ok, src_tup, src_fz, src_str, fixC_ev, lvI_ev, lv1_ok, rngI_ev, rg1_ok, forM_ev, for1_ok, turnT_nx, turnT_ct, turnT_bk, turnT_rt, turnT_rse, nmG_ev, tupG_ev, consG_ev, nilG_ev, compM_ev, yesT_ev, fn1_nx, fn1_rt, fn1_rse, eq_ii, eq_bb, max_ii, min_ii, slD_tup, List.getElem?_cons_zero, List.getElem?_cons_succ, List.set_cons_zero, List.set_cons_succ, List.map_cons, List.map_nil, List.length_cons, List.length_nil, List.cons_append, List.nil_append, Option.bind_some, decide_true, decide_false, Bool.not_true, Bool.not_false, ne_ii, ne_bb, forL_nil0, sub_sym, tm_d]
      | fn =>
        rw [decide_eq_false (show ¬ Hd.fn = Hd.par by decide)]
        simp only [seqM_ev, thenT_nx, thenT_rt, thenT_bk, thenT_ct, thenT_rse, nopM_ev, brkM_ev, cntM_ev, setM_ev, setT_ok, setT_rse, setLM_ev, setLT_ok, dropM_ev, dropT_ok, dropT_rse, retM_ev, retT_ok, retT_rse, ifS_ev, ifT_true, ifT_false, asgM_ev, asgT_ok', optT_some, cM_ev, vM_ev, vR_some, opM_ev, op1_ok, op1_rse, op2_ok, op2_rse, unM_ev, un1_ok, un1_rse, blT_ev, blR_ok, blR_rse, trT_ev, trR_ok, tru_bl, tru_non, tru_tup, tru_int, andT_ev, and1_true, and1_false, orT_ev, or1_true, or1_false, notT_ev, not1_ok, andM_ev, andV_true, andV_false, orM_ev, orV_true, orV_false, ifM_ev, if1_true, if1_false, chM_ev, ch1_ok, ch2_ok, ch3_true, ch3_false, nilA_ev, consA_ev, con1_ok, con1_rse, con2_ok, tupM_ev, tup1_0, tup1_1, tup1_2, tup1_3, tup1_4, szA_ev, sz1_0, sz1_1, sz1_2, sz1_3, sz1_4, sz1_5, sz1_6, sz1_8, sz1_10, newM_ev, new1_ok, onL_ev, onL1_ok, tupL_ev, clM_ev, cl1_rse, cl1_0, cl1_1, cl1_2, cl1_3, cl1_4, cl1_5, putM_ev, putT_ok, putT2_ok, putT3_ok, putT4_some, augM_ev, augT_some, noO_ev, someO_ev, some1_ok, slM_ev, sl1_ok, sl2_ok, sl3_ok, metM_ev, met0_ev, intD0_ev, add_ii, sub_ii, neg_i, lt_ii, le_ii, gt_ii, ge_ii, isN_ev, notN_ev, num_i, num_b, notD_b, isi_bool_bl, len_tup, len_fz, tup_tup, ix_tup0, ix_tup1, ix_tup2, itM_ev, it1_ok, src_tup, src_fz, src_str, fixC_ev, lvI_ev, lv1_ok, rngI_ev, rg1_ok, forM_ev, for1_ok, turnT_nx, turnT_ct, turnT_bk, turnT_rt, turnT_rse, nmG_ev, tupG_ev, consG_ev, nilG_ev, compM_ev, yesT_ev, fn1_nx, fn1_rt, fn1_rse, eq_ii, eq_bb, max_ii, min_ii, slD_tup, List.getElem?_cons_zero, List.getElem?_cons_succ, List.set_cons_zero, List.set_cons_succ, List.map_cons, List.map_nil, List.length_cons, List.length_nil, List.cons_append, List.nil_append, Option.bind_some, decide_true, decide_false, Bool.not_true, Bool.not_false, ne_ii, ne_bb, forL_nil0, sub_fn, tm_d]
      | par =>
        obtain ⟨x, h1, h2⟩ := Option.map_eq_some_iff.mp e
        obtain ⟨a, h3, h4⟩ := ha.get h1
        cases a with
        | mk h' n' l' =>
          have hl' := has_len hs hq h4
          have hix : ixD (.tup (tds as)) (.int (n : Int)) S = .ok (.tup [.str h'.s, .int (n' : Int), .tup (tds l')]) S := ix_tup (atI_nat (by rw [tds_map, List.getElem?_map, h3]; simp [Tm.d]))
          simp only [seqM_ev, thenT_nx, thenT_rt, thenT_bk, thenT_ct, thenT_rse, nopM_ev, brkM_ev, cntM_ev, setM_ev, setT_ok, setT_rse, setLM_ev, setLT_ok, dropM_ev, dropT_ok, dropT_rse, retM_ev, retT_ok, retT_rse, ifS_ev, ifT_true, ifT_false, asgM_ev, asgT_ok', optT_some, cM_ev, vM_ev, vR_some, opM_ev, op1_ok, op1_rse, op2_ok, op2_rse, unM_ev, un1_ok, un1_rse, blT_ev, blR_ok, blR_rse, trT_ev, trR_ok, tru_bl, tru_non, tru_tup, tru_int, andT_ev, and1_true, and1_false, orT_ev, or1_true, or1_false, notT_ev, not1_ok, andM_ev, andV_true, andV_false, orM_ev, orV_true, orV_false, ifM_ev, if1_true, if1_false, chM_ev, ch1_ok, ch2_ok, ch3_true, ch3_false, nilA_ev, consA_ev, con1_ok, con1_rse, con2_ok, tupM_ev, tup1_0, tup1_1, tup1_2, tup1_3, tup1_4, szA_ev, sz1_0, sz1_1, sz1_2, sz1_3, sz1_4, sz1_5, sz1_6, sz1_8, sz1_10, newM_ev, new1_ok, onL_ev, onL1_ok, tupL_ev, clM_ev, cl1_rse, cl1_0, cl1_1, cl1_2, cl1_3, cl1_4, cl1_5, putM_ev, putT_ok, putT2_ok, putT3_ok, putT4_some, augM_ev, augT_some, noO_ev, someO_ev, some1_ok, slM_ev, sl1_ok, sl2_ok, sl3_ok, metM_ev, met0_ev, intD0_ev, add_ii, sub_ii, neg_i, lt_ii, le_ii, gt_ii, ge_ii, isN_ev, notN_ev, num_i, num_b, notD_b, isi_bool_bl, len_tup, len_fz, tup_tup, ix_tup0, ix_tup1, ix_tup2, itM_ev, it1_ok, src_tup, src_fz, src_str, fixC_ev, lvI_ev, lv1_ok, rngI_ev, rg1_ok, forM_ev, for1_ok, turnT_nx, turnT_ct, turnT_bk, turnT_rt, turnT_rse, nmG_ev, tupG_ev, consG_ev, nilG_ev, compM_ev, yesT_ev, fn1_nx, fn1_rt, fn1_rse, eq_ii, eq_bb, max_ii, min_ii, slD_tup, List.getElem?_cons_zero, List.getElem?_cons_succ, List.set_cons_zero, List.set_cons_succ, List.map_cons, List.map_nil, List.length_cons, List.length_nil, List.cons_append, List.nil_append, Option.bind_some, decide_true, decide_false, Bool.not_true, Bool.not_false, ne_ii, ne_bb, forL_nil0, hix, addT_ok (show (tds l').length + (tds (subs as l)).length ≤ 1000000 by rw [tds_length, tds_length, subs_length]; omega)]
          unfold sub
          rw [h3]
          unfold Tm.d
          rw [tds_append]
theorem put_gn (src : TNSrc F) {k : Nat} (hs : SigOk s) (hp : ParOk s ps) (hq : ParOk s qs) (ha : HasKs s qs as ps) : ∀ (d : Nat) (t : Tm) (kd : List Kd) (S : Sto), t.dep ≤ d → HasK s ps t kd → F (k + d) .law_put [t.d, .tup (tds as)] S = .ok (sub as t).d S
  | 0, t, kd, S, hd, ht => by cases t; unfold Tm.dep at hd; omega
  | d + 1, .mk h n l, kd, S, hd, ht => by
    unfold Tm.dep at hd
    have hl := has_len hs hp ht
    cases ht with
    | mk e hls =>
      rw [show k + (d + 1) = (k + d) + 1 from rfl, src.law_put]
      have hc : ∀ x0, cmp1 (.ok (tds l, fixC) S) (nmG 4) [4] yesT (clM 2 (F (k + d) .law_put) (consA (vM 4) (consA (vM 1) nilA))) [x0, some (.tup (tds as)), none, none, none] = .ok (tds (subs as l)) S := fun x0 =>
        cmp1_ok (by rw [tds_length]; omega) (comp_subs (by decide) rfl (by simp [wipeD]) l fun t ht => by
          obtain ⟨i, hi⟩ := List.mem_iff_getElem?.mp ht
          obtain ⟨k', _, hk'⟩ := hls.get' hi
          exact put_gn src hs hp hq ha d t _ S (tdeps_le.mp (by omega) t ht) hk')
      rw [tm_d]
      simp only [TN_law_put, fnM_ev, startD, List.replicate, seqM_ev, thenT_nx, thenT_rt, thenT_bk, thenT_ct, thenT_rse, nopM_ev, brkM_ev, cntM_ev, setM_ev, setT_ok, setT_rse, setLM_ev, setLT_ok, dropM_ev, dropT_ok, dropT_rse, retM_ev, retT_ok, retT_rse, ifS_ev, ifT_true, ifT_false, asgM_ev, asgT_ok', optT_some, cM_ev, vM_ev, vR_some, opM_ev, op1_ok, op1_rse, op2_ok, op2_rse, unM_ev, un1_ok, un1_rse, blT_ev, blR_ok, blR_rse, trT_ev, trR_ok, tru_bl, tru_non, tru_tup, tru_int, andT_ev, and1_true, and1_false, orT_ev, or1_true, or1_false, notT_ev, not1_ok, andM_ev, andV_true, andV_false, orM_ev, orV_true, orV_false, ifM_ev, if1_true, if1_false, chM_ev, ch1_ok, ch2_ok, ch3_true, ch3_false, nilA_ev, consA_ev, con1_ok, con1_rse, con2_ok, tupM_ev, tup1_0, tup1_1, tup1_2, tup1_3, tup1_4, szA_ev, sz1_0, sz1_1, sz1_2, sz1_3, sz1_4, sz1_5, sz1_6, sz1_8, sz1_10, newM_ev, new1_ok, onL_ev, onL1_ok, tupL_ev, clM_ev, cl1_rse, cl1_0, cl1_1, cl1_2, cl1_3, cl1_4, cl1_5, putM_ev, putT_ok, putT2_ok, putT3_ok, putT4_some, augM_ev, augT_some, noO_ev, someO_ev, some1_ok, slM_ev, sl1_ok, sl2_ok, sl3_ok, metM_ev, met0_ev, intD0_ev, add_ii, sub_ii, neg_i, lt_ii, le_ii, gt_ii, ge_ii, isN_ev, notN_ev, num_i, num_b, notD_b, isi_bool_bl, len_tup, len_fz, tup_tup, ix_tup0, ix_tup1, ix_tup2, itM_ev, it1_ok, src_tup, src_fz, src_str, fixC_ev, lvI_ev, lv1_ok, rngI_ev, rg1_ok, forM_ev, for1_ok, turnT_nx, turnT_ct, turnT_bk, turnT_rt, turnT_rse, nmG_ev, tupG_ev, consG_ev, nilG_ev, compM_ev, yesT_ev, fn1_nx, fn1_rt, fn1_rse, eq_ii, eq_bb, max_ii, min_ii, slD_tup, List.getElem?_cons_zero, List.getElem?_cons_succ, List.set_cons_zero, List.set_cons_succ, List.map_cons, List.map_nil, List.length_cons, List.length_nil, List.cons_append, List.nil_append, Option.bind_some, decide_true, decide_false, Bool.not_true, Bool.not_false, ne_ii, ne_bb, forL_nil0, if_true, hc, eq_par]
      cases h with
      | sym =>
        rw [decide_eq_false (show ¬ Hd.sym = Hd.par by decide)]
        simp only [seqM_ev, thenT_nx, thenT_rt, thenT_bk, thenT_ct, thenT_rse, nopM_ev, brkM_ev, cntM_ev, setM_ev, setT_ok, setT_rse, setLM_ev, setLT_ok, dropM_ev, dropT_ok, dropT_rse, retM_ev, retT_ok, retT_rse, ifS_ev, ifT_true, ifT_false, asgM_ev, asgT_ok', optT_some, cM_ev, vM_ev, vR_some, opM_ev, op1_ok, op1_rse, op2_ok, op2_rse, unM_ev, un1_ok, un1_rse, blT_ev, blR_ok, blR_rse, trT_ev, trR_ok, tru_bl, tru_non, tru_tup, tru_int, andT_ev, and1_true, and1_false, orT_ev, or1_true, or1_false, notT_ev, not1_ok, andM_ev, andV_true, andV_false, orM_ev, orV_true, orV_false, ifM_ev, if1_true, if1_false, chM_ev, ch1_ok, ch2_ok, ch3_true, ch3_false, nilA_ev, consA_ev, con1_ok, con1_rse, con2_ok, tupM_ev, tup1_0, tup1_1, tup1_2, tup1_3, tup1_4, szA_ev, sz1_0, sz1_1, sz1_2, sz1_3, sz1_4, sz1_5, sz1_6, sz1_8, sz1_10, newM_ev, new1_ok, onL_ev, onL1_ok, tupL_ev, clM_ev, cl1_rse, cl1_0, cl1_1, cl1_2, cl1_3, cl1_4, cl1_5, putM_ev, putT_ok, putT2_ok, putT3_ok, putT4_some, augM_ev, augT_some, noO_ev, someO_ev, some1_ok, slM_ev, sl1_ok, sl2_ok, sl3_ok, metM_ev, met0_ev, intD0_ev, add_ii, sub_ii, neg_i, lt_ii, le_ii, gt_ii, ge_ii, isN_ev, notN_ev, num_i, num_b, notD_b, isi_bool_bl, len_tup, len_fz, tup_tup, ix_tup0, ix_tup1, ix_tup2, itM_ev, it1_ok, src_tup, src_fz, src_str, fixC_ev, lvI_ev, lv1_ok, rngI_ev, rg1_ok, forM_ev, for1_ok, turnT_nx, turnT_ct, turnT_bk, turnT_rt, turnT_rse, nmG_ev, tupG_ev, consG_ev, nilG_ev, compM_ev, yesT_ev, fn1_nx, fn1_rt, fn1_rse, eq_ii, eq_bb, max_ii, min_ii, slD_tup, List.getElem?_cons_zero, List.getElem?_cons_succ, List.set_cons_zero, List.set_cons_succ, List.map_cons, List.map_nil, List.length_cons, List.length_nil, List.cons_append, List.nil_append, Option.bind_some, decide_true, decide_false, Bool.not_true, Bool.not_false, ne_ii, ne_bb, forL_nil0, sub_sym, tm_d]
      | fn =>
        rw [decide_eq_false (show ¬ Hd.fn = Hd.par by decide)]
        simp only [seqM_ev, thenT_nx, thenT_rt, thenT_bk, thenT_ct, thenT_rse, nopM_ev, brkM_ev, cntM_ev, setM_ev, setT_ok, setT_rse, setLM_ev, setLT_ok, dropM_ev, dropT_ok, dropT_rse, retM_ev, retT_ok, retT_rse, ifS_ev, ifT_true, ifT_false, asgM_ev, asgT_ok', optT_some, cM_ev, vM_ev, vR_some, opM_ev, op1_ok, op1_rse, op2_ok, op2_rse, unM_ev, un1_ok, un1_rse, blT_ev, blR_ok, blR_rse, trT_ev, trR_ok, tru_bl, tru_non, tru_tup, tru_int, andT_ev, and1_true, and1_false, orT_ev, or1_true, or1_false, notT_ev, not1_ok, andM_ev, andV_true, andV_false, orM_ev, orV_true, orV_false, ifM_ev, if1_true, if1_false, chM_ev, ch1_ok, ch2_ok, ch3_true, ch3_false, nilA_ev, consA_ev, con1_ok, con1_rse, con2_ok, tupM_ev, tup1_0, tup1_1, tup1_2, tup1_3, tup1_4, szA_ev, sz1_0, sz1_1, sz1_2, sz1_3, sz1_4, sz1_5, sz1_6, sz1_8, sz1_10, newM_ev, new1_ok, onL_ev, onL1_ok, tupL_ev, clM_ev, cl1_rse, cl1_0, cl1_1, cl1_2, cl1_3, cl1_4, cl1_5, putM_ev, putT_ok, putT2_ok, putT3_ok, putT4_some, augM_ev, augT_some, noO_ev, someO_ev, some1_ok, slM_ev, sl1_ok, sl2_ok, sl3_ok, metM_ev, met0_ev, intD0_ev, add_ii, sub_ii, neg_i, lt_ii, le_ii, gt_ii, ge_ii, isN_ev, notN_ev, num_i, num_b, notD_b, isi_bool_bl, len_tup, len_fz, tup_tup, ix_tup0, ix_tup1, ix_tup2, itM_ev, it1_ok, src_tup, src_fz, src_str, fixC_ev, lvI_ev, lv1_ok, rngI_ev, rg1_ok, forM_ev, for1_ok, turnT_nx, turnT_ct, turnT_bk, turnT_rt, turnT_rse, nmG_ev, tupG_ev, consG_ev, nilG_ev, compM_ev, yesT_ev, fn1_nx, fn1_rt, fn1_rse, eq_ii, eq_bb, max_ii, min_ii, slD_tup, List.getElem?_cons_zero, List.getElem?_cons_succ, List.set_cons_zero, List.set_cons_succ, List.map_cons, List.map_nil, List.length_cons, List.length_nil, List.cons_append, List.nil_append, Option.bind_some, decide_true, decide_false, Bool.not_true, Bool.not_false, ne_ii, ne_bb, forL_nil0, sub_fn, tm_d]
      | par =>
        obtain ⟨x, h1, h2⟩ := Option.map_eq_some_iff.mp e
        obtain ⟨a, h3, h4⟩ := ha.get h1
        cases a with
        | mk h' n' l' =>
          have hl' := has_len hs hq h4
          have hix : ixD (.tup (tds as)) (.int (n : Int)) S = .ok (.tup [.str h'.s, .int (n' : Int), .tup (tds l')]) S := ix_tup (atI_nat (by rw [tds_map, List.getElem?_map, h3]; simp [Tm.d]))
          simp only [seqM_ev, thenT_nx, thenT_rt, thenT_bk, thenT_ct, thenT_rse, nopM_ev, brkM_ev, cntM_ev, setM_ev, setT_ok, setT_rse, setLM_ev, setLT_ok, dropM_ev, dropT_ok, dropT_rse, retM_ev, retT_ok, retT_rse, ifS_ev, ifT_true, ifT_false, asgM_ev, asgT_ok', optT_some, cM_ev, vM_ev, vR_some, opM_ev, op1_ok, op1_rse, op2_ok, op2_rse, unM_ev, un1_ok, un1_rse, blT_ev, blR_ok, blR_rse, trT_ev, trR_ok, tru_bl, tru_non, tru_tup, tru_int, andT_ev, and1_true, and1_false, orT_ev, or1_true, or1_false, notT_ev, not1_ok, andM_ev, andV_true, andV_false, orM_ev, orV_true, orV_false, ifM_ev, if1_true, if1_false, chM_ev, ch1_ok, ch2_ok, ch3_true, ch3_false, nilA_ev, consA_ev, con1_ok, con1_rse, con2_ok, tupM_ev, tup1_0, tup1_1, tup1_2, tup1_3, tup1_4, szA_ev, sz1_0, sz1_1, sz1_2, sz1_3, sz1_4, sz1_5, sz1_6, sz1_8, sz1_10, newM_ev, new1_ok, onL_ev, onL1_ok, tupL_ev, clM_ev, cl1_rse, cl1_0, cl1_1, cl1_2, cl1_3, cl1_4, cl1_5, putM_ev, putT_ok, putT2_ok, putT3_ok, putT4_some, augM_ev, augT_some, noO_ev, someO_ev, some1_ok, slM_ev, sl1_ok, sl2_ok, sl3_ok, metM_ev, met0_ev, intD0_ev, add_ii, sub_ii, neg_i, lt_ii, le_ii, gt_ii, ge_ii, isN_ev, notN_ev, num_i, num_b, notD_b, isi_bool_bl, len_tup, len_fz, tup_tup, ix_tup0, ix_tup1, ix_tup2, itM_ev, it1_ok, src_tup, src_fz, src_str, fixC_ev, lvI_ev, lv1_ok, rngI_ev, rg1_ok, forM_ev, for1_ok, turnT_nx, turnT_ct, turnT_bk, turnT_rt, turnT_rse, nmG_ev, tupG_ev, consG_ev, nilG_ev, compM_ev, yesT_ev, fn1_nx, fn1_rt, fn1_rse, eq_ii, eq_bb, max_ii, min_ii, slD_tup, List.getElem?_cons_zero, List.getElem?_cons_succ, List.set_cons_zero, List.set_cons_succ, List.map_cons, List.map_nil, List.length_cons, List.length_nil, List.cons_append, List.nil_append, Option.bind_some, decide_true, decide_false, Bool.not_true, Bool.not_false, ne_ii, ne_bb, forL_nil0, hix, addT_ok (show (tds l').length + (tds (subs as l)).length ≤ 1000000 by rw [tds_length, tds_length, subs_length]; omega)]
          unfold sub
          rw [h3]
          unfold Tm.d
          rw [tds_append]
/-! ### unfolding -/
structure GrW (g : Gr) : Prop where
  sig : SigOk g.sig
  par : ∀ f ∈ g.funs, ParOk g.sig f.2.1
  body : ∀ f ∈ g.funs, HasK g.sig f.2.1 f.2.2 []
  dep : ∀ f ∈ g.funs, f.2.2.dep ≤ 5
  start : ∃ nm t, g.funs[0]? = some (nm, [], t)
  names : ∀ p ∈ g.syms, PyData.strOk p.1 = true
theorem GrOk.w {g : Gr} (h : GrOk g) : GrW g := ⟨h.sig, h.par, h.body, h.dep, by obtain ⟨t, e⟩ := h.start; exact ⟨_, t, e⟩, by
  obtain ⟨a, t, w, e, _⟩ := h.syms
  rw [e]
  have h1 : PyData.strOk (Str.ofString "end") = true ∧ PyData.strOk (Str.ofString "b") = true ∧ PyData.strOk (Str.ofString "a") = true ∧ PyData.strOk (Str.ofString "t") = true ∧ PyData.strOk (Str.ofString "e2") = true := by decide +kernel
  cases a <;> cases t <;> cases w <;> simp [grSyms, h1]⟩
def body (g : Gr) (n : Nat) : Tm := match g.funs[n]? with
  | some f => f.2.2
  | none => .mk .sym 0 []
def unf (g : Gr) : Nat → Tm → Option (Tm × Nat)
  | 0, .mk .fn _ _ => none
  | s + 1, .mk .fn n l => unf g s (sub l (body g n))
  | s, .mk .sym n l => some (.mk .sym n l, s)
  | s, .mk .par n l => some (.mk .par n l, s)
theorem unf_zero {g : Gr} {n : Nat} {l : List Tm} : unf g 0 (.mk .fn n l) = none := by unfold unf; rfl
theorem unf_succ {g : Gr} {n s : Nat} {l : List Tm} : unf g (s + 1) (.mk .fn n l) = unf g s (sub l (body g n)) := by conv => lhs; unfold unf
theorem unf_sym {g : Gr} {n s : Nat} {l : List Tm} : unf g s (.mk .sym n l) = some (.mk .sym n l, s) := by cases s <;> (unfold unf; rfl)
abbrev Closed (g : Gr) (t : Tm) : Prop := HasK g.sig [] t []
theorem parOk_nil {s : Sig} : ParOk s [] := ⟨by simp, fun x hx => by simp at hx⟩
theorem body_of {g : Gr} (w : GrW g) {n : Nat} {l : List Tm} (h : Closed g (.mk .fn n l)) : ∃ f, g.funs[n]? = some f ∧ body g n = f.2.2 ∧ HasKs g.sig [] l f.2.1 ∧ HasK g.sig f.2.1 f.2.2 [] ∧ ParOk g.sig f.2.1 ∧ f.2.2.dep ≤ 5 := by
  cases h with
  | mk e hl =>
    have e : g.sig.funs[n]? = _ := e
    simp only [Gr.sig, List.getElem?_map] at e
    obtain ⟨f, hf, h2⟩ := Option.map_eq_some_iff.mp e
    rw [List.append_nil] at h2
    have hm := List.mem_of_getElem? hf
    refine ⟨f, hf, by simp [body, hf], by rw [h2]; exact hl, w.body f hm, w.par f hm, w.dep f hm⟩
theorem closed_sub {g : Gr} (w : GrW g) {n : Nat} {l : List Tm} (h : Closed g (.mk .fn n l)) : Closed g (sub l (body g n)) := by
  obtain ⟨f, _, h2, h3, h4, _⟩ := body_of w h
  rw [h2]
  exact sub_has h3 h4
theorem closed_head {g : Gr} {n : Nat} {l : List Tm} (h : Closed g (.mk .par n l)) : False := by
  cases h with
  | mk e hl => simp [hk] at e
theorem unf_has {g : Gr} (w : GrW g) : ∀ {s : Nat} {t t' : Tm} {r : Nat}, Closed g t → unf g s t = some (t', r) → Closed g t' ∧ r ≤ s ∧ ∃ n l, t' = .mk .sym n l
  | _, .mk .par n l, _, _, h, _ => (closed_head h).elim
  | s, .mk .sym n l, t', r, h, e => by
    rw [unf_sym] at e
    cases e
    exact ⟨h, Nat.le_refl _, n, l, rfl⟩
  | 0, .mk .fn n l, t', r, h, e => by rw [unf_zero] at e; cases e
  | s + 1, .mk .fn n l, t', r, h, e => by
    rw [unf_succ] at e
    obtain ⟨h1, h2, h3⟩ := unf_has w (closed_sub w h) e
    exact ⟨h1, by omega, h3⟩
theorem unf_shift {g : Gr} (w : GrW g) : ∀ {s : Nat} {t t' : Tm} {r : Nat}, Closed g t → unf g s t = some (t', r) → ∀ s2, (s ≤ r + s2 → unf g s2 t = some (t', r + s2 - s)) ∧ (r + s2 < s → unf g s2 t = none)
  | _, .mk .par n l, _, _, h, _ => (closed_head h).elim
  | s, .mk .sym n l, t', r, h, e => fun s2 => by
    rw [unf_sym] at e
    cases e
    refine ⟨fun _ => ?_, fun h => by omega⟩
    rw [unf_sym]
    congr 2
    omega
  | 0, .mk .fn n l, t', r, h, e => by rw [unf_zero] at e; cases e
  | s + 1, .mk .fn n l, t', r, h, e => fun s2 => by
    rw [unf_succ] at e
    have h1 := (unf_has w (closed_sub w h) e).2.1
    cases s2 with
    | zero => exact ⟨fun _ => by omega, fun _ => unf_zero⟩
    | succ s2 =>
      obtain ⟨h2, h3⟩ := unf_shift w (closed_sub w h) e s2
      rw [unf_succ]
      exact ⟨fun q => by rw [h2 (by omega)]; congr 2; omega, fun q => h3 (by omega)⟩
theorem closed_arg {g : Gr} {n i : Nat} {l : List Tm} {t : Tm} (h : Closed g (.mk .sym n l)) (e : l[i]? = some t) : Closed g t := by
  cases h with
  | mk e2 hl =>
    obtain ⟨r, _, h2⟩ := Option.map_eq_some_iff.mp e2
    obtain ⟨k, hk, h3⟩ := hl.get' e
    rw [List.append_nil] at h2
    have : k ∈ List.replicate r (Kd.mk []) := by rw [h2]; exact List.mem_of_getElem? hk
    rw [(List.mem_replicate.mp this).2] at h3
    exact h3
def resD (o : Option (Tm × Nat)) : D := match o with
  | some (t, r) => .tup [t.d, .int (r : Int)]
  | none => .non
theorem fix_fun {g : Gr} {n : Nat} {f : Str × List Kd × Tm} (h : g.funs[n]? = some f) {S : Sto} : ixD (.tup (g.funs.map fnD)) (.int (n : Int)) S = .ok (.tup [.str f.1, .tup (kds f.2.1), f.2.2.d]) S := ix_tup (atI_nat (by rw [List.getElem?_map, h]; rfl))
theorem unfold_loop (src : TNSrc F) {k : Nat} {g : Gr} (w : GrW g) {S : Sto} : ∀ (s : Nat) (t : Tm), Closed g t →
    whM (blT (opM eqD (opM ixD (vM 1) (cM (.int 0))) (cM (.str "fun")))) (TN_unfold_l1 (F (k + 5))) [some g.d, some t.d, some (.int (s : Int)), some (.tup (g.funs.map fnD))] S =
      match unf g s t with
      | some (t', r) => .nx [some g.d, some t'.d, some (.int (r : Int)), some (.tup (g.funs.map fnD))] S
      | none => .rt .non S
  | _, .mk .par n l, h => (closed_head h).elim
  | s, .mk .sym n l, h => by
    rw [unf_sym]
    refine whM_end ?_
    simp only [seqM_ev, thenT_nx, thenT_rt, thenT_bk, thenT_ct, thenT_rse, nopM_ev, brkM_ev, cntM_ev, setM_ev, setT_ok, setT_rse, setLM_ev, setLT_ok, dropM_ev, dropT_ok, dropT_rse, retM_ev, retT_ok, retT_rse, ifS_ev, ifT_true, ifT_false, asgM_ev, asgT_ok', optT_some, cM_ev, vM_ev, vR_some, opM_ev, op1_ok, op1_rse, op2_ok, op2_rse, unM_ev, un1_ok, un1_rse, blT_ev, blR_ok, blR_rse, trT_ev, trR_ok, tru_bl, tru_non, tru_tup, tru_int, andT_ev, and1_true, and1_false, orT_ev, or1_true, or1_false, notT_ev, not1_ok, andM_ev, andV_true, andV_false, orM_ev, orV_true, orV_false, ifM_ev, if1_true, if1_false, chM_ev, ch1_ok, ch2_ok, ch3_true, ch3_false, nilA_ev, consA_ev, con1_ok, con1_rse, con2_ok, tupM_ev, tup1_0, tup1_1, tup1_2, tup1_3, tup1_4, szA_ev, sz1_0, sz1_1, sz1_2, sz1_3, sz1_4, sz1_5, sz1_6, sz1_8, sz1_10, newM_ev, new1_ok, onL_ev, onL1_ok, tupL_ev, clM_ev, cl1_rse, cl1_0, cl1_1, cl1_2, cl1_3, cl1_4, cl1_5, putM_ev, putT_ok, putT2_ok, putT3_ok, putT4_some, augM_ev, augT_some, noO_ev, someO_ev, some1_ok, slM_ev, sl1_ok, sl2_ok, sl3_ok, metM_ev, met0_ev, intD0_ev, add_ii, sub_ii, neg_i, lt_ii, le_ii, gt_ii, ge_ii, isN_ev, notN_ev, num_i, num_b, notD_b, isi_bool_bl, len_tup, len_fz, tup_tup, ix_tup0, ix_tup1, ix_tup2, itM_ev, it1_ok, src_tup, src_fz, src_str, fixC_ev, lvI_ev, lv1_ok, rngI_ev, rg1_ok, forM_ev, for1_ok, turnT_nx, turnT_ct, turnT_bk, turnT_rt, turnT_rse, nmG_ev, tupG_ev, consG_ev, nilG_ev, compM_ev, yesT_ev, fn1_nx, fn1_rt, fn1_rse, eq_ii, eq_bb, max_ii, min_ii, slD_tup, List.getElem?_cons_zero, List.getElem?_cons_succ, List.set_cons_zero, List.set_cons_succ, List.map_cons, List.map_nil, List.length_cons, List.length_nil, List.cons_append, List.nil_append, Option.bind_some, decide_true, decide_false, Bool.not_true, Bool.not_false, ne_ii, ne_bb, forL_nil0, tm_d, eq_fun, decide_eq_false (show ¬ Hd.sym = Hd.fn by decide)]
  | s, .mk .fn n l, h => by
    have hc : (blT (opM eqD (opM ixD (vM 1) (cM (.int 0))) (cM (.str "fun")))) [some g.d, some (Tm.mk .fn n l).d, some (.int (s : Int)), some (.tup (g.funs.map fnD))] S = .ok true S := by
      simp only [seqM_ev, thenT_nx, thenT_rt, thenT_bk, thenT_ct, thenT_rse, nopM_ev, brkM_ev, cntM_ev, setM_ev, setT_ok, setT_rse, setLM_ev, setLT_ok, dropM_ev, dropT_ok, dropT_rse, retM_ev, retT_ok, retT_rse, ifS_ev, ifT_true, ifT_false, asgM_ev, asgT_ok', optT_some, cM_ev, vM_ev, vR_some, opM_ev, op1_ok, op1_rse, op2_ok, op2_rse, unM_ev, un1_ok, un1_rse, blT_ev, blR_ok, blR_rse, trT_ev, trR_ok, tru_bl, tru_non, tru_tup, tru_int, andT_ev, and1_true, and1_false, orT_ev, or1_true, or1_false, notT_ev, not1_ok, andM_ev, andV_true, andV_false, orM_ev, orV_true, orV_false, ifM_ev, if1_true, if1_false, chM_ev, ch1_ok, ch2_ok, ch3_true, ch3_false, nilA_ev, consA_ev, con1_ok, con1_rse, con2_ok, tupM_ev, tup1_0, tup1_1, tup1_2, tup1_3, tup1_4, szA_ev, sz1_0, sz1_1, sz1_2, sz1_3, sz1_4, sz1_5, sz1_6, sz1_8, sz1_10, newM_ev, new1_ok, onL_ev, onL1_ok, tupL_ev, clM_ev, cl1_rse, cl1_0, cl1_1, cl1_2, cl1_3, cl1_4, cl1_5, putM_ev, putT_ok, putT2_ok, putT3_ok, putT4_some, augM_ev, augT_some, noO_ev, someO_ev, some1_ok, slM_ev, sl1_ok, sl2_ok, sl3_ok, metM_ev, met0_ev, intD0_ev, add_ii, sub_ii, neg_i, lt_ii, le_ii, gt_ii, ge_ii, isN_ev, notN_ev, num_i, num_b, notD_b, isi_bool_bl, len_tup, len_fz, tup_tup, ix_tup0, ix_tup1, ix_tup2, itM_ev, it1_ok, src_tup, src_fz, src_str, fixC_ev, lvI_ev, lv1_ok, rngI_ev, rg1_ok, forM_ev, for1_ok, turnT_nx, turnT_ct, turnT_bk, turnT_rt, turnT_rse, nmG_ev, tupG_ev, consG_ev, nilG_ev, compM_ev, yesT_ev, fn1_nx, fn1_rt, fn1_rse, eq_ii, eq_bb, max_ii, min_ii, slD_tup, List.getElem?_cons_zero, List.getElem?_cons_succ, List.set_cons_zero, List.set_cons_succ, List.map_cons, List.map_nil, List.length_cons, List.length_nil, List.cons_append, List.nil_append, Option.bind_some, decide_true, decide_false, Bool.not_true, Bool.not_false, ne_ii, ne_bb, forL_nil0, tm_d, eq_fun]
    cases s with
    | zero =>
      rw [unf_zero]
      refine (whM_out hc).1 _ _ ?_
      simp only [TN_unfold_l1, seqM_ev, thenT_nx, thenT_rt, thenT_bk, thenT_ct, thenT_rse, nopM_ev, brkM_ev, cntM_ev, setM_ev, setT_ok, setT_rse, setLM_ev, setLT_ok, dropM_ev, dropT_ok, dropT_rse, retM_ev, retT_ok, retT_rse, ifS_ev, ifT_true, ifT_false, asgM_ev, asgT_ok', optT_some, cM_ev, vM_ev, vR_some, opM_ev, op1_ok, op1_rse, op2_ok, op2_rse, unM_ev, un1_ok, un1_rse, blT_ev, blR_ok, blR_rse, trT_ev, trR_ok, tru_bl, tru_non, tru_tup, tru_int, andT_ev, and1_true, and1_false, orT_ev, or1_true, or1_false, notT_ev, not1_ok, andM_ev, andV_true, andV_false, orM_ev, orV_true, orV_false, ifM_ev, if1_true, if1_false, chM_ev, ch1_ok, ch2_ok, ch3_true, ch3_false, nilA_ev, consA_ev, con1_ok, con1_rse, con2_ok, tupM_ev, tup1_0, tup1_1, tup1_2, tup1_3, tup1_4, szA_ev, sz1_0, sz1_1, sz1_2, sz1_3, sz1_4, sz1_5, sz1_6, sz1_8, sz1_10, newM_ev, new1_ok, onL_ev, onL1_ok, tupL_ev, clM_ev, cl1_rse, cl1_0, cl1_1, cl1_2, cl1_3, cl1_4, cl1_5, putM_ev, putT_ok, putT2_ok, putT3_ok, putT4_some, augM_ev, augT_some, noO_ev, someO_ev, some1_ok, slM_ev, sl1_ok, sl2_ok, sl3_ok, metM_ev, met0_ev, intD0_ev, add_ii, sub_ii, neg_i, lt_ii, le_ii, gt_ii, ge_ii, isN_ev, notN_ev, num_i, num_b, notD_b, isi_bool_bl, len_tup, len_fz, tup_tup, ix_tup0, ix_tup1, ix_tup2, itM_ev, it1_ok, src_tup, src_fz, src_str, fixC_ev, lvI_ev, lv1_ok, rngI_ev, rg1_ok, forM_ev, for1_ok, turnT_nx, turnT_ct, turnT_bk, turnT_rt, turnT_rse, nmG_ev, tupG_ev, consG_ev, nilG_ev, compM_ev, yesT_ev, fn1_nx, fn1_rt, fn1_rse, eq_ii, eq_bb, max_ii, min_ii, slD_tup, List.getElem?_cons_zero, List.getElem?_cons_succ, List.set_cons_zero, List.set_cons_succ, List.map_cons, List.map_nil, List.length_cons, List.length_nil, List.cons_append, List.nil_append, Option.bind_some, decide_true, decide_false, Bool.not_true, Bool.not_false, ne_ii, ne_bb, forL_nil0, show decide (((0 : Nat) : Int) = 0) = true from rfl]
    | succ s =>
      obtain ⟨f, h1, h2, h3, h4, h5, h6⟩ := body_of w h
      rw [unf_succ]
      refine (whM_step hc (.inl ?_)).trans (unfold_loop src w s _ (closed_sub w h))
      simp only [TN_unfold_l1, seqM_ev, thenT_nx, thenT_rt, thenT_bk, thenT_ct, thenT_rse, nopM_ev, brkM_ev, cntM_ev, setM_ev, setT_ok, setT_rse, setLM_ev, setLT_ok, dropM_ev, dropT_ok, dropT_rse, retM_ev, retT_ok, retT_rse, ifS_ev, ifT_true, ifT_false, asgM_ev, asgT_ok', optT_some, cM_ev, vM_ev, vR_some, opM_ev, op1_ok, op1_rse, op2_ok, op2_rse, unM_ev, un1_ok, un1_rse, blT_ev, blR_ok, blR_rse, trT_ev, trR_ok, tru_bl, tru_non, tru_tup, tru_int, andT_ev, and1_true, and1_false, orT_ev, or1_true, or1_false, notT_ev, not1_ok, andM_ev, andV_true, andV_false, orM_ev, orV_true, orV_false, ifM_ev, if1_true, if1_false, chM_ev, ch1_ok, ch2_ok, ch3_true, ch3_false, nilA_ev, consA_ev, con1_ok, con1_rse, con2_ok, tupM_ev, tup1_0, tup1_1, tup1_2, tup1_3, tup1_4, szA_ev, sz1_0, sz1_1, sz1_2, sz1_3, sz1_4, sz1_5, sz1_6, sz1_8, sz1_10, newM_ev, new1_ok, onL_ev, onL1_ok, tupL_ev, clM_ev, cl1_rse, cl1_0, cl1_1, cl1_2, cl1_3, cl1_4, cl1_5, putM_ev, putT_ok, putT2_ok, putT3_ok, putT4_some, augM_ev, augT_some, noO_ev, someO_ev, some1_ok, slM_ev, sl1_ok, sl2_ok, sl3_ok, metM_ev, met0_ev, intD0_ev, add_ii, sub_ii, neg_i, lt_ii, le_ii, gt_ii, ge_ii, isN_ev, notN_ev, num_i, num_b, notD_b, isi_bool_bl, len_tup, len_fz, tup_tup, ix_tup0, ix_tup1, ix_tup2, itM_ev, it1_ok, src_tup, src_fz, src_str, fixC_ev, lvI_ev, lv1_ok, rngI_ev, rg1_ok, forM_ev, for1_ok, turnT_nx, turnT_ct, turnT_bk, turnT_rt, turnT_rse, nmG_ev, tupG_ev, consG_ev, nilG_ev, compM_ev, yesT_ev, fn1_nx, fn1_rt, fn1_rse, eq_ii, eq_bb, max_ii, min_ii, slD_tup, List.getElem?_cons_zero, List.getElem?_cons_succ, List.set_cons_zero, List.set_cons_succ, List.map_cons, List.map_nil, List.length_cons, List.length_nil, List.cons_append, List.nil_append, Option.bind_some, decide_true, decide_false, Bool.not_true, Bool.not_false, ne_ii, ne_bb, forL_nil0, decide_eq_false (show ¬ ((s + 1 : Nat) : Int) = 0 by omega), show ((s + 1 : Nat) : Int) - 1 = (s : Int) by omega, tm_d, fix_fun h1, replace_gn src w.sig h5 parOk_nil h3 5 f.2.2 [] S h6 h4, h2]
theorem unfold_gn (src : TNSrc F) {k : Nat} {g : Gr} (w : GrW g) {S : Sto} {s : Nat} {t : Tm} (h : Closed g t) : F (k + 6) .unfold [g.d, t.d, .int (s : Int)] S = .ok (resD (unf g s t)) S := by
  rw [show k + 6 = (k + 5) + 1 from rfl, src.unfold]
  simp only [TN_unfold, fnM_ev, startD, List.replicate, seqM_ev, thenT_nx, thenT_rt, thenT_bk, thenT_ct, thenT_rse, nopM_ev, brkM_ev, cntM_ev, setM_ev, setT_ok, setT_rse, setLM_ev, setLT_ok, dropM_ev, dropT_ok, dropT_rse, retM_ev, retT_ok, retT_rse, ifS_ev, ifT_true, ifT_false, asgM_ev, asgT_ok', optT_some, cM_ev, vM_ev, vR_some, opM_ev, op1_ok, op1_rse, op2_ok, op2_rse, unM_ev, un1_ok, un1_rse, blT_ev, blR_ok, blR_rse, trT_ev, trR_ok, tru_bl, tru_non, tru_tup, tru_int, andT_ev, and1_true, and1_false, orT_ev, or1_true, or1_false, notT_ev, not1_ok, andM_ev, andV_true, andV_false, orM_ev, orV_true, orV_false, ifM_ev, if1_true, if1_false, chM_ev, ch1_ok, ch2_ok, ch3_true, ch3_false, nilA_ev, consA_ev, con1_ok, con1_rse, con2_ok, tupM_ev, tup1_0, tup1_1, tup1_2, tup1_3, tup1_4, szA_ev, sz1_0, sz1_1, sz1_2, sz1_3, sz1_4, sz1_5, sz1_6, sz1_8, sz1_10, newM_ev, new1_ok, onL_ev, onL1_ok, tupL_ev, clM_ev, cl1_rse, cl1_0, cl1_1, cl1_2, cl1_3, cl1_4, cl1_5, putM_ev, putT_ok, putT2_ok, putT3_ok, putT4_some, augM_ev, augT_some, noO_ev, someO_ev, some1_ok, slM_ev, sl1_ok, sl2_ok, sl3_ok, metM_ev, met0_ev, intD0_ev, add_ii, sub_ii, neg_i, lt_ii, le_ii, gt_ii, ge_ii, isN_ev, notN_ev, num_i, num_b, notD_b, isi_bool_bl, len_tup, len_fz, tup_tup, ix_tup0, ix_tup1, ix_tup2, itM_ev, it1_ok, src_tup, src_fz, src_str, fixC_ev, lvI_ev, lv1_ok, rngI_ev, rg1_ok, forM_ev, for1_ok, turnT_nx, turnT_ct, turnT_bk, turnT_rt, turnT_rse, nmG_ev, tupG_ev, consG_ev, nilG_ev, compM_ev, yesT_ev, fn1_nx, fn1_rt, fn1_rse, eq_ii, eq_bb, max_ii, min_ii, slD_tup, List.getElem?_cons_zero, List.getElem?_cons_succ, List.set_cons_zero, List.set_cons_succ, List.map_cons, List.map_nil, List.length_cons, List.length_nil, List.cons_append, List.nil_append, Option.bind_some, decide_true, decide_false, Bool.not_true, Bool.not_false, ne_ii, ne_bb, forL_nil0]
  rw [show (ixD g.d (.int 1) S) = .ok (.tup (g.funs.map fnD)) S from by unfold Gr.d; simp only [seqM_ev, thenT_nx, thenT_rt, thenT_bk, thenT_ct, thenT_rse, nopM_ev, brkM_ev, cntM_ev, setM_ev, setT_ok, setT_rse, setLM_ev, setLT_ok, dropM_ev, dropT_ok, dropT_rse, retM_ev, retT_ok, retT_rse, ifS_ev, ifT_true, ifT_false, asgM_ev, asgT_ok', optT_some, cM_ev, vM_ev, vR_some, opM_ev, op1_ok, op1_rse, op2_ok, op2_rse, unM_ev, un1_ok, un1_rse, blT_ev, blR_ok, blR_rse, trT_ev, trR_ok, tru_bl, tru_non, tru_tup, tru_int, andT_ev, and1_true, and1_false, orT_ev, or1_true, or1_false, notT_ev, not1_ok, andM_ev, andV_true, andV_false, orM_ev, orV_true, orV_false, ifM_ev, if1_true, if1_false, chM_ev, ch1_ok, ch2_ok, ch3_true, ch3_false, nilA_ev, consA_ev, con1_ok, con1_rse, con2_ok, tupM_ev, tup1_0, tup1_1, tup1_2, tup1_3, tup1_4, szA_ev, sz1_0, sz1_1, sz1_2, sz1_3, sz1_4, sz1_5, sz1_6, sz1_8, sz1_10, newM_ev, new1_ok, onL_ev, onL1_ok, tupL_ev, clM_ev, cl1_rse, cl1_0, cl1_1, cl1_2, cl1_3, cl1_4, cl1_5, putM_ev, putT_ok, putT2_ok, putT3_ok, putT4_some, augM_ev, augT_some, noO_ev, someO_ev, some1_ok, slM_ev, sl1_ok, sl2_ok, sl3_ok, metM_ev, met0_ev, intD0_ev, add_ii, sub_ii, neg_i, lt_ii, le_ii, gt_ii, ge_ii, isN_ev, notN_ev, num_i, num_b, notD_b, isi_bool_bl, len_tup, len_fz, tup_tup, ix_tup0, ix_tup1, ix_tup2, itM_ev, it1_ok, src_tup, src_fz, src_str, fixC_ev, lvI_ev, lv1_ok, rngI_ev, rg1_ok, forM_ev, for1_ok, turnT_nx, turnT_ct, turnT_bk, turnT_rt, turnT_rse, nmG_ev, tupG_ev, consG_ev, nilG_ev, compM_ev, yesT_ev, fn1_nx, fn1_rt, fn1_rse, eq_ii, eq_bb, max_ii, min_ii, slD_tup, List.getElem?_cons_zero, List.getElem?_cons_succ, List.set_cons_zero, List.set_cons_succ, List.map_cons, List.map_nil, List.length_cons, List.length_nil, List.cons_append, List.nil_append, Option.bind_some, decide_true, decide_false, Bool.not_true, Bool.not_false, ne_ii, ne_bb, forL_nil0]]
  simp only [seqM_ev, thenT_nx, thenT_rt, thenT_bk, thenT_ct, thenT_rse, nopM_ev, brkM_ev, cntM_ev, setM_ev, setT_ok, setT_rse, setLM_ev, setLT_ok, dropM_ev, dropT_ok, dropT_rse, retM_ev, retT_ok, retT_rse, ifS_ev, ifT_true, ifT_false, asgM_ev, asgT_ok', optT_some, cM_ev, vM_ev, vR_some, opM_ev, op1_ok, op1_rse, op2_ok, op2_rse, unM_ev, un1_ok, un1_rse, blT_ev, blR_ok, blR_rse, trT_ev, trR_ok, tru_bl, tru_non, tru_tup, tru_int, andT_ev, and1_true, and1_false, orT_ev, or1_true, or1_false, notT_ev, not1_ok, andM_ev, andV_true, andV_false, orM_ev, orV_true, orV_false, ifM_ev, if1_true, if1_false, chM_ev, ch1_ok, ch2_ok, ch3_true, ch3_false, nilA_ev, consA_ev, con1_ok, con1_rse, con2_ok, tupM_ev, tup1_0, tup1_1, tup1_2, tup1_3, tup1_4, szA_ev, sz1_0, sz1_1, sz1_2, sz1_3, sz1_4, sz1_5, sz1_6, sz1_8, sz1_10, newM_ev, new1_ok, onL_ev, onL1_ok, tupL_ev, clM_ev, cl1_rse, cl1_0, cl1_1, cl1_2, cl1_3, cl1_4, cl1_5, putM_ev, putT_ok, putT2_ok, putT3_ok, putT4_some, augM_ev, augT_some, noO_ev, someO_ev, some1_ok, slM_ev, sl1_ok, sl2_ok, sl3_ok, metM_ev, met0_ev, intD0_ev, add_ii, sub_ii, neg_i, lt_ii, le_ii, gt_ii, ge_ii, isN_ev, notN_ev, num_i, num_b, notD_b, isi_bool_bl, len_tup, len_fz, tup_tup, ix_tup0, ix_tup1, ix_tup2, itM_ev, it1_ok, src_tup, src_fz, src_str, fixC_ev, lvI_ev, lv1_ok, rngI_ev, rg1_ok, forM_ev, for1_ok, turnT_nx, turnT_ct, turnT_bk, turnT_rt, turnT_rse, nmG_ev, tupG_ev, consG_ev, nilG_ev, compM_ev, yesT_ev, fn1_nx, fn1_rt, fn1_rse, eq_ii, eq_bb, max_ii, min_ii, slD_tup, List.getElem?_cons_zero, List.getElem?_cons_succ, List.set_cons_zero, List.set_cons_succ, List.map_cons, List.map_nil, List.length_cons, List.length_nil, List.cons_append, List.nil_append, Option.bind_some, decide_true, decide_false, Bool.not_true, Bool.not_false, ne_ii, ne_bb, forL_nil0, unfold_loop src w s t h]
  cases unf g s t with
  | none => rfl
  | some p => simp only [seqM_ev, thenT_nx, thenT_rt, thenT_bk, thenT_ct, thenT_rse, nopM_ev, brkM_ev, cntM_ev, setM_ev, setT_ok, setT_rse, setLM_ev, setLT_ok, dropM_ev, dropT_ok, dropT_rse, retM_ev, retT_ok, retT_rse, ifS_ev, ifT_true, ifT_false, asgM_ev, asgT_ok', optT_some, cM_ev, vM_ev, vR_some, opM_ev, op1_ok, op1_rse, op2_ok, op2_rse, unM_ev, un1_ok, un1_rse, blT_ev, blR_ok, blR_rse, trT_ev, trR_ok, tru_bl, tru_non, tru_tup, tru_int, andT_ev, and1_true, and1_false, orT_ev, or1_true, or1_false, notT_ev, not1_ok, andM_ev, andV_true, andV_false, orM_ev, orV_true, orV_false, ifM_ev, if1_true, if1_false, chM_ev, ch1_ok, ch2_ok, ch3_true, ch3_false, nilA_ev, consA_ev, con1_ok, con1_rse, con2_ok, tupM_ev, tup1_0, tup1_1, tup1_2, tup1_3, tup1_4, szA_ev, sz1_0, sz1_1, sz1_2, sz1_3, sz1_4, sz1_5, sz1_6, sz1_8, sz1_10, newM_ev, new1_ok, onL_ev, onL1_ok, tupL_ev, clM_ev, cl1_rse, cl1_0, cl1_1, cl1_2, cl1_3, cl1_4, cl1_5, putM_ev, putT_ok, putT2_ok, putT3_ok, putT4_some, augM_ev, augT_some, noO_ev, someO_ev, some1_ok, slM_ev, sl1_ok, sl2_ok, sl3_ok, metM_ev, met0_ev, intD0_ev, add_ii, sub_ii, neg_i, lt_ii, le_ii, gt_ii, ge_ii, isN_ev, notN_ev, num_i, num_b, notD_b, isi_bool_bl, len_tup, len_fz, tup_tup, ix_tup0, ix_tup1, ix_tup2, itM_ev, it1_ok, src_tup, src_fz, src_str, fixC_ev, lvI_ev, lv1_ok, rngI_ev, rg1_ok, forM_ev, for1_ok, turnT_nx, turnT_ct, turnT_bk, turnT_rt, turnT_rse, nmG_ev, tupG_ev, consG_ev, nilG_ev, compM_ev, yesT_ev, fn1_nx, fn1_rt, fn1_rse, eq_ii, eq_bb, max_ii, min_ii, slD_tup, List.getElem?_cons_zero, List.getElem?_cons_succ, List.set_cons_zero, List.set_cons_succ, List.map_cons, List.map_nil, List.length_cons, List.length_nil, List.cons_append, List.nil_append, Option.bind_some, decide_true, decide_false, Bool.not_true, Bool.not_false, ne_ii, ne_bb, forL_nil0, resD]
theorem unfolded_loop (src : TNSrc F) {k : Nat} {g : Gr} (w : GrW g) {S : Sto} {m : Nat} : ∀ (s u : Nat) (t : Tm), u + s = m → Closed g t →
    whM (blT (opM eqD (opM ixD (vM 1) (cM (.int 0))) (cM (.str "fun")))) (TN_law_unfolded_l1 (F (k + 5))) [some g.d, some t.d, some (.int (m : Int)), some (.int (u : Int))] S =
      match unf g s t with
      | some (t', r) => .nx [some g.d, some t'.d, some (.int (m : Int)), some (.int ((m - r : Nat) : Int))] S
      | none => .rt .non S
  | _, _, .mk .par n l, _, h => (closed_head h).elim
  | s, u, .mk .sym n l, hu, h => by
    rw [unf_sym]
    have hc : (blT (opM eqD (opM ixD (vM 1) (cM (.int 0))) (cM (.str "fun")))) [some g.d, some (Tm.mk .sym n l).d, some (.int (m : Int)), some (.int (u : Int))] S = .ok false S := by
      simp only [seqM_ev, thenT_nx, thenT_rt, thenT_bk, thenT_ct, thenT_rse, nopM_ev, brkM_ev, cntM_ev, setM_ev, setT_ok, setT_rse, setLM_ev, setLT_ok, dropM_ev, dropT_ok, dropT_rse, retM_ev, retT_ok, retT_rse, ifS_ev, ifT_true, ifT_false, asgM_ev, asgT_ok', optT_some, cM_ev, vM_ev, vR_some, opM_ev, op1_ok, op1_rse, op2_ok, op2_rse, unM_ev, un1_ok, un1_rse, blT_ev, blR_ok, blR_rse, trT_ev, trR_ok, tru_bl, tru_non, tru_tup, tru_int, andT_ev, and1_true, and1_false, orT_ev, or1_true, or1_false, notT_ev, not1_ok, andM_ev, andV_true, andV_false, orM_ev, orV_true, orV_false, ifM_ev, if1_true, if1_false, chM_ev, ch1_ok, ch2_ok, ch3_true, ch3_false, nilA_ev, consA_ev, con1_ok, con1_rse, con2_ok, tupM_ev, tup1_0, tup1_1, tup1_2, tup1_3, tup1_4, szA_ev, sz1_0, sz1_1, sz1_2, sz1_3, sz1_4, sz1_5, sz1_6, sz1_8, sz1_10, newM_ev, new1_ok, onL_ev, onL1_ok, tupL_ev, clM_ev, cl1_rse, cl1_0, cl1_1, cl1_2, cl1_3, cl1_4, cl1_5, putM_ev, putT_ok, putT2_ok, putT3_ok, putT4_some, augM_ev, augT_some, noO_ev, someO_ev, some1_ok, slM_ev, sl1_ok, sl2_ok, sl3_ok, metM_ev, met0_ev, intD0_ev, add_ii, sub_ii, neg_i, lt_ii, le_ii, gt_ii, ge_ii, isN_ev, notN_ev, num_i, num_b, notD_b, isi_bool_bl, len_tup, len_fz, tup_tup, ix_tup0, ix_tup1, ix_tup2, itM_ev, it1_ok, src_tup, src_fz, src_str, fixC_ev, lvI_ev, lv1_ok, rngI_ev, rg1_ok, forM_ev, for1_ok, turnT_nx, turnT_ct, turnT_bk, turnT_rt, turnT_rse, nmG_ev, tupG_ev, consG_ev, nilG_ev, compM_ev, yesT_ev, fn1_nx, fn1_rt, fn1_rse, eq_ii, eq_bb, max_ii, min_ii, slD_tup, List.getElem?_cons_zero, List.getElem?_cons_succ, List.set_cons_zero, List.set_cons_succ, List.map_cons, List.map_nil, List.length_cons, List.length_nil, List.cons_append, List.nil_append, Option.bind_some, decide_true, decide_false, Bool.not_true, Bool.not_false, ne_ii, ne_bb, forL_nil0, tm_d, eq_fun, decide_eq_false (show ¬ Hd.sym = Hd.fn by decide)]
    rw [whM_end hc]
    dsimp only
    rw [show m - s = u by omega]
  | s, u, .mk .fn n l, hu, h => by
    have hc : (blT (opM eqD (opM ixD (vM 1) (cM (.int 0))) (cM (.str "fun")))) [some g.d, some (Tm.mk .fn n l).d, some (.int (m : Int)), some (.int (u : Int))] S = .ok true S := by
      simp only [seqM_ev, thenT_nx, thenT_rt, thenT_bk, thenT_ct, thenT_rse, nopM_ev, brkM_ev, cntM_ev, setM_ev, setT_ok, setT_rse, setLM_ev, setLT_ok, dropM_ev, dropT_ok, dropT_rse, retM_ev, retT_ok, retT_rse, ifS_ev, ifT_true, ifT_false, asgM_ev, asgT_ok', optT_some, cM_ev, vM_ev, vR_some, opM_ev, op1_ok, op1_rse, op2_ok, op2_rse, unM_ev, un1_ok, un1_rse, blT_ev, blR_ok, blR_rse, trT_ev, trR_ok, tru_bl, tru_non, tru_tup, tru_int, andT_ev, and1_true, and1_false, orT_ev, or1_true, or1_false, notT_ev, not1_ok, andM_ev, andV_true, andV_false, orM_ev, orV_true, orV_false, ifM_ev, if1_true, if1_false, chM_ev, ch1_ok, ch2_ok, ch3_true, ch3_false, nilA_ev, consA_ev, con1_ok, con1_rse, con2_ok, tupM_ev, tup1_0, tup1_1, tup1_2, tup1_3, tup1_4, szA_ev, sz1_0, sz1_1, sz1_2, sz1_3, sz1_4, sz1_5, sz1_6, sz1_8, sz1_10, newM_ev, new1_ok, onL_ev, onL1_ok, tupL_ev, clM_ev, cl1_rse, cl1_0, cl1_1, cl1_2, cl1_3, cl1_4, cl1_5, putM_ev, putT_ok, putT2_ok, putT3_ok, putT4_some, augM_ev, augT_some, noO_ev, someO_ev, some1_ok, slM_ev, sl1_ok, sl2_ok, sl3_ok, metM_ev, met0_ev, intD0_ev, add_ii, sub_ii, neg_i, lt_ii, le_ii, gt_ii, ge_ii, isN_ev, notN_ev, num_i, num_b, notD_b, isi_bool_bl, len_tup, len_fz, tup_tup, ix_tup0, ix_tup1, ix_tup2, itM_ev, it1_ok, src_tup, src_fz, src_str, fixC_ev, lvI_ev, lv1_ok, rngI_ev, rg1_ok, forM_ev, for1_ok, turnT_nx, turnT_ct, turnT_bk, turnT_rt, turnT_rse, nmG_ev, tupG_ev, consG_ev, nilG_ev, compM_ev, yesT_ev, fn1_nx, fn1_rt, fn1_rse, eq_ii, eq_bb, max_ii, min_ii, slD_tup, List.getElem?_cons_zero, List.getElem?_cons_succ, List.set_cons_zero, List.set_cons_succ, List.map_cons, List.map_nil, List.length_cons, List.length_nil, List.cons_append, List.nil_append, Option.bind_some, decide_true, decide_false, Bool.not_true, Bool.not_false, ne_ii, ne_bb, forL_nil0, tm_d, eq_fun]
    cases s with
    | zero =>
      rw [unf_zero]
      refine (whM_out hc).1 _ _ ?_
      simp only [TN_law_unfolded_l1, seqM_ev, thenT_nx, thenT_rt, thenT_bk, thenT_ct, thenT_rse, nopM_ev, brkM_ev, cntM_ev, setM_ev, setT_ok, setT_rse, setLM_ev, setLT_ok, dropM_ev, dropT_ok, dropT_rse, retM_ev, retT_ok, retT_rse, ifS_ev, ifT_true, ifT_false, asgM_ev, asgT_ok', optT_some, cM_ev, vM_ev, vR_some, opM_ev, op1_ok, op1_rse, op2_ok, op2_rse, unM_ev, un1_ok, un1_rse, blT_ev, blR_ok, blR_rse, trT_ev, trR_ok, tru_bl, tru_non, tru_tup, tru_int, andT_ev, and1_true, and1_false, orT_ev, or1_true, or1_false, notT_ev, not1_ok, andM_ev, andV_true, andV_false, orM_ev, orV_true, orV_false, ifM_ev, if1_true, if1_false, chM_ev, ch1_ok, ch2_ok, ch3_true, ch3_false, nilA_ev, consA_ev, con1_ok, con1_rse, con2_ok, tupM_ev, tup1_0, tup1_1, tup1_2, tup1_3, tup1_4, szA_ev, sz1_0, sz1_1, sz1_2, sz1_3, sz1_4, sz1_5, sz1_6, sz1_8, sz1_10, newM_ev, new1_ok, onL_ev, onL1_ok, tupL_ev, clM_ev, cl1_rse, cl1_0, cl1_1, cl1_2, cl1_3, cl1_4, cl1_5, putM_ev, putT_ok, putT2_ok, putT3_ok, putT4_some, augM_ev, augT_some, noO_ev, someO_ev, some1_ok, slM_ev, sl1_ok, sl2_ok, sl3_ok, metM_ev, met0_ev, intD0_ev, add_ii, sub_ii, neg_i, lt_ii, le_ii, gt_ii, ge_ii, isN_ev, notN_ev, num_i, num_b, notD_b, isi_bool_bl, len_tup, len_fz, tup_tup, ix_tup0, ix_tup1, ix_tup2, itM_ev, it1_ok, src_tup, src_fz, src_str, fixC_ev, lvI_ev, lv1_ok, rngI_ev, rg1_ok, forM_ev, for1_ok, turnT_nx, turnT_ct, turnT_bk, turnT_rt, turnT_rse, nmG_ev, tupG_ev, consG_ev, nilG_ev, compM_ev, yesT_ev, fn1_nx, fn1_rt, fn1_rse, eq_ii, eq_bb, max_ii, min_ii, slD_tup, List.getElem?_cons_zero, List.getElem?_cons_succ, List.set_cons_zero, List.set_cons_succ, List.map_cons, List.map_nil, List.length_cons, List.length_nil, List.cons_append, List.nil_append, Option.bind_some, decide_true, decide_false, Bool.not_true, Bool.not_false, ne_ii, ne_bb, forL_nil0, decide_eq_true (show (m : Int) ≤ (u : Int) by omega)]
    | succ s =>
      obtain ⟨f, h1, h2, h3, h4, h5, h6⟩ := body_of w h
      rw [unf_succ]
      refine (whM_step hc (.inl ?_)).trans (unfolded_loop src w s (u + 1) _ (by omega) (closed_sub w h))
      have hg : ∀ S, ixD g.d (.int 1) S = .ok (.tup (g.funs.map fnD)) S := fun S => by unfold Gr.d; simp only [seqM_ev, thenT_nx, thenT_rt, thenT_bk, thenT_ct, thenT_rse, nopM_ev, brkM_ev, cntM_ev, setM_ev, setT_ok, setT_rse, setLM_ev, setLT_ok, dropM_ev, dropT_ok, dropT_rse, retM_ev, retT_ok, retT_rse, ifS_ev, ifT_true, ifT_false, asgM_ev, asgT_ok', optT_some, cM_ev, vM_ev, vR_some, opM_ev, op1_ok, op1_rse, op2_ok, op2_rse, unM_ev, un1_ok, un1_rse, blT_ev, blR_ok, blR_rse, trT_ev, trR_ok, tru_bl, tru_non, tru_tup, tru_int, andT_ev, and1_true, and1_false, orT_ev, or1_true, or1_false, notT_ev, not1_ok, andM_ev, andV_true, andV_false, orM_ev, orV_true, orV_false, ifM_ev, if1_true, if1_false, chM_ev, ch1_ok, ch2_ok, ch3_true, ch3_false, nilA_ev, consA_ev, con1_ok, con1_rse, con2_ok, tupM_ev, tup1_0, tup1_1, tup1_2, tup1_3, tup1_4, szA_ev, sz1_0, sz1_1, sz1_2, sz1_3, sz1_4, sz1_5, sz1_6, sz1_8, sz1_10, newM_ev, new1_ok, onL_ev, onL1_ok, tupL_ev, clM_ev, cl1_rse, cl1_0, cl1_1, cl1_2, cl1_3, cl1_4, cl1_5, putM_ev, putT_ok, putT2_ok, putT3_ok, putT4_some, augM_ev, augT_some, noO_ev, someO_ev, some1_ok, slM_ev, sl1_ok, sl2_ok, sl3_ok, metM_ev, met0_ev, intD0_ev, add_ii, sub_ii, neg_i, lt_ii, le_ii, gt_ii, ge_ii, isN_ev, notN_ev, num_i, num_b, notD_b, isi_bool_bl, len_tup, len_fz, tup_tup, ix_tup0, ix_tup1, ix_tup2, itM_ev, it1_ok, src_tup, src_fz, src_str, fixC_ev, lvI_ev, lv1_ok, rngI_ev, rg1_ok, forM_ev, for1_ok, turnT_nx, turnT_ct, turnT_bk, turnT_rt, turnT_rse, nmG_ev, tupG_ev, consG_ev, nilG_ev, compM_ev, yesT_ev, fn1_nx, fn1_rt, fn1_rse, eq_ii, eq_bb, max_ii, min_ii, slD_tup, List.getElem?_cons_zero, List.getElem?_cons_succ, List.set_cons_zero, List.set_cons_succ, List.map_cons, List.map_nil, List.length_cons, List.length_nil, List.cons_append, List.nil_append, Option.bind_some, decide_true, decide_false, Bool.not_true, Bool.not_false, ne_ii, ne_bb, forL_nil0]
      simp only [TN_law_unfolded_l1, seqM_ev, thenT_nx, thenT_rt, thenT_bk, thenT_ct, thenT_rse, nopM_ev, brkM_ev, cntM_ev, setM_ev, setT_ok, setT_rse, setLM_ev, setLT_ok, dropM_ev, dropT_ok, dropT_rse, retM_ev, retT_ok, retT_rse, ifS_ev, ifT_true, ifT_false, asgM_ev, asgT_ok', optT_some, cM_ev, vM_ev, vR_some, opM_ev, op1_ok, op1_rse, op2_ok, op2_rse, unM_ev, un1_ok, un1_rse, blT_ev, blR_ok, blR_rse, trT_ev, trR_ok, tru_bl, tru_non, tru_tup, tru_int, andT_ev, and1_true, and1_false, orT_ev, or1_true, or1_false, notT_ev, not1_ok, andM_ev, andV_true, andV_false, orM_ev, orV_true, orV_false, ifM_ev, if1_true, if1_false, chM_ev, ch1_ok, ch2_ok, ch3_true, ch3_false, nilA_ev, consA_ev, con1_ok, con1_rse, con2_ok, tupM_ev, tup1_0, tup1_1, tup1_2, tup1_3, tup1_4, szA_ev, sz1_0, sz1_1, sz1_2, sz1_3, sz1_4, sz1_5, sz1_6, sz1_8, sz1_10, newM_ev, new1_ok, onL_ev, onL1_ok, tupL_ev, clM_ev, cl1_rse, cl1_0, cl1_1, cl1_2, cl1_3, cl1_4, cl1_5, putM_ev, putT_ok, putT2_ok, putT3_ok, putT4_some, augM_ev, augT_some, noO_ev, someO_ev, some1_ok, slM_ev, sl1_ok, sl2_ok, sl3_ok, metM_ev, met0_ev, intD0_ev, add_ii, sub_ii, neg_i, lt_ii, le_ii, gt_ii, ge_ii, isN_ev, notN_ev, num_i, num_b, notD_b, isi_bool_bl, len_tup, len_fz, tup_tup, ix_tup0, ix_tup1, ix_tup2, itM_ev, it1_ok, src_tup, src_fz, src_str, fixC_ev, lvI_ev, lv1_ok, rngI_ev, rg1_ok, forM_ev, for1_ok, turnT_nx, turnT_ct, turnT_bk, turnT_rt, turnT_rse, nmG_ev, tupG_ev, consG_ev, nilG_ev, compM_ev, yesT_ev, fn1_nx, fn1_rt, fn1_rse, eq_ii, eq_bb, max_ii, min_ii, slD_tup, List.getElem?_cons_zero, List.getElem?_cons_succ, List.set_cons_zero, List.set_cons_succ, List.map_cons, List.map_nil, List.length_cons, List.length_nil, List.cons_append, List.nil_append, Option.bind_some, decide_true, decide_false, Bool.not_true, Bool.not_false, ne_ii, ne_bb, forL_nil0, decide_eq_false (show ¬ (m : Int) ≤ (u : Int) by omega), show (u : Int) + 1 = ((u + 1 : Nat) : Int) by omega, hg, tm_d, fix_fun h1, put_gn src w.sig h5 parOk_nil h3 5 f.2.2 [] S h6 h4, h2]
/-- the law's own: a new list, or None -/
theorem unfolded_gn (src : TNSrc F) {k : Nat} {g : Gr} (w : GrW g) {S : Sto} {m : Nat} {t : Tm} (h : Closed g t) : F (k + 6) .law_unfolded [g.d, t.d, .int (m : Int)] S = match unf g m t with
    | some (t', r) => .ok (.obj S.length) (S ++ [.lst [t'.d, .int ((m - r : Nat) : Int)]])
    | none => .ok .non S := by
  rw [show k + 6 = (k + 5) + 1 from rfl, src.law_unfolded]
  have e := unfolded_loop src (k := k) w (S := S) (m := m) m 0 t (by omega) h
  rw [show ((0 : Nat) : Int) = 0 from rfl] at e
  simp only [TN_law_unfolded, fnM_ev, startD, List.replicate, seqM_ev, thenT_nx, thenT_rt, thenT_bk, thenT_ct, thenT_rse, nopM_ev, brkM_ev, cntM_ev, setM_ev, setT_ok, setT_rse, setLM_ev, setLT_ok, dropM_ev, dropT_ok, dropT_rse, retM_ev, retT_ok, retT_rse, ifS_ev, ifT_true, ifT_false, asgM_ev, asgT_ok', optT_some, cM_ev, vM_ev, vR_some, opM_ev, op1_ok, op1_rse, op2_ok, op2_rse, unM_ev, un1_ok, un1_rse, blT_ev, blR_ok, blR_rse, trT_ev, trR_ok, tru_bl, tru_non, tru_tup, tru_int, andT_ev, and1_true, and1_false, orT_ev, or1_true, or1_false, notT_ev, not1_ok, andM_ev, andV_true, andV_false, orM_ev, orV_true, orV_false, ifM_ev, if1_true, if1_false, chM_ev, ch1_ok, ch2_ok, ch3_true, ch3_false, nilA_ev, consA_ev, con1_ok, con1_rse, con2_ok, tupM_ev, tup1_0, tup1_1, tup1_2, tup1_3, tup1_4, szA_ev, sz1_0, sz1_1, sz1_2, sz1_3, sz1_4, sz1_5, sz1_6, sz1_8, sz1_10, newM_ev, new1_ok, onL_ev, onL1_ok, tupL_ev, clM_ev, cl1_rse, cl1_0, cl1_1, cl1_2, cl1_3, cl1_4, cl1_5, putM_ev, putT_ok, putT2_ok, putT3_ok, putT4_some, augM_ev, augT_some, noO_ev, someO_ev, some1_ok, slM_ev, sl1_ok, sl2_ok, sl3_ok, metM_ev, met0_ev, intD0_ev, add_ii, sub_ii, neg_i, lt_ii, le_ii, gt_ii, ge_ii, isN_ev, notN_ev, num_i, num_b, notD_b, isi_bool_bl, len_tup, len_fz, tup_tup, ix_tup0, ix_tup1, ix_tup2, itM_ev, it1_ok, src_tup, src_fz, src_str, fixC_ev, lvI_ev, lv1_ok, rngI_ev, rg1_ok, forM_ev, for1_ok, turnT_nx, turnT_ct, turnT_bk, turnT_rt, turnT_rse, nmG_ev, tupG_ev, consG_ev, nilG_ev, compM_ev, yesT_ev, fn1_nx, fn1_rt, fn1_rse, eq_ii, eq_bb, max_ii, min_ii, slD_tup, List.getElem?_cons_zero, List.getElem?_cons_succ, List.set_cons_zero, List.set_cons_succ, List.map_cons, List.map_nil, List.length_cons, List.length_nil, List.cons_append, List.nil_append, Option.bind_some, decide_true, decide_false, Bool.not_true, Bool.not_false, ne_ii, ne_bb, forL_nil0, e]
  cases unf g m t with
  | none => rfl
  | some p => simp only [seqM_ev, thenT_nx, thenT_rt, thenT_bk, thenT_ct, thenT_rse, nopM_ev, brkM_ev, cntM_ev, setM_ev, setT_ok, setT_rse, setLM_ev, setLT_ok, dropM_ev, dropT_ok, dropT_rse, retM_ev, retT_ok, retT_rse, ifS_ev, ifT_true, ifT_false, asgM_ev, asgT_ok', optT_some, cM_ev, vM_ev, vR_some, opM_ev, op1_ok, op1_rse, op2_ok, op2_rse, unM_ev, un1_ok, un1_rse, blT_ev, blR_ok, blR_rse, trT_ev, trR_ok, tru_bl, tru_non, tru_tup, tru_int, andT_ev, and1_true, and1_false, orT_ev, or1_true, or1_false, notT_ev, not1_ok, andM_ev, andV_true, andV_false, orM_ev, orV_true, orV_false, ifM_ev, if1_true, if1_false, chM_ev, ch1_ok, ch2_ok, ch3_true, ch3_false, nilA_ev, consA_ev, con1_ok, con1_rse, con2_ok, tupM_ev, tup1_0, tup1_1, tup1_2, tup1_3, tup1_4, szA_ev, sz1_0, sz1_1, sz1_2, sz1_3, sz1_4, sz1_5, sz1_6, sz1_8, sz1_10, newM_ev, new1_ok, onL_ev, onL1_ok, tupL_ev, clM_ev, cl1_rse, cl1_0, cl1_1, cl1_2, cl1_3, cl1_4, cl1_5, putM_ev, putT_ok, putT2_ok, putT3_ok, putT4_some, augM_ev, augT_some, noO_ev, someO_ev, some1_ok, slM_ev, sl1_ok, sl2_ok, sl3_ok, metM_ev, met0_ev, intD0_ev, add_ii, sub_ii, neg_i, lt_ii, le_ii, gt_ii, ge_ii, isN_ev, notN_ev, num_i, num_b, notD_b, isi_bool_bl, len_tup, len_fz, tup_tup, ix_tup0, ix_tup1, ix_tup2, itM_ev, it1_ok, src_tup, src_fz, src_str, fixC_ev, lvI_ev, lv1_ok, rngI_ev, rg1_ok, forM_ev, for1_ok, turnT_nx, turnT_ct, turnT_bk, turnT_rt, turnT_rse, nmG_ev, tupG_ev, consG_ev, nilG_ev, compM_ev, yesT_ev, fn1_nx, fn1_rt, fn1_rse, eq_ii, eq_bb, max_ii, min_ii, slD_tup, List.getElem?_cons_zero, List.getElem?_cons_succ, List.set_cons_zero, List.set_cons_succ, List.map_cons, List.map_nil, List.length_cons, List.length_nil, List.cons_append, List.nil_append, Option.bind_some, decide_true, decide_false, Bool.not_true, Bool.not_false, ne_ii, ne_bb, forL_nil0]
def nameD (g : Gr) : Tm → D
  | .mk _ n _ => match g.syms[n]? with
    | some p => .str p.1
    | none => .non
theorem name_out {g : Gr} (w : GrW g) {n : Nat} {l : List Tm} (h : Closed g (.mk .sym n l)) : ∃ p, g.syms[n]? = some p ∧ nameD g (.mk .sym n l) = .str p.1 ∧ PyData.strOk p.1 = true := by
  cases h with
  | mk e hl =>
    obtain ⟨r, h1, _⟩ := Option.map_eq_some_iff.mp e
    simp only [Gr.sig, List.getElem?_map] at h1
    obtain ⟨p, h2, _⟩ := Option.map_eq_some_iff.mp h1
    exact ⟨p, h2, by simp [nameD, h2], w.names p (List.mem_of_getElem? h2)⟩
theorem syms_ix {g : Gr} {n : Nat} {p : Str × Nat} (h : g.syms[n]? = some p) {S : Sto} : ixD (.tup (g.syms.map symD)) (.int (n : Int)) S = .ok (.tup [.str p.1, .int (p.2 : Int)]) S := ix_tup (atI_nat (by rw [List.getElem?_map, h]; rfl))
theorem gd0 {g : Gr} {S : Sto} : ixD g.d (.int 0) S = .ok (.tup (g.syms.map symD)) S := by unfold Gr.d; simp only [seqM_ev, thenT_nx, thenT_rt, thenT_bk, thenT_ct, thenT_rse, nopM_ev, brkM_ev, cntM_ev, setM_ev, setT_ok, setT_rse, setLM_ev, setLT_ok, dropM_ev, dropT_ok, dropT_rse, retM_ev, retT_ok, retT_rse, ifS_ev, ifT_true, ifT_false, asgM_ev, asgT_ok', optT_some, cM_ev, vM_ev, vR_some, opM_ev, op1_ok, op1_rse, op2_ok, op2_rse, unM_ev, un1_ok, un1_rse, blT_ev, blR_ok, blR_rse, trT_ev, trR_ok, tru_bl, tru_non, tru_tup, tru_int, andT_ev, and1_true, and1_false, orT_ev, or1_true, or1_false, notT_ev, not1_ok, andM_ev, andV_true, andV_false, orM_ev, orV_true, orV_false, ifM_ev, if1_true, if1_false, chM_ev, ch1_ok, ch2_ok, ch3_true, ch3_false, nilA_ev, consA_ev, con1_ok, con1_rse, con2_ok, tupM_ev, tup1_0, tup1_1, tup1_2, tup1_3, tup1_4, szA_ev, sz1_0, sz1_1, sz1_2, sz1_3, sz1_4, sz1_5, sz1_6, sz1_8, sz1_10, newM_ev, new1_ok, onL_ev, onL1_ok, tupL_ev, clM_ev, cl1_rse, cl1_0, cl1_1, cl1_2, cl1_3, cl1_4, cl1_5, putM_ev, putT_ok, putT2_ok, putT3_ok, putT4_some, augM_ev, augT_some, noO_ev, someO_ev, some1_ok, slM_ev, sl1_ok, sl2_ok, sl3_ok, metM_ev, met0_ev, intD0_ev, add_ii, sub_ii, neg_i, lt_ii, le_ii, gt_ii, ge_ii, isN_ev, notN_ev, num_i, num_b, notD_b, isi_bool_bl, len_tup, len_fz, tup_tup, ix_tup0, ix_tup1, ix_tup2, itM_ev, it1_ok, src_tup, src_fz, src_str, fixC_ev, lvI_ev, lv1_ok, rngI_ev, rg1_ok, forM_ev, for1_ok, turnT_nx, turnT_ct, turnT_bk, turnT_rt, turnT_rse, nmG_ev, tupG_ev, consG_ev, nilG_ev, compM_ev, yesT_ev, fn1_nx, fn1_rt, fn1_rse, eq_ii, eq_bb, max_ii, min_ii, slD_tup, List.getElem?_cons_zero, List.getElem?_cons_succ, List.set_cons_zero, List.set_cons_succ, List.map_cons, List.map_nil, List.length_cons, List.length_nil, List.cons_append, List.nil_append, Option.bind_some, decide_true, decide_false, Bool.not_true, Bool.not_false, ne_ii, ne_bb, forL_nil0]
def startT : Tm := .mk .fn 0 []
theorem start_closed {g : Gr} (w : GrW g) : Closed g startT := by
  obtain ⟨nm, t, h⟩ := w.start
  exact .mk (ks := []) (by simp [hk, Gr.sig, h]) .nil
end
end L3

/-! L3O: more single steps. -/
namespace L3
open PySem L2
section
variable {S : Sto} {e : Sl} {a : ME} {ms : MA} {n : Nat} {l l2 : List D} {d x : D} {o o2 : Option Int}
theorem slD_lst (h : S[n]? = some (.lst l)) : slD (.obj n) o o2 S = .ok (.obj S.length) (S ++ [.lst (cutD l o o2)]) := by
  unfold slD
  dsimp only
  rw [h]
theorem cut_mid {i m : Nat} (h : i + m ≤ l.length) : cutD l (some (i : Int)) (some ((i + m : Nat) : Int)) = (l.drop i).take m := by
  unfold cutD
  rw [show HT.sIx l.length 0 (some (i : Int)) = min i l.length from HT.sIx_nat _ _ i, show HT.sIx l.length l.length (some ((i + m : Nat) : Int)) = min (i + m) l.length from HT.sIx_nat _ _ (i + m), Nat.min_eq_left h, Nat.min_eq_left (by omega)]
  congr 1
  omega
def ext1 (r : Rs D) (m : MA) (e : Sl) : Rs D := bindR r fun x S1 => if isLst x S1 = true then bindR (m e S1) fun l S2 => extL x l S2 else .bad
def ext2 (x : D) (r : Rs (List D)) : Rs D := bindR r fun l S2 => extL x l S2
theorem extLM_ev : extLM a ms e S = ext1 (a e S) ms e := (rfl)
theorem ext1_lst (h : S[n]? = some (.lst l)) : ext1 (.ok (.obj n) S) ms e = ext2 (.obj n) (ms e S) := by
  show (if isLst (.obj n) S = true then _ else _) = _
  rw [if_pos (isLst_yes h)]
  rfl
theorem ext2_ok : ext2 x (.ok l S) = extL x l S := (rfl)
theorem ext_ok (h : S[n]? = some (.lst l)) (hz : l.length + l2.length ≤ 1000000) : extL (.obj n) l2 S = .ok .non (S.set n (.lst (l ++ l2))) := by
  unfold extL
  dsimp only
  rw [h]
  dsimp only
  rw [if_pos (Nat.le_trans hz (by rw [sizeLine_eq]; decide))]
/-- counting down -/
theorem rng3_down {m : Nat} (h : m ≤ 1000000) : rng3D [.int ((m : Int) - 1), .int (-1), .int (-1)] S = .ok (stepL ((m : Int) - 1) (-1) m, fixC) S := by
  show (if _ then _ else _) = _
  rw [if_pos ⟨by omega, by omega, by omega, by omega, rfl⟩]
  congr 3
  omega
theorem stepL_length {lo c : Int} {m : Nat} : (stepL lo c m).length = m := by simp [stepL]
theorem stepL_get {lo c : Int} {m i : Nat} (h : i < m) : (stepL lo c m)[i]? = some (.int (lo + (i : Int) * c)) := by simp [stepL, h]
end
/-! comprehensions over what stands for things of a type -/
section
variable {α : Type} {f : α → D} {chk : Sto → Bool} {g : D → Sl → Option Sl} {a : ME} {own : List Nat} {e : Sl} {S : Sto}
theorem compL_over {I : Sto → Prop} {Q : α → D → Prop} (hc : ∀ S, I S → chk S = true) : ∀ (l : List α) (S : Sto), I S → (∀ x ∈ l, ∀ S, I S → ∃ e1 y S2, g (f x) e = some e1 ∧ a e1 S = .ok y S2 ∧ Q x y ∧ I S2) → ∃ ys S', compL chk g yesT a (l.map f) e S = some (ys, S') ∧ All2 Q l ys ∧ I S'
  | [], S, h, _ => ⟨[], S, compL_nil' (hc S h), .nil, h⟩
  | x :: l, S, h, hx => by
    obtain ⟨e1, y, S2, h1, h2, h3, h4⟩ := hx x (by simp) S h
    obtain ⟨ys, S', h5, h6, h7⟩ := compL_over hc l S2 h4 fun x hm => hx x (by simp [hm])
    exact ⟨y :: ys, S', compL_yes (hc S h) h1 rfl h2 h5, .cons h3 h6, h7⟩
theorem cmp1_over {I : Sto → Prop} {Q : α → D → Prop} {l : List α} (hz : l.length ≤ 1000000) (h : I S) (hc : ∀ S, I S → chk S = true) (hx : ∀ x ∈ l, ∀ S, I S → ∃ e1 y S2, g (f x) (wipeD e own) = some e1 ∧ a e1 S = .ok y S2 ∧ Q x y ∧ I S2) :
    ∃ ys S', cmp1 (.ok (l.map f, chk) S) g own yesT a e = .ok ys S' ∧ All2 Q l ys ∧ I S' := by
  obtain ⟨ys, S', h1, h2, h3⟩ := compL_over hc l S h hx
  exact ⟨ys, S', cmp1_ok (by simpa using hz) h1, h2, h3⟩
theorem all2_map {β : Type} {F : α → β} {l : List α} {ys : List β} (h : All2 (fun x y => y = F x) l ys) : ys = l.map F := by
  induction h with
  | nil => rfl
  | cons r _ ih => rw [r, ih]; rfl
/-- nothing is stored -/
theorem cmp1_img {F : α → D} {l : List α} (hz : l.length ≤ 1000000) (h : chk S = true) (hx : ∀ x ∈ l, ∃ e1, g (f x) (wipeD e own) = some e1 ∧ a e1 S = .ok (F x) S) : cmp1 (.ok (l.map f, chk) S) g own yesT a e = .ok (l.map F) S := by
  obtain ⟨ys, S', h1, h2, h3⟩ := cmp1_over (f := f) (e := e) (g := g) (own := own) (a := a) (chk := chk) (Q := fun x y => y = F x) (I := fun S' => S' = S) hz rfl (fun S' hS => by rw [hS]; exact h) (fun x hm S' hS => by
    obtain ⟨e1, h1, h2⟩ := hx x hm
    rw [hS]
    exact ⟨e1, _, _, h1, h2, rfl, rfl⟩)
  rw [h1, h3, all2_map h2]
end
end L3

/-! L3T: the order of plain data; types of kinds. -/
namespace L3
open PySem L2 PyProof.Rows PySem.W
/-! ### the order -/
def dl (x y : D) : Bool := dataLt (pyOf x) (pyOf y)
theorem dl_blt {x y : D} : dl x y = (listOrd itemOrd).blt (keyToks (pyOf x)) (keyToks (pyOf y)) := rfl
theorem leP_eq {a b : D} : leP a b = !dl b a := rfl
theorem dl_irrefl {x : D} : dl x x = false := (listOrd itemOrd).irrefl _
theorem dl_trans {x y z : D} (h1 : dl x y = true) (h2 : dl y z = true) : dl x z = true := (listOrd itemOrd).trans _ _ _ h1 h2
theorem key_eqv {x y : PyData} (h : alike x y = true) (e : keyToks x = keyToks y) : PyData.eqv x y = true := by
  cases hq : PyData.eqv x y with
  | true => rfl
  | false =>
    have h2 := (toks_eqv x y h).2 hq [] [.inl 0]
    have h3 := (toks_eqv x y h).2 hq [] []
    rw [e] at h2 h3
    rw [lex_pre] at h2
    rw [List.append_nil] at h3
    have h4 : PyProof.Rows.lexLt itemOrd (keyToks y) (keyToks y) = false := (listOrd itemOrd).irrefl _
    rw [h4] at h2
    exact absurd h2 (by decide +kernel)
theorem dl_total {x y : D} (hx : plain x = true) (hy : plain y = true) (al : alike (pyOf x) (pyOf y) = true) (h1 : dl x y = false) (h2 : dl y x = false) : x = y := by
  have e := (listOrd itemOrd).total _ _ h1 h2
  have := key_eqv al e
  rw [eqv_plain hx hy] at this
  exact of_decide_eq_true this
def asc : List D → Bool
  | a :: b :: l => dl a b && asc (b :: l)
  | _ => true
theorem asc_cons {a b : D} {l : List D} : asc (a :: b :: l) = (dl a b && asc (b :: l)) := rfl
theorem asc_lt : ∀ {l : List D} {a : D}, asc (a :: l) = true → ∀ b ∈ l, dl a b = true
  | [], _, _, b, hb => by simp at hb
  | c :: l, a, h, b, hb => by
    rw [asc_cons, Bool.and_eq_true] at h
    rcases List.mem_cons.mp hb with rfl | hb
    · exact h.1
    · exact dl_trans h.1 (asc_lt h.2 b hb)
theorem asc_tail {l : List D} {a : D} (h : asc (a :: l) = true) : asc l = true := by
  cases l with
  | nil => rfl
  | cons b l => rw [asc_cons, Bool.and_eq_true] at h; exact h.2
theorem dl_asymm {x y : D} (h : dl x y = true) : dl y x = false := by
  cases hq : dl y x with
  | false => rfl
  | true =>
    have h2 : dl x x = true := dl_trans h hq
    rw [dl_irrefl] at h2
    exact h2.symm
theorem asc_pairwise : ∀ {l : List D}, asc l = true → l.Pairwise fun a b => leP a b = true
  | [], _ => .nil
  | a :: l, h => .cons (fun b hb => by rw [leP_eq, dl_asymm (asc_lt h b hb)]; rfl) (asc_pairwise (asc_tail h))
theorem asc_sorted {l : List D} (h : asc l = true) : sortL l = l := List.mergeSort_of_pairwise (asc_pairwise h)
theorem asc_ne : ∀ {l : List D} {i : Nat} {a b : D}, asc l = true → l[i]? = some a → l[i + 1]? = some b → a ≠ b
  | x :: l, 0, a, b, h, h1, h2 => by
    simp at h1
    subst h1
    have hb : b ∈ l := List.mem_of_getElem? (i := 0) (by simpa using h2)
    intro e
    have := asc_lt h b hb
    rw [← e, dl_irrefl] at this
    cases this
  | x :: l, i + 1, a, b, h, h1, h2 => asc_ne (asc_tail h) (by simpa using h1) (by simpa using h2)
  | [], i, a, b, h, h1, h2 => by simp at h1
/-- plain, each like each other -/
structure Alikes (l : List D) : Prop where
  pl : ∀ a ∈ l, plain a = true
  al : ∀ a ∈ l, ∀ b ∈ l, alike (pyOf a) (pyOf b) = true
theorem asc_of {l : List D} (A : Alikes l) : (l.Pairwise fun a b => leP a b = true) → (∀ (i : Nat) (a b : D), l[i]? = some a → l[i + 1]? = some b → a ≠ b) → asc l = true := by
  induction l with
  | nil => intro _ _; rfl
  | cons a l ih =>
    intro h1 h2
    cases l with
    | nil => rfl
    | cons b l =>
      rw [asc_cons, Bool.and_eq_true]
      obtain ⟨h3, h4⟩ := List.pairwise_cons.mp h1
      refine ⟨?_, ih ⟨fun x hx => A.pl x (by simp [hx]), fun x hx y hy => A.al x (by simp [hx]) y (by simp [hy])⟩ h4 fun i x y hx hy => h2 (i + 1) x y (by simpa using hx) (by simpa using hy)⟩
      cases hq : dl a b with
      | true => rfl
      | false =>
        have h5 := h3 b (by simp)
        rw [leP_eq] at h5
        have h6 : dl b a = false := by simpa using h5
        exact absurd (dl_total (A.pl a (by simp)) (A.pl b (by simp)) (A.al a (by simp) b (by simp)) hq h6) (h2 0 a b rfl rfl)
theorem leP_total : TotalLe leP := sortLe_total (listOrd itemOrd) false fun b : D => keyToks (pyOf b)
theorem sortL_pairwise (l : List D) : (sortL l).Pairwise fun a b => leP a b = true := sort_pairwise leP_total l
theorem sortL_mem {l : List D} {a : D} : a ∈ sortL l ↔ a ∈ l := List.mem_mergeSort
theorem sortL_length {l : List D} : (sortL l).length = l.length := List.length_mergeSort _
/-- sorted without doubles -/
theorem asc_iff {l : List D} (A : Alikes l) : (asc l = true) ↔ (l = sortL l ∧ ∀ (i : Nat) (a b : D), l[i]? = some a → l[i + 1]? = some b → a ≠ b) := by
  constructor
  · exact fun h => ⟨(asc_sorted h).symm, fun i a b => asc_ne h⟩
  · rintro ⟨h1, h2⟩
    refine asc_of A ?_ h2
    rw [h1]
    exact sortL_pairwise l
theorem nodup_ne {l : List D} (h : l.Nodup) {i : Nat} {a b : D} (h1 : l[i]? = some a) (h2 : l[i + 1]? = some b) : a ≠ b := by
  intro e
  subst e
  obtain ⟨g1, e1⟩ := List.getElem?_eq_some_iff.mp h1
  obtain ⟨g2, e2⟩ := List.getElem?_eq_some_iff.mp h2
  exact List.pairwise_iff_getElem.mp h i (i + 1) g1 g2 (Nat.lt_succ_self i) (e1.trans e2.symm)
theorem asc_sort {l : List D} (A : Alikes l) (h : l.Nodup) : asc (sortL l) = true := by
  refine asc_of ⟨fun a ha => A.pl a (sortL_mem.mp ha), fun a ha b hb => A.al a (sortL_mem.mp ha) b (sortL_mem.mp hb)⟩ (sortL_pairwise l) fun i a b h1 h2 => ?_
  exact nodup_ne ((List.mergeSort_perm l leP).nodup_iff.mpr h) h1 h2
/-! ### types -/
def isTy : Nat → List Kd → Int → D → Bool
  | 0, _, _, _ => false
  | n + 1, ks, st, .tup [.tup sets, .int q] => decide (sets.length = ks.length) && decide (0 ≤ q ∧ q < st) && (ks.zip sets).all fun p => match p.2 with
    | .tup l => l.all (isTy n p.1.parts st) && asc l
    | _ => false
  | _ + 1, _, _, _ => false
def isSt (n : Nat) (k : Kd) (st : Int) (d : D) : Bool := match d with
  | .tup l => l.all (isTy n k.parts st) && asc l
  | _ => false
theorem isTy_eq {n : Nat} {ks : List Kd} {st q : Int} {sets : List D} : isTy (n + 1) ks st (.tup [.tup sets, .int q]) = (decide (sets.length = ks.length) && decide (0 ≤ q ∧ q < st) && (ks.zip sets).all fun p => isSt n p.1 st p.2) := rfl
structure Ty (n : Nat) (ks : List Kd) (st : Int) (d : D) : Prop where
  ex : ∃ sets q, d = .tup [.tup sets, .int q] ∧ sets.length = ks.length ∧ 0 ≤ q ∧ q < st ∧ ∀ p ∈ ks.zip sets, ∃ l, p.2 = .tup l ∧ (∀ t ∈ l, isTy n p.1.parts st t = true) ∧ asc l = true
theorem isTy_iff {n : Nat} {ks : List Kd} {st : Int} {d : D} : isTy (n + 1) ks st d = true ↔ Ty n ks st d := by
  constructor
  · intro h
    unfold isTy at h
    split at h
    · cases ‹_ = 0›
    · rename_i n' ks' st' sets q e
      cases e
      simp only [Bool.and_eq_true, decide_eq_true_eq, List.all_eq_true] at h
      obtain ⟨⟨h1, h2⟩, h3⟩ := h
      refine ⟨sets, q, rfl, h1, h2.1, h2.2, fun p hp => ?_⟩
      have h4 := h3 p hp
      split at h4
      · rename_i l el
        rw [Bool.and_eq_true, List.all_eq_true] at h4
        exact ⟨l, el, h4.1, h4.2⟩
      · cases h4
    · cases h
  · rintro ⟨sets, q, rfl, h1, h2, h3, h4⟩
    rw [isTy_eq]
    simp only [Bool.and_eq_true, decide_eq_true_eq, List.all_eq_true]
    refine ⟨⟨h1, h2, h3⟩, fun p hp => ?_⟩
    obtain ⟨l, el, h5, h6⟩ := h4 p hp
    unfold isSt
    rw [el]
    dsimp only
    rw [Bool.and_eq_true, List.all_eq_true]
    exact ⟨h5, h6⟩
theorem zip_get {α β : Type} {l : List α} {m : List β} {i : Nat} {a : α} {b : β} (h1 : l[i]? = some a) (h2 : m[i]? = some b) : (a, b) ∈ l.zip m := by
  refine List.mem_of_getElem? (i := i) ?_
  rw [List.getElem?_zip_eq_some]
  exact ⟨h1, h2⟩
theorem zip_other {α β : Type} : ∀ {l : List α} {m : List β} {b : β}, m.length = l.length → b ∈ m → ∃ a, (a, b) ∈ l.zip m
  | [], [], _, _, h => by simp at h
  | a :: l, c :: m, b, h, hb => by
    rcases List.mem_cons.mp hb with rfl | hb
    · exact ⟨a, by simp⟩
    · obtain ⟨x, hx⟩ := zip_other (l := l) (by simpa using h) hb
      exact ⟨x, by simp [hx]⟩
  | [], _ :: _, _, h, _ => by simp at h
  | _ :: _, [], _, h, _ => by simp at h
theorem ty_plain : ∀ {n : Nat} {ks : List Kd} {st : Int} {d : D}, isTy n ks st d = true → plain d = true ∧ dpt d ≤ 3 * n
  | 0, _, _, _, h => by unfold isTy at h; cases h
  | n + 1, ks, st, d, h => by
    obtain ⟨sets, q, rfl, h1, h2, h3, h4⟩ := (isTy_iff.mp h).ex
    have key : ∀ x ∈ sets, plain x = true ∧ dpt x ≤ 3 * n + 1 := fun x hx => by
      obtain ⟨k, hk⟩ := zip_other h1 hx
      obtain ⟨l, e, h5, _⟩ := h4 _ hk
      simp only at e
      subst e
      refine ⟨?_, ?_⟩
      · unfold plain
        exact plains_iff.mpr fun t ht => (ty_plain (h5 t ht)).1
      · unfold dpt
        have := dpts_le.mpr fun t ht => (ty_plain (h5 t ht)).2
        omega
    have p1 : plains sets = true := plains_iff.mpr fun x hx => (key x hx).1
    have p2 : dpts sets ≤ 3 * n + 1 := dpts_le.mpr fun x hx => (key x hx).2
    refine ⟨by simp [plain, plains, p1], ?_⟩
    simp only [dpt, dpts]
    omega
theorem alikeAll_of : ∀ {l m : List D}, (∀ (i : Nat) a b, l[i]? = some a → m[i]? = some b → alike (pyOf a) (pyOf b) = true) → alikeAll (pysOf l) (pysOf m) = true
  | [], m, _ => by unfold pysOf; simp [alikeAll]
  | a :: l, [], _ => by unfold pysOf; simp [alikeAll]
  | a :: l, b :: m, h => by
    simp only [pysOf, alikeAll, Bool.and_eq_true]
    exact ⟨h 0 a b rfl rfl, alikeAll_of fun i x y h1 h2 => h (i + 1) x y (by simpa using h1) (by simpa using h2)⟩
theorem ty_alike : ∀ {n : Nat} {ks : List Kd} {st : Int} {d e : D}, isTy n ks st d = true → isTy n ks st e = true → alike (pyOf d) (pyOf e) = true
  | 0, _, _, _, _, h, _ => by unfold isTy at h; cases h
  | n + 1, ks, st, d, e, h, h' => by
    obtain ⟨sets, q, rfl, h1, h2, h3, h4⟩ := (isTy_iff.mp h).ex
    obtain ⟨sets', q', rfl, k1, k2, k3, k4⟩ := (isTy_iff.mp h').ex
    have : alikeAll (pysOf sets) (pysOf sets') = true := alikeAll_of fun i a b ha hb => by
      have hi : i < ks.length := by rw [← h1]; exact (List.getElem?_eq_some_iff.mp ha).1
      have hk := List.getElem?_eq_getElem hi
      obtain ⟨l, e1, h5, _⟩ := h4 _ (zip_get hk ha)
      obtain ⟨l', e2, h5', _⟩ := k4 _ (zip_get hk hb)
      simp only at e1 e2 h5 h5'
      subst e1 e2
      simp only [pyOf, alike]
      exact alikeAll_of fun j x y hx hy => ty_alike (h5 x (List.mem_of_getElem? hx)) (h5' y (List.mem_of_getElem? hy))
    simp [pyOf, pysOf, alike, alikeAll, this]
theorem ty_alikes {n : Nat} {ks : List Kd} {st : Int} {l : List D} (h : ∀ t ∈ l, isTy n ks st t = true) : Alikes l :=
  ⟨fun a ha => (ty_plain (h a ha)).1, fun a ha b hb => ty_alike (h a ha) (h b hb)⟩
theorem ty_sortOk {n : Nat} {ks : List Kd} {st : Int} {l : List D} (h : ∀ t ∈ l, isTy n ks st t = true) (hn : n ≤ 20) (hl : l.length ≤ 1000000) : sortOk l = true := by
  have p1 : plains l = true := plains_iff.mpr fun t ht => (ty_plain (h t ht)).1
  have p2 : dpts l ≤ 60 := dpts_le.mpr fun t ht => Nat.le_trans (ty_plain (h t ht)).2 (by omega)
  have p3 : l.length ≤ sizeLine := Nat.le_trans hl (by rw [sizeLine_eq]; decide)
  have p4 : (l.all fun a => l.all fun b => alike (pyOf a) (pyOf b)) = true := by
    simp only [List.all_eq_true]
    exact fun a ha b hb => ty_alike (h a ha) (h b hb)
  have p5 : (l.all fun a => tupNe (pyOf a)) = true := by
    simp only [List.all_eq_true]
    intro a ha
    have := h a ha
    cases n with
    | zero => unfold isTy at this; cases this
    | succ n =>
      obtain ⟨sets, q, rfl, _⟩ := (isTy_iff.mp this).ex
      simp [pyOf, pysOf, tupNe]
  unfold sortOk
  rw [p1, decide_eq_true p2, decide_eq_true p3, p4, p5]
  rfl
/-- lists compared -/
theorem eq_ll {n m : Nat} {S : Sto} {l l2 : List D} (h1 : S[n]? = some (.lst l)) (h2 : S[m]? = some (.lst l2)) (p1 : plains l = true) (p2 : plains l2 = true) (d1 : dpts l ≤ 60) (d2 : dpts l2 ≤ 60) : eqD (.obj n) (.obj m) S = .ok (.bl (decide (l = l2))) S := by
  have dat : ∀ {n : Nat} {l : List D}, S[n]? = some (.lst l) → plains l = true → datP S (.obj n) = some (.list (pysOf l)) := fun {n l} h p => by
    unfold datP toP
    show objP S 8 n = _
    unfold objP
    rw [h]
    dsimp only
    rw [toPs_plain p]
    rfl
  have shp : ∀ {l : List D}, plains l = true → dpts l ≤ 60 → SeqAt.shaped (.list (pysOf l)) = true := fun {l} p d => by
    unfold SeqAt.shaped
    rw [show (PyData.list (pysOf l)).canLay0 = true from by unfold PyData.canLay0; exact lays_plain p, decide_eq_true (by unfold PyData.depth; rw [dpts_plain p]; omega)]
    rfl
  rw [eqD_of (dat h1 p1) (dat h2 p2) (shp p1 d1) (shp p2 d2)]
  rw [show PyData.eqv (.list (pysOf l)) (.list (pysOf l2)) = PyData.eqvAll (pysOf l) (pysOf l2) from by unfold PyData.eqv; rfl, eqvs_plain p1 p2]
/-- not in a list -/
theorem notIn_l {x : D} {n : Nat} {S : Sto} {l : List D} (h : S[n]? = some (.lst l)) (px : plain x = true) (dx : dpt x ≤ 60) (p : plains l = true) (d : dpts l ≤ 60) : notInD x (.obj n) S = .ok (.bl (!decide (x ∈ l))) S := by
  have e1 : datP S (.obj n) = some (.list (pysOf l)) := by
    unfold datP toP
    show objP S 8 n = _
    unfold objP
    rw [h]
    dsimp only
    rw [toPs_plain p]
    rfl
  have s1 : SeqAt.shaped (.list (pysOf l)) = true := by
    unfold SeqAt.shaped
    rw [show (PyData.list (pysOf l)).canLay0 = true from by unfold PyData.canLay0; exact lays_plain p, decide_eq_true (by unfold PyData.depth; rw [dpts_plain p]; omega)]
    rfl
  have key : ((pysOf l).any fun z => PyData.eqv z (pyOf x)) = decide (x ∈ l) := by
    clear e1 s1 h d
    induction l with
    | nil => simp [pysOf]
    | cons a l ih =>
      unfold plains at p
      rw [Bool.and_eq_true] at p
      simp only [pysOf, List.any_cons, ih p.2, eqv_plain p.1 px, List.mem_cons, Bool.decide_or]
      congr 1
      rw [decide_eq_decide]
      exact ⟨fun e => e.symm, fun e => e.symm⟩
  unfold notInD inB
  dsimp only
  rw [dat_plain px, e1]
  dsimp only
  rw [if_pos ⟨shp_plain px (by omega), s1⟩, key]
/-! ### trees: no objects, not too wide -/
mutual
def tre : D → Bool
  | .tup l => decide (l.length ≤ 1000) && tres l
  | .fz _ => false
  | .obj _ => false
  | .non | .bl _ | .int _ | .str _ => true
def tres : List D → Bool
  | [] => true
  | d :: l => tre d && tres l
end
theorem tres_iff {l : List D} : tres l = true ↔ ∀ d ∈ l, tre d = true := by
  induction l with
  | nil => simp [tres]
  | cons d l ih => simp [tres, ih]
theorem tre_tup {l : List D} : tre (.tup l) = true ↔ l.length ≤ 1000 ∧ ∀ d ∈ l, tre d = true := by
  conv => lhs; unfold tre
  rw [Bool.and_eq_true, decide_eq_true_eq, tres_iff]
theorem kitt : kitB "NoneType" "tuple" = some false ∧ kitB "bool" "tuple" = some false ∧ kitB "int" "tuple" = some false ∧ kitB "str" "tuple" = some false ∧ kitB "tuple" "tuple" = some true := by decide +kernel
theorem kiti : kitB "NoneType" "int" = some false ∧ kitB "bool" "int" = some true ∧ kitB "int" "int" = some true ∧ kitB "str" "int" = some false ∧ kitB "tuple" "int" = some false := by decide +kernel
theorem kitb : kitB "NoneType" "bool" = some false ∧ kitB "bool" "bool" = some true ∧ kitB "int" "bool" = some false ∧ kitB "str" "bool" = some false ∧ kitB "tuple" "bool" = some false := by decide +kernel
theorem isi_of {T t : String} {d : D} {S : Sto} {b : Bool} (h : tagD d S = some t) (k : kitB t T = some b) : isiD T d S = .ok (.bl b) S := by
  unfold isiD
  rw [h]
  dsimp only
  rw [k]
def isTupB : D → Bool
  | .tup _ => true
  | _ => false
def isIntB : D → Bool
  | .int _ => true
  | .bl _ => true
  | _ => false
def isBlB : D → Bool
  | .bl _ => true
  | _ => false
theorem isi_tup {d : D} {S : Sto} (h : tre d = true) : isiD "tuple" d S = .ok (.bl (isTupB d)) S := by
  cases d with
  | non => exact isi_of rfl kitt.1
  | bl b => exact isi_of rfl kitt.2.1
  | int i => exact isi_of rfl kitt.2.2.1
  | str x => exact isi_of rfl kitt.2.2.2.1
  | tup l => exact isi_of rfl kitt.2.2.2.2
  | fz l => unfold tre at h; cases h
  | obj n => unfold tre at h; cases h
theorem isi_int {d : D} {S : Sto} (h : tre d = true) : isiD "int" d S = .ok (.bl (isIntB d)) S := by
  cases d with
  | non => exact isi_of rfl kiti.1
  | bl b => exact isi_of rfl kiti.2.1
  | int i => exact isi_of rfl kiti.2.2.1
  | str x => exact isi_of rfl kiti.2.2.2.1
  | tup l => exact isi_of rfl kiti.2.2.2.2
  | fz l => unfold tre at h; cases h
  | obj n => unfold tre at h; cases h
theorem isi_bool {d : D} {S : Sto} (h : tre d = true) : isiD "bool" d S = .ok (.bl (isBlB d)) S := by
  cases d with
  | non => exact isi_of rfl kitb.1
  | bl b => exact isi_of rfl kitb.2.1
  | int i => exact isi_of rfl kitb.2.2.1
  | str x => exact isi_of rfl kitb.2.2.2.1
  | tup l => exact isi_of rfl kitb.2.2.2.2
  | fz l => unfold tre at h; cases h
  | obj n => unfold tre at h; cases h
/-- a loop that looks at each -/
theorem check_loop {chk : Sto → Bool} {g : D → Sl → Option Sl} {t : MT} {P : D → Bool} {I : Sl → Sto → Prop} (hc : ∀ e S, I e S → chk S = true) : ∀ (l : List D), (∀ x ∈ l, ∀ e S, I e S → ∃ e1 S1, g x e = some e1 ∧ t e1 S = .ok (P x) S1 ∧ I e1 S1) → ∀ (e : Sl) (S : Sto), I e S →
    ∃ e' S', I e' S' ∧ forL chk g (ifS (notT t) (retM (cM (.bl false))) nopM) l e S = if l.all P then .nx e' S' else .rt (.bl false) S'
  | [], _, e, S, h => ⟨e, S, h, forL_nil (hc e S h)⟩
  | x :: l, hx, e, S, h => by
    obtain ⟨e1, S1, h1, h2, h3⟩ := hx x (by simp) e S h
    rw [forL_cons (hc e S h) h1]
    simp only [ifS_ev, notT_ev, h2, not1_ok]
    cases hp : P x with
    | true =>
      obtain ⟨e', S', h4, h5⟩ := check_loop hc l (fun y hy => hx y (by simp [hy])) e1 S1 h3
      refine ⟨e', S', h4, ?_⟩
      simp only [Bool.not_true, ifT_false, nopM_ev, turnT_nx, h5, List.all_cons, hp, Bool.true_and]
    | false =>
      refine ⟨e1, S1, h3, ?_⟩
      simp only [Bool.not_false, ifT_true, retM_ev, cM_ev, retT_ok, turnT_rt, List.all_cons, hp, Bool.false_and]
      rfl
theorem fn1_if {c : Bool} {e : Sl} {S : Sto} {R : MS} : fn1 (thenT (if c = true then .nx e S else .rt (.bl false) S) R) = if c = true then fn1 (R e S) else .ok (.bl false) S := by cases c <;> rfl
inductive YN where
  | is_type
  | is_set
  | law_fill
  | law_take
  | law_is_type
  | law_is_set
  | law_set
  | law_type
noncomputable abbrev YN_is_type_l1 (cf : YN → List D → Sto → Rs D) : MS := (ifS (notT (trT (clM 3 (cf .is_set) (consA (opM ixD (vM 0) (vM 3)) (consA (vM 1) (consA (vM 4) nilA)))))) (retM (cM (.bl false)))
    nopM)
noncomputable def YN_is_type (cf : YN → List D → Sto → Rs D) : MS := (seqM (ifS (orT (notT (trT (unM (isiD "tuple") (vM 2)))) (orT (blT (opM neD (unM lenD (vM 2)) (cM (.int 2)))) (orT (notT (trT (unM (isiD "tuple") (opM ixD (vM 2) (cM (.int 0)))))) (blT (opM neD (unM lenD (opM ixD (vM 2) (cM (.int 0)))) (unM lenD (vM 0))))))) (retM (cM (.bl false)))
    nopM)
    (seqM (ifS (orT (notT (trT (unM (isiD "int") (opM ixD (vM 2) (cM (.int 1)))))) (orT (trT (unM (isiD "bool") (opM ixD (vM 2) (cM (.int 1))))) (notT (blT (chM leD ltD (cM (.int 0)) (opM ixD (vM 2) (cM (.int 1))) (vM 1)))))) (retM (cM (.bl false)))
    nopM)
    (seqM (forM (itM enumD (opM ixD (vM 2) (cM (.int 0)))) (tupG 2 (consG (nmG 3) (consG (nmG 4) nilG))) (YN_is_type_l1 cf))
    (retM (cM (.bl true))))))
noncomputable abbrev YN_is_set_l1 (cf : YN → List D → Sto → Rs D) : MS := (ifS (notT (trT (clM 3 (cf .is_type) (consA (vM 0) (consA (vM 1) (consA (vM 3) nilA)))))) (retM (cM (.bl false)))
    nopM)
noncomputable abbrev YN_is_set_l2 (cf : YN → List D → Sto → Rs D) : MS := (ifS (notT (blT (opM ltxD (opM ixD (vM 2) (opM subD (vM 4) (cM (.int 1)))) (opM ixD (vM 2) (vM 4))))) (retM (cM (.bl false)))
    nopM)
noncomputable def YN_is_set (cf : YN → List D → Sto → Rs D) : MS := (seqM (ifS (notT (trT (unM (isiD "tuple") (vM 2)))) (retM (cM (.bl false)))
    nopM)
    (seqM (forM (itM srcD (vM 2)) (nmG 3) (YN_is_set_l1 cf))
    (seqM (forM (rngI rng2D (consA (cM (.int 1)) (consA (unM lenD (vM 2)) nilA))) (nmG 4) (YN_is_set_l2 cf))
    (retM (cM (.bl true))))))
noncomputable def YN_law_fill (cf : YN → List D → Sto → Rs D) : MS := (seqM (putM setD (opM addD (opM ixD (vM 0) (cM (.int 3))) (cM (.int 1))) (vM 0) (cM (.int 3)))
    (seqM (setM 1 (opM addD (opM mulD (opM ixD (vM 0) (cM (.int 3))) (cM (.int 69621))) (cM (.int 12345))))
    (seqM (ifS (blT (opM ltD (opM ixD (vM 0) (cM (.int 1))) (unM lenD (opM ixD (vM 0) (cM (.int 0)))))) (seqM (setM 1 (opM ixD (opM ixD (vM 0) (cM (.int 0))) (opM ixD (vM 0) (cM (.int 1)))))
    (seqM (putM setD (opM addD (opM ixD (vM 0) (cM (.int 1))) (cM (.int 1))) (vM 0) (cM (.int 1)))
    (seqM (ifS (blT (opM ltD (vM 1) (cM (.int 0)))) (setM 1 (opM subD (opM subD (cM (.int 0)) (cM (.int 1))) (vM 1)))
    nopM)
    (ifS (blT (opM geD (vM 1) (opM powD (cM (.int 10)) (cM (.int 18))))) (retM (vM 1))
    nopM))))
    nopM)
    (seqM (ifS (andT (trT (opM ixD (vM 0) (cM (.int 0)))) (blT (opM geD (opM ixD (vM 0) (cM (.int 1))) (unM lenD (opM ixD (vM 0) (cM (.int 0))))))) (setM 1 (opM addD (vM 1) (opM modD (unM numD (opM ixD (opM ixD (vM 0) (cM (.int 0))) (unM negD (cM (.int 1))))) (cM (.int 1000003)))))
    nopM)
    (seqM (setM 1 (opM modD (unM numD (opM addD (opM mulD (vM 1) (cM (.int 48271))) (opM mulD (opM ixD (vM 0) (cM (.int 3))) (cM (.int 69621))))) (cM (.int 2147483647))))
    (retM (opM addD (opM fdivD (unM numD (opM addD (opM addD (opM mulD (vM 1) (vM 1)) (opM mulD (opM ixD (vM 0) (cM (.int 3))) (cM (.int 7919)))) (cM (.int 11)))) (cM (.int 64))) (cM (.int 36028797018963968)))))))))
noncomputable def YN_law_take (cf : YN → List D → Sto → Rs D) : MS := (seqM (ifS (blT (opM ltD (opM ixD (vM 0) (cM (.int 2))) (vM 1))) (putM setD (clM 1 (cf .law_fill) (consA (vM 0) nilA)) (vM 0) (cM (.int 2)))
    nopM)
    (seqM (setM 2 (opM modD (unM numD (opM ixD (vM 0) (cM (.int 2)))) (vM 1)))
    (seqM (putM setD (opM fdivD (opM ixD (vM 0) (cM (.int 2))) (vM 1)) (vM 0) (cM (.int 2)))
    (retM (vM 2)))))
noncomputable abbrev YN_law_is_type_l1 (cf : YN → List D → Sto → Rs D) : MS := (ifS (notT (trT (clM 3 (cf .law_is_set) (consA (opM ixD (vM 0) (vM 3)) (consA (vM 1) (consA (opM ixD (opM ixD (vM 2) (cM (.int 0))) (vM 3)) nilA)))))) (retM (cM (.bl false)))
    nopM)
noncomputable def YN_law_is_type (cf : YN → List D → Sto → Rs D) : MS := (seqM (ifS (orT (notT (trT (unM (isiD "tuple") (vM 2)))) (orT (blT (opM neD (unM lenD (vM 2)) (cM (.int 2)))) (orT (notT (trT (unM (isiD "tuple") (opM ixD (vM 2) (cM (.int 0)))))) (blT (opM neD (unM lenD (opM ixD (vM 2) (cM (.int 0)))) (unM lenD (vM 0))))))) (retM (cM (.bl false)))
    nopM)
    (seqM (ifS (orT (notT (trT (unM (isiD "int") (opM ixD (vM 2) (cM (.int 1)))))) (orT (trT (unM (isiD "bool") (opM ixD (vM 2) (cM (.int 1))))) (orT (blT (opM ltD (opM ixD (vM 2) (cM (.int 1))) (cM (.int 0)))) (blT (opM geD (opM ixD (vM 2) (cM (.int 1))) (vM 1)))))) (retM (cM (.bl false)))
    nopM)
    (seqM (forM (rngI rng1D (consA (unM lenD (vM 0)) nilA)) (nmG 3) (YN_law_is_type_l1 cf))
    (retM (cM (.bl true))))))
noncomputable def YN_law_is_set (cf : YN → List D → Sto → Rs D) : MS := (seqM (ifS (orT (notT (trT (unM (isiD "tuple") (vM 2)))) (notT (trT (onL allL (compM (itM srcD (vM 2)) (nmG 3) [3] yesT (clM 3 (cf .law_is_type) (consA (vM 0) (consA (vM 1) (consA (vM 3) nilA))))))))) (retM (cM (.bl false)))
    nopM)
    (retM (andM (opM eqD (newM (toA lstD (vM 2))) (newM (toA sortD (vM 2)))) (opM eqD (unM lenD (newM (compM (rngI rng2D (consA (cM (.int 1)) (consA (unM lenD (vM 2)) nilA))) (nmG 4) [4] (blT (opM eqD (opM ixD (vM 2) (vM 4)) (opM ixD (vM 2) (opM subD (vM 4) (cM (.int 1)))))) (vM 4)))) (cM (.int 0))))))
noncomputable abbrev YN_law_set_l1 (cf : YN → List D → Sto → Rs D) : MS := (seqM (setM 6 (clM 3 (cf .law_type) (consA (vM 0) (consA (vM 1) (consA (vM 2) nilA)))))
    (ifS (blT (opM notInD (vM 6) (vM 4))) (dropM (metM isLst appD (vM 4) (vM 6)))
    nopM))
noncomputable def YN_law_set (cf : YN → List D → Sto → Rs D) : MS := (seqM (setM 4 (newM (szA nilA)))
    (seqM (forM (rngI rng1D (consA (clM 2 (cf .law_take) (consA (vM 0) (consA (opM addD (vM 3) (cM (.int 1))) nilA))) nilA)) (nmG 5) (YN_law_set_l1 cf))
    (retM (onL tupL (toA sortD (vM 4))))))
noncomputable def YN_law_type (cf : YN → List D → Sto → Rs D) : MS := (retM (tupM (consA (onL tupL (compM (itM srcD (vM 1)) (nmG 3) [3] yesT (clM 4 (cf .law_set) (consA (vM 0) (consA (vM 3) (consA (vM 2) (consA (cM (.int 2)) nilA))))))) (consA (clM 2 (cf .law_take) (consA (vM 0) (consA (vM 2) nilA))) nilA))))
structure YNSrc (F : Nat → YN → List D → Sto → Rs D) : Prop where
  is_type : ∀ k, F (k + 1) .is_type = fnM 5 (YN_is_type (F k))
  is_set : ∀ k, F (k + 1) .is_set = fnM 5 (YN_is_set (F k))
  law_fill : ∀ k, F (k + 1) .law_fill = fnM 2 (YN_law_fill (F k))
  law_take : ∀ k, F (k + 1) .law_take = fnM 3 (YN_law_take (F k))
  law_is_type : ∀ k, F (k + 1) .law_is_type = fnM 4 (YN_law_is_type (F k))
  law_is_set : ∀ k, F (k + 1) .law_is_set = fnM 5 (YN_law_is_set (F k))
  law_set : ∀ k, F (k + 1) .law_set = fnM 7 (YN_law_set (F k))
  law_type : ∀ k, F (k + 1) .law_type = fnM 4 (YN_law_type (F k))

section
variable {F : Nat → YN → List D → Sto → Rs D}
theorem enum_tup {l : List D} {S : Sto} : enumD (.tup l) S = .ok (numL 0 l, fixC) S := (rfl)
theorem isTy_not {n : Nat} {ks : List Kd} {st : Int} {d : D} (h : ∀ sets q, d ≠ .tup [.tup sets, .int q]) : isTy n ks st d = false := by
  cases hq : isTy n ks st d with
  | false => rfl
  | true =>
    cases n with
    | zero => unfold isTy at hq; cases hq
    | succ n =>
      obtain ⟨sets, q, e, _⟩ := (isTy_iff.mp hq).ex
      exact (h sets q e).elim
theorem all_cong {α : Type} {p q : α → Bool} : ∀ {l : List α}, (∀ x ∈ l, p x = q x) → l.all p = l.all q
  | [], _ => rfl
  | x :: l, h => by rw [List.all_cons, List.all_cons, h x (by simp), all_cong fun y hy => h y (by simp [hy])]
theorem asc_idx : ∀ l : List D, asc l = (List.range (l.length - 1)).all fun i => dl (l.getD i .non) (l.getD (i + 1) .non)
  | [] => rfl
  | [a] => rfl
  | a :: b :: l => by
    rw [asc_cons, asc_idx (b :: l)]
    show _ = (List.range (l.length + 1)).all _
    rw [List.range_succ_eq_map, List.all_cons, List.all_map]
    congr 1
theorem asc_upto {l : List D} : ((upto 1 (l.length - 1)).all fun x => match x with
    | .int j => dl (l.getD (j.toNat - 1) .non) (l.getD j.toNat .non)
    | _ => false) = asc l := by
  rw [asc_idx]
  unfold upto
  rw [List.all_map]
  apply all_cong
  intro i _
  show dl (l.getD ((1 + (i : Int)).toNat - 1) .non) (l.getD (1 + (i : Int)).toNat .non) = _
  rw [show (1 + (i : Int)).toNat = i + 1 by omega, Nat.add_sub_cancel]
theorem numL_zip {P : Kd → D → Bool} : ∀ (ks : List Kd) (sets : List D) (i : Nat), ks.length = sets.length → ((ks.zip sets).all fun p => P p.1 p.2) = (numL i sets).all fun x => match x with
    | .tup [.int j, y] => match ks[(j - i).toNat]? with
      | some k => P k y
      | none => false
    | _ => false
  | [], [], _, _ => rfl
  | [], _ :: _, _, h => by simp at h
  | _ :: _, [], _, h => by simp at h
  | k :: ks, y :: sets, i, h => by
    unfold numL
    rw [List.zip_cons_cons, List.all_cons, List.all_cons, numL_zip (P := P) ks sets (i + 1) (by simpa using h)]
    congr 1
    · simp
    · apply all_cong
      intro x hx
      obtain ⟨j, hj⟩ := List.mem_iff_getElem?.mp hx
      obtain ⟨z, _, rfl⟩ := numL_get hj
      have e1 : (((i + 1 + j : Nat) : Int) - ((i + 1 : Nat) : Int)).toNat = j := by omega
      have e2 : (((i + 1 + j : Nat) : Int) - ((i : Nat) : Int)).toNat = j + 1 := by omega
      simp only [e1, e2, List.getElem?_cons_succ]
theorem isSet_step {f : List D → Sto → Rs D} : True := trivial
theorem isType_yn (src : YNSrc F) {k : Nat} {st : Int} : ∀ (n : Nat) (ks : List Kd) (d : D) (S : Sto), kdeps ks < n → n ≤ 20 → tre d = true → F (k + 2 * n) .is_type [.tup (kds ks), .int st, d] S = .ok (.bl (isTy n ks st d)) S
  | 0, ks, d, S, hk, hn, ht => by omega
  | n + 1, ks, d, S, hk, hn, ht => by
    -- a set, one level below
    have hset : ∀ (kd : Kd) (x : D) (S : Sto), kdeps kd.parts < n → tre x = true → F (k + 2 * n + 1) .is_set [kd.d, .int st, x] S = .ok (.bl (isSt n kd st x)) S := fun kd x S hkd hx => by
      rw [src.is_set, Kd.d_eq]
      simp only [YN_is_set, fnM_ev, startD, List.replicate, seqM_ev, thenT_nx, thenT_rt, thenT_bk, thenT_ct, thenT_rse, nopM_ev, brkM_ev, cntM_ev, setM_ev, setT_ok, setT_rse, setLM_ev, setLT_ok, dropM_ev, dropT_ok, dropT_rse, retM_ev, retT_ok, retT_rse, ifS_ev, ifT_true, ifT_false, asgM_ev, asgT_ok', optT_some, cM_ev, vM_ev, vR_some, opM_ev, op1_ok, op1_rse, op2_ok, op2_rse, unM_ev, un1_ok, un1_rse, blT_ev, blR_ok, blR_rse, trT_ev, trR_ok, tru_bl, tru_non, tru_tup, tru_int, andT_ev, and1_true, and1_false, orT_ev, or1_true, or1_false, notT_ev, not1_ok, andM_ev, andV_true, andV_false, orM_ev, orV_true, orV_false, ifM_ev, if1_true, if1_false, chM_ev, ch1_ok, ch2_ok, ch3_true, ch3_false, nilA_ev, consA_ev, con1_ok, con1_rse, con2_ok, tupM_ev, tup1_0, tup1_1, tup1_2, tup1_3, tup1_4, szA_ev, sz1_0, sz1_1, sz1_2, sz1_3, sz1_4, sz1_5, sz1_6, sz1_8, sz1_10, newM_ev, new1_ok, onL_ev, onL1_ok, tupL_ev, clM_ev, cl1_rse, cl1_0, cl1_1, cl1_2, cl1_3, cl1_4, cl1_5, putM_ev, putT_ok, putT2_ok, putT3_ok, putT4_some, augM_ev, augT_some, noO_ev, someO_ev, some1_ok, slM_ev, sl1_ok, sl2_ok, sl3_ok, metM_ev, met0_ev, intD0_ev, add_ii, sub_ii, neg_i, lt_ii, le_ii, gt_ii, ge_ii, isN_ev, notN_ev, num_i, num_b, notD_b, isi_bool_bl, len_tup, len_fz, tup_tup, ix_tup0, ix_tup1, ix_tup2, itM_ev, it1_ok, src_tup, src_fz, src_str, fixC_ev, lvI_ev, lv1_ok, rngI_ev, rg1_ok, forM_ev, for1_ok, turnT_nx, turnT_ct, turnT_bk, turnT_rt, turnT_rse, nmG_ev, tupG_ev, consG_ev, nilG_ev, compM_ev, yesT_ev, fn1_nx, fn1_rt, fn1_rse, eq_ii, eq_bb, max_ii, min_ii, slD_tup, List.getElem?_cons_zero, List.getElem?_cons_succ, List.set_cons_zero, List.set_cons_succ, List.map_cons, List.map_nil, List.length_cons, List.length_nil, List.cons_append, List.nil_append, Option.bind_some, decide_true, decide_false, Bool.not_true, Bool.not_false, ne_ii, ne_bb, forL_nil0, isi_tup hx]
      cases x with
      | tup l =>
        obtain ⟨hl, hm⟩ := tre_tup.mp hx
        simp only [isTupB, seqM_ev, thenT_nx, thenT_rt, thenT_bk, thenT_ct, thenT_rse, nopM_ev, brkM_ev, cntM_ev, setM_ev, setT_ok, setT_rse, setLM_ev, setLT_ok, dropM_ev, dropT_ok, dropT_rse, retM_ev, retT_ok, retT_rse, ifS_ev, ifT_true, ifT_false, asgM_ev, asgT_ok', optT_some, cM_ev, vM_ev, vR_some, opM_ev, op1_ok, op1_rse, op2_ok, op2_rse, unM_ev, un1_ok, un1_rse, blT_ev, blR_ok, blR_rse, trT_ev, trR_ok, tru_bl, tru_non, tru_tup, tru_int, andT_ev, and1_true, and1_false, orT_ev, or1_true, or1_false, notT_ev, not1_ok, andM_ev, andV_true, andV_false, orM_ev, orV_true, orV_false, ifM_ev, if1_true, if1_false, chM_ev, ch1_ok, ch2_ok, ch3_true, ch3_false, nilA_ev, consA_ev, con1_ok, con1_rse, con2_ok, tupM_ev, tup1_0, tup1_1, tup1_2, tup1_3, tup1_4, szA_ev, sz1_0, sz1_1, sz1_2, sz1_3, sz1_4, sz1_5, sz1_6, sz1_8, sz1_10, newM_ev, new1_ok, onL_ev, onL1_ok, tupL_ev, clM_ev, cl1_rse, cl1_0, cl1_1, cl1_2, cl1_3, cl1_4, cl1_5, putM_ev, putT_ok, putT2_ok, putT3_ok, putT4_some, augM_ev, augT_some, noO_ev, someO_ev, some1_ok, slM_ev, sl1_ok, sl2_ok, sl3_ok, metM_ev, met0_ev, intD0_ev, add_ii, sub_ii, neg_i, lt_ii, le_ii, gt_ii, ge_ii, isN_ev, notN_ev, num_i, num_b, notD_b, isi_bool_bl, len_tup, len_fz, tup_tup, ix_tup0, ix_tup1, ix_tup2, itM_ev, it1_ok, src_tup, src_fz, src_str, fixC_ev, lvI_ev, lv1_ok, rngI_ev, rg1_ok, forM_ev, for1_ok, turnT_nx, turnT_ct, turnT_bk, turnT_rt, turnT_rse, nmG_ev, tupG_ev, consG_ev, nilG_ev, compM_ev, yesT_ev, fn1_nx, fn1_rt, fn1_rse, eq_ii, eq_bb, max_ii, min_ii, slD_tup, List.getElem?_cons_zero, List.getElem?_cons_succ, List.set_cons_zero, List.set_cons_succ, List.map_cons, List.map_nil, List.length_cons, List.length_nil, List.cons_append, List.nil_append, Option.bind_some, decide_true, decide_false, Bool.not_true, Bool.not_false, ne_ii, ne_bb, forL_nil0]
        obtain ⟨e', S', ⟨⟨x3, rfl⟩, rfl⟩, e1⟩ := check_loop (chk := fixC) (g := nmG 3) (t := trT (clM 3 (F (k + 2 * n) .is_type) (consA (vM 0) (consA (vM 1) (consA (vM 3) nilA))))) (P := fun t => isTy n kd.parts st t) (I := fun e S' => (∃ x3, e = [some (.tup (kds kd.parts)), some (.int st), some (.tup l), x3, none]) ∧ S' = S) (fun _ _ _ => rfl) l
          (fun t ht e S' hI => by
            obtain ⟨⟨x3, rfl⟩, hS⟩ := hI
            refine ⟨_, S', rfl, ?_, ⟨⟨_, rfl⟩, hS⟩⟩
            simp only [seqM_ev, thenT_nx, thenT_rt, thenT_bk, thenT_ct, thenT_rse, nopM_ev, brkM_ev, cntM_ev, setM_ev, setT_ok, setT_rse, setLM_ev, setLT_ok, dropM_ev, dropT_ok, dropT_rse, retM_ev, retT_ok, retT_rse, ifS_ev, ifT_true, ifT_false, asgM_ev, asgT_ok', optT_some, cM_ev, vM_ev, vR_some, opM_ev, op1_ok, op1_rse, op2_ok, op2_rse, unM_ev, un1_ok, un1_rse, blT_ev, blR_ok, blR_rse, trT_ev, trR_ok, tru_bl, tru_non, tru_tup, tru_int, andT_ev, and1_true, and1_false, orT_ev, or1_true, or1_false, notT_ev, not1_ok, andM_ev, andV_true, andV_false, orM_ev, orV_true, orV_false, ifM_ev, if1_true, if1_false, chM_ev, ch1_ok, ch2_ok, ch3_true, ch3_false, nilA_ev, consA_ev, con1_ok, con1_rse, con2_ok, tupM_ev, tup1_0, tup1_1, tup1_2, tup1_3, tup1_4, szA_ev, sz1_0, sz1_1, sz1_2, sz1_3, sz1_4, sz1_5, sz1_6, sz1_8, sz1_10, newM_ev, new1_ok, onL_ev, onL1_ok, tupL_ev, clM_ev, cl1_rse, cl1_0, cl1_1, cl1_2, cl1_3, cl1_4, cl1_5, putM_ev, putT_ok, putT2_ok, putT3_ok, putT4_some, augM_ev, augT_some, noO_ev, someO_ev, some1_ok, slM_ev, sl1_ok, sl2_ok, sl3_ok, metM_ev, met0_ev, intD0_ev, add_ii, sub_ii, neg_i, lt_ii, le_ii, gt_ii, ge_ii, isN_ev, notN_ev, num_i, num_b, notD_b, isi_bool_bl, len_tup, len_fz, tup_tup, ix_tup0, ix_tup1, ix_tup2, itM_ev, it1_ok, src_tup, src_fz, src_str, fixC_ev, lvI_ev, lv1_ok, rngI_ev, rg1_ok, forM_ev, for1_ok, turnT_nx, turnT_ct, turnT_bk, turnT_rt, turnT_rse, nmG_ev, tupG_ev, consG_ev, nilG_ev, compM_ev, yesT_ev, fn1_nx, fn1_rt, fn1_rse, eq_ii, eq_bb, max_ii, min_ii, slD_tup, List.getElem?_cons_zero, List.getElem?_cons_succ, List.set_cons_zero, List.set_cons_succ, List.map_cons, List.map_nil, List.length_cons, List.length_nil, List.cons_append, List.nil_append, Option.bind_some, decide_true, decide_false, Bool.not_true, Bool.not_false, ne_ii, ne_bb, forL_nil0, isType_yn src n kd.parts t S' hkd (by omega) (hm t ht)]) _ S ⟨⟨none, rfl⟩, rfl⟩
        rw [e1, fn1_if]
        cases hall : l.all fun t => isTy n kd.parts st t with
        | false => simp [isSt, hall]
        | true =>
          have hT : ∀ t ∈ l, isTy n kd.parts st t = true := by simpa using hall
          have hr : rng2D [.int 1, .int (l.length : Int)] S' = .ok (upto 1 (l.length - 1), fixC) S' := by
            rw [rng2_ok (by omega)]
            congr 3
            omega
          obtain ⟨e'', S'', ⟨⟨x4, rfl⟩, rfl⟩, e2⟩ := check_loop (chk := fixC) (g := nmG 4) (t := blT (opM ltxD (opM ixD (vM 2) (opM subD (vM 4) (cM (.int 1)))) (opM ixD (vM 2) (vM 4)))) (P := fun x => match x with
              | .int j => dl (l.getD (j.toNat - 1) .non) (l.getD j.toNat .non)
              | _ => false) (I := fun e S'' => (∃ x4, e = [some (.tup (kds kd.parts)), some (.int st), some (.tup l), x3, x4]) ∧ S'' = S') (fun _ _ _ => rfl) (upto 1 (l.length - 1))
            (fun t ht e S2 hI => by
              obtain ⟨⟨x4, rfl⟩, hS⟩ := hI
              obtain ⟨i, hi⟩ := List.mem_iff_getElem?.mp ht
              have hil : i < l.length - 1 := by
                have := (List.getElem?_eq_some_iff.mp hi).1
                rwa [upto_length] at this
              rw [upto_get hil] at hi
              cases hi
              have g0 : l[i]? = some (l.getD i .non) := by rw [List.getD_eq_getElem?_getD, List.getElem?_eq_getElem (by omega)]; rfl
              have g1 : l[i + 1]? = some (l.getD (i + 1) .non) := by rw [List.getD_eq_getElem?_getD, List.getElem?_eq_getElem (by omega)]; rfl
              have t0 := hT _ (List.mem_of_getElem? g0)
              have t1 := hT _ (List.mem_of_getElem? g1)
              refine ⟨_, S2, rfl, ?_, ⟨⟨_, rfl⟩, hS⟩⟩
              have i0 : ixD (.tup l) (.int (1 + (i : Int) - 1)) S2 = .ok (l.getD i .non) S2 := by
                rw [show (1 : Int) + (i : Int) - 1 = (i : Int) by omega]
                exact ix_tup (atI_nat g0)
              have i1 : ixD (.tup l) (.int (1 + (i : Int))) S2 = .ok (l.getD (i + 1) .non) S2 := by
                rw [show (1 : Int) + (i : Int) = ((i + 1 : Nat) : Int) by omega]
                exact ix_tup (atI_nat g1)
              have hlt : ltxD (l.getD i .non) (l.getD (i + 1) .non) S2 = .ok (.bl (dl (l.getD i .non) (l.getD (i + 1) .non))) S2 := by
                have p0 := ty_plain t0
                have p1 := ty_plain t1
                have hne : l.getD i .non ≠ .non := fun z => by
                  rw [z] at t0
                  rw [isTy_not (fun _ _ => by simp)] at t0
                  cases t0
                unfold ltxD ltxB
                rw [if_pos ⟨p0.1, p1.1, by omega, ty_alike t0 t1, hne⟩]
                rfl
              simp only [seqM_ev, thenT_nx, thenT_rt, thenT_bk, thenT_ct, thenT_rse, nopM_ev, brkM_ev, cntM_ev, setM_ev, setT_ok, setT_rse, setLM_ev, setLT_ok, dropM_ev, dropT_ok, dropT_rse, retM_ev, retT_ok, retT_rse, ifS_ev, ifT_true, ifT_false, asgM_ev, asgT_ok', optT_some, cM_ev, vM_ev, vR_some, opM_ev, op1_ok, op1_rse, op2_ok, op2_rse, unM_ev, un1_ok, un1_rse, blT_ev, blR_ok, blR_rse, trT_ev, trR_ok, tru_bl, tru_non, tru_tup, tru_int, andT_ev, and1_true, and1_false, orT_ev, or1_true, or1_false, notT_ev, not1_ok, andM_ev, andV_true, andV_false, orM_ev, orV_true, orV_false, ifM_ev, if1_true, if1_false, chM_ev, ch1_ok, ch2_ok, ch3_true, ch3_false, nilA_ev, consA_ev, con1_ok, con1_rse, con2_ok, tupM_ev, tup1_0, tup1_1, tup1_2, tup1_3, tup1_4, szA_ev, sz1_0, sz1_1, sz1_2, sz1_3, sz1_4, sz1_5, sz1_6, sz1_8, sz1_10, newM_ev, new1_ok, onL_ev, onL1_ok, tupL_ev, clM_ev, cl1_rse, cl1_0, cl1_1, cl1_2, cl1_3, cl1_4, cl1_5, putM_ev, putT_ok, putT2_ok, putT3_ok, putT4_some, augM_ev, augT_some, noO_ev, someO_ev, some1_ok, slM_ev, sl1_ok, sl2_ok, sl3_ok, metM_ev, met0_ev, intD0_ev, add_ii, sub_ii, neg_i, lt_ii, le_ii, gt_ii, ge_ii, isN_ev, notN_ev, num_i, num_b, notD_b, isi_bool_bl, len_tup, len_fz, tup_tup, ix_tup0, ix_tup1, ix_tup2, itM_ev, it1_ok, src_tup, src_fz, src_str, fixC_ev, lvI_ev, lv1_ok, rngI_ev, rg1_ok, forM_ev, for1_ok, turnT_nx, turnT_ct, turnT_bk, turnT_rt, turnT_rse, nmG_ev, tupG_ev, consG_ev, nilG_ev, compM_ev, yesT_ev, fn1_nx, fn1_rt, fn1_rse, eq_ii, eq_bb, max_ii, min_ii, slD_tup, List.getElem?_cons_zero, List.getElem?_cons_succ, List.set_cons_zero, List.set_cons_succ, List.map_cons, List.map_nil, List.length_cons, List.length_nil, List.cons_append, List.nil_append, Option.bind_some, decide_true, decide_false, Bool.not_true, Bool.not_false, ne_ii, ne_bb, forL_nil0, i0, i1, hlt, show (1 + (i : Int)).toNat = i + 1 by omega, Nat.add_sub_cancel]) _ S' ⟨⟨none, rfl⟩, rfl⟩
          have hasc : ((upto 1 (l.length - 1)).all fun x => match x with
              | .int j => dl (l.getD (j.toNat - 1) .non) (l.getD j.toNat .non)
              | _ => false) = asc l := asc_upto
          simp only [if_true, seqM_ev, thenT_nx, thenT_rt, thenT_bk, thenT_ct, thenT_rse, nopM_ev, brkM_ev, cntM_ev, setM_ev, setT_ok, setT_rse, setLM_ev, setLT_ok, dropM_ev, dropT_ok, dropT_rse, retM_ev, retT_ok, retT_rse, ifS_ev, ifT_true, ifT_false, asgM_ev, asgT_ok', optT_some, cM_ev, vM_ev, vR_some, opM_ev, op1_ok, op1_rse, op2_ok, op2_rse, unM_ev, un1_ok, un1_rse, blT_ev, blR_ok, blR_rse, trT_ev, trR_ok, tru_bl, tru_non, tru_tup, tru_int, andT_ev, and1_true, and1_false, orT_ev, or1_true, or1_false, notT_ev, not1_ok, andM_ev, andV_true, andV_false, orM_ev, orV_true, orV_false, ifM_ev, if1_true, if1_false, chM_ev, ch1_ok, ch2_ok, ch3_true, ch3_false, nilA_ev, consA_ev, con1_ok, con1_rse, con2_ok, tupM_ev, tup1_0, tup1_1, tup1_2, tup1_3, tup1_4, szA_ev, sz1_0, sz1_1, sz1_2, sz1_3, sz1_4, sz1_5, sz1_6, sz1_8, sz1_10, newM_ev, new1_ok, onL_ev, onL1_ok, tupL_ev, clM_ev, cl1_rse, cl1_0, cl1_1, cl1_2, cl1_3, cl1_4, cl1_5, putM_ev, putT_ok, putT2_ok, putT3_ok, putT4_some, augM_ev, augT_some, noO_ev, someO_ev, some1_ok, slM_ev, sl1_ok, sl2_ok, sl3_ok, metM_ev, met0_ev, intD0_ev, add_ii, sub_ii, neg_i, lt_ii, le_ii, gt_ii, ge_ii, isN_ev, notN_ev, num_i, num_b, notD_b, isi_bool_bl, len_tup, len_fz, tup_tup, ix_tup0, ix_tup1, ix_tup2, itM_ev, it1_ok, src_tup, src_fz, src_str, fixC_ev, lvI_ev, lv1_ok, rngI_ev, rg1_ok, forM_ev, for1_ok, turnT_nx, turnT_ct, turnT_bk, turnT_rt, turnT_rse, nmG_ev, tupG_ev, consG_ev, nilG_ev, compM_ev, yesT_ev, fn1_nx, fn1_rt, fn1_rse, eq_ii, eq_bb, max_ii, min_ii, slD_tup, List.getElem?_cons_zero, List.getElem?_cons_succ, List.set_cons_zero, List.set_cons_succ, List.map_cons, List.map_nil, List.length_cons, List.length_nil, List.cons_append, List.nil_append, Option.bind_some, decide_true, decide_false, Bool.not_true, Bool.not_false, ne_ii, ne_bb, forL_nil0, hr, e2, fn1_if, hasc]
          simp only [isSt, hall, Bool.true_and]
          cases asc l <;> rfl
      | _ => simp only [isTupB, seqM_ev, thenT_nx, thenT_rt, thenT_bk, thenT_ct, thenT_rse, nopM_ev, brkM_ev, cntM_ev, setM_ev, setT_ok, setT_rse, setLM_ev, setLT_ok, dropM_ev, dropT_ok, dropT_rse, retM_ev, retT_ok, retT_rse, ifS_ev, ifT_true, ifT_false, asgM_ev, asgT_ok', optT_some, cM_ev, vM_ev, vR_some, opM_ev, op1_ok, op1_rse, op2_ok, op2_rse, unM_ev, un1_ok, un1_rse, blT_ev, blR_ok, blR_rse, trT_ev, trR_ok, tru_bl, tru_non, tru_tup, tru_int, andT_ev, and1_true, and1_false, orT_ev, or1_true, or1_false, notT_ev, not1_ok, andM_ev, andV_true, andV_false, orM_ev, orV_true, orV_false, ifM_ev, if1_true, if1_false, chM_ev, ch1_ok, ch2_ok, ch3_true, ch3_false, nilA_ev, consA_ev, con1_ok, con1_rse, con2_ok, tupM_ev, tup1_0, tup1_1, tup1_2, tup1_3, tup1_4, szA_ev, sz1_0, sz1_1, sz1_2, sz1_3, sz1_4, sz1_5, sz1_6, sz1_8, sz1_10, newM_ev, new1_ok, onL_ev, onL1_ok, tupL_ev, clM_ev, cl1_rse, cl1_0, cl1_1, cl1_2, cl1_3, cl1_4, cl1_5, putM_ev, putT_ok, putT2_ok, putT3_ok, putT4_some, augM_ev, augT_some, noO_ev, someO_ev, some1_ok, slM_ev, sl1_ok, sl2_ok, sl3_ok, metM_ev, met0_ev, intD0_ev, add_ii, sub_ii, neg_i, lt_ii, le_ii, gt_ii, ge_ii, isN_ev, notN_ev, num_i, num_b, notD_b, isi_bool_bl, len_tup, len_fz, tup_tup, ix_tup0, ix_tup1, ix_tup2, itM_ev, it1_ok, src_tup, src_fz, src_str, fixC_ev, lvI_ev, lv1_ok, rngI_ev, rg1_ok, forM_ev, for1_ok, turnT_nx, turnT_ct, turnT_bk, turnT_rt, turnT_rse, nmG_ev, tupG_ev, consG_ev, nilG_ev, compM_ev, yesT_ev, fn1_nx, fn1_rt, fn1_rse, eq_ii, eq_bb, max_ii, min_ii, slD_tup, List.getElem?_cons_zero, List.getElem?_cons_succ, List.set_cons_zero, List.set_cons_succ, List.map_cons, List.map_nil, List.length_cons, List.length_nil, List.cons_append, List.nil_append, Option.bind_some, decide_true, decide_false, Bool.not_true, Bool.not_false, ne_ii, ne_bb, forL_nil0, isSt]
    rw [show k + 2 * (n + 1) = (k + 2 * n + 1) + 1 by omega, src.is_type]
    simp only [YN_is_type, fnM_ev, startD, List.replicate, seqM_ev, thenT_nx, thenT_rt, thenT_bk, thenT_ct, thenT_rse, nopM_ev, brkM_ev, cntM_ev, setM_ev, setT_ok, setT_rse, setLM_ev, setLT_ok, dropM_ev, dropT_ok, dropT_rse, retM_ev, retT_ok, retT_rse, ifS_ev, ifT_true, ifT_false, asgM_ev, asgT_ok', optT_some, cM_ev, vM_ev, vR_some, opM_ev, op1_ok, op1_rse, op2_ok, op2_rse, unM_ev, un1_ok, un1_rse, blT_ev, blR_ok, blR_rse, trT_ev, trR_ok, tru_bl, tru_non, tru_tup, tru_int, andT_ev, and1_true, and1_false, orT_ev, or1_true, or1_false, notT_ev, not1_ok, andM_ev, andV_true, andV_false, orM_ev, orV_true, orV_false, ifM_ev, if1_true, if1_false, chM_ev, ch1_ok, ch2_ok, ch3_true, ch3_false, nilA_ev, consA_ev, con1_ok, con1_rse, con2_ok, tupM_ev, tup1_0, tup1_1, tup1_2, tup1_3, tup1_4, szA_ev, sz1_0, sz1_1, sz1_2, sz1_3, sz1_4, sz1_5, sz1_6, sz1_8, sz1_10, newM_ev, new1_ok, onL_ev, onL1_ok, tupL_ev, clM_ev, cl1_rse, cl1_0, cl1_1, cl1_2, cl1_3, cl1_4, cl1_5, putM_ev, putT_ok, putT2_ok, putT3_ok, putT4_some, augM_ev, augT_some, noO_ev, someO_ev, some1_ok, slM_ev, sl1_ok, sl2_ok, sl3_ok, metM_ev, met0_ev, intD0_ev, add_ii, sub_ii, neg_i, lt_ii, le_ii, gt_ii, ge_ii, isN_ev, notN_ev, num_i, num_b, notD_b, isi_bool_bl, len_tup, len_fz, tup_tup, ix_tup0, ix_tup1, ix_tup2, itM_ev, it1_ok, src_tup, src_fz, src_str, fixC_ev, lvI_ev, lv1_ok, rngI_ev, rg1_ok, forM_ev, for1_ok, turnT_nx, turnT_ct, turnT_bk, turnT_rt, turnT_rse, nmG_ev, tupG_ev, consG_ev, nilG_ev, compM_ev, yesT_ev, fn1_nx, fn1_rt, fn1_rse, eq_ii, eq_bb, max_ii, min_ii, slD_tup, List.getElem?_cons_zero, List.getElem?_cons_succ, List.set_cons_zero, List.set_cons_succ, List.map_cons, List.map_nil, List.length_cons, List.length_nil, List.cons_append, List.nil_append, Option.bind_some, decide_true, decide_false, Bool.not_true, Bool.not_false, ne_ii, ne_bb, forL_nil0, isi_tup ht]
    cases d with
    | tup l =>
      obtain ⟨hl, hm⟩ := tre_tup.mp ht
      by_cases h2 : l.length = 2
      · obtain ⟨a, b, rfl⟩ : ∃ a b, l = [a, b] := by
          match l, h2 with
          | [a, b], _ => exact ⟨a, b, rfl⟩
        have ha := hm a (by simp)
        have hb := hm b (by simp)
        simp only [isTupB, seqM_ev, thenT_nx, thenT_rt, thenT_bk, thenT_ct, thenT_rse, nopM_ev, brkM_ev, cntM_ev, setM_ev, setT_ok, setT_rse, setLM_ev, setLT_ok, dropM_ev, dropT_ok, dropT_rse, retM_ev, retT_ok, retT_rse, ifS_ev, ifT_true, ifT_false, asgM_ev, asgT_ok', optT_some, cM_ev, vM_ev, vR_some, opM_ev, op1_ok, op1_rse, op2_ok, op2_rse, unM_ev, un1_ok, un1_rse, blT_ev, blR_ok, blR_rse, trT_ev, trR_ok, tru_bl, tru_non, tru_tup, tru_int, andT_ev, and1_true, and1_false, orT_ev, or1_true, or1_false, notT_ev, not1_ok, andM_ev, andV_true, andV_false, orM_ev, orV_true, orV_false, ifM_ev, if1_true, if1_false, chM_ev, ch1_ok, ch2_ok, ch3_true, ch3_false, nilA_ev, consA_ev, con1_ok, con1_rse, con2_ok, tupM_ev, tup1_0, tup1_1, tup1_2, tup1_3, tup1_4, szA_ev, sz1_0, sz1_1, sz1_2, sz1_3, sz1_4, sz1_5, sz1_6, sz1_8, sz1_10, newM_ev, new1_ok, onL_ev, onL1_ok, tupL_ev, clM_ev, cl1_rse, cl1_0, cl1_1, cl1_2, cl1_3, cl1_4, cl1_5, putM_ev, putT_ok, putT2_ok, putT3_ok, putT4_some, augM_ev, augT_some, noO_ev, someO_ev, some1_ok, slM_ev, sl1_ok, sl2_ok, sl3_ok, metM_ev, met0_ev, intD0_ev, add_ii, sub_ii, neg_i, lt_ii, le_ii, gt_ii, ge_ii, isN_ev, notN_ev, num_i, num_b, notD_b, isi_bool_bl, len_tup, len_fz, tup_tup, ix_tup0, ix_tup1, ix_tup2, itM_ev, it1_ok, src_tup, src_fz, src_str, fixC_ev, lvI_ev, lv1_ok, rngI_ev, rg1_ok, forM_ev, for1_ok, turnT_nx, turnT_ct, turnT_bk, turnT_rt, turnT_rse, nmG_ev, tupG_ev, consG_ev, nilG_ev, compM_ev, yesT_ev, fn1_nx, fn1_rt, fn1_rse, eq_ii, eq_bb, max_ii, min_ii, slD_tup, List.getElem?_cons_zero, List.getElem?_cons_succ, List.set_cons_zero, List.set_cons_succ, List.map_cons, List.map_nil, List.length_cons, List.length_nil, List.cons_append, List.nil_append, Option.bind_some, decide_true, decide_false, Bool.not_true, Bool.not_false, ne_ii, ne_bb, forL_nil0, show decide (((0 + 1 + 1 : Nat) : Int) = 2) = true from rfl, isi_tup ha]
        cases a with
        | tup sets =>
          obtain ⟨sl, sm⟩ := tre_tup.mp ha
          simp only [isTupB, seqM_ev, thenT_nx, thenT_rt, thenT_bk, thenT_ct, thenT_rse, nopM_ev, brkM_ev, cntM_ev, setM_ev, setT_ok, setT_rse, setLM_ev, setLT_ok, dropM_ev, dropT_ok, dropT_rse, retM_ev, retT_ok, retT_rse, ifS_ev, ifT_true, ifT_false, asgM_ev, asgT_ok', optT_some, cM_ev, vM_ev, vR_some, opM_ev, op1_ok, op1_rse, op2_ok, op2_rse, unM_ev, un1_ok, un1_rse, blT_ev, blR_ok, blR_rse, trT_ev, trR_ok, tru_bl, tru_non, tru_tup, tru_int, andT_ev, and1_true, and1_false, orT_ev, or1_true, or1_false, notT_ev, not1_ok, andM_ev, andV_true, andV_false, orM_ev, orV_true, orV_false, ifM_ev, if1_true, if1_false, chM_ev, ch1_ok, ch2_ok, ch3_true, ch3_false, nilA_ev, consA_ev, con1_ok, con1_rse, con2_ok, tupM_ev, tup1_0, tup1_1, tup1_2, tup1_3, tup1_4, szA_ev, sz1_0, sz1_1, sz1_2, sz1_3, sz1_4, sz1_5, sz1_6, sz1_8, sz1_10, newM_ev, new1_ok, onL_ev, onL1_ok, tupL_ev, clM_ev, cl1_rse, cl1_0, cl1_1, cl1_2, cl1_3, cl1_4, cl1_5, putM_ev, putT_ok, putT2_ok, putT3_ok, putT4_some, augM_ev, augT_some, noO_ev, someO_ev, some1_ok, slM_ev, sl1_ok, sl2_ok, sl3_ok, metM_ev, met0_ev, intD0_ev, add_ii, sub_ii, neg_i, lt_ii, le_ii, gt_ii, ge_ii, isN_ev, notN_ev, num_i, num_b, notD_b, isi_bool_bl, len_tup, len_fz, tup_tup, ix_tup0, ix_tup1, ix_tup2, itM_ev, it1_ok, src_tup, src_fz, src_str, fixC_ev, lvI_ev, lv1_ok, rngI_ev, rg1_ok, forM_ev, for1_ok, turnT_nx, turnT_ct, turnT_bk, turnT_rt, turnT_rse, nmG_ev, tupG_ev, consG_ev, nilG_ev, compM_ev, yesT_ev, fn1_nx, fn1_rt, fn1_rse, eq_ii, eq_bb, max_ii, min_ii, slD_tup, List.getElem?_cons_zero, List.getElem?_cons_succ, List.set_cons_zero, List.set_cons_succ, List.map_cons, List.map_nil, List.length_cons, List.length_nil, List.cons_append, List.nil_append, Option.bind_some, decide_true, decide_false, Bool.not_true, Bool.not_false, ne_ii, ne_bb, forL_nil0, kds_length]
          by_cases hlen : sets.length = ks.length
          · simp only [decide_eq_true (show (sets.length : Int) = (ks.length : Int) by omega), seqM_ev, thenT_nx, thenT_rt, thenT_bk, thenT_ct, thenT_rse, nopM_ev, brkM_ev, cntM_ev, setM_ev, setT_ok, setT_rse, setLM_ev, setLT_ok, dropM_ev, dropT_ok, dropT_rse, retM_ev, retT_ok, retT_rse, ifS_ev, ifT_true, ifT_false, asgM_ev, asgT_ok', optT_some, cM_ev, vM_ev, vR_some, opM_ev, op1_ok, op1_rse, op2_ok, op2_rse, unM_ev, un1_ok, un1_rse, blT_ev, blR_ok, blR_rse, trT_ev, trR_ok, tru_bl, tru_non, tru_tup, tru_int, andT_ev, and1_true, and1_false, orT_ev, or1_true, or1_false, notT_ev, not1_ok, andM_ev, andV_true, andV_false, orM_ev, orV_true, orV_false, ifM_ev, if1_true, if1_false, chM_ev, ch1_ok, ch2_ok, ch3_true, ch3_false, nilA_ev, consA_ev, con1_ok, con1_rse, con2_ok, tupM_ev, tup1_0, tup1_1, tup1_2, tup1_3, tup1_4, szA_ev, sz1_0, sz1_1, sz1_2, sz1_3, sz1_4, sz1_5, sz1_6, sz1_8, sz1_10, newM_ev, new1_ok, onL_ev, onL1_ok, tupL_ev, clM_ev, cl1_rse, cl1_0, cl1_1, cl1_2, cl1_3, cl1_4, cl1_5, putM_ev, putT_ok, putT2_ok, putT3_ok, putT4_some, augM_ev, augT_some, noO_ev, someO_ev, some1_ok, slM_ev, sl1_ok, sl2_ok, sl3_ok, metM_ev, met0_ev, intD0_ev, add_ii, sub_ii, neg_i, lt_ii, le_ii, gt_ii, ge_ii, isN_ev, notN_ev, num_i, num_b, notD_b, isi_bool_bl, len_tup, len_fz, tup_tup, ix_tup0, ix_tup1, ix_tup2, itM_ev, it1_ok, src_tup, src_fz, src_str, fixC_ev, lvI_ev, lv1_ok, rngI_ev, rg1_ok, forM_ev, for1_ok, turnT_nx, turnT_ct, turnT_bk, turnT_rt, turnT_rse, nmG_ev, tupG_ev, consG_ev, nilG_ev, compM_ev, yesT_ev, fn1_nx, fn1_rt, fn1_rse, eq_ii, eq_bb, max_ii, min_ii, slD_tup, List.getElem?_cons_zero, List.getElem?_cons_succ, List.set_cons_zero, List.set_cons_succ, List.map_cons, List.map_nil, List.length_cons, List.length_nil, List.cons_append, List.nil_append, Option.bind_some, decide_true, decide_false, Bool.not_true, Bool.not_false, ne_ii, ne_bb, forL_nil0, isi_int hb, isi_bool hb]
            cases b with
            | int q =>
              simp only [isIntB, isBlB, seqM_ev, thenT_nx, thenT_rt, thenT_bk, thenT_ct, thenT_rse, nopM_ev, brkM_ev, cntM_ev, setM_ev, setT_ok, setT_rse, setLM_ev, setLT_ok, dropM_ev, dropT_ok, dropT_rse, retM_ev, retT_ok, retT_rse, ifS_ev, ifT_true, ifT_false, asgM_ev, asgT_ok', optT_some, cM_ev, vM_ev, vR_some, opM_ev, op1_ok, op1_rse, op2_ok, op2_rse, unM_ev, un1_ok, un1_rse, blT_ev, blR_ok, blR_rse, trT_ev, trR_ok, tru_bl, tru_non, tru_tup, tru_int, andT_ev, and1_true, and1_false, orT_ev, or1_true, or1_false, notT_ev, not1_ok, andM_ev, andV_true, andV_false, orM_ev, orV_true, orV_false, ifM_ev, if1_true, if1_false, chM_ev, ch1_ok, ch2_ok, ch3_true, ch3_false, nilA_ev, consA_ev, con1_ok, con1_rse, con2_ok, tupM_ev, tup1_0, tup1_1, tup1_2, tup1_3, tup1_4, szA_ev, sz1_0, sz1_1, sz1_2, sz1_3, sz1_4, sz1_5, sz1_6, sz1_8, sz1_10, newM_ev, new1_ok, onL_ev, onL1_ok, tupL_ev, clM_ev, cl1_rse, cl1_0, cl1_1, cl1_2, cl1_3, cl1_4, cl1_5, putM_ev, putT_ok, putT2_ok, putT3_ok, putT4_some, augM_ev, augT_some, noO_ev, someO_ev, some1_ok, slM_ev, sl1_ok, sl2_ok, sl3_ok, metM_ev, met0_ev, intD0_ev, add_ii, sub_ii, neg_i, lt_ii, le_ii, gt_ii, ge_ii, isN_ev, notN_ev, num_i, num_b, notD_b, isi_bool_bl, len_tup, len_fz, tup_tup, ix_tup0, ix_tup1, ix_tup2, itM_ev, it1_ok, src_tup, src_fz, src_str, fixC_ev, lvI_ev, lv1_ok, rngI_ev, rg1_ok, forM_ev, for1_ok, turnT_nx, turnT_ct, turnT_bk, turnT_rt, turnT_rse, nmG_ev, tupG_ev, consG_ev, nilG_ev, compM_ev, yesT_ev, fn1_nx, fn1_rt, fn1_rse, eq_ii, eq_bb, max_ii, min_ii, slD_tup, List.getElem?_cons_zero, List.getElem?_cons_succ, List.set_cons_zero, List.set_cons_succ, List.map_cons, List.map_nil, List.length_cons, List.length_nil, List.cons_append, List.nil_append, Option.bind_some, decide_true, decide_false, Bool.not_true, Bool.not_false, ne_ii, ne_bb, forL_nil0, isi_bool hb]
              by_cases hq : 0 ≤ q ∧ q < st
              · simp only [decide_eq_true hq.1, decide_eq_true hq.2, seqM_ev, thenT_nx, thenT_rt, thenT_bk, thenT_ct, thenT_rse, nopM_ev, brkM_ev, cntM_ev, setM_ev, setT_ok, setT_rse, setLM_ev, setLT_ok, dropM_ev, dropT_ok, dropT_rse, retM_ev, retT_ok, retT_rse, ifS_ev, ifT_true, ifT_false, asgM_ev, asgT_ok', optT_some, cM_ev, vM_ev, vR_some, opM_ev, op1_ok, op1_rse, op2_ok, op2_rse, unM_ev, un1_ok, un1_rse, blT_ev, blR_ok, blR_rse, trT_ev, trR_ok, tru_bl, tru_non, tru_tup, tru_int, andT_ev, and1_true, and1_false, orT_ev, or1_true, or1_false, notT_ev, not1_ok, andM_ev, andV_true, andV_false, orM_ev, orV_true, orV_false, ifM_ev, if1_true, if1_false, chM_ev, ch1_ok, ch2_ok, ch3_true, ch3_false, nilA_ev, consA_ev, con1_ok, con1_rse, con2_ok, tupM_ev, tup1_0, tup1_1, tup1_2, tup1_3, tup1_4, szA_ev, sz1_0, sz1_1, sz1_2, sz1_3, sz1_4, sz1_5, sz1_6, sz1_8, sz1_10, newM_ev, new1_ok, onL_ev, onL1_ok, tupL_ev, clM_ev, cl1_rse, cl1_0, cl1_1, cl1_2, cl1_3, cl1_4, cl1_5, putM_ev, putT_ok, putT2_ok, putT3_ok, putT4_some, augM_ev, augT_some, noO_ev, someO_ev, some1_ok, slM_ev, sl1_ok, sl2_ok, sl3_ok, metM_ev, met0_ev, intD0_ev, add_ii, sub_ii, neg_i, lt_ii, le_ii, gt_ii, ge_ii, isN_ev, notN_ev, num_i, num_b, notD_b, isi_bool_bl, len_tup, len_fz, tup_tup, ix_tup0, ix_tup1, ix_tup2, itM_ev, it1_ok, src_tup, src_fz, src_str, fixC_ev, lvI_ev, lv1_ok, rngI_ev, rg1_ok, forM_ev, for1_ok, turnT_nx, turnT_ct, turnT_bk, turnT_rt, turnT_rse, nmG_ev, tupG_ev, consG_ev, nilG_ev, compM_ev, yesT_ev, fn1_nx, fn1_rt, fn1_rse, eq_ii, eq_bb, max_ii, min_ii, slD_tup, List.getElem?_cons_zero, List.getElem?_cons_succ, List.set_cons_zero, List.set_cons_succ, List.map_cons, List.map_nil, List.length_cons, List.length_nil, List.cons_append, List.nil_append, Option.bind_some, decide_true, decide_false, Bool.not_true, Bool.not_false, ne_ii, ne_bb, forL_nil0, enum_tup]
                obtain ⟨e', S', ⟨⟨x3, x4, rfl⟩, rfl⟩, e1⟩ := check_loop (chk := fixC) (g := tupG 2 (consG (nmG 3) (consG (nmG 4) nilG))) (t := trT (clM 3 (F (k + 2 * n + 1) .is_set) (consA (opM ixD (vM 0) (vM 3)) (consA (vM 1) (consA (vM 4) nilA))))) (P := fun x => match x with
                    | .tup [.int j, y] => match ks[(j - (0 : Nat)).toNat]? with
                      | some k => isSt n k st y
                      | none => false
                    | _ => false) (I := fun e S' => (∃ x3 x4, e = [some (.tup (kds ks)), some (.int st), some (.tup [.tup sets, .int q]), x3, x4]) ∧ S' = S) (fun _ _ _ => rfl) (numL 0 sets)
                  (fun x hx e S' hI => by
                    obtain ⟨⟨x3, x4, rfl⟩, hS⟩ := hI
                    obtain ⟨j, hj⟩ := List.mem_iff_getElem?.mp hx
                    obtain ⟨y, hy, rfl⟩ := numL_get hj
                    have hjl : j < ks.length := by rw [← hlen]; exact (List.getElem?_eq_some_iff.mp hy).1
                    have hkj := List.getElem?_eq_getElem hjl
                    refine ⟨[some (.tup (kds ks)), some (.int st), some (.tup [.tup sets, .int q]), some (.int ((0 + j : Nat) : Int)), some y], S', rfl, ?_, ⟨⟨_, _, rfl⟩, hS⟩⟩
                    have ik : ixD (.tup (kds ks)) (.int ((0 + j : Nat) : Int)) S' = .ok (ks[j]).d S' := ix_tup (atI_nat (by rw [kds_map, List.getElem?_map, Nat.zero_add, hkj]; rfl))
                    have hd : kdeps (ks[j]).parts < n := by
                      have := kdeps_le.mp (Nat.le_of_lt_succ hk) _ (List.getElem_mem hjl)
                      rw [kd_parts ks[j]] at this
                      unfold Kd.dep at this
                      omega
                    simp only [seqM_ev, thenT_nx, thenT_rt, thenT_bk, thenT_ct, thenT_rse, nopM_ev, brkM_ev, cntM_ev, setM_ev, setT_ok, setT_rse, setLM_ev, setLT_ok, dropM_ev, dropT_ok, dropT_rse, retM_ev, retT_ok, retT_rse, ifS_ev, ifT_true, ifT_false, asgM_ev, asgT_ok', optT_some, cM_ev, vM_ev, vR_some, opM_ev, op1_ok, op1_rse, op2_ok, op2_rse, unM_ev, un1_ok, un1_rse, blT_ev, blR_ok, blR_rse, trT_ev, trR_ok, tru_bl, tru_non, tru_tup, tru_int, andT_ev, and1_true, and1_false, orT_ev, or1_true, or1_false, notT_ev, not1_ok, andM_ev, andV_true, andV_false, orM_ev, orV_true, orV_false, ifM_ev, if1_true, if1_false, chM_ev, ch1_ok, ch2_ok, ch3_true, ch3_false, nilA_ev, consA_ev, con1_ok, con1_rse, con2_ok, tupM_ev, tup1_0, tup1_1, tup1_2, tup1_3, tup1_4, szA_ev, sz1_0, sz1_1, sz1_2, sz1_3, sz1_4, sz1_5, sz1_6, sz1_8, sz1_10, newM_ev, new1_ok, onL_ev, onL1_ok, tupL_ev, clM_ev, cl1_rse, cl1_0, cl1_1, cl1_2, cl1_3, cl1_4, cl1_5, putM_ev, putT_ok, putT2_ok, putT3_ok, putT4_some, augM_ev, augT_some, noO_ev, someO_ev, some1_ok, slM_ev, sl1_ok, sl2_ok, sl3_ok, metM_ev, met0_ev, intD0_ev, add_ii, sub_ii, neg_i, lt_ii, le_ii, gt_ii, ge_ii, isN_ev, notN_ev, num_i, num_b, notD_b, isi_bool_bl, len_tup, len_fz, tup_tup, ix_tup0, ix_tup1, ix_tup2, itM_ev, it1_ok, src_tup, src_fz, src_str, fixC_ev, lvI_ev, lv1_ok, rngI_ev, rg1_ok, forM_ev, for1_ok, turnT_nx, turnT_ct, turnT_bk, turnT_rt, turnT_rse, nmG_ev, tupG_ev, consG_ev, nilG_ev, compM_ev, yesT_ev, fn1_nx, fn1_rt, fn1_rse, eq_ii, eq_bb, max_ii, min_ii, slD_tup, List.getElem?_cons_zero, List.getElem?_cons_succ, List.set_cons_zero, List.set_cons_succ, List.map_cons, List.map_nil, List.length_cons, List.length_nil, List.cons_append, List.nil_append, Option.bind_some, decide_true, decide_false, Bool.not_true, Bool.not_false, ne_ii, ne_bb, forL_nil0, ik, hset _ y S' hd (sm y (List.mem_of_getElem? hy)), show (((0 + j : Nat) : Int) - ((0 : Nat) : Int)).toNat = j by omega, hkj]) _ S ⟨⟨none, none, rfl⟩, rfl⟩
                rw [e1, fn1_if, ← numL_zip (P := fun k y => isSt n k st y) ks sets 0 hlen.symm, isTy_eq, decide_eq_true hlen, decide_eq_true hq]
                simp only [seqM_ev, thenT_nx, thenT_rt, thenT_bk, thenT_ct, thenT_rse, nopM_ev, brkM_ev, cntM_ev, setM_ev, setT_ok, setT_rse, setLM_ev, setLT_ok, dropM_ev, dropT_ok, dropT_rse, retM_ev, retT_ok, retT_rse, ifS_ev, ifT_true, ifT_false, asgM_ev, asgT_ok', optT_some, cM_ev, vM_ev, vR_some, opM_ev, op1_ok, op1_rse, op2_ok, op2_rse, unM_ev, un1_ok, un1_rse, blT_ev, blR_ok, blR_rse, trT_ev, trR_ok, tru_bl, tru_non, tru_tup, tru_int, andT_ev, and1_true, and1_false, orT_ev, or1_true, or1_false, notT_ev, not1_ok, andM_ev, andV_true, andV_false, orM_ev, orV_true, orV_false, ifM_ev, if1_true, if1_false, chM_ev, ch1_ok, ch2_ok, ch3_true, ch3_false, nilA_ev, consA_ev, con1_ok, con1_rse, con2_ok, tupM_ev, tup1_0, tup1_1, tup1_2, tup1_3, tup1_4, szA_ev, sz1_0, sz1_1, sz1_2, sz1_3, sz1_4, sz1_5, sz1_6, sz1_8, sz1_10, newM_ev, new1_ok, onL_ev, onL1_ok, tupL_ev, clM_ev, cl1_rse, cl1_0, cl1_1, cl1_2, cl1_3, cl1_4, cl1_5, putM_ev, putT_ok, putT2_ok, putT3_ok, putT4_some, augM_ev, augT_some, noO_ev, someO_ev, some1_ok, slM_ev, sl1_ok, sl2_ok, sl3_ok, metM_ev, met0_ev, intD0_ev, add_ii, sub_ii, neg_i, lt_ii, le_ii, gt_ii, ge_ii, isN_ev, notN_ev, num_i, num_b, notD_b, isi_bool_bl, len_tup, len_fz, tup_tup, ix_tup0, ix_tup1, ix_tup2, itM_ev, it1_ok, src_tup, src_fz, src_str, fixC_ev, lvI_ev, lv1_ok, rngI_ev, rg1_ok, forM_ev, for1_ok, turnT_nx, turnT_ct, turnT_bk, turnT_rt, turnT_rse, nmG_ev, tupG_ev, consG_ev, nilG_ev, compM_ev, yesT_ev, fn1_nx, fn1_rt, fn1_rse, eq_ii, eq_bb, max_ii, min_ii, slD_tup, List.getElem?_cons_zero, List.getElem?_cons_succ, List.set_cons_zero, List.set_cons_succ, List.map_cons, List.map_nil, List.length_cons, List.length_nil, List.cons_append, List.nil_append, Option.bind_some, decide_true, decide_false, Bool.not_true, Bool.not_false, ne_ii, ne_bb, forL_nil0, Bool.true_and]
                cases ((ks.zip sets).all fun p => isSt n p.1 st p.2) <;> rfl
              · rw [isTy_eq, decide_eq_false hq]
                by_cases h0 : 0 ≤ q
                · simp only [decide_eq_true h0, decide_eq_false (show ¬ q < st from fun z => hq ⟨h0, z⟩), seqM_ev, thenT_nx, thenT_rt, thenT_bk, thenT_ct, thenT_rse, nopM_ev, brkM_ev, cntM_ev, setM_ev, setT_ok, setT_rse, setLM_ev, setLT_ok, dropM_ev, dropT_ok, dropT_rse, retM_ev, retT_ok, retT_rse, ifS_ev, ifT_true, ifT_false, asgM_ev, asgT_ok', optT_some, cM_ev, vM_ev, vR_some, opM_ev, op1_ok, op1_rse, op2_ok, op2_rse, unM_ev, un1_ok, un1_rse, blT_ev, blR_ok, blR_rse, trT_ev, trR_ok, tru_bl, tru_non, tru_tup, tru_int, andT_ev, and1_true, and1_false, orT_ev, or1_true, or1_false, notT_ev, not1_ok, andM_ev, andV_true, andV_false, orM_ev, orV_true, orV_false, ifM_ev, if1_true, if1_false, chM_ev, ch1_ok, ch2_ok, ch3_true, ch3_false, nilA_ev, consA_ev, con1_ok, con1_rse, con2_ok, tupM_ev, tup1_0, tup1_1, tup1_2, tup1_3, tup1_4, szA_ev, sz1_0, sz1_1, sz1_2, sz1_3, sz1_4, sz1_5, sz1_6, sz1_8, sz1_10, newM_ev, new1_ok, onL_ev, onL1_ok, tupL_ev, clM_ev, cl1_rse, cl1_0, cl1_1, cl1_2, cl1_3, cl1_4, cl1_5, putM_ev, putT_ok, putT2_ok, putT3_ok, putT4_some, augM_ev, augT_some, noO_ev, someO_ev, some1_ok, slM_ev, sl1_ok, sl2_ok, sl3_ok, metM_ev, met0_ev, intD0_ev, add_ii, sub_ii, neg_i, lt_ii, le_ii, gt_ii, ge_ii, isN_ev, notN_ev, num_i, num_b, notD_b, isi_bool_bl, len_tup, len_fz, tup_tup, ix_tup0, ix_tup1, ix_tup2, itM_ev, it1_ok, src_tup, src_fz, src_str, fixC_ev, lvI_ev, lv1_ok, rngI_ev, rg1_ok, forM_ev, for1_ok, turnT_nx, turnT_ct, turnT_bk, turnT_rt, turnT_rse, nmG_ev, tupG_ev, consG_ev, nilG_ev, compM_ev, yesT_ev, fn1_nx, fn1_rt, fn1_rse, eq_ii, eq_bb, max_ii, min_ii, slD_tup, List.getElem?_cons_zero, List.getElem?_cons_succ, List.set_cons_zero, List.set_cons_succ, List.map_cons, List.map_nil, List.length_cons, List.length_nil, List.cons_append, List.nil_append, Option.bind_some, decide_true, decide_false, Bool.not_true, Bool.not_false, ne_ii, ne_bb, forL_nil0, Bool.and_false, Bool.false_and]
                · simp only [decide_eq_false h0, seqM_ev, thenT_nx, thenT_rt, thenT_bk, thenT_ct, thenT_rse, nopM_ev, brkM_ev, cntM_ev, setM_ev, setT_ok, setT_rse, setLM_ev, setLT_ok, dropM_ev, dropT_ok, dropT_rse, retM_ev, retT_ok, retT_rse, ifS_ev, ifT_true, ifT_false, asgM_ev, asgT_ok', optT_some, cM_ev, vM_ev, vR_some, opM_ev, op1_ok, op1_rse, op2_ok, op2_rse, unM_ev, un1_ok, un1_rse, blT_ev, blR_ok, blR_rse, trT_ev, trR_ok, tru_bl, tru_non, tru_tup, tru_int, andT_ev, and1_true, and1_false, orT_ev, or1_true, or1_false, notT_ev, not1_ok, andM_ev, andV_true, andV_false, orM_ev, orV_true, orV_false, ifM_ev, if1_true, if1_false, chM_ev, ch1_ok, ch2_ok, ch3_true, ch3_false, nilA_ev, consA_ev, con1_ok, con1_rse, con2_ok, tupM_ev, tup1_0, tup1_1, tup1_2, tup1_3, tup1_4, szA_ev, sz1_0, sz1_1, sz1_2, sz1_3, sz1_4, sz1_5, sz1_6, sz1_8, sz1_10, newM_ev, new1_ok, onL_ev, onL1_ok, tupL_ev, clM_ev, cl1_rse, cl1_0, cl1_1, cl1_2, cl1_3, cl1_4, cl1_5, putM_ev, putT_ok, putT2_ok, putT3_ok, putT4_some, augM_ev, augT_some, noO_ev, someO_ev, some1_ok, slM_ev, sl1_ok, sl2_ok, sl3_ok, metM_ev, met0_ev, intD0_ev, add_ii, sub_ii, neg_i, lt_ii, le_ii, gt_ii, ge_ii, isN_ev, notN_ev, num_i, num_b, notD_b, isi_bool_bl, len_tup, len_fz, tup_tup, ix_tup0, ix_tup1, ix_tup2, itM_ev, it1_ok, src_tup, src_fz, src_str, fixC_ev, lvI_ev, lv1_ok, rngI_ev, rg1_ok, forM_ev, for1_ok, turnT_nx, turnT_ct, turnT_bk, turnT_rt, turnT_rse, nmG_ev, tupG_ev, consG_ev, nilG_ev, compM_ev, yesT_ev, fn1_nx, fn1_rt, fn1_rse, eq_ii, eq_bb, max_ii, min_ii, slD_tup, List.getElem?_cons_zero, List.getElem?_cons_succ, List.set_cons_zero, List.set_cons_succ, List.map_cons, List.map_nil, List.length_cons, List.length_nil, List.cons_append, List.nil_append, Option.bind_some, decide_true, decide_false, Bool.not_true, Bool.not_false, ne_ii, ne_bb, forL_nil0, Bool.and_false, Bool.false_and]
            | bl b =>
              simp only [isIntB, isBlB, seqM_ev, thenT_nx, thenT_rt, thenT_bk, thenT_ct, thenT_rse, nopM_ev, brkM_ev, cntM_ev, setM_ev, setT_ok, setT_rse, setLM_ev, setLT_ok, dropM_ev, dropT_ok, dropT_rse, retM_ev, retT_ok, retT_rse, ifS_ev, ifT_true, ifT_false, asgM_ev, asgT_ok', optT_some, cM_ev, vM_ev, vR_some, opM_ev, op1_ok, op1_rse, op2_ok, op2_rse, unM_ev, un1_ok, un1_rse, blT_ev, blR_ok, blR_rse, trT_ev, trR_ok, tru_bl, tru_non, tru_tup, tru_int, andT_ev, and1_true, and1_false, orT_ev, or1_true, or1_false, notT_ev, not1_ok, andM_ev, andV_true, andV_false, orM_ev, orV_true, orV_false, ifM_ev, if1_true, if1_false, chM_ev, ch1_ok, ch2_ok, ch3_true, ch3_false, nilA_ev, consA_ev, con1_ok, con1_rse, con2_ok, tupM_ev, tup1_0, tup1_1, tup1_2, tup1_3, tup1_4, szA_ev, sz1_0, sz1_1, sz1_2, sz1_3, sz1_4, sz1_5, sz1_6, sz1_8, sz1_10, newM_ev, new1_ok, onL_ev, onL1_ok, tupL_ev, clM_ev, cl1_rse, cl1_0, cl1_1, cl1_2, cl1_3, cl1_4, cl1_5, putM_ev, putT_ok, putT2_ok, putT3_ok, putT4_some, augM_ev, augT_some, noO_ev, someO_ev, some1_ok, slM_ev, sl1_ok, sl2_ok, sl3_ok, metM_ev, met0_ev, intD0_ev, add_ii, sub_ii, neg_i, lt_ii, le_ii, gt_ii, ge_ii, isN_ev, notN_ev, num_i, num_b, notD_b, isi_bool_bl, len_tup, len_fz, tup_tup, ix_tup0, ix_tup1, ix_tup2, itM_ev, it1_ok, src_tup, src_fz, src_str, fixC_ev, lvI_ev, lv1_ok, rngI_ev, rg1_ok, forM_ev, for1_ok, turnT_nx, turnT_ct, turnT_bk, turnT_rt, turnT_rse, nmG_ev, tupG_ev, consG_ev, nilG_ev, compM_ev, yesT_ev, fn1_nx, fn1_rt, fn1_rse, eq_ii, eq_bb, max_ii, min_ii, slD_tup, List.getElem?_cons_zero, List.getElem?_cons_succ, List.set_cons_zero, List.set_cons_succ, List.map_cons, List.map_nil, List.length_cons, List.length_nil, List.cons_append, List.nil_append, Option.bind_some, decide_true, decide_false, Bool.not_true, Bool.not_false, ne_ii, ne_bb, forL_nil0, isi_bool hb]
              rw [isTy_not (fun _ _ => by simp)]
            | non =>
              simp only [isIntB, isBlB, seqM_ev, thenT_nx, thenT_rt, thenT_bk, thenT_ct, thenT_rse, nopM_ev, brkM_ev, cntM_ev, setM_ev, setT_ok, setT_rse, setLM_ev, setLT_ok, dropM_ev, dropT_ok, dropT_rse, retM_ev, retT_ok, retT_rse, ifS_ev, ifT_true, ifT_false, asgM_ev, asgT_ok', optT_some, cM_ev, vM_ev, vR_some, opM_ev, op1_ok, op1_rse, op2_ok, op2_rse, unM_ev, un1_ok, un1_rse, blT_ev, blR_ok, blR_rse, trT_ev, trR_ok, tru_bl, tru_non, tru_tup, tru_int, andT_ev, and1_true, and1_false, orT_ev, or1_true, or1_false, notT_ev, not1_ok, andM_ev, andV_true, andV_false, orM_ev, orV_true, orV_false, ifM_ev, if1_true, if1_false, chM_ev, ch1_ok, ch2_ok, ch3_true, ch3_false, nilA_ev, consA_ev, con1_ok, con1_rse, con2_ok, tupM_ev, tup1_0, tup1_1, tup1_2, tup1_3, tup1_4, szA_ev, sz1_0, sz1_1, sz1_2, sz1_3, sz1_4, sz1_5, sz1_6, sz1_8, sz1_10, newM_ev, new1_ok, onL_ev, onL1_ok, tupL_ev, clM_ev, cl1_rse, cl1_0, cl1_1, cl1_2, cl1_3, cl1_4, cl1_5, putM_ev, putT_ok, putT2_ok, putT3_ok, putT4_some, augM_ev, augT_some, noO_ev, someO_ev, some1_ok, slM_ev, sl1_ok, sl2_ok, sl3_ok, metM_ev, met0_ev, intD0_ev, add_ii, sub_ii, neg_i, lt_ii, le_ii, gt_ii, ge_ii, isN_ev, notN_ev, num_i, num_b, notD_b, isi_bool_bl, len_tup, len_fz, tup_tup, ix_tup0, ix_tup1, ix_tup2, itM_ev, it1_ok, src_tup, src_fz, src_str, fixC_ev, lvI_ev, lv1_ok, rngI_ev, rg1_ok, forM_ev, for1_ok, turnT_nx, turnT_ct, turnT_bk, turnT_rt, turnT_rse, nmG_ev, tupG_ev, consG_ev, nilG_ev, compM_ev, yesT_ev, fn1_nx, fn1_rt, fn1_rse, eq_ii, eq_bb, max_ii, min_ii, slD_tup, List.getElem?_cons_zero, List.getElem?_cons_succ, List.set_cons_zero, List.set_cons_succ, List.map_cons, List.map_nil, List.length_cons, List.length_nil, List.cons_append, List.nil_append, Option.bind_some, decide_true, decide_false, Bool.not_true, Bool.not_false, ne_ii, ne_bb, forL_nil0, isi_bool hb]
              rw [isTy_not (fun _ _ => by simp)]
            | str x =>
              simp only [isIntB, isBlB, seqM_ev, thenT_nx, thenT_rt, thenT_bk, thenT_ct, thenT_rse, nopM_ev, brkM_ev, cntM_ev, setM_ev, setT_ok, setT_rse, setLM_ev, setLT_ok, dropM_ev, dropT_ok, dropT_rse, retM_ev, retT_ok, retT_rse, ifS_ev, ifT_true, ifT_false, asgM_ev, asgT_ok', optT_some, cM_ev, vM_ev, vR_some, opM_ev, op1_ok, op1_rse, op2_ok, op2_rse, unM_ev, un1_ok, un1_rse, blT_ev, blR_ok, blR_rse, trT_ev, trR_ok, tru_bl, tru_non, tru_tup, tru_int, andT_ev, and1_true, and1_false, orT_ev, or1_true, or1_false, notT_ev, not1_ok, andM_ev, andV_true, andV_false, orM_ev, orV_true, orV_false, ifM_ev, if1_true, if1_false, chM_ev, ch1_ok, ch2_ok, ch3_true, ch3_false, nilA_ev, consA_ev, con1_ok, con1_rse, con2_ok, tupM_ev, tup1_0, tup1_1, tup1_2, tup1_3, tup1_4, szA_ev, sz1_0, sz1_1, sz1_2, sz1_3, sz1_4, sz1_5, sz1_6, sz1_8, sz1_10, newM_ev, new1_ok, onL_ev, onL1_ok, tupL_ev, clM_ev, cl1_rse, cl1_0, cl1_1, cl1_2, cl1_3, cl1_4, cl1_5, putM_ev, putT_ok, putT2_ok, putT3_ok, putT4_some, augM_ev, augT_some, noO_ev, someO_ev, some1_ok, slM_ev, sl1_ok, sl2_ok, sl3_ok, metM_ev, met0_ev, intD0_ev, add_ii, sub_ii, neg_i, lt_ii, le_ii, gt_ii, ge_ii, isN_ev, notN_ev, num_i, num_b, notD_b, isi_bool_bl, len_tup, len_fz, tup_tup, ix_tup0, ix_tup1, ix_tup2, itM_ev, it1_ok, src_tup, src_fz, src_str, fixC_ev, lvI_ev, lv1_ok, rngI_ev, rg1_ok, forM_ev, for1_ok, turnT_nx, turnT_ct, turnT_bk, turnT_rt, turnT_rse, nmG_ev, tupG_ev, consG_ev, nilG_ev, compM_ev, yesT_ev, fn1_nx, fn1_rt, fn1_rse, eq_ii, eq_bb, max_ii, min_ii, slD_tup, List.getElem?_cons_zero, List.getElem?_cons_succ, List.set_cons_zero, List.set_cons_succ, List.map_cons, List.map_nil, List.length_cons, List.length_nil, List.cons_append, List.nil_append, Option.bind_some, decide_true, decide_false, Bool.not_true, Bool.not_false, ne_ii, ne_bb, forL_nil0, isi_bool hb]
              rw [isTy_not (fun _ _ => by simp)]
            | tup x =>
              simp only [isIntB, isBlB, seqM_ev, thenT_nx, thenT_rt, thenT_bk, thenT_ct, thenT_rse, nopM_ev, brkM_ev, cntM_ev, setM_ev, setT_ok, setT_rse, setLM_ev, setLT_ok, dropM_ev, dropT_ok, dropT_rse, retM_ev, retT_ok, retT_rse, ifS_ev, ifT_true, ifT_false, asgM_ev, asgT_ok', optT_some, cM_ev, vM_ev, vR_some, opM_ev, op1_ok, op1_rse, op2_ok, op2_rse, unM_ev, un1_ok, un1_rse, blT_ev, blR_ok, blR_rse, trT_ev, trR_ok, tru_bl, tru_non, tru_tup, tru_int, andT_ev, and1_true, and1_false, orT_ev, or1_true, or1_false, notT_ev, not1_ok, andM_ev, andV_true, andV_false, orM_ev, orV_true, orV_false, ifM_ev, if1_true, if1_false, chM_ev, ch1_ok, ch2_ok, ch3_true, ch3_false, nilA_ev, consA_ev, con1_ok, con1_rse, con2_ok, tupM_ev, tup1_0, tup1_1, tup1_2, tup1_3, tup1_4, szA_ev, sz1_0, sz1_1, sz1_2, sz1_3, sz1_4, sz1_5, sz1_6, sz1_8, sz1_10, newM_ev, new1_ok, onL_ev, onL1_ok, tupL_ev, clM_ev, cl1_rse, cl1_0, cl1_1, cl1_2, cl1_3, cl1_4, cl1_5, putM_ev, putT_ok, putT2_ok, putT3_ok, putT4_some, augM_ev, augT_some, noO_ev, someO_ev, some1_ok, slM_ev, sl1_ok, sl2_ok, sl3_ok, metM_ev, met0_ev, intD0_ev, add_ii, sub_ii, neg_i, lt_ii, le_ii, gt_ii, ge_ii, isN_ev, notN_ev, num_i, num_b, notD_b, isi_bool_bl, len_tup, len_fz, tup_tup, ix_tup0, ix_tup1, ix_tup2, itM_ev, it1_ok, src_tup, src_fz, src_str, fixC_ev, lvI_ev, lv1_ok, rngI_ev, rg1_ok, forM_ev, for1_ok, turnT_nx, turnT_ct, turnT_bk, turnT_rt, turnT_rse, nmG_ev, tupG_ev, consG_ev, nilG_ev, compM_ev, yesT_ev, fn1_nx, fn1_rt, fn1_rse, eq_ii, eq_bb, max_ii, min_ii, slD_tup, List.getElem?_cons_zero, List.getElem?_cons_succ, List.set_cons_zero, List.set_cons_succ, List.map_cons, List.map_nil, List.length_cons, List.length_nil, List.cons_append, List.nil_append, Option.bind_some, decide_true, decide_false, Bool.not_true, Bool.not_false, ne_ii, ne_bb, forL_nil0, isi_bool hb]
              rw [isTy_not (fun _ _ => by simp)]
            | fz x => unfold tre at hb; cases hb
            | obj x => unfold tre at hb; cases hb
          · simp only [decide_eq_false (show ¬ (sets.length : Int) = (ks.length : Int) by omega), seqM_ev, thenT_nx, thenT_rt, thenT_bk, thenT_ct, thenT_rse, nopM_ev, brkM_ev, cntM_ev, setM_ev, setT_ok, setT_rse, setLM_ev, setLT_ok, dropM_ev, dropT_ok, dropT_rse, retM_ev, retT_ok, retT_rse, ifS_ev, ifT_true, ifT_false, asgM_ev, asgT_ok', optT_some, cM_ev, vM_ev, vR_some, opM_ev, op1_ok, op1_rse, op2_ok, op2_rse, unM_ev, un1_ok, un1_rse, blT_ev, blR_ok, blR_rse, trT_ev, trR_ok, tru_bl, tru_non, tru_tup, tru_int, andT_ev, and1_true, and1_false, orT_ev, or1_true, or1_false, notT_ev, not1_ok, andM_ev, andV_true, andV_false, orM_ev, orV_true, orV_false, ifM_ev, if1_true, if1_false, chM_ev, ch1_ok, ch2_ok, ch3_true, ch3_false, nilA_ev, consA_ev, con1_ok, con1_rse, con2_ok, tupM_ev, tup1_0, tup1_1, tup1_2, tup1_3, tup1_4, szA_ev, sz1_0, sz1_1, sz1_2, sz1_3, sz1_4, sz1_5, sz1_6, sz1_8, sz1_10, newM_ev, new1_ok, onL_ev, onL1_ok, tupL_ev, clM_ev, cl1_rse, cl1_0, cl1_1, cl1_2, cl1_3, cl1_4, cl1_5, putM_ev, putT_ok, putT2_ok, putT3_ok, putT4_some, augM_ev, augT_some, noO_ev, someO_ev, some1_ok, slM_ev, sl1_ok, sl2_ok, sl3_ok, metM_ev, met0_ev, intD0_ev, add_ii, sub_ii, neg_i, lt_ii, le_ii, gt_ii, ge_ii, isN_ev, notN_ev, num_i, num_b, notD_b, isi_bool_bl, len_tup, len_fz, tup_tup, ix_tup0, ix_tup1, ix_tup2, itM_ev, it1_ok, src_tup, src_fz, src_str, fixC_ev, lvI_ev, lv1_ok, rngI_ev, rg1_ok, forM_ev, for1_ok, turnT_nx, turnT_ct, turnT_bk, turnT_rt, turnT_rse, nmG_ev, tupG_ev, consG_ev, nilG_ev, compM_ev, yesT_ev, fn1_nx, fn1_rt, fn1_rse, eq_ii, eq_bb, max_ii, min_ii, slD_tup, List.getElem?_cons_zero, List.getElem?_cons_succ, List.set_cons_zero, List.set_cons_succ, List.map_cons, List.map_nil, List.length_cons, List.length_nil, List.cons_append, List.nil_append, Option.bind_some, decide_true, decide_false, Bool.not_true, Bool.not_false, ne_ii, ne_bb, forL_nil0]
            cases b with
            | int q => rw [isTy_eq, decide_eq_false hlen]; rfl
            | _ => rw [isTy_not (fun _ _ => by simp)]
        | _ =>
          simp only [isTupB, seqM_ev, thenT_nx, thenT_rt, thenT_bk, thenT_ct, thenT_rse, nopM_ev, brkM_ev, cntM_ev, setM_ev, setT_ok, setT_rse, setLM_ev, setLT_ok, dropM_ev, dropT_ok, dropT_rse, retM_ev, retT_ok, retT_rse, ifS_ev, ifT_true, ifT_false, asgM_ev, asgT_ok', optT_some, cM_ev, vM_ev, vR_some, opM_ev, op1_ok, op1_rse, op2_ok, op2_rse, unM_ev, un1_ok, un1_rse, blT_ev, blR_ok, blR_rse, trT_ev, trR_ok, tru_bl, tru_non, tru_tup, tru_int, andT_ev, and1_true, and1_false, orT_ev, or1_true, or1_false, notT_ev, not1_ok, andM_ev, andV_true, andV_false, orM_ev, orV_true, orV_false, ifM_ev, if1_true, if1_false, chM_ev, ch1_ok, ch2_ok, ch3_true, ch3_false, nilA_ev, consA_ev, con1_ok, con1_rse, con2_ok, tupM_ev, tup1_0, tup1_1, tup1_2, tup1_3, tup1_4, szA_ev, sz1_0, sz1_1, sz1_2, sz1_3, sz1_4, sz1_5, sz1_6, sz1_8, sz1_10, newM_ev, new1_ok, onL_ev, onL1_ok, tupL_ev, clM_ev, cl1_rse, cl1_0, cl1_1, cl1_2, cl1_3, cl1_4, cl1_5, putM_ev, putT_ok, putT2_ok, putT3_ok, putT4_some, augM_ev, augT_some, noO_ev, someO_ev, some1_ok, slM_ev, sl1_ok, sl2_ok, sl3_ok, metM_ev, met0_ev, intD0_ev, add_ii, sub_ii, neg_i, lt_ii, le_ii, gt_ii, ge_ii, isN_ev, notN_ev, num_i, num_b, notD_b, isi_bool_bl, len_tup, len_fz, tup_tup, ix_tup0, ix_tup1, ix_tup2, itM_ev, it1_ok, src_tup, src_fz, src_str, fixC_ev, lvI_ev, lv1_ok, rngI_ev, rg1_ok, forM_ev, for1_ok, turnT_nx, turnT_ct, turnT_bk, turnT_rt, turnT_rse, nmG_ev, tupG_ev, consG_ev, nilG_ev, compM_ev, yesT_ev, fn1_nx, fn1_rt, fn1_rse, eq_ii, eq_bb, max_ii, min_ii, slD_tup, List.getElem?_cons_zero, List.getElem?_cons_succ, List.set_cons_zero, List.set_cons_succ, List.map_cons, List.map_nil, List.length_cons, List.length_nil, List.cons_append, List.nil_append, Option.bind_some, decide_true, decide_false, Bool.not_true, Bool.not_false, ne_ii, ne_bb, forL_nil0]
          rw [isTy_not (fun _ _ => by simp)]
      · simp only [isTupB, seqM_ev, thenT_nx, thenT_rt, thenT_bk, thenT_ct, thenT_rse, nopM_ev, brkM_ev, cntM_ev, setM_ev, setT_ok, setT_rse, setLM_ev, setLT_ok, dropM_ev, dropT_ok, dropT_rse, retM_ev, retT_ok, retT_rse, ifS_ev, ifT_true, ifT_false, asgM_ev, asgT_ok', optT_some, cM_ev, vM_ev, vR_some, opM_ev, op1_ok, op1_rse, op2_ok, op2_rse, unM_ev, un1_ok, un1_rse, blT_ev, blR_ok, blR_rse, trT_ev, trR_ok, tru_bl, tru_non, tru_tup, tru_int, andT_ev, and1_true, and1_false, orT_ev, or1_true, or1_false, notT_ev, not1_ok, andM_ev, andV_true, andV_false, orM_ev, orV_true, orV_false, ifM_ev, if1_true, if1_false, chM_ev, ch1_ok, ch2_ok, ch3_true, ch3_false, nilA_ev, consA_ev, con1_ok, con1_rse, con2_ok, tupM_ev, tup1_0, tup1_1, tup1_2, tup1_3, tup1_4, szA_ev, sz1_0, sz1_1, sz1_2, sz1_3, sz1_4, sz1_5, sz1_6, sz1_8, sz1_10, newM_ev, new1_ok, onL_ev, onL1_ok, tupL_ev, clM_ev, cl1_rse, cl1_0, cl1_1, cl1_2, cl1_3, cl1_4, cl1_5, putM_ev, putT_ok, putT2_ok, putT3_ok, putT4_some, augM_ev, augT_some, noO_ev, someO_ev, some1_ok, slM_ev, sl1_ok, sl2_ok, sl3_ok, metM_ev, met0_ev, intD0_ev, add_ii, sub_ii, neg_i, lt_ii, le_ii, gt_ii, ge_ii, isN_ev, notN_ev, num_i, num_b, notD_b, isi_bool_bl, len_tup, len_fz, tup_tup, ix_tup0, ix_tup1, ix_tup2, itM_ev, it1_ok, src_tup, src_fz, src_str, fixC_ev, lvI_ev, lv1_ok, rngI_ev, rg1_ok, forM_ev, for1_ok, turnT_nx, turnT_ct, turnT_bk, turnT_rt, turnT_rse, nmG_ev, tupG_ev, consG_ev, nilG_ev, compM_ev, yesT_ev, fn1_nx, fn1_rt, fn1_rse, eq_ii, eq_bb, max_ii, min_ii, slD_tup, List.getElem?_cons_zero, List.getElem?_cons_succ, List.set_cons_zero, List.set_cons_succ, List.map_cons, List.map_nil, List.length_cons, List.length_nil, List.cons_append, List.nil_append, Option.bind_some, decide_true, decide_false, Bool.not_true, Bool.not_false, ne_ii, ne_bb, forL_nil0, decide_eq_false (show ¬ (l.length : Int) = 2 by omega)]
        rw [isTy_not (fun s q e => h2 (by rw [D.tup.inj e]; rfl))]
    | _ =>
      simp only [isTupB, seqM_ev, thenT_nx, thenT_rt, thenT_bk, thenT_ct, thenT_rse, nopM_ev, brkM_ev, cntM_ev, setM_ev, setT_ok, setT_rse, setLM_ev, setLT_ok, dropM_ev, dropT_ok, dropT_rse, retM_ev, retT_ok, retT_rse, ifS_ev, ifT_true, ifT_false, asgM_ev, asgT_ok', optT_some, cM_ev, vM_ev, vR_some, opM_ev, op1_ok, op1_rse, op2_ok, op2_rse, unM_ev, un1_ok, un1_rse, blT_ev, blR_ok, blR_rse, trT_ev, trR_ok, tru_bl, tru_non, tru_tup, tru_int, andT_ev, and1_true, and1_false, orT_ev, or1_true, or1_false, notT_ev, not1_ok, andM_ev, andV_true, andV_false, orM_ev, orV_true, orV_false, ifM_ev, if1_true, if1_false, chM_ev, ch1_ok, ch2_ok, ch3_true, ch3_false, nilA_ev, consA_ev, con1_ok, con1_rse, con2_ok, tupM_ev, tup1_0, tup1_1, tup1_2, tup1_3, tup1_4, szA_ev, sz1_0, sz1_1, sz1_2, sz1_3, sz1_4, sz1_5, sz1_6, sz1_8, sz1_10, newM_ev, new1_ok, onL_ev, onL1_ok, tupL_ev, clM_ev, cl1_rse, cl1_0, cl1_1, cl1_2, cl1_3, cl1_4, cl1_5, putM_ev, putT_ok, putT2_ok, putT3_ok, putT4_some, augM_ev, augT_some, noO_ev, someO_ev, some1_ok, slM_ev, sl1_ok, sl2_ok, sl3_ok, metM_ev, met0_ev, intD0_ev, add_ii, sub_ii, neg_i, lt_ii, le_ii, gt_ii, ge_ii, isN_ev, notN_ev, num_i, num_b, notD_b, isi_bool_bl, len_tup, len_fz, tup_tup, ix_tup0, ix_tup1, ix_tup2, itM_ev, it1_ok, src_tup, src_fz, src_str, fixC_ev, lvI_ev, lv1_ok, rngI_ev, rg1_ok, forM_ev, for1_ok, turnT_nx, turnT_ct, turnT_bk, turnT_rt, turnT_rse, nmG_ev, tupG_ev, consG_ev, nilG_ev, compM_ev, yesT_ev, fn1_nx, fn1_rt, fn1_rse, eq_ii, eq_bb, max_ii, min_ii, slD_tup, List.getElem?_cons_zero, List.getElem?_cons_succ, List.set_cons_zero, List.set_cons_succ, List.map_cons, List.map_nil, List.length_cons, List.length_nil, List.cons_append, List.nil_append, Option.bind_some, decide_true, decide_false, Bool.not_true, Bool.not_false, ne_ii, ne_bb, forL_nil0]
      rw [isTy_not (fun _ _ => by simp)]
theorem allBl_map {α : Type} {P : α → Bool} : ∀ l : List α, allBl (l.map fun t => D.bl (P t)) = some (l.map P)
  | [] => rfl
  | t :: l => by
    show (allBl (l.map fun t => D.bl (P t))).map (P t :: ·) = _
    rw [allBl_map l]
    rfl
theorem allL_map {α : Type} {P : α → Bool} {l : List α} {S : Sto} : allL (l.map fun t => D.bl (P t)) S = .ok (.bl (l.all P)) S := by
  unfold allL
  rw [allBl_map]
  dsimp only
  rw [List.all_map]
  rfl
theorem lst_tup {l : List D} {S : Sto} : lstD (.tup l) S = .ok l S := (rfl)
theorem sort_tup {l : List D} {S : Sto} (h : sortOk l = true) : sortD (.tup l) S = .ok (sortL l) S := if_pos h
theorem sort_lst {n : Nat} {l : List D} {S : Sto} (h : S[n]? = some (.lst l)) (hs : sortOk l = true) : sortD (.obj n) S = .ok (sortL l) S := by
  unfold sortD
  dsimp only
  rw [h]
  exact if_pos hs
def to1 (f : D → Sto → Rs (List D)) (r : Rs D) : Rs (List D) := match r with
  | .ok d S => f d S
  | .rse x S => .rse x S
  | .bad => .bad
theorem toA_ev {f : D → Sto → Rs (List D)} {m : ME} {e : Sl} {S : Sto} : toA f m e S = to1 f (m e S) := by unfold toA to1 bindR; cases m e S <;> rfl
theorem to1_ok {f : D → Sto → Rs (List D)} {d : D} {S : Sto} : to1 f (.ok d S) = f d S := (rfl)
theorem getD_get {l : List D} {i : Nat} (h : i < l.length) : l[i]? = some (l.getD i .non) := by
  rw [List.getD_eq_getElem?_getD, List.getElem?_eq_getElem h]
  rfl
theorem getD_get' {l : List D} {i : Nat} (h : i < l.length) : l[i]? = some (l.getD i .non) := getD_get h
mutual
def Kd.wd : Kd → Nat
  | .mk l => max l.length (kwds l)
def kwds : List Kd → Nat
  | [] => 0
  | k :: l => max k.wd (kwds l)
end
theorem kwds_le {l : List Kd} {n : Nat} : kwds l ≤ n ↔ ∀ k ∈ l, k.wd ≤ n := by
  induction l with
  | nil => simp [kwds]
  | cons k l ih => simp [kwds, Nat.max_le, ih]
def KW (ks : List Kd) : Prop := ks.length ≤ 1000 ∧ kwds ks ≤ 1000
theorem KW.part {ks : List Kd} (h : KW ks) {k : Kd} (hk : k ∈ ks) : KW k.parts := by
  have := kwds_le.mp h.2 k hk
  rw [kd_parts k] at this
  unfold Kd.wd at this
  exact ⟨by omega, by omega⟩
theorem kdep_part {ks : List Kd} {n : Nat} (h : kdeps ks < n + 1) {k : Kd} (hk : k ∈ ks) : kdeps k.parts < n := by
  have := kdeps_le.mp (Nat.le_of_lt_succ h) _ hk
  rw [kd_parts k] at this
  unfold Kd.dep at this
  omega
theorem zip_range {P : Kd → D → Bool} {ks : List Kd} {sets : List D} (h : sets.length = ks.length) : ((ks.zip sets).all fun p => P p.1 p.2) = (upto 0 ks.length).all fun x => match x with
    | .int j => match ks[j.toNat]? with
      | some k => P k (sets.getD j.toNat .non)
      | none => false
    | _ => false := by
  rw [Bool.eq_iff_iff, List.all_eq_true, List.all_eq_true]
  constructor
  · intro hp x hx
    rw [upto_eq] at hx
    obtain ⟨j, hj, rfl⟩ := List.mem_map.mp hx
    have hj : j < ks.length := by simpa using hj
    have hk := List.getElem?_eq_getElem hj
    simp only [Int.toNat_natCast, hk]
    exact hp _ (zip_get hk (getD_get' (by omega)))
  · intro hx p hp
    obtain ⟨i, hi⟩ := List.mem_iff_getElem?.mp hp
    rw [List.getElem?_zip_eq_some] at hi
    have hil := (List.getElem?_eq_some_iff.mp hi.1).1
    have := hx (.int (i : Int)) (by rw [upto_eq]; exact List.mem_map.mpr ⟨i, by simpa using hil, rfl⟩)
    simp only [Int.toNat_natCast, hi.1] at this
    rw [List.getD_eq_getElem?_getD, hi.2] at this
    exact this
/-- no two neighbours are the same -/
def noTwins (l : List D) : Bool := ((upto 1 (l.length - 1)).filter fun x => match x with
    | .int j => decide (l.getD j.toNat .non = l.getD (j.toNat - 1) .non)
    | _ => false).length == 0
theorem noTwins_iff {l : List D} : noTwins l = true ↔ ∀ (i : Nat) (a b : D), l[i]? = some a → l[i + 1]? = some b → a ≠ b := by
  unfold noTwins
  rw [beq_iff_eq, List.length_eq_zero_iff, List.filter_eq_nil_iff]
  constructor
  · intro h i a b h1 h2 e
    have hl := (List.getElem?_eq_some_iff.mp h2).1
    have := h (.int (1 + (i : Int))) (List.mem_of_getElem? (upto_get (by omega)))
    simp only [show (1 + (i : Int)).toNat = i + 1 by omega, Nat.add_sub_cancel, List.getD_eq_getElem?_getD, h1, h2] at this
    exact this (decide_eq_true e.symm)
  · intro h x hx
    obtain ⟨i, hi⟩ := List.mem_iff_getElem?.mp hx
    have hl : i < l.length - 1 := by
      have := (List.getElem?_eq_some_iff.mp hi).1
      rwa [upto_length] at this
    rw [upto_get hl] at hi
    cases hi
    simp only [show (1 + (i : Int)).toNat = i + 1 by omega, Nat.add_sub_cancel, decide_eq_true_eq]
    exact fun e => h i _ _ (getD_get (by omega)) (getD_get (by omega)) e.symm
theorem lawType_yn (src : YNSrc F) {k : Nat} {st : Int} : ∀ (n : Nat) (ks : List Kd) (d : D) (S : Sto), kdeps ks < n → n ≤ 20 → KW ks → tre d = true →
    ∃ T, F (k + 2 * n) .law_is_type [.tup (kds ks), .int st, d] S = .ok (.bl (isTy n ks st d)) (S ++ T)
  | 0, ks, d, S, hk, hn, hw, ht => by omega
  | n + 1, ks, d, S, hk, hn, hw, ht => by
    -- a set, one level below
    have hset : ∀ (kd : Kd) (x : D) (S : Sto), kdeps kd.parts < n → KW kd.parts → tre x = true → ∃ T, F (k + 2 * n + 1) .law_is_set [kd.d, .int st, x] S = .ok (.bl (isSt n kd st x)) (S ++ T) := fun kd x S hkd hkw hx => by
      rw [src.law_is_set, Kd.d_eq]
      simp only [YN_law_is_set, fnM_ev, startD, List.replicate, seqM_ev, thenT_nx, thenT_rt, thenT_bk, thenT_ct, thenT_rse, nopM_ev, brkM_ev, cntM_ev, setM_ev, setT_ok, setT_rse, setLM_ev, setLT_ok, dropM_ev, dropT_ok, dropT_rse, retM_ev, retT_ok, retT_rse, ifS_ev, ifT_true, ifT_false, asgM_ev, asgT_ok', optT_some, cM_ev, vM_ev, vR_some, opM_ev, op1_ok, op1_rse, op2_ok, op2_rse, unM_ev, un1_ok, un1_rse, blT_ev, blR_ok, blR_rse, trT_ev, trR_ok, tru_bl, tru_non, tru_tup, tru_int, andT_ev, and1_true, and1_false, orT_ev, or1_true, or1_false, notT_ev, not1_ok, andM_ev, andV_true, andV_false, orM_ev, orV_true, orV_false, ifM_ev, if1_true, if1_false, chM_ev, ch1_ok, ch2_ok, ch3_true, ch3_false, nilA_ev, consA_ev, con1_ok, con1_rse, con2_ok, tupM_ev, tup1_0, tup1_1, tup1_2, tup1_3, tup1_4, szA_ev, sz1_0, sz1_1, sz1_2, sz1_3, sz1_4, sz1_5, sz1_6, sz1_8, sz1_10, newM_ev, new1_ok, onL_ev, onL1_ok, tupL_ev, clM_ev, cl1_rse, cl1_0, cl1_1, cl1_2, cl1_3, cl1_4, cl1_5, putM_ev, putT_ok, putT2_ok, putT3_ok, putT4_some, augM_ev, augT_some, noO_ev, someO_ev, some1_ok, slM_ev, sl1_ok, sl2_ok, sl3_ok, metM_ev, met0_ev, intD0_ev, add_ii, sub_ii, neg_i, lt_ii, le_ii, gt_ii, ge_ii, isN_ev, notN_ev, num_i, num_b, notD_b, isi_bool_bl, len_tup, len_fz, tup_tup, ix_tup0, ix_tup1, ix_tup2, itM_ev, it1_ok, src_tup, src_fz, src_str, fixC_ev, lvI_ev, lv1_ok, rngI_ev, rg1_ok, forM_ev, for1_ok, turnT_nx, turnT_ct, turnT_bk, turnT_rt, turnT_rse, nmG_ev, tupG_ev, consG_ev, nilG_ev, compM_ev, yesT_ev, fn1_nx, fn1_rt, fn1_rse, eq_ii, eq_bb, max_ii, min_ii, slD_tup, List.getElem?_cons_zero, List.getElem?_cons_succ, List.set_cons_zero, List.set_cons_succ, List.map_cons, List.map_nil, List.length_cons, List.length_nil, List.cons_append, List.nil_append, Option.bind_some, decide_true, decide_false, Bool.not_true, Bool.not_false, ne_ii, ne_bb, forL_nil0, isi_tup hx]
      cases x with
      | tup l =>
        obtain ⟨hl, hm⟩ := tre_tup.mp hx
        obtain ⟨ys, S', e1, h2, T, hT⟩ := cmp1_over (f := id) (chk := fixC) (g := nmG 3) (own := [3]) (a := clM 3 (F (k + 2 * n) .law_is_type) (consA (vM 0) (consA (vM 1) (consA (vM 3) nilA)))) (e := [some (.tup (kds kd.parts)), some (.int st), some (.tup l), none, none]) (l := l) (S := S)
          (I := fun S' => ∃ T, S' = S ++ T) (Q := fun t y => y = .bl (isTy n kd.parts st t)) (by omega) ⟨[], by simp⟩ (fun _ _ => rfl) (fun t ht S1 hI => by
            obtain ⟨T, rfl⟩ := hI
            obtain ⟨T2, e2⟩ := lawType_yn src (k := k) (st := st) n kd.parts t (S ++ T) hkd (by omega) hkw (hm t ht)
            refine ⟨_, _, S ++ T ++ T2, rfl, ?_, rfl, T ++ T2, by rw [List.append_assoc]⟩
            simp only [wipeD, id, seqM_ev, thenT_nx, thenT_rt, thenT_bk, thenT_ct, thenT_rse, nopM_ev, brkM_ev, cntM_ev, setM_ev, setT_ok, setT_rse, setLM_ev, setLT_ok, dropM_ev, dropT_ok, dropT_rse, retM_ev, retT_ok, retT_rse, ifS_ev, ifT_true, ifT_false, asgM_ev, asgT_ok', optT_some, cM_ev, vM_ev, vR_some, opM_ev, op1_ok, op1_rse, op2_ok, op2_rse, unM_ev, un1_ok, un1_rse, blT_ev, blR_ok, blR_rse, trT_ev, trR_ok, tru_bl, tru_non, tru_tup, tru_int, andT_ev, and1_true, and1_false, orT_ev, or1_true, or1_false, notT_ev, not1_ok, andM_ev, andV_true, andV_false, orM_ev, orV_true, orV_false, ifM_ev, if1_true, if1_false, chM_ev, ch1_ok, ch2_ok, ch3_true, ch3_false, nilA_ev, consA_ev, con1_ok, con1_rse, con2_ok, tupM_ev, tup1_0, tup1_1, tup1_2, tup1_3, tup1_4, szA_ev, sz1_0, sz1_1, sz1_2, sz1_3, sz1_4, sz1_5, sz1_6, sz1_8, sz1_10, newM_ev, new1_ok, onL_ev, onL1_ok, tupL_ev, clM_ev, cl1_rse, cl1_0, cl1_1, cl1_2, cl1_3, cl1_4, cl1_5, putM_ev, putT_ok, putT2_ok, putT3_ok, putT4_some, augM_ev, augT_some, noO_ev, someO_ev, some1_ok, slM_ev, sl1_ok, sl2_ok, sl3_ok, metM_ev, met0_ev, intD0_ev, add_ii, sub_ii, neg_i, lt_ii, le_ii, gt_ii, ge_ii, isN_ev, notN_ev, num_i, num_b, notD_b, isi_bool_bl, len_tup, len_fz, tup_tup, ix_tup0, ix_tup1, ix_tup2, itM_ev, it1_ok, src_tup, src_fz, src_str, fixC_ev, lvI_ev, lv1_ok, rngI_ev, rg1_ok, forM_ev, for1_ok, turnT_nx, turnT_ct, turnT_bk, turnT_rt, turnT_rse, nmG_ev, tupG_ev, consG_ev, nilG_ev, compM_ev, yesT_ev, fn1_nx, fn1_rt, fn1_rse, eq_ii, eq_bb, max_ii, min_ii, slD_tup, List.getElem?_cons_zero, List.getElem?_cons_succ, List.set_cons_zero, List.set_cons_succ, List.map_cons, List.map_nil, List.length_cons, List.length_nil, List.cons_append, List.nil_append, Option.bind_some, decide_true, decide_false, Bool.not_true, Bool.not_false, ne_ii, ne_bb, forL_nil0, e2])
        rw [List.map_id] at e1
        have ey := all2_map h2
        subst ey hT
        simp only [isTupB, seqM_ev, thenT_nx, thenT_rt, thenT_bk, thenT_ct, thenT_rse, nopM_ev, brkM_ev, cntM_ev, setM_ev, setT_ok, setT_rse, setLM_ev, setLT_ok, dropM_ev, dropT_ok, dropT_rse, retM_ev, retT_ok, retT_rse, ifS_ev, ifT_true, ifT_false, asgM_ev, asgT_ok', optT_some, cM_ev, vM_ev, vR_some, opM_ev, op1_ok, op1_rse, op2_ok, op2_rse, unM_ev, un1_ok, un1_rse, blT_ev, blR_ok, blR_rse, trT_ev, trR_ok, tru_bl, tru_non, tru_tup, tru_int, andT_ev, and1_true, and1_false, orT_ev, or1_true, or1_false, notT_ev, not1_ok, andM_ev, andV_true, andV_false, orM_ev, orV_true, orV_false, ifM_ev, if1_true, if1_false, chM_ev, ch1_ok, ch2_ok, ch3_true, ch3_false, nilA_ev, consA_ev, con1_ok, con1_rse, con2_ok, tupM_ev, tup1_0, tup1_1, tup1_2, tup1_3, tup1_4, szA_ev, sz1_0, sz1_1, sz1_2, sz1_3, sz1_4, sz1_5, sz1_6, sz1_8, sz1_10, newM_ev, new1_ok, onL_ev, onL1_ok, tupL_ev, clM_ev, cl1_rse, cl1_0, cl1_1, cl1_2, cl1_3, cl1_4, cl1_5, putM_ev, putT_ok, putT2_ok, putT3_ok, putT4_some, augM_ev, augT_some, noO_ev, someO_ev, some1_ok, slM_ev, sl1_ok, sl2_ok, sl3_ok, metM_ev, met0_ev, intD0_ev, add_ii, sub_ii, neg_i, lt_ii, le_ii, gt_ii, ge_ii, isN_ev, notN_ev, num_i, num_b, notD_b, isi_bool_bl, len_tup, len_fz, tup_tup, ix_tup0, ix_tup1, ix_tup2, itM_ev, it1_ok, src_tup, src_fz, src_str, fixC_ev, lvI_ev, lv1_ok, rngI_ev, rg1_ok, forM_ev, for1_ok, turnT_nx, turnT_ct, turnT_bk, turnT_rt, turnT_rse, nmG_ev, tupG_ev, consG_ev, nilG_ev, compM_ev, yesT_ev, fn1_nx, fn1_rt, fn1_rse, eq_ii, eq_bb, max_ii, min_ii, slD_tup, List.getElem?_cons_zero, List.getElem?_cons_succ, List.set_cons_zero, List.set_cons_succ, List.map_cons, List.map_nil, List.length_cons, List.length_nil, List.cons_append, List.nil_append, Option.bind_some, decide_true, decide_false, Bool.not_true, Bool.not_false, ne_ii, ne_bb, forL_nil0, e1, allL_map]
        cases hall : l.all fun t => isTy n kd.parts st t with
        | false =>
          simp only [seqM_ev, thenT_nx, thenT_rt, thenT_bk, thenT_ct, thenT_rse, nopM_ev, brkM_ev, cntM_ev, setM_ev, setT_ok, setT_rse, setLM_ev, setLT_ok, dropM_ev, dropT_ok, dropT_rse, retM_ev, retT_ok, retT_rse, ifS_ev, ifT_true, ifT_false, asgM_ev, asgT_ok', optT_some, cM_ev, vM_ev, vR_some, opM_ev, op1_ok, op1_rse, op2_ok, op2_rse, unM_ev, un1_ok, un1_rse, blT_ev, blR_ok, blR_rse, trT_ev, trR_ok, tru_bl, tru_non, tru_tup, tru_int, andT_ev, and1_true, and1_false, orT_ev, or1_true, or1_false, notT_ev, not1_ok, andM_ev, andV_true, andV_false, orM_ev, orV_true, orV_false, ifM_ev, if1_true, if1_false, chM_ev, ch1_ok, ch2_ok, ch3_true, ch3_false, nilA_ev, consA_ev, con1_ok, con1_rse, con2_ok, tupM_ev, tup1_0, tup1_1, tup1_2, tup1_3, tup1_4, szA_ev, sz1_0, sz1_1, sz1_2, sz1_3, sz1_4, sz1_5, sz1_6, sz1_8, sz1_10, newM_ev, new1_ok, onL_ev, onL1_ok, tupL_ev, clM_ev, cl1_rse, cl1_0, cl1_1, cl1_2, cl1_3, cl1_4, cl1_5, putM_ev, putT_ok, putT2_ok, putT3_ok, putT4_some, augM_ev, augT_some, noO_ev, someO_ev, some1_ok, slM_ev, sl1_ok, sl2_ok, sl3_ok, metM_ev, met0_ev, intD0_ev, add_ii, sub_ii, neg_i, lt_ii, le_ii, gt_ii, ge_ii, isN_ev, notN_ev, num_i, num_b, notD_b, isi_bool_bl, len_tup, len_fz, tup_tup, ix_tup0, ix_tup1, ix_tup2, itM_ev, it1_ok, src_tup, src_fz, src_str, fixC_ev, lvI_ev, lv1_ok, rngI_ev, rg1_ok, forM_ev, for1_ok, turnT_nx, turnT_ct, turnT_bk, turnT_rt, turnT_rse, nmG_ev, tupG_ev, consG_ev, nilG_ev, compM_ev, yesT_ev, fn1_nx, fn1_rt, fn1_rse, eq_ii, eq_bb, max_ii, min_ii, slD_tup, List.getElem?_cons_zero, List.getElem?_cons_succ, List.set_cons_zero, List.set_cons_succ, List.map_cons, List.map_nil, List.length_cons, List.length_nil, List.cons_append, List.nil_append, Option.bind_some, decide_true, decide_false, Bool.not_true, Bool.not_false, ne_ii, ne_bb, forL_nil0, isSt, hall, Bool.false_and]
          exact ⟨T, rfl⟩
        | true =>
          have hTy : ∀ t ∈ l, isTy n kd.parts st t = true := by simpa using hall
          have hso := ty_sortOk hTy (by omega) (by omega)
          have so := sortOk_ok hso
          have A := ty_alikes hTy
          have sp : plains (sortL l) = true := plains_iff.mpr fun a ha => A.pl a (sortL_mem.mp ha)
          have sd : dpts (sortL l) ≤ 60 := dpts_le.mpr fun a ha => dpts_le.mp so.dp a (sortL_mem.mp ha)
          have hr : ∀ S, rng2D [.int 1, .int (l.length : Int)] S = .ok (upto 1 (l.length - 1), fixC) S := fun S => by
            rw [rng2_ok (by omega)]
            congr 3
            omega
          have eL := eq_ll (n := (S ++ T).length) (m := (S ++ T ++ [O.lst l]).length) (S := S ++ T ++ [O.lst l] ++ [O.lst (sortL l)]) (l := l) (l2 := sortL l) (by rw [get_app (by simp), get_new]) get_new so.pl sp so.dp sd
          have key := asc_iff A
          have ec : ∀ S3 : Sto, cmp1 (.ok (upto 1 (l.length - 1), fixC) S3) (nmG 4) [4] (blT (opM eqD (opM ixD (vM 2) (vM 4)) (opM ixD (vM 2) (opM subD (vM 4) (cM (.int 1)))))) (vM 4) [some (.tup (kds kd.parts)), some (.int st), some (.tup l), none, none] = .ok (((upto 1 (l.length - 1)).filter fun x => match x with
              | .int j => decide (l.getD j.toNat .non = l.getD (j.toNat - 1) .non)
              | _ => false).map id) S3 := fun S3 => cmp1_pure (by rw [upto_length]; omega) rfl fun x hx => by
            obtain ⟨i, hi⟩ := List.mem_iff_getElem?.mp hx
            have hil : i < l.length - 1 := by
              have := (List.getElem?_eq_some_iff.mp hi).1
              rwa [upto_length] at this
            rw [upto_get hil] at hi
            cases hi
            have g0 := getD_get (l := l) (i := i) (by omega)
            have g1 := getD_get (l := l) (i := i + 1) (by omega)
            have p0 := A.pl _ (List.mem_of_getElem? g0)
            have p1 := A.pl _ (List.mem_of_getElem? g1)
            have d0 := dpts_le.mp so.dp _ (List.mem_of_getElem? g0)
            have d1 := dpts_le.mp so.dp _ (List.mem_of_getElem? g1)
            have i0 : ixD (.tup l) (.int (1 + (i : Int) - 1)) S3 = .ok (l.getD i .non) S3 := by
              rw [show (1 : Int) + (i : Int) - 1 = (i : Int) by omega]
              exact ix_tup (atI_nat g0)
            have i1 : ixD (.tup l) (.int (1 + (i : Int))) S3 = .ok (l.getD (i + 1) .non) S3 := by
              rw [show (1 : Int) + (i : Int) = ((i + 1 : Nat) : Int) by omega]
              exact ix_tup (atI_nat g1)
            refine ⟨_, rfl, ?_, fun _ => ?_⟩
            · simp only [wipeD, seqM_ev, thenT_nx, thenT_rt, thenT_bk, thenT_ct, thenT_rse, nopM_ev, brkM_ev, cntM_ev, setM_ev, setT_ok, setT_rse, setLM_ev, setLT_ok, dropM_ev, dropT_ok, dropT_rse, retM_ev, retT_ok, retT_rse, ifS_ev, ifT_true, ifT_false, asgM_ev, asgT_ok', optT_some, cM_ev, vM_ev, vR_some, opM_ev, op1_ok, op1_rse, op2_ok, op2_rse, unM_ev, un1_ok, un1_rse, blT_ev, blR_ok, blR_rse, trT_ev, trR_ok, tru_bl, tru_non, tru_tup, tru_int, andT_ev, and1_true, and1_false, orT_ev, or1_true, or1_false, notT_ev, not1_ok, andM_ev, andV_true, andV_false, orM_ev, orV_true, orV_false, ifM_ev, if1_true, if1_false, chM_ev, ch1_ok, ch2_ok, ch3_true, ch3_false, nilA_ev, consA_ev, con1_ok, con1_rse, con2_ok, tupM_ev, tup1_0, tup1_1, tup1_2, tup1_3, tup1_4, szA_ev, sz1_0, sz1_1, sz1_2, sz1_3, sz1_4, sz1_5, sz1_6, sz1_8, sz1_10, newM_ev, new1_ok, onL_ev, onL1_ok, tupL_ev, clM_ev, cl1_rse, cl1_0, cl1_1, cl1_2, cl1_3, cl1_4, cl1_5, putM_ev, putT_ok, putT2_ok, putT3_ok, putT4_some, augM_ev, augT_some, noO_ev, someO_ev, some1_ok, slM_ev, sl1_ok, sl2_ok, sl3_ok, metM_ev, met0_ev, intD0_ev, add_ii, sub_ii, neg_i, lt_ii, le_ii, gt_ii, ge_ii, isN_ev, notN_ev, num_i, num_b, notD_b, isi_bool_bl, len_tup, len_fz, tup_tup, ix_tup0, ix_tup1, ix_tup2, itM_ev, it1_ok, src_tup, src_fz, src_str, fixC_ev, lvI_ev, lv1_ok, rngI_ev, rg1_ok, forM_ev, for1_ok, turnT_nx, turnT_ct, turnT_bk, turnT_rt, turnT_rse, nmG_ev, tupG_ev, consG_ev, nilG_ev, compM_ev, yesT_ev, fn1_nx, fn1_rt, fn1_rse, eq_ii, eq_bb, max_ii, min_ii, slD_tup, List.getElem?_cons_zero, List.getElem?_cons_succ, List.set_cons_zero, List.set_cons_succ, List.map_cons, List.map_nil, List.length_cons, List.length_nil, List.cons_append, List.nil_append, Option.bind_some, decide_true, decide_false, Bool.not_true, Bool.not_false, ne_ii, ne_bb, forL_nil0, i0, i1, eq_dd p1 p0 (Nat.le_trans d1 (by decide)) (Nat.le_trans d0 (by decide)), show (1 + (i : Int)).toNat = i + 1 by omega, Nat.add_sub_cancel]
            · simp only [wipeD, seqM_ev, thenT_nx, thenT_rt, thenT_bk, thenT_ct, thenT_rse, nopM_ev, brkM_ev, cntM_ev, setM_ev, setT_ok, setT_rse, setLM_ev, setLT_ok, dropM_ev, dropT_ok, dropT_rse, retM_ev, retT_ok, retT_rse, ifS_ev, ifT_true, ifT_false, asgM_ev, asgT_ok', optT_some, cM_ev, vM_ev, vR_some, opM_ev, op1_ok, op1_rse, op2_ok, op2_rse, unM_ev, un1_ok, un1_rse, blT_ev, blR_ok, blR_rse, trT_ev, trR_ok, tru_bl, tru_non, tru_tup, tru_int, andT_ev, and1_true, and1_false, orT_ev, or1_true, or1_false, notT_ev, not1_ok, andM_ev, andV_true, andV_false, orM_ev, orV_true, orV_false, ifM_ev, if1_true, if1_false, chM_ev, ch1_ok, ch2_ok, ch3_true, ch3_false, nilA_ev, consA_ev, con1_ok, con1_rse, con2_ok, tupM_ev, tup1_0, tup1_1, tup1_2, tup1_3, tup1_4, szA_ev, sz1_0, sz1_1, sz1_2, sz1_3, sz1_4, sz1_5, sz1_6, sz1_8, sz1_10, newM_ev, new1_ok, onL_ev, onL1_ok, tupL_ev, clM_ev, cl1_rse, cl1_0, cl1_1, cl1_2, cl1_3, cl1_4, cl1_5, putM_ev, putT_ok, putT2_ok, putT3_ok, putT4_some, augM_ev, augT_some, noO_ev, someO_ev, some1_ok, slM_ev, sl1_ok, sl2_ok, sl3_ok, metM_ev, met0_ev, intD0_ev, add_ii, sub_ii, neg_i, lt_ii, le_ii, gt_ii, ge_ii, isN_ev, notN_ev, num_i, num_b, notD_b, isi_bool_bl, len_tup, len_fz, tup_tup, ix_tup0, ix_tup1, ix_tup2, itM_ev, it1_ok, src_tup, src_fz, src_str, fixC_ev, lvI_ev, lv1_ok, rngI_ev, rg1_ok, forM_ev, for1_ok, turnT_nx, turnT_ct, turnT_bk, turnT_rt, turnT_rse, nmG_ev, tupG_ev, consG_ev, nilG_ev, compM_ev, yesT_ev, fn1_nx, fn1_rt, fn1_rse, eq_ii, eq_bb, max_ii, min_ii, slD_tup, List.getElem?_cons_zero, List.getElem?_cons_succ, List.set_cons_zero, List.set_cons_succ, List.map_cons, List.map_nil, List.length_cons, List.length_nil, List.cons_append, List.nil_append, Option.bind_some, decide_true, decide_false, Bool.not_true, Bool.not_false, ne_ii, ne_bb, forL_nil0, id]
          simp only [isSt, hall, Bool.true_and, seqM_ev, thenT_nx, thenT_rt, thenT_bk, thenT_ct, thenT_rse, nopM_ev, brkM_ev, cntM_ev, setM_ev, setT_ok, setT_rse, setLM_ev, setLT_ok, dropM_ev, dropT_ok, dropT_rse, retM_ev, retT_ok, retT_rse, ifS_ev, ifT_true, ifT_false, asgM_ev, asgT_ok', optT_some, cM_ev, vM_ev, vR_some, opM_ev, op1_ok, op1_rse, op2_ok, op2_rse, unM_ev, un1_ok, un1_rse, blT_ev, blR_ok, blR_rse, trT_ev, trR_ok, tru_bl, tru_non, tru_tup, tru_int, andT_ev, and1_true, and1_false, orT_ev, or1_true, or1_false, notT_ev, not1_ok, andM_ev, andV_true, andV_false, orM_ev, orV_true, orV_false, ifM_ev, if1_true, if1_false, chM_ev, ch1_ok, ch2_ok, ch3_true, ch3_false, nilA_ev, consA_ev, con1_ok, con1_rse, con2_ok, tupM_ev, tup1_0, tup1_1, tup1_2, tup1_3, tup1_4, szA_ev, sz1_0, sz1_1, sz1_2, sz1_3, sz1_4, sz1_5, sz1_6, sz1_8, sz1_10, newM_ev, new1_ok, onL_ev, onL1_ok, tupL_ev, clM_ev, cl1_rse, cl1_0, cl1_1, cl1_2, cl1_3, cl1_4, cl1_5, putM_ev, putT_ok, putT2_ok, putT3_ok, putT4_some, augM_ev, augT_some, noO_ev, someO_ev, some1_ok, slM_ev, sl1_ok, sl2_ok, sl3_ok, metM_ev, met0_ev, intD0_ev, add_ii, sub_ii, neg_i, lt_ii, le_ii, gt_ii, ge_ii, isN_ev, notN_ev, num_i, num_b, notD_b, isi_bool_bl, len_tup, len_fz, tup_tup, ix_tup0, ix_tup1, ix_tup2, itM_ev, it1_ok, src_tup, src_fz, src_str, fixC_ev, lvI_ev, lv1_ok, rngI_ev, rg1_ok, forM_ev, for1_ok, turnT_nx, turnT_ct, turnT_bk, turnT_rt, turnT_rse, nmG_ev, tupG_ev, consG_ev, nilG_ev, compM_ev, yesT_ev, fn1_nx, fn1_rt, fn1_rse, eq_ii, eq_bb, max_ii, min_ii, slD_tup, List.getElem?_cons_zero, List.getElem?_cons_succ, List.set_cons_zero, List.set_cons_succ, List.map_cons, List.map_nil, List.length_cons, List.length_nil, List.cons_append, List.nil_append, Option.bind_some, decide_true, decide_false, Bool.not_true, Bool.not_false, ne_ii, ne_bb, forL_nil0, toA_ev, to1_ok, lst_tup, sort_tup hso, eL]
          by_cases hs : l = sortL l
          · rw [decide_eq_true hs]
            simp only [seqM_ev, thenT_nx, thenT_rt, thenT_bk, thenT_ct, thenT_rse, nopM_ev, brkM_ev, cntM_ev, setM_ev, setT_ok, setT_rse, setLM_ev, setLT_ok, dropM_ev, dropT_ok, dropT_rse, retM_ev, retT_ok, retT_rse, ifS_ev, ifT_true, ifT_false, asgM_ev, asgT_ok', optT_some, cM_ev, vM_ev, vR_some, opM_ev, op1_ok, op1_rse, op2_ok, op2_rse, unM_ev, un1_ok, un1_rse, blT_ev, blR_ok, blR_rse, trT_ev, trR_ok, tru_bl, tru_non, tru_tup, tru_int, andT_ev, and1_true, and1_false, orT_ev, or1_true, or1_false, notT_ev, not1_ok, andM_ev, andV_true, andV_false, orM_ev, orV_true, orV_false, ifM_ev, if1_true, if1_false, chM_ev, ch1_ok, ch2_ok, ch3_true, ch3_false, nilA_ev, consA_ev, con1_ok, con1_rse, con2_ok, tupM_ev, tup1_0, tup1_1, tup1_2, tup1_3, tup1_4, szA_ev, sz1_0, sz1_1, sz1_2, sz1_3, sz1_4, sz1_5, sz1_6, sz1_8, sz1_10, newM_ev, new1_ok, onL_ev, onL1_ok, tupL_ev, clM_ev, cl1_rse, cl1_0, cl1_1, cl1_2, cl1_3, cl1_4, cl1_5, putM_ev, putT_ok, putT2_ok, putT3_ok, putT4_some, augM_ev, augT_some, noO_ev, someO_ev, some1_ok, slM_ev, sl1_ok, sl2_ok, sl3_ok, metM_ev, met0_ev, intD0_ev, add_ii, sub_ii, neg_i, lt_ii, le_ii, gt_ii, ge_ii, isN_ev, notN_ev, num_i, num_b, notD_b, isi_bool_bl, len_tup, len_fz, tup_tup, ix_tup0, ix_tup1, ix_tup2, itM_ev, it1_ok, src_tup, src_fz, src_str, fixC_ev, lvI_ev, lv1_ok, rngI_ev, rg1_ok, forM_ev, for1_ok, turnT_nx, turnT_ct, turnT_bk, turnT_rt, turnT_rse, nmG_ev, tupG_ev, consG_ev, nilG_ev, compM_ev, yesT_ev, fn1_nx, fn1_rt, fn1_rse, eq_ii, eq_bb, max_ii, min_ii, slD_tup, List.getElem?_cons_zero, List.getElem?_cons_succ, List.set_cons_zero, List.set_cons_succ, List.map_cons, List.map_nil, List.length_cons, List.length_nil, List.cons_append, List.nil_append, Option.bind_some, decide_true, decide_false, Bool.not_true, Bool.not_false, ne_ii, ne_bb, forL_nil0, hr, ec, List.map_id, len_lst get_new]
            have hfin : decide ((((upto 1 (l.length - 1)).filter fun x => match x with
              | .int j => decide (l.getD j.toNat .non = l.getD (j.toNat - 1) .non)
              | _ => false).length : Int) = 0) = asc l := by
              rw [Bool.eq_iff_iff, decide_eq_true_iff]
              have hz := noTwins_iff (l := l)
              unfold noTwins at hz
              rw [beq_iff_eq] at hz
              rw [key]
              constructor
              · exact fun z => ⟨hs, hz.mp (by omega)⟩
              · exact fun z => by have := hz.mpr z.2; omega
            rw [hfin]
            exact ⟨_, by simp only [List.append_assoc]; rfl⟩
          · rw [decide_eq_false hs]
            simp only [seqM_ev, thenT_nx, thenT_rt, thenT_bk, thenT_ct, thenT_rse, nopM_ev, brkM_ev, cntM_ev, setM_ev, setT_ok, setT_rse, setLM_ev, setLT_ok, dropM_ev, dropT_ok, dropT_rse, retM_ev, retT_ok, retT_rse, ifS_ev, ifT_true, ifT_false, asgM_ev, asgT_ok', optT_some, cM_ev, vM_ev, vR_some, opM_ev, op1_ok, op1_rse, op2_ok, op2_rse, unM_ev, un1_ok, un1_rse, blT_ev, blR_ok, blR_rse, trT_ev, trR_ok, tru_bl, tru_non, tru_tup, tru_int, andT_ev, and1_true, and1_false, orT_ev, or1_true, or1_false, notT_ev, not1_ok, andM_ev, andV_true, andV_false, orM_ev, orV_true, orV_false, ifM_ev, if1_true, if1_false, chM_ev, ch1_ok, ch2_ok, ch3_true, ch3_false, nilA_ev, consA_ev, con1_ok, con1_rse, con2_ok, tupM_ev, tup1_0, tup1_1, tup1_2, tup1_3, tup1_4, szA_ev, sz1_0, sz1_1, sz1_2, sz1_3, sz1_4, sz1_5, sz1_6, sz1_8, sz1_10, newM_ev, new1_ok, onL_ev, onL1_ok, tupL_ev, clM_ev, cl1_rse, cl1_0, cl1_1, cl1_2, cl1_3, cl1_4, cl1_5, putM_ev, putT_ok, putT2_ok, putT3_ok, putT4_some, augM_ev, augT_some, noO_ev, someO_ev, some1_ok, slM_ev, sl1_ok, sl2_ok, sl3_ok, metM_ev, met0_ev, intD0_ev, add_ii, sub_ii, neg_i, lt_ii, le_ii, gt_ii, ge_ii, isN_ev, notN_ev, num_i, num_b, notD_b, isi_bool_bl, len_tup, len_fz, tup_tup, ix_tup0, ix_tup1, ix_tup2, itM_ev, it1_ok, src_tup, src_fz, src_str, fixC_ev, lvI_ev, lv1_ok, rngI_ev, rg1_ok, forM_ev, for1_ok, turnT_nx, turnT_ct, turnT_bk, turnT_rt, turnT_rse, nmG_ev, tupG_ev, consG_ev, nilG_ev, compM_ev, yesT_ev, fn1_nx, fn1_rt, fn1_rse, eq_ii, eq_bb, max_ii, min_ii, slD_tup, List.getElem?_cons_zero, List.getElem?_cons_succ, List.set_cons_zero, List.set_cons_succ, List.map_cons, List.map_nil, List.length_cons, List.length_nil, List.cons_append, List.nil_append, Option.bind_some, decide_true, decide_false, Bool.not_true, Bool.not_false, ne_ii, ne_bb, forL_nil0]
            have : asc l = false := by
              cases hq : asc l with
              | false => rfl
              | true => exact (hs (key.mp hq).1).elim
            rw [this]
            exact ⟨_, by simp only [List.append_assoc]; rfl⟩
      | _ =>
        simp only [isTupB, seqM_ev, thenT_nx, thenT_rt, thenT_bk, thenT_ct, thenT_rse, nopM_ev, brkM_ev, cntM_ev, setM_ev, setT_ok, setT_rse, setLM_ev, setLT_ok, dropM_ev, dropT_ok, dropT_rse, retM_ev, retT_ok, retT_rse, ifS_ev, ifT_true, ifT_false, asgM_ev, asgT_ok', optT_some, cM_ev, vM_ev, vR_some, opM_ev, op1_ok, op1_rse, op2_ok, op2_rse, unM_ev, un1_ok, un1_rse, blT_ev, blR_ok, blR_rse, trT_ev, trR_ok, tru_bl, tru_non, tru_tup, tru_int, andT_ev, and1_true, and1_false, orT_ev, or1_true, or1_false, notT_ev, not1_ok, andM_ev, andV_true, andV_false, orM_ev, orV_true, orV_false, ifM_ev, if1_true, if1_false, chM_ev, ch1_ok, ch2_ok, ch3_true, ch3_false, nilA_ev, consA_ev, con1_ok, con1_rse, con2_ok, tupM_ev, tup1_0, tup1_1, tup1_2, tup1_3, tup1_4, szA_ev, sz1_0, sz1_1, sz1_2, sz1_3, sz1_4, sz1_5, sz1_6, sz1_8, sz1_10, newM_ev, new1_ok, onL_ev, onL1_ok, tupL_ev, clM_ev, cl1_rse, cl1_0, cl1_1, cl1_2, cl1_3, cl1_4, cl1_5, putM_ev, putT_ok, putT2_ok, putT3_ok, putT4_some, augM_ev, augT_some, noO_ev, someO_ev, some1_ok, slM_ev, sl1_ok, sl2_ok, sl3_ok, metM_ev, met0_ev, intD0_ev, add_ii, sub_ii, neg_i, lt_ii, le_ii, gt_ii, ge_ii, isN_ev, notN_ev, num_i, num_b, notD_b, isi_bool_bl, len_tup, len_fz, tup_tup, ix_tup0, ix_tup1, ix_tup2, itM_ev, it1_ok, src_tup, src_fz, src_str, fixC_ev, lvI_ev, lv1_ok, rngI_ev, rg1_ok, forM_ev, for1_ok, turnT_nx, turnT_ct, turnT_bk, turnT_rt, turnT_rse, nmG_ev, tupG_ev, consG_ev, nilG_ev, compM_ev, yesT_ev, fn1_nx, fn1_rt, fn1_rse, eq_ii, eq_bb, max_ii, min_ii, slD_tup, List.getElem?_cons_zero, List.getElem?_cons_succ, List.set_cons_zero, List.set_cons_succ, List.map_cons, List.map_nil, List.length_cons, List.length_nil, List.cons_append, List.nil_append, Option.bind_some, decide_true, decide_false, Bool.not_true, Bool.not_false, ne_ii, ne_bb, forL_nil0, isSt]
        exact ⟨[], by rw [List.append_nil]⟩
    rw [show k + 2 * (n + 1) = (k + 2 * n + 1) + 1 by omega, src.law_is_type]
    simp only [YN_law_is_type, fnM_ev, startD, List.replicate, seqM_ev, thenT_nx, thenT_rt, thenT_bk, thenT_ct, thenT_rse, nopM_ev, brkM_ev, cntM_ev, setM_ev, setT_ok, setT_rse, setLM_ev, setLT_ok, dropM_ev, dropT_ok, dropT_rse, retM_ev, retT_ok, retT_rse, ifS_ev, ifT_true, ifT_false, asgM_ev, asgT_ok', optT_some, cM_ev, vM_ev, vR_some, opM_ev, op1_ok, op1_rse, op2_ok, op2_rse, unM_ev, un1_ok, un1_rse, blT_ev, blR_ok, blR_rse, trT_ev, trR_ok, tru_bl, tru_non, tru_tup, tru_int, andT_ev, and1_true, and1_false, orT_ev, or1_true, or1_false, notT_ev, not1_ok, andM_ev, andV_true, andV_false, orM_ev, orV_true, orV_false, ifM_ev, if1_true, if1_false, chM_ev, ch1_ok, ch2_ok, ch3_true, ch3_false, nilA_ev, consA_ev, con1_ok, con1_rse, con2_ok, tupM_ev, tup1_0, tup1_1, tup1_2, tup1_3, tup1_4, szA_ev, sz1_0, sz1_1, sz1_2, sz1_3, sz1_4, sz1_5, sz1_6, sz1_8, sz1_10, newM_ev, new1_ok, onL_ev, onL1_ok, tupL_ev, clM_ev, cl1_rse, cl1_0, cl1_1, cl1_2, cl1_3, cl1_4, cl1_5, putM_ev, putT_ok, putT2_ok, putT3_ok, putT4_some, augM_ev, augT_some, noO_ev, someO_ev, some1_ok, slM_ev, sl1_ok, sl2_ok, sl3_ok, metM_ev, met0_ev, intD0_ev, add_ii, sub_ii, neg_i, lt_ii, le_ii, gt_ii, ge_ii, isN_ev, notN_ev, num_i, num_b, notD_b, isi_bool_bl, len_tup, len_fz, tup_tup, ix_tup0, ix_tup1, ix_tup2, itM_ev, it1_ok, src_tup, src_fz, src_str, fixC_ev, lvI_ev, lv1_ok, rngI_ev, rg1_ok, forM_ev, for1_ok, turnT_nx, turnT_ct, turnT_bk, turnT_rt, turnT_rse, nmG_ev, tupG_ev, consG_ev, nilG_ev, compM_ev, yesT_ev, fn1_nx, fn1_rt, fn1_rse, eq_ii, eq_bb, max_ii, min_ii, slD_tup, List.getElem?_cons_zero, List.getElem?_cons_succ, List.set_cons_zero, List.set_cons_succ, List.map_cons, List.map_nil, List.length_cons, List.length_nil, List.cons_append, List.nil_append, Option.bind_some, decide_true, decide_false, Bool.not_true, Bool.not_false, ne_ii, ne_bb, forL_nil0, isi_tup ht]
    have same : ∀ b : Bool, ∃ T, (Rs.ok (D.bl b) S) = .ok (D.bl b) (S ++ T) := fun b => ⟨[], by rw [List.append_nil]⟩
    cases d with
    | tup l =>
      obtain ⟨hl, hm⟩ := tre_tup.mp ht
      by_cases h2 : l.length = 2
      · obtain ⟨a, b, rfl⟩ : ∃ a b, l = [a, b] := by
          match l, h2 with
          | [a, b], _ => exact ⟨a, b, rfl⟩
        have ha := hm a (by simp)
        have hb := hm b (by simp)
        simp only [isTupB, seqM_ev, thenT_nx, thenT_rt, thenT_bk, thenT_ct, thenT_rse, nopM_ev, brkM_ev, cntM_ev, setM_ev, setT_ok, setT_rse, setLM_ev, setLT_ok, dropM_ev, dropT_ok, dropT_rse, retM_ev, retT_ok, retT_rse, ifS_ev, ifT_true, ifT_false, asgM_ev, asgT_ok', optT_some, cM_ev, vM_ev, vR_some, opM_ev, op1_ok, op1_rse, op2_ok, op2_rse, unM_ev, un1_ok, un1_rse, blT_ev, blR_ok, blR_rse, trT_ev, trR_ok, tru_bl, tru_non, tru_tup, tru_int, andT_ev, and1_true, and1_false, orT_ev, or1_true, or1_false, notT_ev, not1_ok, andM_ev, andV_true, andV_false, orM_ev, orV_true, orV_false, ifM_ev, if1_true, if1_false, chM_ev, ch1_ok, ch2_ok, ch3_true, ch3_false, nilA_ev, consA_ev, con1_ok, con1_rse, con2_ok, tupM_ev, tup1_0, tup1_1, tup1_2, tup1_3, tup1_4, szA_ev, sz1_0, sz1_1, sz1_2, sz1_3, sz1_4, sz1_5, sz1_6, sz1_8, sz1_10, newM_ev, new1_ok, onL_ev, onL1_ok, tupL_ev, clM_ev, cl1_rse, cl1_0, cl1_1, cl1_2, cl1_3, cl1_4, cl1_5, putM_ev, putT_ok, putT2_ok, putT3_ok, putT4_some, augM_ev, augT_some, noO_ev, someO_ev, some1_ok, slM_ev, sl1_ok, sl2_ok, sl3_ok, metM_ev, met0_ev, intD0_ev, add_ii, sub_ii, neg_i, lt_ii, le_ii, gt_ii, ge_ii, isN_ev, notN_ev, num_i, num_b, notD_b, isi_bool_bl, len_tup, len_fz, tup_tup, ix_tup0, ix_tup1, ix_tup2, itM_ev, it1_ok, src_tup, src_fz, src_str, fixC_ev, lvI_ev, lv1_ok, rngI_ev, rg1_ok, forM_ev, for1_ok, turnT_nx, turnT_ct, turnT_bk, turnT_rt, turnT_rse, nmG_ev, tupG_ev, consG_ev, nilG_ev, compM_ev, yesT_ev, fn1_nx, fn1_rt, fn1_rse, eq_ii, eq_bb, max_ii, min_ii, slD_tup, List.getElem?_cons_zero, List.getElem?_cons_succ, List.set_cons_zero, List.set_cons_succ, List.map_cons, List.map_nil, List.length_cons, List.length_nil, List.cons_append, List.nil_append, Option.bind_some, decide_true, decide_false, Bool.not_true, Bool.not_false, ne_ii, ne_bb, forL_nil0, show decide (((0 + 1 + 1 : Nat) : Int) = 2) = true from rfl, isi_tup ha]
        cases a with
        | tup sets =>
          obtain ⟨sl, sm⟩ := tre_tup.mp ha
          simp only [isTupB, seqM_ev, thenT_nx, thenT_rt, thenT_bk, thenT_ct, thenT_rse, nopM_ev, brkM_ev, cntM_ev, setM_ev, setT_ok, setT_rse, setLM_ev, setLT_ok, dropM_ev, dropT_ok, dropT_rse, retM_ev, retT_ok, retT_rse, ifS_ev, ifT_true, ifT_false, asgM_ev, asgT_ok', optT_some, cM_ev, vM_ev, vR_some, opM_ev, op1_ok, op1_rse, op2_ok, op2_rse, unM_ev, un1_ok, un1_rse, blT_ev, blR_ok, blR_rse, trT_ev, trR_ok, tru_bl, tru_non, tru_tup, tru_int, andT_ev, and1_true, and1_false, orT_ev, or1_true, or1_false, notT_ev, not1_ok, andM_ev, andV_true, andV_false, orM_ev, orV_true, orV_false, ifM_ev, if1_true, if1_false, chM_ev, ch1_ok, ch2_ok, ch3_true, ch3_false, nilA_ev, consA_ev, con1_ok, con1_rse, con2_ok, tupM_ev, tup1_0, tup1_1, tup1_2, tup1_3, tup1_4, szA_ev, sz1_0, sz1_1, sz1_2, sz1_3, sz1_4, sz1_5, sz1_6, sz1_8, sz1_10, newM_ev, new1_ok, onL_ev, onL1_ok, tupL_ev, clM_ev, cl1_rse, cl1_0, cl1_1, cl1_2, cl1_3, cl1_4, cl1_5, putM_ev, putT_ok, putT2_ok, putT3_ok, putT4_some, augM_ev, augT_some, noO_ev, someO_ev, some1_ok, slM_ev, sl1_ok, sl2_ok, sl3_ok, metM_ev, met0_ev, intD0_ev, add_ii, sub_ii, neg_i, lt_ii, le_ii, gt_ii, ge_ii, isN_ev, notN_ev, num_i, num_b, notD_b, isi_bool_bl, len_tup, len_fz, tup_tup, ix_tup0, ix_tup1, ix_tup2, itM_ev, it1_ok, src_tup, src_fz, src_str, fixC_ev, lvI_ev, lv1_ok, rngI_ev, rg1_ok, forM_ev, for1_ok, turnT_nx, turnT_ct, turnT_bk, turnT_rt, turnT_rse, nmG_ev, tupG_ev, consG_ev, nilG_ev, compM_ev, yesT_ev, fn1_nx, fn1_rt, fn1_rse, eq_ii, eq_bb, max_ii, min_ii, slD_tup, List.getElem?_cons_zero, List.getElem?_cons_succ, List.set_cons_zero, List.set_cons_succ, List.map_cons, List.map_nil, List.length_cons, List.length_nil, List.cons_append, List.nil_append, Option.bind_some, decide_true, decide_false, Bool.not_true, Bool.not_false, ne_ii, ne_bb, forL_nil0, kds_length]
          by_cases hlen : sets.length = ks.length
          · simp only [decide_eq_true (show (sets.length : Int) = (ks.length : Int) by omega), seqM_ev, thenT_nx, thenT_rt, thenT_bk, thenT_ct, thenT_rse, nopM_ev, brkM_ev, cntM_ev, setM_ev, setT_ok, setT_rse, setLM_ev, setLT_ok, dropM_ev, dropT_ok, dropT_rse, retM_ev, retT_ok, retT_rse, ifS_ev, ifT_true, ifT_false, asgM_ev, asgT_ok', optT_some, cM_ev, vM_ev, vR_some, opM_ev, op1_ok, op1_rse, op2_ok, op2_rse, unM_ev, un1_ok, un1_rse, blT_ev, blR_ok, blR_rse, trT_ev, trR_ok, tru_bl, tru_non, tru_tup, tru_int, andT_ev, and1_true, and1_false, orT_ev, or1_true, or1_false, notT_ev, not1_ok, andM_ev, andV_true, andV_false, orM_ev, orV_true, orV_false, ifM_ev, if1_true, if1_false, chM_ev, ch1_ok, ch2_ok, ch3_true, ch3_false, nilA_ev, consA_ev, con1_ok, con1_rse, con2_ok, tupM_ev, tup1_0, tup1_1, tup1_2, tup1_3, tup1_4, szA_ev, sz1_0, sz1_1, sz1_2, sz1_3, sz1_4, sz1_5, sz1_6, sz1_8, sz1_10, newM_ev, new1_ok, onL_ev, onL1_ok, tupL_ev, clM_ev, cl1_rse, cl1_0, cl1_1, cl1_2, cl1_3, cl1_4, cl1_5, putM_ev, putT_ok, putT2_ok, putT3_ok, putT4_some, augM_ev, augT_some, noO_ev, someO_ev, some1_ok, slM_ev, sl1_ok, sl2_ok, sl3_ok, metM_ev, met0_ev, intD0_ev, add_ii, sub_ii, neg_i, lt_ii, le_ii, gt_ii, ge_ii, isN_ev, notN_ev, num_i, num_b, notD_b, isi_bool_bl, len_tup, len_fz, tup_tup, ix_tup0, ix_tup1, ix_tup2, itM_ev, it1_ok, src_tup, src_fz, src_str, fixC_ev, lvI_ev, lv1_ok, rngI_ev, rg1_ok, forM_ev, for1_ok, turnT_nx, turnT_ct, turnT_bk, turnT_rt, turnT_rse, nmG_ev, tupG_ev, consG_ev, nilG_ev, compM_ev, yesT_ev, fn1_nx, fn1_rt, fn1_rse, eq_ii, eq_bb, max_ii, min_ii, slD_tup, List.getElem?_cons_zero, List.getElem?_cons_succ, List.set_cons_zero, List.set_cons_succ, List.map_cons, List.map_nil, List.length_cons, List.length_nil, List.cons_append, List.nil_append, Option.bind_some, decide_true, decide_false, Bool.not_true, Bool.not_false, ne_ii, ne_bb, forL_nil0, isi_int hb, isi_bool hb]
            cases b with
            | int q =>
              simp only [isIntB, isBlB, seqM_ev, thenT_nx, thenT_rt, thenT_bk, thenT_ct, thenT_rse, nopM_ev, brkM_ev, cntM_ev, setM_ev, setT_ok, setT_rse, setLM_ev, setLT_ok, dropM_ev, dropT_ok, dropT_rse, retM_ev, retT_ok, retT_rse, ifS_ev, ifT_true, ifT_false, asgM_ev, asgT_ok', optT_some, cM_ev, vM_ev, vR_some, opM_ev, op1_ok, op1_rse, op2_ok, op2_rse, unM_ev, un1_ok, un1_rse, blT_ev, blR_ok, blR_rse, trT_ev, trR_ok, tru_bl, tru_non, tru_tup, tru_int, andT_ev, and1_true, and1_false, orT_ev, or1_true, or1_false, notT_ev, not1_ok, andM_ev, andV_true, andV_false, orM_ev, orV_true, orV_false, ifM_ev, if1_true, if1_false, chM_ev, ch1_ok, ch2_ok, ch3_true, ch3_false, nilA_ev, consA_ev, con1_ok, con1_rse, con2_ok, tupM_ev, tup1_0, tup1_1, tup1_2, tup1_3, tup1_4, szA_ev, sz1_0, sz1_1, sz1_2, sz1_3, sz1_4, sz1_5, sz1_6, sz1_8, sz1_10, newM_ev, new1_ok, onL_ev, onL1_ok, tupL_ev, clM_ev, cl1_rse, cl1_0, cl1_1, cl1_2, cl1_3, cl1_4, cl1_5, putM_ev, putT_ok, putT2_ok, putT3_ok, putT4_some, augM_ev, augT_some, noO_ev, someO_ev, some1_ok, slM_ev, sl1_ok, sl2_ok, sl3_ok, metM_ev, met0_ev, intD0_ev, add_ii, sub_ii, neg_i, lt_ii, le_ii, gt_ii, ge_ii, isN_ev, notN_ev, num_i, num_b, notD_b, isi_bool_bl, len_tup, len_fz, tup_tup, ix_tup0, ix_tup1, ix_tup2, itM_ev, it1_ok, src_tup, src_fz, src_str, fixC_ev, lvI_ev, lv1_ok, rngI_ev, rg1_ok, forM_ev, for1_ok, turnT_nx, turnT_ct, turnT_bk, turnT_rt, turnT_rse, nmG_ev, tupG_ev, consG_ev, nilG_ev, compM_ev, yesT_ev, fn1_nx, fn1_rt, fn1_rse, eq_ii, eq_bb, max_ii, min_ii, slD_tup, List.getElem?_cons_zero, List.getElem?_cons_succ, List.set_cons_zero, List.set_cons_succ, List.map_cons, List.map_nil, List.length_cons, List.length_nil, List.cons_append, List.nil_append, Option.bind_some, decide_true, decide_false, Bool.not_true, Bool.not_false, ne_ii, ne_bb, forL_nil0, isi_bool hb]
              by_cases h0 : q < 0
              · simp only [decide_eq_true h0, seqM_ev, thenT_nx, thenT_rt, thenT_bk, thenT_ct, thenT_rse, nopM_ev, brkM_ev, cntM_ev, setM_ev, setT_ok, setT_rse, setLM_ev, setLT_ok, dropM_ev, dropT_ok, dropT_rse, retM_ev, retT_ok, retT_rse, ifS_ev, ifT_true, ifT_false, asgM_ev, asgT_ok', optT_some, cM_ev, vM_ev, vR_some, opM_ev, op1_ok, op1_rse, op2_ok, op2_rse, unM_ev, un1_ok, un1_rse, blT_ev, blR_ok, blR_rse, trT_ev, trR_ok, tru_bl, tru_non, tru_tup, tru_int, andT_ev, and1_true, and1_false, orT_ev, or1_true, or1_false, notT_ev, not1_ok, andM_ev, andV_true, andV_false, orM_ev, orV_true, orV_false, ifM_ev, if1_true, if1_false, chM_ev, ch1_ok, ch2_ok, ch3_true, ch3_false, nilA_ev, consA_ev, con1_ok, con1_rse, con2_ok, tupM_ev, tup1_0, tup1_1, tup1_2, tup1_3, tup1_4, szA_ev, sz1_0, sz1_1, sz1_2, sz1_3, sz1_4, sz1_5, sz1_6, sz1_8, sz1_10, newM_ev, new1_ok, onL_ev, onL1_ok, tupL_ev, clM_ev, cl1_rse, cl1_0, cl1_1, cl1_2, cl1_3, cl1_4, cl1_5, putM_ev, putT_ok, putT2_ok, putT3_ok, putT4_some, augM_ev, augT_some, noO_ev, someO_ev, some1_ok, slM_ev, sl1_ok, sl2_ok, sl3_ok, metM_ev, met0_ev, intD0_ev, add_ii, sub_ii, neg_i, lt_ii, le_ii, gt_ii, ge_ii, isN_ev, notN_ev, num_i, num_b, notD_b, isi_bool_bl, len_tup, len_fz, tup_tup, ix_tup0, ix_tup1, ix_tup2, itM_ev, it1_ok, src_tup, src_fz, src_str, fixC_ev, lvI_ev, lv1_ok, rngI_ev, rg1_ok, forM_ev, for1_ok, turnT_nx, turnT_ct, turnT_bk, turnT_rt, turnT_rse, nmG_ev, tupG_ev, consG_ev, nilG_ev, compM_ev, yesT_ev, fn1_nx, fn1_rt, fn1_rse, eq_ii, eq_bb, max_ii, min_ii, slD_tup, List.getElem?_cons_zero, List.getElem?_cons_succ, List.set_cons_zero, List.set_cons_succ, List.map_cons, List.map_nil, List.length_cons, List.length_nil, List.cons_append, List.nil_append, Option.bind_some, decide_true, decide_false, Bool.not_true, Bool.not_false, ne_ii, ne_bb, forL_nil0]
                rw [isTy_eq, decide_eq_false (show ¬ (0 ≤ q ∧ q < st) by omega), Bool.and_false, Bool.false_and]
                exact same _
              · by_cases h1 : st ≤ q
                · simp only [decide_eq_false h0, decide_eq_true h1, seqM_ev, thenT_nx, thenT_rt, thenT_bk, thenT_ct, thenT_rse, nopM_ev, brkM_ev, cntM_ev, setM_ev, setT_ok, setT_rse, setLM_ev, setLT_ok, dropM_ev, dropT_ok, dropT_rse, retM_ev, retT_ok, retT_rse, ifS_ev, ifT_true, ifT_false, asgM_ev, asgT_ok', optT_some, cM_ev, vM_ev, vR_some, opM_ev, op1_ok, op1_rse, op2_ok, op2_rse, unM_ev, un1_ok, un1_rse, blT_ev, blR_ok, blR_rse, trT_ev, trR_ok, tru_bl, tru_non, tru_tup, tru_int, andT_ev, and1_true, and1_false, orT_ev, or1_true, or1_false, notT_ev, not1_ok, andM_ev, andV_true, andV_false, orM_ev, orV_true, orV_false, ifM_ev, if1_true, if1_false, chM_ev, ch1_ok, ch2_ok, ch3_true, ch3_false, nilA_ev, consA_ev, con1_ok, con1_rse, con2_ok, tupM_ev, tup1_0, tup1_1, tup1_2, tup1_3, tup1_4, szA_ev, sz1_0, sz1_1, sz1_2, sz1_3, sz1_4, sz1_5, sz1_6, sz1_8, sz1_10, newM_ev, new1_ok, onL_ev, onL1_ok, tupL_ev, clM_ev, cl1_rse, cl1_0, cl1_1, cl1_2, cl1_3, cl1_4, cl1_5, putM_ev, putT_ok, putT2_ok, putT3_ok, putT4_some, augM_ev, augT_some, noO_ev, someO_ev, some1_ok, slM_ev, sl1_ok, sl2_ok, sl3_ok, metM_ev, met0_ev, intD0_ev, add_ii, sub_ii, neg_i, lt_ii, le_ii, gt_ii, ge_ii, isN_ev, notN_ev, num_i, num_b, notD_b, isi_bool_bl, len_tup, len_fz, tup_tup, ix_tup0, ix_tup1, ix_tup2, itM_ev, it1_ok, src_tup, src_fz, src_str, fixC_ev, lvI_ev, lv1_ok, rngI_ev, rg1_ok, forM_ev, for1_ok, turnT_nx, turnT_ct, turnT_bk, turnT_rt, turnT_rse, nmG_ev, tupG_ev, consG_ev, nilG_ev, compM_ev, yesT_ev, fn1_nx, fn1_rt, fn1_rse, eq_ii, eq_bb, max_ii, min_ii, slD_tup, List.getElem?_cons_zero, List.getElem?_cons_succ, List.set_cons_zero, List.set_cons_succ, List.map_cons, List.map_nil, List.length_cons, List.length_nil, List.cons_append, List.nil_append, Option.bind_some, decide_true, decide_false, Bool.not_true, Bool.not_false, ne_ii, ne_bb, forL_nil0]
                  rw [isTy_eq, decide_eq_false (show ¬ (0 ≤ q ∧ q < st) by omega), Bool.and_false, Bool.false_and]
                  exact same _
                · simp only [decide_eq_false h0, decide_eq_false h1, seqM_ev, thenT_nx, thenT_rt, thenT_bk, thenT_ct, thenT_rse, nopM_ev, brkM_ev, cntM_ev, setM_ev, setT_ok, setT_rse, setLM_ev, setLT_ok, dropM_ev, dropT_ok, dropT_rse, retM_ev, retT_ok, retT_rse, ifS_ev, ifT_true, ifT_false, asgM_ev, asgT_ok', optT_some, cM_ev, vM_ev, vR_some, opM_ev, op1_ok, op1_rse, op2_ok, op2_rse, unM_ev, un1_ok, un1_rse, blT_ev, blR_ok, blR_rse, trT_ev, trR_ok, tru_bl, tru_non, tru_tup, tru_int, andT_ev, and1_true, and1_false, orT_ev, or1_true, or1_false, notT_ev, not1_ok, andM_ev, andV_true, andV_false, orM_ev, orV_true, orV_false, ifM_ev, if1_true, if1_false, chM_ev, ch1_ok, ch2_ok, ch3_true, ch3_false, nilA_ev, consA_ev, con1_ok, con1_rse, con2_ok, tupM_ev, tup1_0, tup1_1, tup1_2, tup1_3, tup1_4, szA_ev, sz1_0, sz1_1, sz1_2, sz1_3, sz1_4, sz1_5, sz1_6, sz1_8, sz1_10, newM_ev, new1_ok, onL_ev, onL1_ok, tupL_ev, clM_ev, cl1_rse, cl1_0, cl1_1, cl1_2, cl1_3, cl1_4, cl1_5, putM_ev, putT_ok, putT2_ok, putT3_ok, putT4_some, augM_ev, augT_some, noO_ev, someO_ev, some1_ok, slM_ev, sl1_ok, sl2_ok, sl3_ok, metM_ev, met0_ev, intD0_ev, add_ii, sub_ii, neg_i, lt_ii, le_ii, gt_ii, ge_ii, isN_ev, notN_ev, num_i, num_b, notD_b, isi_bool_bl, len_tup, len_fz, tup_tup, ix_tup0, ix_tup1, ix_tup2, itM_ev, it1_ok, src_tup, src_fz, src_str, fixC_ev, lvI_ev, lv1_ok, rngI_ev, rg1_ok, forM_ev, for1_ok, turnT_nx, turnT_ct, turnT_bk, turnT_rt, turnT_rse, nmG_ev, tupG_ev, consG_ev, nilG_ev, compM_ev, yesT_ev, fn1_nx, fn1_rt, fn1_rse, eq_ii, eq_bb, max_ii, min_ii, slD_tup, List.getElem?_cons_zero, List.getElem?_cons_succ, List.set_cons_zero, List.set_cons_succ, List.map_cons, List.map_nil, List.length_cons, List.length_nil, List.cons_append, List.nil_append, Option.bind_some, decide_true, decide_false, Bool.not_true, Bool.not_false, ne_ii, ne_bb, forL_nil0, kds_length, rng1_nat (show ks.length ≤ 1000000 by have := hw.1; omega)]
                  obtain ⟨e', S', ⟨⟨x3, rfl⟩, T, rfl⟩, e1⟩ := check_loop (chk := fixC) (g := nmG 3) (t := trT (clM 3 (F (k + 2 * n + 1) .law_is_set) (consA (opM ixD (vM 0) (vM 3)) (consA (vM 1) (consA (opM ixD (opM ixD (vM 2) (cM (.int 0))) (vM 3)) nilA))))) (P := fun x => match x with
                      | .int j => match ks[j.toNat]? with
                        | some k => isSt n k st (sets.getD j.toNat .non)
                        | none => false
                      | _ => false) (I := fun e S' => (∃ x3, e = [some (.tup (kds ks)), some (.int st), some (.tup [.tup sets, .int q]), x3]) ∧ ∃ T, S' = S ++ T) (fun _ _ _ => rfl) (upto 0 ks.length)
                    (fun x hx e S' hI => by
                      obtain ⟨⟨x3, rfl⟩, T, rfl⟩ := hI
                      rw [upto_eq] at hx
                      obtain ⟨j, hj, rfl⟩ := List.mem_map.mp hx
                      have hjl : j < ks.length := by simpa using hj
                      have hkj := List.getElem?_eq_getElem hjl
                      have hy := getD_get (l := sets) (i := j) (by omega)
                      have hmem := List.getElem_mem hjl
                      obtain ⟨T2, e2⟩ := hset ks[j] (sets.getD j .non) (S ++ T) (kdep_part hk hmem) (hw.part hmem) (sm _ (List.mem_of_getElem? hy))
                      refine ⟨_, S ++ T ++ T2, rfl, ?_, ⟨⟨_, rfl⟩, T ++ T2, by rw [List.append_assoc]⟩⟩
                      have ik : ixD (.tup (kds ks)) (.int (j : Int)) (S ++ T) = .ok (ks[j]).d (S ++ T) := ix_tup (atI_nat (by rw [kds_map, List.getElem?_map, hkj]; rfl))
                      have iy : ixD (.tup sets) (.int (j : Int)) (S ++ T) = .ok (sets.getD j .non) (S ++ T) := ix_tup (atI_nat hy)
                      simp only [seqM_ev, thenT_nx, thenT_rt, thenT_bk, thenT_ct, thenT_rse, nopM_ev, brkM_ev, cntM_ev, setM_ev, setT_ok, setT_rse, setLM_ev, setLT_ok, dropM_ev, dropT_ok, dropT_rse, retM_ev, retT_ok, retT_rse, ifS_ev, ifT_true, ifT_false, asgM_ev, asgT_ok', optT_some, cM_ev, vM_ev, vR_some, opM_ev, op1_ok, op1_rse, op2_ok, op2_rse, unM_ev, un1_ok, un1_rse, blT_ev, blR_ok, blR_rse, trT_ev, trR_ok, tru_bl, tru_non, tru_tup, tru_int, andT_ev, and1_true, and1_false, orT_ev, or1_true, or1_false, notT_ev, not1_ok, andM_ev, andV_true, andV_false, orM_ev, orV_true, orV_false, ifM_ev, if1_true, if1_false, chM_ev, ch1_ok, ch2_ok, ch3_true, ch3_false, nilA_ev, consA_ev, con1_ok, con1_rse, con2_ok, tupM_ev, tup1_0, tup1_1, tup1_2, tup1_3, tup1_4, szA_ev, sz1_0, sz1_1, sz1_2, sz1_3, sz1_4, sz1_5, sz1_6, sz1_8, sz1_10, newM_ev, new1_ok, onL_ev, onL1_ok, tupL_ev, clM_ev, cl1_rse, cl1_0, cl1_1, cl1_2, cl1_3, cl1_4, cl1_5, putM_ev, putT_ok, putT2_ok, putT3_ok, putT4_some, augM_ev, augT_some, noO_ev, someO_ev, some1_ok, slM_ev, sl1_ok, sl2_ok, sl3_ok, metM_ev, met0_ev, intD0_ev, add_ii, sub_ii, neg_i, lt_ii, le_ii, gt_ii, ge_ii, isN_ev, notN_ev, num_i, num_b, notD_b, isi_bool_bl, len_tup, len_fz, tup_tup, ix_tup0, ix_tup1, ix_tup2, itM_ev, it1_ok, src_tup, src_fz, src_str, fixC_ev, lvI_ev, lv1_ok, rngI_ev, rg1_ok, forM_ev, for1_ok, turnT_nx, turnT_ct, turnT_bk, turnT_rt, turnT_rse, nmG_ev, tupG_ev, consG_ev, nilG_ev, compM_ev, yesT_ev, fn1_nx, fn1_rt, fn1_rse, eq_ii, eq_bb, max_ii, min_ii, slD_tup, List.getElem?_cons_zero, List.getElem?_cons_succ, List.set_cons_zero, List.set_cons_succ, List.map_cons, List.map_nil, List.length_cons, List.length_nil, List.cons_append, List.nil_append, Option.bind_some, decide_true, decide_false, Bool.not_true, Bool.not_false, ne_ii, ne_bb, forL_nil0, ik, iy, e2, Int.toNat_natCast, hkj]) _ S ⟨⟨none, rfl⟩, [], by rw [List.append_nil]⟩
                  rw [e1, fn1_if, ← zip_range (P := fun k y => isSt n k st y) hlen, isTy_eq, decide_eq_true hlen, decide_eq_true (show 0 ≤ q ∧ q < st by omega)]
                  simp only [seqM_ev, thenT_nx, thenT_rt, thenT_bk, thenT_ct, thenT_rse, nopM_ev, brkM_ev, cntM_ev, setM_ev, setT_ok, setT_rse, setLM_ev, setLT_ok, dropM_ev, dropT_ok, dropT_rse, retM_ev, retT_ok, retT_rse, ifS_ev, ifT_true, ifT_false, asgM_ev, asgT_ok', optT_some, cM_ev, vM_ev, vR_some, opM_ev, op1_ok, op1_rse, op2_ok, op2_rse, unM_ev, un1_ok, un1_rse, blT_ev, blR_ok, blR_rse, trT_ev, trR_ok, tru_bl, tru_non, tru_tup, tru_int, andT_ev, and1_true, and1_false, orT_ev, or1_true, or1_false, notT_ev, not1_ok, andM_ev, andV_true, andV_false, orM_ev, orV_true, orV_false, ifM_ev, if1_true, if1_false, chM_ev, ch1_ok, ch2_ok, ch3_true, ch3_false, nilA_ev, consA_ev, con1_ok, con1_rse, con2_ok, tupM_ev, tup1_0, tup1_1, tup1_2, tup1_3, tup1_4, szA_ev, sz1_0, sz1_1, sz1_2, sz1_3, sz1_4, sz1_5, sz1_6, sz1_8, sz1_10, newM_ev, new1_ok, onL_ev, onL1_ok, tupL_ev, clM_ev, cl1_rse, cl1_0, cl1_1, cl1_2, cl1_3, cl1_4, cl1_5, putM_ev, putT_ok, putT2_ok, putT3_ok, putT4_some, augM_ev, augT_some, noO_ev, someO_ev, some1_ok, slM_ev, sl1_ok, sl2_ok, sl3_ok, metM_ev, met0_ev, intD0_ev, add_ii, sub_ii, neg_i, lt_ii, le_ii, gt_ii, ge_ii, isN_ev, notN_ev, num_i, num_b, notD_b, isi_bool_bl, len_tup, len_fz, tup_tup, ix_tup0, ix_tup1, ix_tup2, itM_ev, it1_ok, src_tup, src_fz, src_str, fixC_ev, lvI_ev, lv1_ok, rngI_ev, rg1_ok, forM_ev, for1_ok, turnT_nx, turnT_ct, turnT_bk, turnT_rt, turnT_rse, nmG_ev, tupG_ev, consG_ev, nilG_ev, compM_ev, yesT_ev, fn1_nx, fn1_rt, fn1_rse, eq_ii, eq_bb, max_ii, min_ii, slD_tup, List.getElem?_cons_zero, List.getElem?_cons_succ, List.set_cons_zero, List.set_cons_succ, List.map_cons, List.map_nil, List.length_cons, List.length_nil, List.cons_append, List.nil_append, Option.bind_some, decide_true, decide_false, Bool.not_true, Bool.not_false, ne_ii, ne_bb, forL_nil0, Bool.true_and]
                  refine ⟨T, ?_⟩
                  cases ((ks.zip sets).all fun p => isSt n p.1 st p.2) <;> rfl
            | bl b =>
              simp only [isIntB, isBlB, seqM_ev, thenT_nx, thenT_rt, thenT_bk, thenT_ct, thenT_rse, nopM_ev, brkM_ev, cntM_ev, setM_ev, setT_ok, setT_rse, setLM_ev, setLT_ok, dropM_ev, dropT_ok, dropT_rse, retM_ev, retT_ok, retT_rse, ifS_ev, ifT_true, ifT_false, asgM_ev, asgT_ok', optT_some, cM_ev, vM_ev, vR_some, opM_ev, op1_ok, op1_rse, op2_ok, op2_rse, unM_ev, un1_ok, un1_rse, blT_ev, blR_ok, blR_rse, trT_ev, trR_ok, tru_bl, tru_non, tru_tup, tru_int, andT_ev, and1_true, and1_false, orT_ev, or1_true, or1_false, notT_ev, not1_ok, andM_ev, andV_true, andV_false, orM_ev, orV_true, orV_false, ifM_ev, if1_true, if1_false, chM_ev, ch1_ok, ch2_ok, ch3_true, ch3_false, nilA_ev, consA_ev, con1_ok, con1_rse, con2_ok, tupM_ev, tup1_0, tup1_1, tup1_2, tup1_3, tup1_4, szA_ev, sz1_0, sz1_1, sz1_2, sz1_3, sz1_4, sz1_5, sz1_6, sz1_8, sz1_10, newM_ev, new1_ok, onL_ev, onL1_ok, tupL_ev, clM_ev, cl1_rse, cl1_0, cl1_1, cl1_2, cl1_3, cl1_4, cl1_5, putM_ev, putT_ok, putT2_ok, putT3_ok, putT4_some, augM_ev, augT_some, noO_ev, someO_ev, some1_ok, slM_ev, sl1_ok, sl2_ok, sl3_ok, metM_ev, met0_ev, intD0_ev, add_ii, sub_ii, neg_i, lt_ii, le_ii, gt_ii, ge_ii, isN_ev, notN_ev, num_i, num_b, notD_b, isi_bool_bl, len_tup, len_fz, tup_tup, ix_tup0, ix_tup1, ix_tup2, itM_ev, it1_ok, src_tup, src_fz, src_str, fixC_ev, lvI_ev, lv1_ok, rngI_ev, rg1_ok, forM_ev, for1_ok, turnT_nx, turnT_ct, turnT_bk, turnT_rt, turnT_rse, nmG_ev, tupG_ev, consG_ev, nilG_ev, compM_ev, yesT_ev, fn1_nx, fn1_rt, fn1_rse, eq_ii, eq_bb, max_ii, min_ii, slD_tup, List.getElem?_cons_zero, List.getElem?_cons_succ, List.set_cons_zero, List.set_cons_succ, List.map_cons, List.map_nil, List.length_cons, List.length_nil, List.cons_append, List.nil_append, Option.bind_some, decide_true, decide_false, Bool.not_true, Bool.not_false, ne_ii, ne_bb, forL_nil0, isi_bool hb]
              rw [isTy_not (fun _ _ => by simp)]
              exact same _
            | non =>
              simp only [isIntB, isBlB, seqM_ev, thenT_nx, thenT_rt, thenT_bk, thenT_ct, thenT_rse, nopM_ev, brkM_ev, cntM_ev, setM_ev, setT_ok, setT_rse, setLM_ev, setLT_ok, dropM_ev, dropT_ok, dropT_rse, retM_ev, retT_ok, retT_rse, ifS_ev, ifT_true, ifT_false, asgM_ev, asgT_ok', optT_some, cM_ev, vM_ev, vR_some, opM_ev, op1_ok, op1_rse, op2_ok, op2_rse, unM_ev, un1_ok, un1_rse, blT_ev, blR_ok, blR_rse, trT_ev, trR_ok, tru_bl, tru_non, tru_tup, tru_int, andT_ev, and1_true, and1_false, orT_ev, or1_true, or1_false, notT_ev, not1_ok, andM_ev, andV_true, andV_false, orM_ev, orV_true, orV_false, ifM_ev, if1_true, if1_false, chM_ev, ch1_ok, ch2_ok, ch3_true, ch3_false, nilA_ev, consA_ev, con1_ok, con1_rse, con2_ok, tupM_ev, tup1_0, tup1_1, tup1_2, tup1_3, tup1_4, szA_ev, sz1_0, sz1_1, sz1_2, sz1_3, sz1_4, sz1_5, sz1_6, sz1_8, sz1_10, newM_ev, new1_ok, onL_ev, onL1_ok, tupL_ev, clM_ev, cl1_rse, cl1_0, cl1_1, cl1_2, cl1_3, cl1_4, cl1_5, putM_ev, putT_ok, putT2_ok, putT3_ok, putT4_some, augM_ev, augT_some, noO_ev, someO_ev, some1_ok, slM_ev, sl1_ok, sl2_ok, sl3_ok, metM_ev, met0_ev, intD0_ev, add_ii, sub_ii, neg_i, lt_ii, le_ii, gt_ii, ge_ii, isN_ev, notN_ev, num_i, num_b, notD_b, isi_bool_bl, len_tup, len_fz, tup_tup, ix_tup0, ix_tup1, ix_tup2, itM_ev, it1_ok, src_tup, src_fz, src_str, fixC_ev, lvI_ev, lv1_ok, rngI_ev, rg1_ok, forM_ev, for1_ok, turnT_nx, turnT_ct, turnT_bk, turnT_rt, turnT_rse, nmG_ev, tupG_ev, consG_ev, nilG_ev, compM_ev, yesT_ev, fn1_nx, fn1_rt, fn1_rse, eq_ii, eq_bb, max_ii, min_ii, slD_tup, List.getElem?_cons_zero, List.getElem?_cons_succ, List.set_cons_zero, List.set_cons_succ, List.map_cons, List.map_nil, List.length_cons, List.length_nil, List.cons_append, List.nil_append, Option.bind_some, decide_true, decide_false, Bool.not_true, Bool.not_false, ne_ii, ne_bb, forL_nil0, isi_bool hb]
              rw [isTy_not (fun _ _ => by simp)]
              exact same _
            | str x =>
              simp only [isIntB, isBlB, seqM_ev, thenT_nx, thenT_rt, thenT_bk, thenT_ct, thenT_rse, nopM_ev, brkM_ev, cntM_ev, setM_ev, setT_ok, setT_rse, setLM_ev, setLT_ok, dropM_ev, dropT_ok, dropT_rse, retM_ev, retT_ok, retT_rse, ifS_ev, ifT_true, ifT_false, asgM_ev, asgT_ok', optT_some, cM_ev, vM_ev, vR_some, opM_ev, op1_ok, op1_rse, op2_ok, op2_rse, unM_ev, un1_ok, un1_rse, blT_ev, blR_ok, blR_rse, trT_ev, trR_ok, tru_bl, tru_non, tru_tup, tru_int, andT_ev, and1_true, and1_false, orT_ev, or1_true, or1_false, notT_ev, not1_ok, andM_ev, andV_true, andV_false, orM_ev, orV_true, orV_false, ifM_ev, if1_true, if1_false, chM_ev, ch1_ok, ch2_ok, ch3_true, ch3_false, nilA_ev, consA_ev, con1_ok, con1_rse, con2_ok, tupM_ev, tup1_0, tup1_1, tup1_2, tup1_3, tup1_4, szA_ev, sz1_0, sz1_1, sz1_2, sz1_3, sz1_4, sz1_5, sz1_6, sz1_8, sz1_10, newM_ev, new1_ok, onL_ev, onL1_ok, tupL_ev, clM_ev, cl1_rse, cl1_0, cl1_1, cl1_2, cl1_3, cl1_4, cl1_5, putM_ev, putT_ok, putT2_ok, putT3_ok, putT4_some, augM_ev, augT_some, noO_ev, someO_ev, some1_ok, slM_ev, sl1_ok, sl2_ok, sl3_ok, metM_ev, met0_ev, intD0_ev, add_ii, sub_ii, neg_i, lt_ii, le_ii, gt_ii, ge_ii, isN_ev, notN_ev, num_i, num_b, notD_b, isi_bool_bl, len_tup, len_fz, tup_tup, ix_tup0, ix_tup1, ix_tup2, itM_ev, it1_ok, src_tup, src_fz, src_str, fixC_ev, lvI_ev, lv1_ok, rngI_ev, rg1_ok, forM_ev, for1_ok, turnT_nx, turnT_ct, turnT_bk, turnT_rt, turnT_rse, nmG_ev, tupG_ev, consG_ev, nilG_ev, compM_ev, yesT_ev, fn1_nx, fn1_rt, fn1_rse, eq_ii, eq_bb, max_ii, min_ii, slD_tup, List.getElem?_cons_zero, List.getElem?_cons_succ, List.set_cons_zero, List.set_cons_succ, List.map_cons, List.map_nil, List.length_cons, List.length_nil, List.cons_append, List.nil_append, Option.bind_some, decide_true, decide_false, Bool.not_true, Bool.not_false, ne_ii, ne_bb, forL_nil0, isi_bool hb]
              rw [isTy_not (fun _ _ => by simp)]
              exact same _
            | tup x =>
              simp only [isIntB, isBlB, seqM_ev, thenT_nx, thenT_rt, thenT_bk, thenT_ct, thenT_rse, nopM_ev, brkM_ev, cntM_ev, setM_ev, setT_ok, setT_rse, setLM_ev, setLT_ok, dropM_ev, dropT_ok, dropT_rse, retM_ev, retT_ok, retT_rse, ifS_ev, ifT_true, ifT_false, asgM_ev, asgT_ok', optT_some, cM_ev, vM_ev, vR_some, opM_ev, op1_ok, op1_rse, op2_ok, op2_rse, unM_ev, un1_ok, un1_rse, blT_ev, blR_ok, blR_rse, trT_ev, trR_ok, tru_bl, tru_non, tru_tup, tru_int, andT_ev, and1_true, and1_false, orT_ev, or1_true, or1_false, notT_ev, not1_ok, andM_ev, andV_true, andV_false, orM_ev, orV_true, orV_false, ifM_ev, if1_true, if1_false, chM_ev, ch1_ok, ch2_ok, ch3_true, ch3_false, nilA_ev, consA_ev, con1_ok, con1_rse, con2_ok, tupM_ev, tup1_0, tup1_1, tup1_2, tup1_3, tup1_4, szA_ev, sz1_0, sz1_1, sz1_2, sz1_3, sz1_4, sz1_5, sz1_6, sz1_8, sz1_10, newM_ev, new1_ok, onL_ev, onL1_ok, tupL_ev, clM_ev, cl1_rse, cl1_0, cl1_1, cl1_2, cl1_3, cl1_4, cl1_5, putM_ev, putT_ok, putT2_ok, putT3_ok, putT4_some, augM_ev, augT_some, noO_ev, someO_ev, some1_ok, slM_ev, sl1_ok, sl2_ok, sl3_ok, metM_ev, met0_ev, intD0_ev, add_ii, sub_ii, neg_i, lt_ii, le_ii, gt_ii, ge_ii, isN_ev, notN_ev, num_i, num_b, notD_b, isi_bool_bl, len_tup, len_fz, tup_tup, ix_tup0, ix_tup1, ix_tup2, itM_ev, it1_ok, src_tup, src_fz, src_str, fixC_ev, lvI_ev, lv1_ok, rngI_ev, rg1_ok, forM_ev, for1_ok, turnT_nx, turnT_ct, turnT_bk, turnT_rt, turnT_rse, nmG_ev, tupG_ev, consG_ev, nilG_ev, compM_ev, yesT_ev, fn1_nx, fn1_rt, fn1_rse, eq_ii, eq_bb, max_ii, min_ii, slD_tup, List.getElem?_cons_zero, List.getElem?_cons_succ, List.set_cons_zero, List.set_cons_succ, List.map_cons, List.map_nil, List.length_cons, List.length_nil, List.cons_append, List.nil_append, Option.bind_some, decide_true, decide_false, Bool.not_true, Bool.not_false, ne_ii, ne_bb, forL_nil0, isi_bool hb]
              rw [isTy_not (fun _ _ => by simp)]
              exact same _
            | fz x => unfold tre at hb; cases hb
            | obj x => unfold tre at hb; cases hb
          · simp only [decide_eq_false (show ¬ (sets.length : Int) = (ks.length : Int) by omega), seqM_ev, thenT_nx, thenT_rt, thenT_bk, thenT_ct, thenT_rse, nopM_ev, brkM_ev, cntM_ev, setM_ev, setT_ok, setT_rse, setLM_ev, setLT_ok, dropM_ev, dropT_ok, dropT_rse, retM_ev, retT_ok, retT_rse, ifS_ev, ifT_true, ifT_false, asgM_ev, asgT_ok', optT_some, cM_ev, vM_ev, vR_some, opM_ev, op1_ok, op1_rse, op2_ok, op2_rse, unM_ev, un1_ok, un1_rse, blT_ev, blR_ok, blR_rse, trT_ev, trR_ok, tru_bl, tru_non, tru_tup, tru_int, andT_ev, and1_true, and1_false, orT_ev, or1_true, or1_false, notT_ev, not1_ok, andM_ev, andV_true, andV_false, orM_ev, orV_true, orV_false, ifM_ev, if1_true, if1_false, chM_ev, ch1_ok, ch2_ok, ch3_true, ch3_false, nilA_ev, consA_ev, con1_ok, con1_rse, con2_ok, tupM_ev, tup1_0, tup1_1, tup1_2, tup1_3, tup1_4, szA_ev, sz1_0, sz1_1, sz1_2, sz1_3, sz1_4, sz1_5, sz1_6, sz1_8, sz1_10, newM_ev, new1_ok, onL_ev, onL1_ok, tupL_ev, clM_ev, cl1_rse, cl1_0, cl1_1, cl1_2, cl1_3, cl1_4, cl1_5, putM_ev, putT_ok, putT2_ok, putT3_ok, putT4_some, augM_ev, augT_some, noO_ev, someO_ev, some1_ok, slM_ev, sl1_ok, sl2_ok, sl3_ok, metM_ev, met0_ev, intD0_ev, add_ii, sub_ii, neg_i, lt_ii, le_ii, gt_ii, ge_ii, isN_ev, notN_ev, num_i, num_b, notD_b, isi_bool_bl, len_tup, len_fz, tup_tup, ix_tup0, ix_tup1, ix_tup2, itM_ev, it1_ok, src_tup, src_fz, src_str, fixC_ev, lvI_ev, lv1_ok, rngI_ev, rg1_ok, forM_ev, for1_ok, turnT_nx, turnT_ct, turnT_bk, turnT_rt, turnT_rse, nmG_ev, tupG_ev, consG_ev, nilG_ev, compM_ev, yesT_ev, fn1_nx, fn1_rt, fn1_rse, eq_ii, eq_bb, max_ii, min_ii, slD_tup, List.getElem?_cons_zero, List.getElem?_cons_succ, List.set_cons_zero, List.set_cons_succ, List.map_cons, List.map_nil, List.length_cons, List.length_nil, List.cons_append, List.nil_append, Option.bind_some, decide_true, decide_false, Bool.not_true, Bool.not_false, ne_ii, ne_bb, forL_nil0]
            cases b with
            | int q => rw [isTy_eq, decide_eq_false hlen]; exact same _
            | _ => rw [isTy_not (fun _ _ => by simp)]; exact same _
        | _ =>
          simp only [isTupB, seqM_ev, thenT_nx, thenT_rt, thenT_bk, thenT_ct, thenT_rse, nopM_ev, brkM_ev, cntM_ev, setM_ev, setT_ok, setT_rse, setLM_ev, setLT_ok, dropM_ev, dropT_ok, dropT_rse, retM_ev, retT_ok, retT_rse, ifS_ev, ifT_true, ifT_false, asgM_ev, asgT_ok', optT_some, cM_ev, vM_ev, vR_some, opM_ev, op1_ok, op1_rse, op2_ok, op2_rse, unM_ev, un1_ok, un1_rse, blT_ev, blR_ok, blR_rse, trT_ev, trR_ok, tru_bl, tru_non, tru_tup, tru_int, andT_ev, and1_true, and1_false, orT_ev, or1_true, or1_false, notT_ev, not1_ok, andM_ev, andV_true, andV_false, orM_ev, orV_true, orV_false, ifM_ev, if1_true, if1_false, chM_ev, ch1_ok, ch2_ok, ch3_true, ch3_false, nilA_ev, consA_ev, con1_ok, con1_rse, con2_ok, tupM_ev, tup1_0, tup1_1, tup1_2, tup1_3, tup1_4, szA_ev, sz1_0, sz1_1, sz1_2, sz1_3, sz1_4, sz1_5, sz1_6, sz1_8, sz1_10, newM_ev, new1_ok, onL_ev, onL1_ok, tupL_ev, clM_ev, cl1_rse, cl1_0, cl1_1, cl1_2, cl1_3, cl1_4, cl1_5, putM_ev, putT_ok, putT2_ok, putT3_ok, putT4_some, augM_ev, augT_some, noO_ev, someO_ev, some1_ok, slM_ev, sl1_ok, sl2_ok, sl3_ok, metM_ev, met0_ev, intD0_ev, add_ii, sub_ii, neg_i, lt_ii, le_ii, gt_ii, ge_ii, isN_ev, notN_ev, num_i, num_b, notD_b, isi_bool_bl, len_tup, len_fz, tup_tup, ix_tup0, ix_tup1, ix_tup2, itM_ev, it1_ok, src_tup, src_fz, src_str, fixC_ev, lvI_ev, lv1_ok, rngI_ev, rg1_ok, forM_ev, for1_ok, turnT_nx, turnT_ct, turnT_bk, turnT_rt, turnT_rse, nmG_ev, tupG_ev, consG_ev, nilG_ev, compM_ev, yesT_ev, fn1_nx, fn1_rt, fn1_rse, eq_ii, eq_bb, max_ii, min_ii, slD_tup, List.getElem?_cons_zero, List.getElem?_cons_succ, List.set_cons_zero, List.set_cons_succ, List.map_cons, List.map_nil, List.length_cons, List.length_nil, List.cons_append, List.nil_append, Option.bind_some, decide_true, decide_false, Bool.not_true, Bool.not_false, ne_ii, ne_bb, forL_nil0]
          rw [isTy_not (fun _ _ => by simp)]
          exact same _
      · simp only [isTupB, seqM_ev, thenT_nx, thenT_rt, thenT_bk, thenT_ct, thenT_rse, nopM_ev, brkM_ev, cntM_ev, setM_ev, setT_ok, setT_rse, setLM_ev, setLT_ok, dropM_ev, dropT_ok, dropT_rse, retM_ev, retT_ok, retT_rse, ifS_ev, ifT_true, ifT_false, asgM_ev, asgT_ok', optT_some, cM_ev, vM_ev, vR_some, opM_ev, op1_ok, op1_rse, op2_ok, op2_rse, unM_ev, un1_ok, un1_rse, blT_ev, blR_ok, blR_rse, trT_ev, trR_ok, tru_bl, tru_non, tru_tup, tru_int, andT_ev, and1_true, and1_false, orT_ev, or1_true, or1_false, notT_ev, not1_ok, andM_ev, andV_true, andV_false, orM_ev, orV_true, orV_false, ifM_ev, if1_true, if1_false, chM_ev, ch1_ok, ch2_ok, ch3_true, ch3_false, nilA_ev, consA_ev, con1_ok, con1_rse, con2_ok, tupM_ev, tup1_0, tup1_1, tup1_2, tup1_3, tup1_4, szA_ev, sz1_0, sz1_1, sz1_2, sz1_3, sz1_4, sz1_5, sz1_6, sz1_8, sz1_10, newM_ev, new1_ok, onL_ev, onL1_ok, tupL_ev, clM_ev, cl1_rse, cl1_0, cl1_1, cl1_2, cl1_3, cl1_4, cl1_5, putM_ev, putT_ok, putT2_ok, putT3_ok, putT4_some, augM_ev, augT_some, noO_ev, someO_ev, some1_ok, slM_ev, sl1_ok, sl2_ok, sl3_ok, metM_ev, met0_ev, intD0_ev, add_ii, sub_ii, neg_i, lt_ii, le_ii, gt_ii, ge_ii, isN_ev, notN_ev, num_i, num_b, notD_b, isi_bool_bl, len_tup, len_fz, tup_tup, ix_tup0, ix_tup1, ix_tup2, itM_ev, it1_ok, src_tup, src_fz, src_str, fixC_ev, lvI_ev, lv1_ok, rngI_ev, rg1_ok, forM_ev, for1_ok, turnT_nx, turnT_ct, turnT_bk, turnT_rt, turnT_rse, nmG_ev, tupG_ev, consG_ev, nilG_ev, compM_ev, yesT_ev, fn1_nx, fn1_rt, fn1_rse, eq_ii, eq_bb, max_ii, min_ii, slD_tup, List.getElem?_cons_zero, List.getElem?_cons_succ, List.set_cons_zero, List.set_cons_succ, List.map_cons, List.map_nil, List.length_cons, List.length_nil, List.cons_append, List.nil_append, Option.bind_some, decide_true, decide_false, Bool.not_true, Bool.not_false, ne_ii, ne_bb, forL_nil0, decide_eq_false (show ¬ (l.length : Int) = 2 by omega)]
        rw [isTy_not (fun s q e => h2 (by rw [D.tup.inj e]; rfl))]
        exact same _
    | _ =>
      simp only [isTupB, seqM_ev, thenT_nx, thenT_rt, thenT_bk, thenT_ct, thenT_rse, nopM_ev, brkM_ev, cntM_ev, setM_ev, setT_ok, setT_rse, setLM_ev, setLT_ok, dropM_ev, dropT_ok, dropT_rse, retM_ev, retT_ok, retT_rse, ifS_ev, ifT_true, ifT_false, asgM_ev, asgT_ok', optT_some, cM_ev, vM_ev, vR_some, opM_ev, op1_ok, op1_rse, op2_ok, op2_rse, unM_ev, un1_ok, un1_rse, blT_ev, blR_ok, blR_rse, trT_ev, trR_ok, tru_bl, tru_non, tru_tup, tru_int, andT_ev, and1_true, and1_false, orT_ev, or1_true, or1_false, notT_ev, not1_ok, andM_ev, andV_true, andV_false, orM_ev, orV_true, orV_false, ifM_ev, if1_true, if1_false, chM_ev, ch1_ok, ch2_ok, ch3_true, ch3_false, nilA_ev, consA_ev, con1_ok, con1_rse, con2_ok, tupM_ev, tup1_0, tup1_1, tup1_2, tup1_3, tup1_4, szA_ev, sz1_0, sz1_1, sz1_2, sz1_3, sz1_4, sz1_5, sz1_6, sz1_8, sz1_10, newM_ev, new1_ok, onL_ev, onL1_ok, tupL_ev, clM_ev, cl1_rse, cl1_0, cl1_1, cl1_2, cl1_3, cl1_4, cl1_5, putM_ev, putT_ok, putT2_ok, putT3_ok, putT4_some, augM_ev, augT_some, noO_ev, someO_ev, some1_ok, slM_ev, sl1_ok, sl2_ok, sl3_ok, metM_ev, met0_ev, intD0_ev, add_ii, sub_ii, neg_i, lt_ii, le_ii, gt_ii, ge_ii, isN_ev, notN_ev, num_i, num_b, notD_b, isi_bool_bl, len_tup, len_fz, tup_tup, ix_tup0, ix_tup1, ix_tup2, itM_ev, it1_ok, src_tup, src_fz, src_str, fixC_ev, lvI_ev, lv1_ok, rngI_ev, rg1_ok, forM_ev, for1_ok, turnT_nx, turnT_ct, turnT_bk, turnT_rt, turnT_rse, nmG_ev, tupG_ev, consG_ev, nilG_ev, compM_ev, yesT_ev, fn1_nx, fn1_rt, fn1_rse, eq_ii, eq_bb, max_ii, min_ii, slD_tup, List.getElem?_cons_zero, List.getElem?_cons_succ, List.set_cons_zero, List.set_cons_succ, List.map_cons, List.map_nil, List.length_cons, List.length_nil, List.cons_append, List.nil_append, Option.bind_some, decide_true, decide_false, Bool.not_true, Bool.not_false, ne_ii, ne_bb, forL_nil0]
      rw [isTy_not (fun _ _ => by simp)]
      exact same _
/-! ### drawn types -/
/-- sets of at most two, all the way down -/
def Sm : Nat → D → Prop
  | 0, _ => False
  | n + 1, d => ∃ sets q, d = .tup [.tup sets, .int q] ∧ ∀ s ∈ sets, ∃ l, s = .tup l ∧ l.length ≤ 2 ∧ ∀ t ∈ l, Sm n t
theorem take_yn (src : YNSrc F) {k : Nat} {t : List D} {S : Sto} {n : Nat} {many : Int} (h : CI t S n) (h0 : 0 < many) (h1 : many < 1073741824) : ∃ d S', F (k + 2) .law_take [.obj n, .int many] S = .ok (.int d) S' ∧ 0 ≤ d ∧ d < many ∧ CI t S' n ∧ Kp n S S' := by
  rw [src.law_take]
  exact take_spec (f := F (k + 1) .law_fill) (fun S n h => by rw [src.law_fill]; exact fill_spec h) h h0 h1
def TypeQ (n : Nat) (ks : List Kd) (st : Int) (t : List D) (c : Nat) (S : Sto) (d : D) (S' : Sto) : Prop := isTy n ks st d = true ∧ Sm n d ∧ CI t S' c ∧ Kx c S S'
def SetQ (n : Nat) (ks : List Kd) (st : Int) (most : Nat) (t : List D) (c : Nat) (S : Sto) (d : D) (S' : Sto) : Prop := ∃ l, d = .tup l ∧ (∀ t ∈ l, isTy n ks st t = true ∧ Sm n t) ∧ asc l = true ∧ l.length ≤ most ∧ CI t S' c ∧ Kx c S S'
theorem set_of_type (src : YNSrc F) {k n : Nat} {ks : List Kd} {st : Int} {t : List D} (hn : n ≤ 20)
    (ih : ∀ (S : Sto) (c : Nat), CI t S c → Ends (F (k + 2 * n + 2) .law_type [.obj c, .tup (kds ks), .int st] S) (TypeQ n ks st t c S)) {S : Sto} {c most : Nat} (hm : most ≤ 100) (ci : CI t S c) :
    Ends (F (k + 2 * n + 3) .law_set [.obj c, .tup (kds ks), .int st, .int (most : Int)] S) (SetQ n ks st most t c S) := by
  have hc := ci.lt
  rw [show k + 2 * n + 3 = (k + 2 * n + 2) + 1 from rfl, src.law_set]
  obtain ⟨d, S1, e1, d0, d1, c1, k1⟩ := take_yn src (k := k + 2 * n) (S := S ++ [.lst []]) (many := (most : Int) + 1) (ci.keep fun i hi => get_app (by omega)) (by omega) (by omega)
  have hf1 : S1[S.length]? = some (.lst []) := (k1.at_ _ (by omega)).trans get_new
  have hr : rng1D [.int d] S1 = .ok (upto 0 d.toNat, fixC) S1 := by
    have := rng1_nat (S := S1) (n := d.toNat) (by omega)
    rwa [Int.toNat_of_nonneg d0] at this
  simp only [YN_law_set, fnM_ev, startD, List.replicate, seqM_ev, thenT_nx, thenT_rt, thenT_bk, thenT_ct, thenT_rse, nopM_ev, brkM_ev, cntM_ev, setM_ev, setT_ok, setT_rse, setLM_ev, setLT_ok, dropM_ev, dropT_ok, dropT_rse, retM_ev, retT_ok, retT_rse, ifS_ev, ifT_true, ifT_false, asgM_ev, asgT_ok', optT_some, cM_ev, vM_ev, vR_some, opM_ev, op1_ok, op1_rse, op2_ok, op2_rse, unM_ev, un1_ok, un1_rse, blT_ev, blR_ok, blR_rse, trT_ev, trR_ok, tru_bl, tru_non, tru_tup, tru_int, andT_ev, and1_true, and1_false, orT_ev, or1_true, or1_false, notT_ev, not1_ok, andM_ev, andV_true, andV_false, orM_ev, orV_true, orV_false, ifM_ev, if1_true, if1_false, chM_ev, ch1_ok, ch2_ok, ch3_true, ch3_false, nilA_ev, consA_ev, con1_ok, con1_rse, con2_ok, tupM_ev, tup1_0, tup1_1, tup1_2, tup1_3, tup1_4, szA_ev, sz1_0, sz1_1, sz1_2, sz1_3, sz1_4, sz1_5, sz1_6, sz1_8, sz1_10, newM_ev, new1_ok, onL_ev, onL1_ok, tupL_ev, clM_ev, cl1_rse, cl1_0, cl1_1, cl1_2, cl1_3, cl1_4, cl1_5, putM_ev, putT_ok, putT2_ok, putT3_ok, putT4_some, augM_ev, augT_some, noO_ev, someO_ev, some1_ok, slM_ev, sl1_ok, sl2_ok, sl3_ok, metM_ev, met0_ev, intD0_ev, add_ii, sub_ii, neg_i, lt_ii, le_ii, gt_ii, ge_ii, isN_ev, notN_ev, num_i, num_b, notD_b, isi_bool_bl, len_tup, len_fz, tup_tup, ix_tup0, ix_tup1, ix_tup2, itM_ev, it1_ok, src_tup, src_fz, src_str, fixC_ev, lvI_ev, lv1_ok, rngI_ev, rg1_ok, forM_ev, for1_ok, turnT_nx, turnT_ct, turnT_bk, turnT_rt, turnT_rse, nmG_ev, tupG_ev, consG_ev, nilG_ev, compM_ev, yesT_ev, fn1_nx, fn1_rt, fn1_rse, eq_ii, eq_bb, max_ii, min_ii, slD_tup, List.getElem?_cons_zero, List.getElem?_cons_succ, List.set_cons_zero, List.set_cons_succ, List.map_cons, List.map_nil, List.length_cons, List.length_nil, List.cons_append, List.nil_append, Option.bind_some, decide_true, decide_false, Bool.not_true, Bool.not_false, ne_ii, ne_bb, forL_nil0, e1, hr]
  obtain ⟨e', S', e2, ⟨x5, x6, l, he, hl, hT, hnd, hlen, c2, k2⟩⟩ := for_idx (chk := fixC) (g := nmG 5) (b := YN_law_set_l1 (F (k + 2 * n + 2))) (l := upto 0 d.toNat) (e := [some (.obj c), some (.tup (kds ks)), some (.int st), some (.int (most : Int)), some (.obj S.length), none, none]) (S := S1)
    (I := fun i e S' => ∃ (x5 x6 : Option D) (l : List D), e = [some (.obj c), some (.tup (kds ks)), some (.int st), some (.int (most : Int)), some (.obj S.length), x5, x6] ∧ S'[S.length]? = some (.lst l) ∧ (∀ t ∈ l, isTy n ks st t = true ∧ Sm n t) ∧ l.Nodup ∧ l.length ≤ i ∧ CI t S' c ∧ Kx c S S') (fun _ _ _ _ => rfl)
    ⟨none, none, [], rfl, hf1, by simp, .nil, Nat.le_refl _, c1, Kx.app.trans k1.x⟩ (fun i x e S2 hx hI => by
      obtain ⟨x5, x6, l, rfl, hl, hT, hnd, hlen, c2, k2⟩ := hI
      have hil : i < d.toNat := by
        have := (List.getElem?_eq_some_iff.mp hx).1
        rwa [upto_length] at this
      obtain ⟨ty, S3, e3, t1, t2, c3, k3⟩ := ih S2 c c2
      have hl3 : S3[S.length]? = some (.lst l) := k3.get hl (by omega)
      obtain ⟨p1, p2⟩ := ty_plain t1
      have p3 : plains l = true := plains_iff.mpr fun a ha => (ty_plain (hT a ha).1).1
      have p4 : dpts l ≤ 60 := dpts_le.mpr fun a ha => Nat.le_trans (ty_plain (hT a ha).1).2 (by omega)
      have hni := notIn_l hl3 p1 (by omega) p3 p4
      by_cases hm : ty ∈ l
      · have eB : YN_law_set_l1 (F (k + 2 * n + 2)) [some (.obj c), some (.tup (kds ks)), some (.int st), some (.int (most : Int)), some (.obj S.length), some x, x6] S2 = .nx [some (.obj c), some (.tup (kds ks)), some (.int st), some (.int (most : Int)), some (.obj S.length), some x, some ty] S3 := by
          simp only [seqM_ev, thenT_nx, thenT_rt, thenT_bk, thenT_ct, thenT_rse, nopM_ev, brkM_ev, cntM_ev, setM_ev, setT_ok, setT_rse, setLM_ev, setLT_ok, dropM_ev, dropT_ok, dropT_rse, retM_ev, retT_ok, retT_rse, ifS_ev, ifT_true, ifT_false, asgM_ev, asgT_ok', optT_some, cM_ev, vM_ev, vR_some, opM_ev, op1_ok, op1_rse, op2_ok, op2_rse, unM_ev, un1_ok, un1_rse, blT_ev, blR_ok, blR_rse, trT_ev, trR_ok, tru_bl, tru_non, tru_tup, tru_int, andT_ev, and1_true, and1_false, orT_ev, or1_true, or1_false, notT_ev, not1_ok, andM_ev, andV_true, andV_false, orM_ev, orV_true, orV_false, ifM_ev, if1_true, if1_false, chM_ev, ch1_ok, ch2_ok, ch3_true, ch3_false, nilA_ev, consA_ev, con1_ok, con1_rse, con2_ok, tupM_ev, tup1_0, tup1_1, tup1_2, tup1_3, tup1_4, szA_ev, sz1_0, sz1_1, sz1_2, sz1_3, sz1_4, sz1_5, sz1_6, sz1_8, sz1_10, newM_ev, new1_ok, onL_ev, onL1_ok, tupL_ev, clM_ev, cl1_rse, cl1_0, cl1_1, cl1_2, cl1_3, cl1_4, cl1_5, putM_ev, putT_ok, putT2_ok, putT3_ok, putT4_some, augM_ev, augT_some, noO_ev, someO_ev, some1_ok, slM_ev, sl1_ok, sl2_ok, sl3_ok, metM_ev, met0_ev, intD0_ev, add_ii, sub_ii, neg_i, lt_ii, le_ii, gt_ii, ge_ii, isN_ev, notN_ev, num_i, num_b, notD_b, isi_bool_bl, len_tup, len_fz, tup_tup, ix_tup0, ix_tup1, ix_tup2, itM_ev, it1_ok, src_tup, src_fz, src_str, fixC_ev, lvI_ev, lv1_ok, rngI_ev, rg1_ok, forM_ev, for1_ok, turnT_nx, turnT_ct, turnT_bk, turnT_rt, turnT_rse, nmG_ev, tupG_ev, consG_ev, nilG_ev, compM_ev, yesT_ev, fn1_nx, fn1_rt, fn1_rse, eq_ii, eq_bb, max_ii, min_ii, slD_tup, List.getElem?_cons_zero, List.getElem?_cons_succ, List.set_cons_zero, List.set_cons_succ, List.map_cons, List.map_nil, List.length_cons, List.length_nil, List.cons_append, List.nil_append, Option.bind_some, decide_true, decide_false, Bool.not_true, Bool.not_false, ne_ii, ne_bb, forL_nil0, e3, hni, decide_eq_true hm]
        exact ⟨_, _, _, rfl, .inl eB, _, _, l, rfl, hl3, hT, hnd, by omega, c3, k2.trans k3⟩
      · have eB : YN_law_set_l1 (F (k + 2 * n + 2)) [some (.obj c), some (.tup (kds ks)), some (.int st), some (.int (most : Int)), some (.obj S.length), some x, x6] S2 = .nx [some (.obj c), some (.tup (kds ks)), some (.int st), some (.int (most : Int)), some (.obj S.length), some x, some ty] (S3.set S.length (.lst (l ++ [ty]))) := by
          simp only [seqM_ev, thenT_nx, thenT_rt, thenT_bk, thenT_ct, thenT_rse, nopM_ev, brkM_ev, cntM_ev, setM_ev, setT_ok, setT_rse, setLM_ev, setLT_ok, dropM_ev, dropT_ok, dropT_rse, retM_ev, retT_ok, retT_rse, ifS_ev, ifT_true, ifT_false, asgM_ev, asgT_ok', optT_some, cM_ev, vM_ev, vR_some, opM_ev, op1_ok, op1_rse, op2_ok, op2_rse, unM_ev, un1_ok, un1_rse, blT_ev, blR_ok, blR_rse, trT_ev, trR_ok, tru_bl, tru_non, tru_tup, tru_int, andT_ev, and1_true, and1_false, orT_ev, or1_true, or1_false, notT_ev, not1_ok, andM_ev, andV_true, andV_false, orM_ev, orV_true, orV_false, ifM_ev, if1_true, if1_false, chM_ev, ch1_ok, ch2_ok, ch3_true, ch3_false, nilA_ev, consA_ev, con1_ok, con1_rse, con2_ok, tupM_ev, tup1_0, tup1_1, tup1_2, tup1_3, tup1_4, szA_ev, sz1_0, sz1_1, sz1_2, sz1_3, sz1_4, sz1_5, sz1_6, sz1_8, sz1_10, newM_ev, new1_ok, onL_ev, onL1_ok, tupL_ev, clM_ev, cl1_rse, cl1_0, cl1_1, cl1_2, cl1_3, cl1_4, cl1_5, putM_ev, putT_ok, putT2_ok, putT3_ok, putT4_some, augM_ev, augT_some, noO_ev, someO_ev, some1_ok, slM_ev, sl1_ok, sl2_ok, sl3_ok, metM_ev, met0_ev, intD0_ev, add_ii, sub_ii, neg_i, lt_ii, le_ii, gt_ii, ge_ii, isN_ev, notN_ev, num_i, num_b, notD_b, isi_bool_bl, len_tup, len_fz, tup_tup, ix_tup0, ix_tup1, ix_tup2, itM_ev, it1_ok, src_tup, src_fz, src_str, fixC_ev, lvI_ev, lv1_ok, rngI_ev, rg1_ok, forM_ev, for1_ok, turnT_nx, turnT_ct, turnT_bk, turnT_rt, turnT_rse, nmG_ev, tupG_ev, consG_ev, nilG_ev, compM_ev, yesT_ev, fn1_nx, fn1_rt, fn1_rse, eq_ii, eq_bb, max_ii, min_ii, slD_tup, List.getElem?_cons_zero, List.getElem?_cons_succ, List.set_cons_zero, List.set_cons_succ, List.map_cons, List.map_nil, List.length_cons, List.length_nil, List.cons_append, List.nil_append, Option.bind_some, decide_true, decide_false, Bool.not_true, Bool.not_false, ne_ii, ne_bb, forL_nil0, e3, hni, decide_eq_false hm, met1_lst hl3, app_ok hl3 (show l.length ≤ 1000000 by omega)]
        refine ⟨_, _, _, rfl, .inl eB, _, _, l ++ [ty], rfl, get_set (lt_of_get hl3), fun a ha => ?_, ?_, by simp; omega, c3.keep fun i hi => get_set' (by omega), kx_set (k2.trans k3) (Nat.le_refl _)⟩
        · rcases List.mem_append.mp ha with ha | ha
          · exact hT a ha
          · rw [List.mem_singleton.mp ha]
            exact ⟨t1, t2⟩
        · rw [List.nodup_append]
          exact ⟨hnd, by simp, fun a ha b hb => by rw [List.mem_singleton.mp hb]; exact fun z => hm (z ▸ ha)⟩)
  rw [upto_length] at hlen
  subst he
  rw [e2]
  have hso := ty_sortOk (fun t ht => (hT t ht).1) hn (by omega)
  simp only [seqM_ev, thenT_nx, thenT_rt, thenT_bk, thenT_ct, thenT_rse, nopM_ev, brkM_ev, cntM_ev, setM_ev, setT_ok, setT_rse, setLM_ev, setLT_ok, dropM_ev, dropT_ok, dropT_rse, retM_ev, retT_ok, retT_rse, ifS_ev, ifT_true, ifT_false, asgM_ev, asgT_ok', optT_some, cM_ev, vM_ev, vR_some, opM_ev, op1_ok, op1_rse, op2_ok, op2_rse, unM_ev, un1_ok, un1_rse, blT_ev, blR_ok, blR_rse, trT_ev, trR_ok, tru_bl, tru_non, tru_tup, tru_int, andT_ev, and1_true, and1_false, orT_ev, or1_true, or1_false, notT_ev, not1_ok, andM_ev, andV_true, andV_false, orM_ev, orV_true, orV_false, ifM_ev, if1_true, if1_false, chM_ev, ch1_ok, ch2_ok, ch3_true, ch3_false, nilA_ev, consA_ev, con1_ok, con1_rse, con2_ok, tupM_ev, tup1_0, tup1_1, tup1_2, tup1_3, tup1_4, szA_ev, sz1_0, sz1_1, sz1_2, sz1_3, sz1_4, sz1_5, sz1_6, sz1_8, sz1_10, newM_ev, new1_ok, onL_ev, onL1_ok, tupL_ev, clM_ev, cl1_rse, cl1_0, cl1_1, cl1_2, cl1_3, cl1_4, cl1_5, putM_ev, putT_ok, putT2_ok, putT3_ok, putT4_some, augM_ev, augT_some, noO_ev, someO_ev, some1_ok, slM_ev, sl1_ok, sl2_ok, sl3_ok, metM_ev, met0_ev, intD0_ev, add_ii, sub_ii, neg_i, lt_ii, le_ii, gt_ii, ge_ii, isN_ev, notN_ev, num_i, num_b, notD_b, isi_bool_bl, len_tup, len_fz, tup_tup, ix_tup0, ix_tup1, ix_tup2, itM_ev, it1_ok, src_tup, src_fz, src_str, fixC_ev, lvI_ev, lv1_ok, rngI_ev, rg1_ok, forM_ev, for1_ok, turnT_nx, turnT_ct, turnT_bk, turnT_rt, turnT_rse, nmG_ev, tupG_ev, consG_ev, nilG_ev, compM_ev, yesT_ev, fn1_nx, fn1_rt, fn1_rse, eq_ii, eq_bb, max_ii, min_ii, slD_tup, List.getElem?_cons_zero, List.getElem?_cons_succ, List.set_cons_zero, List.set_cons_succ, List.map_cons, List.map_nil, List.length_cons, List.length_nil, List.cons_append, List.nil_append, Option.bind_some, decide_true, decide_false, Bool.not_true, Bool.not_false, ne_ii, ne_bb, forL_nil0, toA_ev, to1_ok, sort_lst hl hso]
  exact Ends.of ⟨sortL l, rfl, fun a ha => hT a (sortL_mem.mp ha), asc_sort (ty_alikes fun t ht => (hT t ht).1) hnd, by rw [sortL_length]; omega, c2, k2⟩
theorem type_yn (src : YNSrc F) {k : Nat} {st : Int} {t : List D} (h0 : 0 < st) (h1 : st < 1073741824) : ∀ (n : Nat) (ks : List Kd) (S : Sto) (c : Nat), kdeps ks < n → n ≤ 20 → KW ks → CI t S c → Ends (F (k + 2 * n + 2) .law_type [.obj c, .tup (kds ks), .int st] S) (TypeQ n ks st t c S)
  | 0, ks, S, c, hk, hn, hw, ci => by omega
  | n + 1, ks, S, c, hk, hn, hw, ci => by
    rw [show k + 2 * (n + 1) + 2 = (k + 2 * n + 3) + 1 by omega, src.law_type]
    obtain ⟨ys, S1, e1, h2, c1, k1⟩ := cmp1_over (f := Kd.d) (chk := fixC) (g := nmG 3) (own := [3]) (a := clM 4 (F (k + 2 * n + 3) .law_set) (consA (vM 0) (consA (vM 3) (consA (vM 2) (consA (cM (.int 2)) nilA))))) (e := [some (.obj c), some (.tup (kds ks)), some (.int st), none]) (l := ks) (S := S)
      (I := fun S' => CI t S' c ∧ Kx c S S') (Q := fun kd y => ∃ l, y = .tup l ∧ (∀ t ∈ l, isTy n kd.parts st t = true ∧ Sm n t) ∧ asc l = true ∧ l.length ≤ 2) (by have := hw.1; omega) ⟨ci, .refl⟩ (fun _ _ => rfl) (fun kd hkd S' hI => by
        obtain ⟨cI, kI⟩ := hI
        obtain ⟨_, S2, e2, l, rfl, g1, g2, g3, g4, g5⟩ := set_of_type src (k := k) (n := n) (ks := kd.parts) (st := st) (t := t) (by omega) (fun S c ci => type_yn src h0 h1 n kd.parts S c (kdep_part hk hkd) (by omega) (hw.part hkd) ci) (S := S') (c := c) (most := 2) (by decide) cI
        refine ⟨_, .tup l, S2, rfl, ?_, ⟨l, rfl, g1, g2, g3⟩, g4, kI.trans g5⟩
        have e2 : F (k + 2 * n + 3) .law_set [.obj c, .tup (kds kd.parts), .int st, .int 2] S' = .ok (.tup l) S2 := e2
        simp only [wipeD, seqM_ev, thenT_nx, thenT_rt, thenT_bk, thenT_ct, thenT_rse, nopM_ev, brkM_ev, cntM_ev, setM_ev, setT_ok, setT_rse, setLM_ev, setLT_ok, dropM_ev, dropT_ok, dropT_rse, retM_ev, retT_ok, retT_rse, ifS_ev, ifT_true, ifT_false, asgM_ev, asgT_ok', optT_some, cM_ev, vM_ev, vR_some, opM_ev, op1_ok, op1_rse, op2_ok, op2_rse, unM_ev, un1_ok, un1_rse, blT_ev, blR_ok, blR_rse, trT_ev, trR_ok, tru_bl, tru_non, tru_tup, tru_int, andT_ev, and1_true, and1_false, orT_ev, or1_true, or1_false, notT_ev, not1_ok, andM_ev, andV_true, andV_false, orM_ev, orV_true, orV_false, ifM_ev, if1_true, if1_false, chM_ev, ch1_ok, ch2_ok, ch3_true, ch3_false, nilA_ev, consA_ev, con1_ok, con1_rse, con2_ok, tupM_ev, tup1_0, tup1_1, tup1_2, tup1_3, tup1_4, szA_ev, sz1_0, sz1_1, sz1_2, sz1_3, sz1_4, sz1_5, sz1_6, sz1_8, sz1_10, newM_ev, new1_ok, onL_ev, onL1_ok, tupL_ev, clM_ev, cl1_rse, cl1_0, cl1_1, cl1_2, cl1_3, cl1_4, cl1_5, putM_ev, putT_ok, putT2_ok, putT3_ok, putT4_some, augM_ev, augT_some, noO_ev, someO_ev, some1_ok, slM_ev, sl1_ok, sl2_ok, sl3_ok, metM_ev, met0_ev, intD0_ev, add_ii, sub_ii, neg_i, lt_ii, le_ii, gt_ii, ge_ii, isN_ev, notN_ev, num_i, num_b, notD_b, isi_bool_bl, len_tup, len_fz, tup_tup, ix_tup0, ix_tup1, ix_tup2, itM_ev, it1_ok, src_tup, src_fz, src_str, fixC_ev, lvI_ev, lv1_ok, rngI_ev, rg1_ok, forM_ev, for1_ok, turnT_nx, turnT_ct, turnT_bk, turnT_rt, turnT_rse, nmG_ev, tupG_ev, consG_ev, nilG_ev, compM_ev, yesT_ev, fn1_nx, fn1_rt, fn1_rse, eq_ii, eq_bb, max_ii, min_ii, slD_tup, List.getElem?_cons_zero, List.getElem?_cons_succ, List.set_cons_zero, List.set_cons_succ, List.map_cons, List.map_nil, List.length_cons, List.length_nil, List.cons_append, List.nil_append, Option.bind_some, decide_true, decide_false, Bool.not_true, Bool.not_false, ne_ii, ne_bb, forL_nil0, Kd.d_eq, e2])
    obtain ⟨q, S2, e3, q0, q1, c2, k2⟩ := take_yn src (k := k + 2 * n + 1) c1 h0 h1
    have e3 : F (k + 2 * n + 3) .law_take [.obj c, .int st] S1 = .ok (.int q) S2 := e3
    rw [← kds_map] at e1
    simp only [YN_law_type, fnM_ev, startD, List.replicate, seqM_ev, thenT_nx, thenT_rt, thenT_bk, thenT_ct, thenT_rse, nopM_ev, brkM_ev, cntM_ev, setM_ev, setT_ok, setT_rse, setLM_ev, setLT_ok, dropM_ev, dropT_ok, dropT_rse, retM_ev, retT_ok, retT_rse, ifS_ev, ifT_true, ifT_false, asgM_ev, asgT_ok', optT_some, cM_ev, vM_ev, vR_some, opM_ev, op1_ok, op1_rse, op2_ok, op2_rse, unM_ev, un1_ok, un1_rse, blT_ev, blR_ok, blR_rse, trT_ev, trR_ok, tru_bl, tru_non, tru_tup, tru_int, andT_ev, and1_true, and1_false, orT_ev, or1_true, or1_false, notT_ev, not1_ok, andM_ev, andV_true, andV_false, orM_ev, orV_true, orV_false, ifM_ev, if1_true, if1_false, chM_ev, ch1_ok, ch2_ok, ch3_true, ch3_false, nilA_ev, consA_ev, con1_ok, con1_rse, con2_ok, tupM_ev, tup1_0, tup1_1, tup1_2, tup1_3, tup1_4, szA_ev, sz1_0, sz1_1, sz1_2, sz1_3, sz1_4, sz1_5, sz1_6, sz1_8, sz1_10, newM_ev, new1_ok, onL_ev, onL1_ok, tupL_ev, clM_ev, cl1_rse, cl1_0, cl1_1, cl1_2, cl1_3, cl1_4, cl1_5, putM_ev, putT_ok, putT2_ok, putT3_ok, putT4_some, augM_ev, augT_some, noO_ev, someO_ev, some1_ok, slM_ev, sl1_ok, sl2_ok, sl3_ok, metM_ev, met0_ev, intD0_ev, add_ii, sub_ii, neg_i, lt_ii, le_ii, gt_ii, ge_ii, isN_ev, notN_ev, num_i, num_b, notD_b, isi_bool_bl, len_tup, len_fz, tup_tup, ix_tup0, ix_tup1, ix_tup2, itM_ev, it1_ok, src_tup, src_fz, src_str, fixC_ev, lvI_ev, lv1_ok, rngI_ev, rg1_ok, forM_ev, for1_ok, turnT_nx, turnT_ct, turnT_bk, turnT_rt, turnT_rse, nmG_ev, tupG_ev, consG_ev, nilG_ev, compM_ev, yesT_ev, fn1_nx, fn1_rt, fn1_rse, eq_ii, eq_bb, max_ii, min_ii, slD_tup, List.getElem?_cons_zero, List.getElem?_cons_succ, List.set_cons_zero, List.set_cons_succ, List.map_cons, List.map_nil, List.length_cons, List.length_nil, List.cons_append, List.nil_append, Option.bind_some, decide_true, decide_false, Bool.not_true, Bool.not_false, ne_ii, ne_bb, forL_nil0, e1, e3]
    have hlen := h2.length
    refine Ends.of ⟨isTy_iff.mpr ⟨ys, q, rfl, hlen.symm, q0, q1, fun p hp => ?_⟩, ⟨ys, q, rfl, fun s hs => ?_⟩, c2, k1.trans k2.x⟩
    · obtain ⟨i, hi⟩ := List.mem_iff_getElem?.mp hp
      rw [List.getElem?_zip_eq_some] at hi
      obtain ⟨y, hy, l, e, g1, g2, g3⟩ := h2.get hi.1
      rw [hi.2] at hy
      cases hy
      exact ⟨l, e, fun t ht => (g1 t ht).1, g2⟩
    · obtain ⟨i, hi⟩ := List.mem_iff_getElem?.mp hs
      obtain ⟨kd, _, l, e, g1, g2, g3⟩ := h2.get' hi
      exact ⟨l, e, g3, fun t ht => (g1 t ht).2⟩
end
end L3

namespace B
open PySem PySem.Spec L2 L3
inductive Fn where
  | is_type
  | is_set
  | law_start
  | law_fill
  | law_take
  | law_has_all
  | law_has
  | law_is_type
  | law_is_set
  | law_set
  | law_type
  | law_nodes_of
  | law_changed
  | law
noncomputable abbrev b_is_type_l1 (cf cg : Fn → List D → Sto → Rs D) : MS := (ifS (notT (trT (clM 3 (cf .is_set) (consA (opM ixD (vM 0) (vM 3)) (consA (vM 1) (consA (vM 4) nilA)))))) (retM (cM (.bl false)))
    nopM)
noncomputable def b_is_type (cf cg : Fn → List D → Sto → Rs D) : MS := (seqM (ifS (orT (notT (trT (unM (isiD "tuple") (vM 2)))) (orT (blT (opM neD (unM lenD (vM 2)) (cM (.int 2)))) (orT (notT (trT (unM (isiD "tuple") (opM ixD (vM 2) (cM (.int 0)))))) (blT (opM neD (unM lenD (opM ixD (vM 2) (cM (.int 0)))) (unM lenD (vM 0))))))) (retM (cM (.bl false)))
    nopM)
    (seqM (ifS (orT (notT (trT (unM (isiD "int") (opM ixD (vM 2) (cM (.int 1)))))) (orT (trT (unM (isiD "bool") (opM ixD (vM 2) (cM (.int 1))))) (notT (blT (chM leD ltD (cM (.int 0)) (opM ixD (vM 2) (cM (.int 1))) (vM 1)))))) (retM (cM (.bl false)))
    nopM)
    (seqM (forM (itM enumD (opM ixD (vM 2) (cM (.int 0)))) (tupG 2 (consG (nmG 3) (consG (nmG 4) nilG))) (b_is_type_l1 cf cg))
    (retM (cM (.bl true))))))
noncomputable abbrev b_is_set_l1 (cf cg : Fn → List D → Sto → Rs D) : MS := (ifS (notT (trT (clM 3 (cf .is_type) (consA (vM 0) (consA (vM 1) (consA (vM 3) nilA)))))) (retM (cM (.bl false)))
    nopM)
noncomputable abbrev b_is_set_l2 (cf cg : Fn → List D → Sto → Rs D) : MS := (ifS (notT (blT (opM ltxD (opM ixD (vM 2) (opM subD (vM 4) (cM (.int 1)))) (opM ixD (vM 2) (vM 4))))) (retM (cM (.bl false)))
    nopM)
noncomputable def b_is_set (cf cg : Fn → List D → Sto → Rs D) : MS := (seqM (ifS (notT (trT (unM (isiD "tuple") (vM 2)))) (retM (cM (.bl false)))
    nopM)
    (seqM (forM (itM srcD (vM 2)) (nmG 3) (b_is_set_l1 cf cg))
    (seqM (forM (rngI rng2D (consA (cM (.int 1)) (consA (unM lenD (vM 2)) nilA))) (nmG 4) (b_is_set_l2 cf cg))
    (retM (cM (.bl true))))))
noncomputable def b_law_start (cf cg : Fn → List D → Sto → Rs D) : MS := (retM (newM (szA (consA (newM (compM (itM srcD (slM (vM 0) noO (someO (cM (.int 63))))) (nmG 1) [1] yesT (unM numD (vM 1)))) (consA (cM (.int 0)) (consA (cM (.int 0)) (consA (cM (.int 0)) (consA (cM (.int 20)) nilA))))))))
noncomputable def b_law_fill (cf cg : Fn → List D → Sto → Rs D) : MS := (seqM (putM setD (opM addD (opM ixD (vM 0) (cM (.int 3))) (cM (.int 1))) (vM 0) (cM (.int 3)))
    (seqM (setM 1 (opM addD (opM mulD (opM ixD (vM 0) (cM (.int 3))) (cM (.int 69621))) (cM (.int 12345))))
    (seqM (ifS (blT (opM ltD (opM ixD (vM 0) (cM (.int 1))) (unM lenD (opM ixD (vM 0) (cM (.int 0)))))) (seqM (setM 1 (opM ixD (opM ixD (vM 0) (cM (.int 0))) (opM ixD (vM 0) (cM (.int 1)))))
    (seqM (putM setD (opM addD (opM ixD (vM 0) (cM (.int 1))) (cM (.int 1))) (vM 0) (cM (.int 1)))
    (seqM (ifS (blT (opM ltD (vM 1) (cM (.int 0)))) (setM 1 (opM subD (opM subD (cM (.int 0)) (cM (.int 1))) (vM 1)))
    nopM)
    (ifS (blT (opM geD (vM 1) (opM powD (cM (.int 10)) (cM (.int 18))))) (retM (vM 1))
    nopM))))
    nopM)
    (seqM (ifS (andT (trT (opM ixD (vM 0) (cM (.int 0)))) (blT (opM geD (opM ixD (vM 0) (cM (.int 1))) (unM lenD (opM ixD (vM 0) (cM (.int 0))))))) (setM 1 (opM addD (vM 1) (opM modD (unM numD (opM ixD (opM ixD (vM 0) (cM (.int 0))) (unM negD (cM (.int 1))))) (cM (.int 1000003)))))
    nopM)
    (seqM (setM 1 (opM modD (unM numD (opM addD (opM mulD (vM 1) (cM (.int 48271))) (opM mulD (opM ixD (vM 0) (cM (.int 3))) (cM (.int 69621))))) (cM (.int 2147483647))))
    (retM (opM addD (opM fdivD (unM numD (opM addD (opM addD (opM mulD (vM 1) (vM 1)) (opM mulD (opM ixD (vM 0) (cM (.int 3))) (cM (.int 7919)))) (cM (.int 11)))) (cM (.int 64))) (cM (.int 36028797018963968)))))))))
noncomputable def b_law_take (cf cg : Fn → List D → Sto → Rs D) : MS := (seqM (ifS (blT (opM ltD (opM ixD (vM 0) (cM (.int 2))) (vM 1))) (putM setD (clM 1 (cf .law_fill) (consA (vM 0) nilA)) (vM 0) (cM (.int 2)))
    nopM)
    (seqM (setM 2 (opM modD (unM numD (opM ixD (vM 0) (cM (.int 2)))) (vM 1)))
    (seqM (putM setD (opM fdivD (opM ixD (vM 0) (cM (.int 2))) (vM 1)) (vM 0) (cM (.int 2)))
    (retM (vM 2)))))
noncomputable abbrev b_law_has_all_l1 (cf cg : Fn → List D → Sto → Rs D) : MS := (ifS (notT (trT (clM 5 (cf .law_has) (consA (vM 0) (consA (vM 1) (consA (vM 2) (consA (vM 3) (consA (vM 5) nilA)))))))) (retM (cM (.bl false)))
    nopM)
noncomputable def b_law_has_all (cf cg : Fn → List D → Sto → Rs D) : MS := (seqM (forM (itM srcD (vM 4)) (nmG 5) (b_law_has_all_l1 cf cg))
    (retM (cM (.bl true))))
noncomputable abbrev b_law_has_l1 (cf cg : Fn → List D → Sto → Rs D) : MS := (ifS (blT (opM ltD (vM 12) (unM lenD (vM 9)))) (setM 11 (andM (vM 11) (clM 5 (cf .law_has) (consA (vM 0) (consA (vM 1) (consA (vM 2) (consA (opM ixD (vM 9) (vM 12)) (consA (tupM (consA (tupM nilA) (consA (vM 13) nilA))) nilA))))))))
    (setM 11 (andM (vM 11) (opM inD (tupM (consA (tupM nilA) (consA (vM 13) nilA))) (opM ixD (vM 5) (opM subD (vM 12) (unM lenD (vM 9))))))))
noncomputable abbrev b_law_has_l2 (cf cg : Fn → List D → Sto → Rs D) : MS := (seqM (setM 11 (cM (.bl true)))
    (seqM (forM (itM srcD (vM 10)) (tupG 2 (consG (nmG 12) (consG (nmG 13) nilG))) (b_law_has_l1 cf cg))
    (ifS (trT (vM 11)) (retM (cM (.bl true)))
    nopM)))
noncomputable abbrev b_law_has_l3 (cf cg : Fn → List D → Sto → Rs D) : MS := (ifS (andT (trT (vM 11)) (blT (opM ltD (vM 12) (unM lenD (vM 9))))) (setM 11 (clM 5 (cf .law_has_all) (consA (vM 0) (consA (vM 1) (consA (vM 2) (consA (opM ixD (vM 9) (vM 12)) (consA (opM ixD (vM 15) (vM 12)) nilA)))))))
    (ifS (trT (vM 11)) (setM 11 (onL allL (compM (itM srcD (opM ixD (vM 15) (vM 12))) (nmG 16) [16] yesT (opM inD (vM 16) (opM ixD (vM 5) (opM subD (vM 12) (unM lenD (vM 9))))))))
    nopM))
noncomputable abbrev b_law_has_l4 (cf cg : Fn → List D → Sto → Rs D) : MS := (seqM (setM 11 (opM eqD (vM 13) (vM 6)))
    (seqM (forM (rngI rng1D (consA (unM lenD (vM 15)) nilA)) (nmG 12) (b_law_has_l3 cf cg))
    (ifS (trT (vM 11)) (retM (cM (.bl true)))
    nopM)))
noncomputable def b_law_has (cf cg : Fn → List D → Sto → Rs D) : MS := (seqM (asgM (tupG 2 (consG (nmG 5) (consG (nmG 6) nilG))) (vM 4))
    (seqM (asgM (tupG 3 (consG (nmG 7) (consG (nmG 8) (consG (nmG 9) nilG)))) (vM 3))
    (seqM (ifS (blT (opM eqD (vM 7) (cM (.str "sym")))) (seqM (forM (itM srcD (opM ixD (opM ixD (opM ixD (vM 0) (cM (.int 2))) (vM 6)) (vM 8))) (nmG 10) (b_law_has_l2 cf cg))
    (retM (cM (.bl false))))
    nopM)
    (seqM (setM 14 (opM ixD (newM (szA (consA (vM 1) (consA (vM 2) nilA)))) (unM numD (opM eqD (vM 7) (cM (.str "par"))))))
    (seqM (forM (itM srcD (opM ixD (vM 14) (vM 8))) (tupG 2 (consG (nmG 15) (consG (nmG 13) nilG))) (b_law_has_l4 cf cg))
    (retM (cM (.bl false))))))))
noncomputable abbrev b_law_is_type_l1 (cf cg : Fn → List D → Sto → Rs D) : MS := (ifS (notT (trT (clM 3 (cf .law_is_set) (consA (opM ixD (vM 0) (vM 3)) (consA (vM 1) (consA (opM ixD (opM ixD (vM 2) (cM (.int 0))) (vM 3)) nilA)))))) (retM (cM (.bl false)))
    nopM)
noncomputable def b_law_is_type (cf cg : Fn → List D → Sto → Rs D) : MS := (seqM (ifS (orT (notT (trT (unM (isiD "tuple") (vM 2)))) (orT (blT (opM neD (unM lenD (vM 2)) (cM (.int 2)))) (orT (notT (trT (unM (isiD "tuple") (opM ixD (vM 2) (cM (.int 0)))))) (blT (opM neD (unM lenD (opM ixD (vM 2) (cM (.int 0)))) (unM lenD (vM 0))))))) (retM (cM (.bl false)))
    nopM)
    (seqM (ifS (orT (notT (trT (unM (isiD "int") (opM ixD (vM 2) (cM (.int 1)))))) (orT (trT (unM (isiD "bool") (opM ixD (vM 2) (cM (.int 1))))) (orT (blT (opM ltD (opM ixD (vM 2) (cM (.int 1))) (cM (.int 0)))) (blT (opM geD (opM ixD (vM 2) (cM (.int 1))) (vM 1)))))) (retM (cM (.bl false)))
    nopM)
    (seqM (forM (rngI rng1D (consA (unM lenD (vM 0)) nilA)) (nmG 3) (b_law_is_type_l1 cf cg))
    (retM (cM (.bl true))))))
noncomputable def b_law_is_set (cf cg : Fn → List D → Sto → Rs D) : MS := (seqM (ifS (orT (notT (trT (unM (isiD "tuple") (vM 2)))) (notT (trT (onL allL (compM (itM srcD (vM 2)) (nmG 3) [3] yesT (clM 3 (cf .law_is_type) (consA (vM 0) (consA (vM 1) (consA (vM 3) nilA))))))))) (retM (cM (.bl false)))
    nopM)
    (retM (andM (opM eqD (newM (toA lstD (vM 2))) (newM (toA sortD (vM 2)))) (opM eqD (unM lenD (newM (compM (rngI rng2D (consA (cM (.int 1)) (consA (unM lenD (vM 2)) nilA))) (nmG 4) [4] (blT (opM eqD (opM ixD (vM 2) (vM 4)) (opM ixD (vM 2) (opM subD (vM 4) (cM (.int 1)))))) (vM 4)))) (cM (.int 0))))))
noncomputable abbrev b_law_set_l1 (cf cg : Fn → List D → Sto → Rs D) : MS := (seqM (setM 6 (clM 3 (cf .law_type) (consA (vM 0) (consA (vM 1) (consA (vM 2) nilA)))))
    (ifS (blT (opM notInD (vM 6) (vM 4))) (dropM (metM isLst appD (vM 4) (vM 6)))
    nopM))
noncomputable def b_law_set (cf cg : Fn → List D → Sto → Rs D) : MS := (seqM (setM 4 (newM (szA nilA)))
    (seqM (forM (rngI rng1D (consA (clM 2 (cf .law_take) (consA (vM 0) (consA (opM addD (vM 3) (cM (.int 1))) nilA))) nilA)) (nmG 5) (b_law_set_l1 cf cg))
    (retM (onL tupL (toA sortD (vM 4))))))
noncomputable def b_law_type (cf cg : Fn → List D → Sto → Rs D) : MS := (retM (tupM (consA (onL tupL (compM (itM srcD (vM 1)) (nmG 3) [3] yesT (clM 4 (cf .law_set) (consA (vM 0) (consA (vM 3) (consA (vM 2) (consA (cM (.int 2)) nilA))))))) (consA (clM 2 (cf .law_take) (consA (vM 0) (consA (vM 2) nilA))) nilA))))
noncomputable abbrev b_law_nodes_of_l1 (cf cg : Fn → List D → Sto → Rs D) : MS := (dropM (clM 2 (cf .law_nodes_of) (consA (vM 2) (consA (vM 1) nilA))))
noncomputable def b_law_nodes_of (cf cg : Fn → List D → Sto → Rs D) : MS := (seqM (dropM (metM isLst appD (vM 1) (vM 0)))
    (seqM (ifS (trT (unM (isiD "tuple") (vM 0))) (forM (itM srcD (vM 0)) (nmG 2) (b_law_nodes_of_l1 cf cg))
    nopM)
    (retM (vM 1))))
noncomputable def b_law_changed (cf cg : Fn → List D → Sto → Rs D) : MS := (seqM (putM setD (opM subD (opM ixD (vM 1) (cM (.int 0))) (cM (.int 1))) (vM 1) (cM (.int 0)))
    (seqM (ifS (blT (opM eqD (opM ixD (vM 1) (cM (.int 0))) (cM (.int 0)))) (retM (vM 2))
    nopM)
    (seqM (ifS (notT (trT (unM (isiD "tuple") (vM 0)))) (retM (vM 0))
    nopM)
    (retM (onL tupL (compM (itM srcD (vM 0)) (nmG 3) [3] yesT (clM 3 (cf .law_changed) (consA (vM 3) (consA (vM 1) (consA (vM 2) nilA))))))))))
noncomputable abbrev b_law_l1 (cf cg : Fn → List D → Sto → Rs D) : MS := (seqM (setM 6 (clM 2 (cf .law_nodes_of) (consA (vM 4) (consA (newM (szA nilA)) nilA))))
    (seqM (setM 7 (clM 2 (cf .law_take) (consA (vM 1) (consA (unM lenD (vM 6)) nilA))))
    (seqM (setM 8 (opM ixD (vM 6) (vM 7)))
    (seqM (setM 9 (newM (szA (consA (opM ixD (vM 6) (clM 2 (cf .law_take) (consA (vM 1) (consA (unM lenD (vM 6)) nilA)))) (consA (cM .non) (consA (opM subD (cM (.int 0)) (cM (.int 1))) (consA (vM 3) (consA (tupM nilA) (consA (cM (.str "a")) (consA (tupM (consA (tupM nilA) (consA (cM (.int 0)) nilA))) (consA (clM 3 (cf .law_type) (consA (vM 1) (consA (tupM nilA) (consA (vM 3) nilA)))) (consA (cM (.bl true)) (consA (cM (.bl false)) nilA)))))))))))))
    (seqM (setM 10 (opM ixD (vM 9) (clM 2 (cf .law_take) (consA (vM 1) (consA (cM (.int 10)) nilA)))))
    (seqM (ifS (andT (trT (unM (isiD "tuple") (vM 8))) (blT (opM eqD (clM 2 (cf .law_take) (consA (vM 1) (consA (cM (.int 2)) nilA))) (cM (.int 0))))) (setM 10 (opM ixD (newM (szA (consA (unM revD (vM 8)) (consA (opM addD (vM 8) (slM (vM 8) noO (someO (cM (.int 1))))) (consA (slM (vM 8) (someO (cM (.int 1))) noO) (consA (opM addD (slM (vM 8) noO (someO (cM (.int 1)))) (vM 8)) nilA)))))) (clM 2 (cf .law_take) (consA (vM 1) (consA (cM (.int 4)) nilA)))))
    nopM)
    (seqM (setM 11 (clM 3 (cf .law_changed) (consA (vM 4) (consA (newM (szA (consA (opM addD (vM 7) (cM (.int 1))) nilA))) (consA (vM 10) nilA)))))
    (ifS (blT (opM neD (clM 3 (cf .is_type) (consA (vM 2) (consA (vM 3) (consA (vM 11) nilA)))) (clM 3 (cf .law_is_type) (consA (vM 2) (consA (vM 3) (consA (vM 11) nilA)))))) (retM (cM (.bl false)))
    nopM))))))))
noncomputable def b_law (cf cg : Fn → List D → Sto → Rs D) : MS := (seqM (setM 1 (clM 1 (cf .law_start) (consA (vM 0) nilA)))
    (seqM (setM 2 (opM ixD (newM (szA (consA (tupM nilA) (consA (tupM (consA (tupM nilA) nilA)) (consA (tupM (consA (tupM nilA) (consA (tupM nilA) nilA))) (consA (tupM (consA (tupM (consA (tupM nilA) nilA)) nilA)) (consA (tupM (consA (tupM nilA) (consA (tupM (consA (tupM nilA) nilA)) nilA))) (consA (tupM (consA (tupM (consA (tupM nilA) (consA (tupM nilA) nilA))) (consA (tupM nilA) nilA))) (consA (tupM (consA (tupM (consA (tupM (consA (tupM nilA) nilA)) nilA)) nilA)) (consA (tupM (consA (tupM nilA) (consA (tupM (consA (tupM (consA (tupM nilA) nilA)) nilA)) nilA))) nilA)))))))))) (clM 2 (cf .law_take) (consA (vM 1) (consA (cM (.int 8)) nilA)))))
    (seqM (setM 3 (opM addD (cM (.int 1)) (clM 2 (cf .law_take) (consA (vM 1) (consA (cM (.int 3)) nilA)))))
    (seqM (setM 4 (clM 3 (cf .law_type) (consA (vM 1) (consA (vM 2) (consA (vM 3) nilA)))))
    (seqM (ifS (blT (opM notBD (clM 3 (cf .is_type) (consA (vM 2) (consA (vM 3) (consA (vM 4) nilA)))) (cM (.bl true)))) (retM (cM (.bl false)))
    nopM)
    (seqM (forM (rngI rng1D (consA (cM (.int 4)) nilA)) (nmG 5) (b_law_l1 cf cg))
    (retM (cM (.bl true)))))))))
noncomputable def bodyOf (cf cg : Fn → List D → Sto → Rs D) : Fn → List D → Sto → Rs D
  | .is_type => fnM 5 (b_is_type cf cg)
  | .is_set => fnM 5 (b_is_set cf cg)
  | .law_start => fnM 2 (b_law_start cf cg)
  | .law_fill => fnM 2 (b_law_fill cf cg)
  | .law_take => fnM 3 (b_law_take cf cg)
  | .law_has_all => fnM 6 (b_law_has_all cf cg)
  | .law_has => fnM 17 (b_law_has cf cg)
  | .law_is_type => fnM 4 (b_law_is_type cf cg)
  | .law_is_set => fnM 5 (b_law_is_set cf cg)
  | .law_set => fnM 7 (b_law_set cf cg)
  | .law_type => fnM 4 (b_law_type cf cg)
  | .law_nodes_of => fnM 3 (b_law_nodes_of cf cg)
  | .law_changed => fnM 4 (b_law_changed cf cg)
  | .law => fnM 12 (b_law cf cg)
noncomputable def mf2 : Nat → (Fn → List D → Sto → Rs D) × (Fn → List D → Sto → Rs D)
  | 0 => (fun _ _ _ => .bad, fun _ _ _ => .bad)
  | k + 1 => (bodyOf (mf2 k).1 (mf2 k).2, (mf2 k).1)
noncomputable abbrev mf (k : Nat) : Fn → List D → Sto → Rs D := (mf2 k).1
theorem mf_is_type (k : Nat) : mf (k + 1) .is_type = fnM 5 (b_is_type (mf k) (mf2 k).2) := rfl
theorem mf_is_set (k : Nat) : mf (k + 1) .is_set = fnM 5 (b_is_set (mf k) (mf2 k).2) := rfl
theorem mf_law_start (k : Nat) : mf (k + 1) .law_start = fnM 2 (b_law_start (mf k) (mf2 k).2) := rfl
theorem mf_law_fill (k : Nat) : mf (k + 1) .law_fill = fnM 2 (b_law_fill (mf k) (mf2 k).2) := rfl
theorem mf_law_take (k : Nat) : mf (k + 1) .law_take = fnM 3 (b_law_take (mf k) (mf2 k).2) := rfl
theorem mf_law_has_all (k : Nat) : mf (k + 1) .law_has_all = fnM 6 (b_law_has_all (mf k) (mf2 k).2) := rfl
theorem mf_law_has (k : Nat) : mf (k + 1) .law_has = fnM 17 (b_law_has (mf k) (mf2 k).2) := rfl
theorem mf_law_is_type (k : Nat) : mf (k + 1) .law_is_type = fnM 4 (b_law_is_type (mf k) (mf2 k).2) := rfl
theorem mf_law_is_set (k : Nat) : mf (k + 1) .law_is_set = fnM 5 (b_law_is_set (mf k) (mf2 k).2) := rfl
theorem mf_law_set (k : Nat) : mf (k + 1) .law_set = fnM 7 (b_law_set (mf k) (mf2 k).2) := rfl
theorem mf_law_type (k : Nat) : mf (k + 1) .law_type = fnM 4 (b_law_type (mf k) (mf2 k).2) := rfl
theorem mf_law_nodes_of (k : Nat) : mf (k + 1) .law_nodes_of = fnM 3 (b_law_nodes_of (mf k) (mf2 k).2) := rfl
theorem mf_law_changed (k : Nat) : mf (k + 1) .law_changed = fnM 4 (b_law_changed (mf k) (mf2 k).2) := rfl
theorem mf_law (k : Nat) : mf (k + 1) .law = fnM 12 (b_law (mf k) (mf2 k).2) := rfl
def arity : Fn → Nat
  | .is_type => 3
  | .is_set => 3
  | .law_start => 1
  | .law_fill => 1
  | .law_take => 2
  | .law_has_all => 5
  | .law_has => 5
  | .law_is_type => 3
  | .law_is_set => 3
  | .law_set => 4
  | .law_type => 3
  | .law_nodes_of => 2
  | .law_changed => 3
  | .law => 1
def topS (i : Nat) : Stmt := PySem.Challenge.pw_burgeon_k14_types_of_kinds.main.body.getD i (.Pass ⟨0, 0, 0, 0⟩)
abbrev s_is_type : Stmt := topS 1
abbrev s_is_set : Stmt := topS 2
abbrev s_law_start : Stmt := topS 4
abbrev s_law_fill : Stmt := topS 5
abbrev s_law_take : Stmt := topS 6
abbrev s_law_has_all : Stmt := topS 7
abbrev s_law_has : Stmt := topS 8
abbrev s_law_is_type : Stmt := topS 9
abbrev s_law_is_set : Stmt := topS 10
abbrev s_law_set : Stmt := topS 11
abbrev s_law_type : Stmt := topS 12
abbrev s_law_nodes_of : Stmt := topS 13
abbrev s_law_changed : Stmt := topS 14
abbrev s_law : Stmt := topS 15
theorem sc_is_type : FnScope ["kind", "states", "ty", "k", "part"] ["kind", "states", "ty"] (defScope s_is_type) := ⟨rfl, rfl, rfl, by decide +kernel, rfl, by decide +kernel, by decide +kernel⟩
theorem sc_is_set : FnScope ["kind", "states", "types", "ty", "k"] ["kind", "states", "types"] (defScope s_is_set) := ⟨rfl, rfl, rfl, by decide +kernel, rfl, by decide +kernel, by decide +kernel⟩
theorem sc_law_start : FnScope ["script", "cell"] ["script"] (defScope s_law_start) := ⟨rfl, rfl, rfl, by decide +kernel, rfl, by decide +kernel, by decide +kernel⟩
theorem sc_law_fill : FnScope ["c", "number"] ["c"] (defScope s_law_fill) := ⟨rfl, rfl, rfl, by decide +kernel, rfl, by decide +kernel, by decide +kernel⟩
theorem sc_law_take : FnScope ["c", "many", "digit"] ["c", "many"] (defScope s_law_take) := ⟨rfl, rfl, rfl, by decide +kernel, rfl, by decide +kernel, by decide +kernel⟩
theorem sc_law_has_all : FnScope ["a", "env", "sets", "term", "types", "one"] ["a", "env", "sets", "term", "types"] (defScope s_law_has_all) := ⟨rfl, rfl, rfl, by decide +kernel, rfl, by decide +kernel, by decide +kernel⟩
theorem sc_law_has : FnScope ["a", "env", "sets", "term", "ty", "wanted", "q", "head", "number", "parts", "way", "good", "i", "p", "rows", "own", "one"] ["a", "env", "sets", "term", "ty"] (defScope s_law_has) := ⟨rfl, rfl, rfl, by decide +kernel, rfl, by decide +kernel, by decide +kernel⟩
theorem sc_law_is_type : FnScope ["kind", "states", "ty", "k"] ["kind", "states", "ty"] (defScope s_law_is_type) := ⟨rfl, rfl, rfl, by decide +kernel, rfl, by decide +kernel, by decide +kernel⟩
theorem sc_law_is_set : FnScope ["kind", "states", "one", "ty", "k"] ["kind", "states", "one"] (defScope s_law_is_set) := ⟨rfl, rfl, rfl, by decide +kernel, rfl, by decide +kernel, by decide +kernel⟩
theorem sc_law_set : FnScope ["c", "kind", "states", "most", "found", "k", "ty"] ["c", "kind", "states", "most"] (defScope s_law_set) := ⟨rfl, rfl, rfl, by decide +kernel, rfl, by decide +kernel, by decide +kernel⟩
theorem sc_law_type : FnScope ["c", "kind", "states", "part"] ["c", "kind", "states"] (defScope s_law_type) := ⟨rfl, rfl, rfl, by decide +kernel, rfl, by decide +kernel, by decide +kernel⟩
theorem sc_law_nodes_of : FnScope ["value", "found", "part"] ["value", "found"] (defScope s_law_nodes_of) := ⟨rfl, rfl, rfl, by decide +kernel, rfl, by decide +kernel, by decide +kernel⟩
theorem sc_law_changed : FnScope ["value", "box", "other", "part"] ["value", "box", "other"] (defScope s_law_changed) := ⟨rfl, rfl, rfl, by decide +kernel, rfl, by decide +kernel, by decide +kernel⟩
theorem sc_law : FnScope ["script", "c", "kind", "states", "ty", "k", "found", "at", "one", "menu", "other", "changed"] ["script"] (defScope s_law) := ⟨rfl, rfl, rfl, by decide +kernel, rfl, by decide +kernel, by decide +kernel⟩
def psOf : Fn → List Str
  | .is_type => ["kind", "states", "ty"]
  | .is_set => ["kind", "states", "types"]
  | .law_start => ["script"]
  | .law_fill => ["c"]
  | .law_take => ["c", "many"]
  | .law_has_all => ["a", "env", "sets", "term", "types"]
  | .law_has => ["a", "env", "sets", "term", "ty"]
  | .law_is_type => ["kind", "states", "ty"]
  | .law_is_set => ["kind", "states", "one"]
  | .law_set => ["c", "kind", "states", "most"]
  | .law_type => ["c", "kind", "states"]
  | .law_nodes_of => ["value", "found"]
  | .law_changed => ["value", "box", "other"]
  | .law => ["script"]
structure Txt (K : PySem.W.Frag) (mg : Str → Option Value) (fa : Fn → Addr) (fdt : Fn → FuncData) (ca : Nat → Addr) : Prop where
  f_is_type : Fun K "is_type" "is_type" s_is_type (fa .is_type) (fdt .is_type)
  b_is_type : Binds K (fdt .is_type) ["kind", "states", "ty"] []
  g_is_type : mg "is_type" = some (.ref (fa .is_type))
  f_is_set : Fun K "is_set" "is_set" s_is_set (fa .is_set) (fdt .is_set)
  b_is_set : Binds K (fdt .is_set) ["kind", "states", "types"] []
  g_is_set : mg "is_set" = some (.ref (fa .is_set))
  f_law_start : Fun K "_law_start" "_law_start" s_law_start (fa .law_start) (fdt .law_start)
  b_law_start : Binds K (fdt .law_start) ["script"] []
  g_law_start : mg "_law_start" = some (.ref (fa .law_start))
  f_law_fill : Fun K "_law_fill" "_law_fill" s_law_fill (fa .law_fill) (fdt .law_fill)
  b_law_fill : Binds K (fdt .law_fill) ["c"] []
  g_law_fill : mg "_law_fill" = some (.ref (fa .law_fill))
  f_law_take : Fun K "_law_take" "_law_take" s_law_take (fa .law_take) (fdt .law_take)
  b_law_take : Binds K (fdt .law_take) ["c", "many"] []
  g_law_take : mg "_law_take" = some (.ref (fa .law_take))
  f_law_has_all : Fun K "_law_has_all" "_law_has_all" s_law_has_all (fa .law_has_all) (fdt .law_has_all)
  b_law_has_all : Binds K (fdt .law_has_all) ["a", "env", "sets", "term", "types"] []
  g_law_has_all : mg "_law_has_all" = some (.ref (fa .law_has_all))
  f_law_has : Fun K "_law_has" "_law_has" s_law_has (fa .law_has) (fdt .law_has)
  b_law_has : Binds K (fdt .law_has) ["a", "env", "sets", "term", "ty"] []
  g_law_has : mg "_law_has" = some (.ref (fa .law_has))
  f_law_is_type : Fun K "_law_is_type" "_law_is_type" s_law_is_type (fa .law_is_type) (fdt .law_is_type)
  b_law_is_type : Binds K (fdt .law_is_type) ["kind", "states", "ty"] []
  g_law_is_type : mg "_law_is_type" = some (.ref (fa .law_is_type))
  f_law_is_set : Fun K "_law_is_set" "_law_is_set" s_law_is_set (fa .law_is_set) (fdt .law_is_set)
  b_law_is_set : Binds K (fdt .law_is_set) ["kind", "states", "one"] []
  g_law_is_set : mg "_law_is_set" = some (.ref (fa .law_is_set))
  f_law_set : Fun K "_law_set" "_law_set" s_law_set (fa .law_set) (fdt .law_set)
  b_law_set : Binds K (fdt .law_set) ["c", "kind", "states", "most"] []
  g_law_set : mg "_law_set" = some (.ref (fa .law_set))
  f_law_type : Fun K "_law_type" "_law_type" s_law_type (fa .law_type) (fdt .law_type)
  b_law_type : Binds K (fdt .law_type) ["c", "kind", "states"] []
  g_law_type : mg "_law_type" = some (.ref (fa .law_type))
  f_law_nodes_of : Fun K "_law_nodes_of" "_law_nodes_of" s_law_nodes_of (fa .law_nodes_of) (fdt .law_nodes_of)
  b_law_nodes_of : Binds K (fdt .law_nodes_of) ["value", "found"] []
  g_law_nodes_of : mg "_law_nodes_of" = some (.ref (fa .law_nodes_of))
  f_law_changed : Fun K "_law_changed" "_law_changed" s_law_changed (fa .law_changed) (fdt .law_changed)
  b_law_changed : Binds K (fdt .law_changed) ["value", "box", "other"] []
  g_law_changed : mg "_law_changed" = some (.ref (fa .law_changed))
  f_law : Fun K "law" "law" s_law (fa .law) (fdt .law)
  b_law : Binds K (fdt .law) ["script"] []
  g_law : mg "law" = some (.ref (fa .law))
  n_all : mg "all" = none
  n_bool : mg "bool" = none
  n_enumerate : mg "enumerate" = none
  n_int : mg "int" = none
  n_isinstance : mg "isinstance" = none
  n_len : mg "len" = none
  n_list : mg "list" = none
  n_range : mg "range" = none
  n_sorted : mg "sorted" = none
  n_tuple : mg "tuple" = none
section
variable {P : Program} {w : World} {K : PySem.W.Frag} {mg : Str → Option Value} {base : Heap} {fa : Fn → Addr} {fdt : Fn → FuncData} {ca : Nat → Addr} {k : Nat} {cf cg : Fn → List D → Sto → Rs D}
theorem ok_is_type (T : Txt K mg fa fdt ca) (ih : ∀ g, FnOk P w K mg base (L2.CX P w) (k + 1) (fa g) (fdt g) (psOf g) (spM K ca (arity g) (cf g))) (ih2 : ∀ g, FnOk P w K mg base (L2.CX P w) k (fa g) (fdt g) (psOf g) (spM K ca (arity g) (cg g))) : FnOk P w K mg base (L2.CX P w) (k + 2) (fa .is_type) (fdt .is_type) (psOf .is_type) (spM K ca 3 (fnM 5 (b_is_type cf cg))) :=
  def_ok T.f_is_type sc_is_type rfl fun cdv A outer s H E hr =>
    (bv_cons (sv_if (tv_w (wv_or (tv_not (tv_tr (ev_isi (n := "tuple") (by rfl) T.n_isinstance (by rfl) T.n_tuple PyProof.Rows.boot_tuple (ev_v 2)))) (wv_or (tv_cmp (op_neD hr.units) ok_neD (ev_len (by rfl) T.n_len (ev_v 2)) ev_int (nomark _)) (wv_or (tv_not (tv_tr (ev_isi (n := "tuple") (by rfl) T.n_isinstance (by rfl) T.n_tuple PyProof.Rows.boot_tuple (ev_at (ev_v 2) ev_int)))) (wv_or1 (tv_cmp (op_neD hr.units) ok_neD (ev_len (by rfl) T.n_len (ev_at (ev_v 2) ev_int)) (ev_len (by rfl) T.n_len (ev_v 0)) (nomark _))))))) (bv_one (sv_ret ev_bl))
      bv_nil)
      (bv_cons (sv_if (tv_w (wv_or (tv_not (tv_tr (ev_isi (n := "int") (by rfl) T.n_isinstance (by rfl) T.n_int PyProof.Rows.boot_int (ev_at (ev_v 2) ev_int)))) (wv_or (tv_tr (ev_isi (n := "bool") (by rfl) T.n_isinstance (by rfl) T.n_bool PyProof.Rows.boot_bool (ev_at (ev_v 2) ev_int))) (wv_or1 (tv_not (tv_chain op_le op_lt ok_le ok_lt ev_int (ev_at (ev_v 2) ev_int) (ev_v 1))))))) (bv_one (sv_ret ev_bl))
      bv_nil)
      (bv_cons (sv_for (passes_of rfl) rfl (iv_enum (by rfl) T.n_enumerate (ev_at (ev_v 2) ev_int)) (gv_tup rfl (gvs_cons (gv_name sc_is_type.nd rfl (by first | exact Or.inl rfl | exact Or.inr rfl)) (gvs_cons (gv_name sc_is_type.nd rfl (by first | exact Or.inl rfl | exact Or.inr rfl)) gvs_nil)))
      (bv_one (sv_if (tv_not (tv_tr (ev_call (ih .is_set) hr (by rfl) T.g_is_set T.f_is_set.kp T.b_is_set (av_cons (ev_at (ev_v 0) (ev_v 3)) (av_cons (ev_v 1) (av_cons (ev_v 4) av_nil)))))) (bv_one (sv_ret ev_bl))
      bv_nil)))
      (bv_one (sv_ret ev_bl)))))
theorem ok_is_set (T : Txt K mg fa fdt ca) (ih : ∀ g, FnOk P w K mg base (L2.CX P w) (k + 1) (fa g) (fdt g) (psOf g) (spM K ca (arity g) (cf g))) (ih2 : ∀ g, FnOk P w K mg base (L2.CX P w) k (fa g) (fdt g) (psOf g) (spM K ca (arity g) (cg g))) : FnOk P w K mg base (L2.CX P w) (k + 2) (fa .is_set) (fdt .is_set) (psOf .is_set) (spM K ca 3 (fnM 5 (b_is_set cf cg))) :=
  def_ok T.f_is_set sc_is_set rfl fun cdv A outer s H E hr =>
    (bv_cons (sv_if (tv_not (tv_tr (ev_isi (n := "tuple") (by rfl) T.n_isinstance (by rfl) T.n_tuple PyProof.Rows.boot_tuple (ev_v 2)))) (bv_one (sv_ret ev_bl))
      bv_nil)
      (bv_cons (sv_for (passes_of rfl) rfl (iv_any (ev_v 2)) (gv_name sc_is_set.nd rfl (by first | exact Or.inl rfl | exact Or.inr rfl))
      (bv_one (sv_if (tv_not (tv_tr (ev_call (ih .is_type) hr (by rfl) T.g_is_type T.f_is_type.kp T.b_is_type (av_cons (ev_v 0) (av_cons (ev_v 1) (av_cons (ev_v 3) av_nil)))))) (bv_one (sv_ret ev_bl))
      bv_nil)))
      (bv_cons (sv_for (passes_of rfl) rfl (iv_rng2 (by rfl) T.n_range (av_cons ev_int (av_cons (ev_len (by rfl) T.n_len (ev_v 2)) av_nil))) (gv_name sc_is_set.nd rfl (by first | exact Or.inl rfl | exact Or.inr rfl))
      (bv_one (sv_if (tv_not (tv_cmp (op_ltD (un65 hr)) ok_ltx (ev_at (ev_v 2) (ev_sub (ev_v 4) ev_int)) (ev_at (ev_v 2) (ev_v 4)) (nomark _))) (bv_one (sv_ret ev_bl))
      bv_nil)))
      (bv_one (sv_ret ev_bl)))))
theorem ok_law_start (T : Txt K mg fa fdt ca) (ih : ∀ g, FnOk P w K mg base (L2.CX P w) (k + 1) (fa g) (fdt g) (psOf g) (spM K ca (arity g) (cf g))) (ih2 : ∀ g, FnOk P w K mg base (L2.CX P w) k (fa g) (fdt g) (psOf g) (spM K ca (arity g) (cg g))) : FnOk P w K mg base (L2.CX P w) (k + 2) (fa .law_start) (fdt .law_start) (psOf .law_start) (spM K ca 1 (fnM 2 (b_law_start cf cg))) :=
  def_ok T.f_law_start sc_law_start rfl fun cdv A outer s H E hr =>
    (bv_one (sv_ret (ev_new (lv_lst (av_cons (ev_new (lv_comp rfl sc_law_start.nd (iv_any (ev_slice (ev_v 0) ov_none (ov_some ev_int))) (blkOk_by (N := ["script", "cell"]) (sc := defScope s_law_start) (own := [("cell", 1)]) (by decide +kernel)) (fun _ _ _ _ _ => (gv_name sc_law_start.nd rfl (by first | exact Or.inl rfl | exact Or.inr rfl))) (fun _ _ _ _ _ => tsv_nil) (fun _ _ _ _ _ => (ev_num (by rfl) T.n_int (ev_v 1))))) (av_cons ev_int (av_cons ev_int (av_cons ev_int (av_cons ev_int av_nil)))))))))
theorem ok_law_fill (T : Txt K mg fa fdt ca) (ih : ∀ g, FnOk P w K mg base (L2.CX P w) (k + 1) (fa g) (fdt g) (psOf g) (spM K ca (arity g) (cf g))) (ih2 : ∀ g, FnOk P w K mg base (L2.CX P w) k (fa g) (fdt g) (psOf g) (spM K ca (arity g) (cg g))) : FnOk P w K mg base (L2.CX P w) (k + 2) (fa .law_fill) (fdt .law_fill) (psOf .law_fill) (spM K ca 1 (fnM 2 (b_law_fill cf cg))) :=
  def_ok T.f_law_fill sc_law_fill rfl fun cdv A outer s H E hr =>
    (bv_cons (sv_put (ev_add (ev_at (ev_v 0) ev_int) ev_int) (ev_v 0) ev_int set_list ok_setL)
      (bv_cons (sv_set (i := 1) sc_law_fill.nd rfl (by first | exact Or.inl rfl | exact Or.inr rfl) (ev_add (ev_mul (ev_at (ev_v 0) ev_int) ev_int) ev_int))
      (bv_cons (sv_if (tv_cmp op_lt ok_lt (ev_at (ev_v 0) ev_int) (ev_len (by rfl) T.n_len (ev_at (ev_v 0) ev_int)) (nomark _)) (bv_cons (sv_set (i := 1) sc_law_fill.nd rfl (by first | exact Or.inl rfl | exact Or.inr rfl) (ev_at (ev_at (ev_v 0) ev_int) (ev_at (ev_v 0) ev_int)))
      (bv_cons (sv_put (ev_add (ev_at (ev_v 0) ev_int) ev_int) (ev_v 0) ev_int set_list ok_setL)
      (bv_cons (sv_if (tv_cmp op_lt ok_lt (ev_v 1) ev_int (nomark _)) (bv_one (sv_set (i := 1) sc_law_fill.nd rfl (by first | exact Or.inl rfl | exact Or.inr rfl) (ev_sub (ev_sub ev_int ev_int) (ev_v 1))))
      bv_nil)
      (bv_one (sv_if (tv_cmp op_ge ok_ge (ev_v 1) (ev_pow ev_int ev_int) (nomark _)) (bv_one (sv_ret (ev_v 1)))
      bv_nil)))))
      bv_nil)
      (bv_cons (sv_if (tv_w (wv_and (tv_tr (ev_at (ev_v 0) ev_int)) (wv_and1 (tv_cmp op_ge ok_ge (ev_at (ev_v 0) ev_int) (ev_len (by rfl) T.n_len (ev_at (ev_v 0) ev_int)) (nomark _))))) (bv_one (sv_set (i := 1) sc_law_fill.nd rfl (by first | exact Or.inl rfl | exact Or.inr rfl) (ev_add (ev_v 1) (ev_mod (ev_num (by rfl) T.n_int (ev_at (ev_at (ev_v 0) ev_int) (ev_neg ev_int))) ev_int))))
      bv_nil)
      (bv_cons (sv_set (i := 1) sc_law_fill.nd rfl (by first | exact Or.inl rfl | exact Or.inr rfl) (ev_mod (ev_num (by rfl) T.n_int (ev_add (ev_mul (ev_v 1) ev_int) (ev_mul (ev_at (ev_v 0) ev_int) ev_int))) ev_int))
      (bv_one (sv_ret (ev_add (ev_fdiv (ev_num (by rfl) T.n_int (ev_add (ev_add (ev_mul (ev_v 1) (ev_v 1)) (ev_mul (ev_at (ev_v 0) ev_int) ev_int)) ev_int)) ev_int) ev_int))))))))
theorem ok_law_take (T : Txt K mg fa fdt ca) (ih : ∀ g, FnOk P w K mg base (L2.CX P w) (k + 1) (fa g) (fdt g) (psOf g) (spM K ca (arity g) (cf g))) (ih2 : ∀ g, FnOk P w K mg base (L2.CX P w) k (fa g) (fdt g) (psOf g) (spM K ca (arity g) (cg g))) : FnOk P w K mg base (L2.CX P w) (k + 2) (fa .law_take) (fdt .law_take) (psOf .law_take) (spM K ca 2 (fnM 3 (b_law_take cf cg))) :=
  def_ok T.f_law_take sc_law_take rfl fun cdv A outer s H E hr =>
    (bv_cons (sv_if (tv_cmp op_lt ok_lt (ev_at (ev_v 0) ev_int) (ev_v 1) (nomark _)) (bv_one (sv_put (ev_call (ih .law_fill) hr (by rfl) T.g_law_fill T.f_law_fill.kp T.b_law_fill (av_cons (ev_v 0) av_nil)) (ev_v 0) ev_int set_list ok_setL))
      bv_nil)
      (bv_cons (sv_set (i := 2) sc_law_take.nd rfl (by first | exact Or.inl rfl | exact Or.inr rfl) (ev_mod (ev_num (by rfl) T.n_int (ev_at (ev_v 0) ev_int)) (ev_v 1)))
      (bv_cons (sv_put (ev_fdiv (ev_at (ev_v 0) ev_int) (ev_v 1)) (ev_v 0) ev_int set_list ok_setL)
      (bv_one (sv_ret (ev_v 2))))))
theorem ok_law_has_all (T : Txt K mg fa fdt ca) (ih : ∀ g, FnOk P w K mg base (L2.CX P w) (k + 1) (fa g) (fdt g) (psOf g) (spM K ca (arity g) (cf g))) (ih2 : ∀ g, FnOk P w K mg base (L2.CX P w) k (fa g) (fdt g) (psOf g) (spM K ca (arity g) (cg g))) : FnOk P w K mg base (L2.CX P w) (k + 2) (fa .law_has_all) (fdt .law_has_all) (psOf .law_has_all) (spM K ca 5 (fnM 6 (b_law_has_all cf cg))) :=
  def_ok T.f_law_has_all sc_law_has_all rfl fun cdv A outer s H E hr =>
    (bv_cons (sv_for (passes_of rfl) rfl (iv_any (ev_v 4)) (gv_name sc_law_has_all.nd rfl (by first | exact Or.inl rfl | exact Or.inr rfl))
      (bv_one (sv_if (tv_not (tv_tr (ev_call (ih .law_has) hr (by rfl) T.g_law_has T.f_law_has.kp T.b_law_has (av_cons (ev_v 0) (av_cons (ev_v 1) (av_cons (ev_v 2) (av_cons (ev_v 3) (av_cons (ev_v 5) av_nil)))))))) (bv_one (sv_ret ev_bl))
      bv_nil)))
      (bv_one (sv_ret ev_bl)))
theorem ok_law_has (T : Txt K mg fa fdt ca) (ih : ∀ g, FnOk P w K mg base (L2.CX P w) (k + 1) (fa g) (fdt g) (psOf g) (spM K ca (arity g) (cf g))) (ih2 : ∀ g, FnOk P w K mg base (L2.CX P w) k (fa g) (fdt g) (psOf g) (spM K ca (arity g) (cg g))) : FnOk P w K mg base (L2.CX P w) (k + 2) (fa .law_has) (fdt .law_has) (psOf .law_has) (spM K ca 5 (fnM 17 (b_law_has cf cg))) :=
  def_ok T.f_law_has sc_law_has rfl fun cdv A outer s H E hr =>
    (bv_cons (sv_asg (ev_v 4) (gv_tup rfl (gvs_cons (gv_name sc_law_has.nd rfl (by first | exact Or.inl rfl | exact Or.inr rfl)) (gvs_cons (gv_name sc_law_has.nd rfl (by first | exact Or.inl rfl | exact Or.inr rfl)) gvs_nil))))
      (bv_cons (sv_asg (ev_v 3) (gv_tup rfl (gvs_cons (gv_name sc_law_has.nd rfl (by first | exact Or.inl rfl | exact Or.inr rfl)) (gvs_cons (gv_name sc_law_has.nd rfl (by first | exact Or.inl rfl | exact Or.inr rfl)) (gvs_cons (gv_name sc_law_has.nd rfl (by first | exact Or.inl rfl | exact Or.inr rfl)) gvs_nil)))))
      (bv_cons (sv_if (tv_cmp (op_eqD hr.units) ok_eqD (ev_v 7) ev_str (nomark _)) (bv_cons (sv_for (passes_of rfl) rfl (iv_any (ev_at (ev_at (ev_at (ev_v 0) ev_int) (ev_v 6)) (ev_v 8))) (gv_name sc_law_has.nd rfl (by first | exact Or.inl rfl | exact Or.inr rfl))
      (bv_cons (sv_set (i := 11) sc_law_has.nd rfl (by first | exact Or.inl rfl | exact Or.inr rfl) ev_bl)
      (bv_cons (sv_for (passes_of rfl) rfl (iv_any (ev_v 10)) (gv_tup rfl (gvs_cons (gv_name sc_law_has.nd rfl (by first | exact Or.inl rfl | exact Or.inr rfl)) (gvs_cons (gv_name sc_law_has.nd rfl (by first | exact Or.inl rfl | exact Or.inr rfl)) gvs_nil)))
      (bv_one (sv_if (tv_cmp op_lt ok_lt (ev_v 12) (ev_len (by rfl) T.n_len (ev_v 9)) (nomark _)) (bv_one (sv_set (i := 11) sc_law_has.nd rfl (by first | exact Or.inl rfl | exact Or.inr rfl) (ev_and (ev_v 11) (ev_one (ev_call (ih .law_has) hr (by rfl) T.g_law_has T.f_law_has.kp T.b_law_has (av_cons (ev_v 0) (av_cons (ev_v 1) (av_cons (ev_v 2) (av_cons (ev_at (ev_v 9) (ev_v 12)) (av_cons (ev_tup (av_cons (ev_tup av_nil) (av_cons (ev_v 13) av_nil))) av_nil))))))))))
      (bv_one (sv_set (i := 11) sc_law_has.nd rfl (by first | exact Or.inl rfl | exact Or.inr rfl) (ev_and (ev_v 11) (ev_one (ev_cmp (op_inA (un65 hr)) ok_inA (ev_tup (av_cons (ev_tup av_nil) (av_cons (ev_v 13) av_nil))) (ev_at (ev_v 5) (ev_sub (ev_v 12) (ev_len (by rfl) T.n_len (ev_v 9)))) (by rfl)))))))))
      (bv_one (sv_if (tv_tr (ev_v 11)) (bv_one (sv_ret ev_bl))
      bv_nil)))))
      (bv_one (sv_ret ev_bl)))
      bv_nil)
      (bv_cons (sv_set (i := 14) sc_law_has.nd rfl (by first | exact Or.inl rfl | exact Or.inr rfl) (ev_at (ev_new (lv_lst (av_cons (ev_v 1) (av_cons (ev_v 2) av_nil)))) (ev_num (by rfl) T.n_int (ev_cmp (op_eqD hr.units) ok_eqD (ev_v 7) ev_str (nomark _)))))
      (bv_cons (sv_for (passes_of rfl) rfl (iv_any (ev_at (ev_v 14) (ev_v 8))) (gv_tup rfl (gvs_cons (gv_name sc_law_has.nd rfl (by first | exact Or.inl rfl | exact Or.inr rfl)) (gvs_cons (gv_name sc_law_has.nd rfl (by first | exact Or.inl rfl | exact Or.inr rfl)) gvs_nil)))
      (bv_cons (sv_set (i := 11) sc_law_has.nd rfl (by first | exact Or.inl rfl | exact Or.inr rfl) (ev_cmp (op_eqD hr.units) ok_eqD (ev_v 13) (ev_v 6) (nomark _)))
      (bv_cons (sv_for (passes_of rfl) rfl (iv_rng1 (by rfl) T.n_range (av_cons (ev_len (by rfl) T.n_len (ev_v 15)) av_nil)) (gv_name sc_law_has.nd rfl (by first | exact Or.inl rfl | exact Or.inr rfl))
      (bv_one (sv_if (tv_w (wv_and (tv_tr (ev_v 11)) (wv_and1 (tv_cmp op_lt ok_lt (ev_v 12) (ev_len (by rfl) T.n_len (ev_v 9)) (nomark _))))) (bv_one (sv_set (i := 11) sc_law_has.nd rfl (by first | exact Or.inl rfl | exact Or.inr rfl) (ev_call (ih .law_has_all) hr (by rfl) T.g_law_has_all T.f_law_has_all.kp T.b_law_has_all (av_cons (ev_v 0) (av_cons (ev_v 1) (av_cons (ev_v 2) (av_cons (ev_at (ev_v 9) (ev_v 12)) (av_cons (ev_at (ev_v 15) (ev_v 12)) av_nil))))))))
      (bv_one (sv_if (tv_tr (ev_v 11)) (bv_one (sv_set (i := 11) sc_law_has.nd rfl (by first | exact Or.inl rfl | exact Or.inr rfl) (ev_allL rfl (by rfl) T.n_all (lv_comp rfl sc_law_has.nd (iv_any (ev_at (ev_v 15) (ev_v 12))) (blkOk_by (N := ["a", "env", "sets", "term", "ty", "wanted", "q", "head", "number", "parts", "way", "good", "i", "p", "rows", "own", "one"]) (sc := defScope s_law_has) (own := [("one", 16)]) (by decide +kernel)) (fun _ _ _ _ _ => (gv_name sc_law_has.nd rfl (by first | exact Or.inl rfl | exact Or.inr rfl))) (fun _ _ _ _ _ => tsv_nil) (fun _ _ _ _ _ => (ev_cmp (op_inA (un65 hr)) ok_inA (ev_v 16) (ev_at (ev_v 5) (ev_sub (ev_v 12) (ev_len (by rfl) T.n_len (ev_v 9)))) (by rfl)))))))
      bv_nil)))))
      (bv_one (sv_if (tv_tr (ev_v 11)) (bv_one (sv_ret ev_bl))
      bv_nil)))))
      (bv_one (sv_ret ev_bl)))))))
theorem ok_law_is_type (T : Txt K mg fa fdt ca) (ih : ∀ g, FnOk P w K mg base (L2.CX P w) (k + 1) (fa g) (fdt g) (psOf g) (spM K ca (arity g) (cf g))) (ih2 : ∀ g, FnOk P w K mg base (L2.CX P w) k (fa g) (fdt g) (psOf g) (spM K ca (arity g) (cg g))) : FnOk P w K mg base (L2.CX P w) (k + 2) (fa .law_is_type) (fdt .law_is_type) (psOf .law_is_type) (spM K ca 3 (fnM 4 (b_law_is_type cf cg))) :=
  def_ok T.f_law_is_type sc_law_is_type rfl fun cdv A outer s H E hr =>
    (bv_cons (sv_if (tv_w (wv_or (tv_not (tv_tr (ev_isi (n := "tuple") (by rfl) T.n_isinstance (by rfl) T.n_tuple PyProof.Rows.boot_tuple (ev_v 2)))) (wv_or (tv_cmp (op_neD hr.units) ok_neD (ev_len (by rfl) T.n_len (ev_v 2)) ev_int (nomark _)) (wv_or (tv_not (tv_tr (ev_isi (n := "tuple") (by rfl) T.n_isinstance (by rfl) T.n_tuple PyProof.Rows.boot_tuple (ev_at (ev_v 2) ev_int)))) (wv_or1 (tv_cmp (op_neD hr.units) ok_neD (ev_len (by rfl) T.n_len (ev_at (ev_v 2) ev_int)) (ev_len (by rfl) T.n_len (ev_v 0)) (nomark _))))))) (bv_one (sv_ret ev_bl))
      bv_nil)
      (bv_cons (sv_if (tv_w (wv_or (tv_not (tv_tr (ev_isi (n := "int") (by rfl) T.n_isinstance (by rfl) T.n_int PyProof.Rows.boot_int (ev_at (ev_v 2) ev_int)))) (wv_or (tv_tr (ev_isi (n := "bool") (by rfl) T.n_isinstance (by rfl) T.n_bool PyProof.Rows.boot_bool (ev_at (ev_v 2) ev_int))) (wv_or (tv_cmp op_lt ok_lt (ev_at (ev_v 2) ev_int) ev_int (nomark _)) (wv_or1 (tv_cmp op_ge ok_ge (ev_at (ev_v 2) ev_int) (ev_v 1) (nomark _))))))) (bv_one (sv_ret ev_bl))
      bv_nil)
      (bv_cons (sv_for (passes_of rfl) rfl (iv_rng1 (by rfl) T.n_range (av_cons (ev_len (by rfl) T.n_len (ev_v 0)) av_nil)) (gv_name sc_law_is_type.nd rfl (by first | exact Or.inl rfl | exact Or.inr rfl))
      (bv_one (sv_if (tv_not (tv_tr (ev_call (ih .law_is_set) hr (by rfl) T.g_law_is_set T.f_law_is_set.kp T.b_law_is_set (av_cons (ev_at (ev_v 0) (ev_v 3)) (av_cons (ev_v 1) (av_cons (ev_at (ev_at (ev_v 2) ev_int) (ev_v 3)) av_nil)))))) (bv_one (sv_ret ev_bl))
      bv_nil)))
      (bv_one (sv_ret ev_bl)))))
theorem ok_law_is_set (T : Txt K mg fa fdt ca) (ih : ∀ g, FnOk P w K mg base (L2.CX P w) (k + 1) (fa g) (fdt g) (psOf g) (spM K ca (arity g) (cf g))) (ih2 : ∀ g, FnOk P w K mg base (L2.CX P w) k (fa g) (fdt g) (psOf g) (spM K ca (arity g) (cg g))) : FnOk P w K mg base (L2.CX P w) (k + 2) (fa .law_is_set) (fdt .law_is_set) (psOf .law_is_set) (spM K ca 3 (fnM 5 (b_law_is_set cf cg))) :=
  def_ok T.f_law_is_set sc_law_is_set rfl fun cdv A outer s H E hr =>
    (bv_cons (sv_if (tv_w (wv_or (tv_not (tv_tr (ev_isi (n := "tuple") (by rfl) T.n_isinstance (by rfl) T.n_tuple PyProof.Rows.boot_tuple (ev_v 2)))) (wv_or1 (tv_not (tv_tr (ev_allL rfl (by rfl) T.n_all (lv_comp rfl sc_law_is_set.nd (iv_any (ev_v 2)) (blkOk_by (N := ["kind", "states", "one", "ty", "k"]) (sc := defScope s_law_is_set) (own := [("ty", 3)]) (by decide +kernel)) (fun _ _ _ _ _ => (gv_name sc_law_is_set.nd rfl (by first | exact Or.inl rfl | exact Or.inr rfl))) (fun _ _ _ _ _ => tsv_nil) (fun _ _ _ _ _ => (ev_call (ih .law_is_type) hr (by rfl) T.g_law_is_type T.f_law_is_type.kp T.b_law_is_type (av_cons (ev_v 0) (av_cons (ev_v 1) (av_cons (ev_v 3) av_nil)))))))))))) (bv_one (sv_ret ev_bl))
      bv_nil)
      (bv_one (sv_ret (ev_and (ev_cmp (op_eqD hr.units) ok_eqD (ev_new (lv_list1 (by rfl) T.n_list (ev_v 2))) (ev_new (lv_sorted (un80 hr) (by rfl) T.n_sorted (ev_v 2))) (nomark _)) (ev_one (ev_cmp (op_eqD hr.units) ok_eqD (ev_len (by rfl) T.n_len (ev_new (lv_comp rfl sc_law_is_set.nd (iv_rng2 (by rfl) T.n_range (av_cons ev_int (av_cons (ev_len (by rfl) T.n_len (ev_v 2)) av_nil))) (blkOk_by (N := ["kind", "states", "one", "ty", "k"]) (sc := defScope s_law_is_set) (own := [("k", 4)]) (by decide +kernel)) (fun _ _ _ _ _ => (gv_name sc_law_is_set.nd rfl (by first | exact Or.inl rfl | exact Or.inr rfl))) (fun _ _ _ _ _ => (tsv_one (tv_cmp (op_eqD hr.units) ok_eqD (ev_at (ev_v 2) (ev_v 4)) (ev_at (ev_v 2) (ev_sub (ev_v 4) ev_int)) (nomark _)))) (fun _ _ _ _ _ => (ev_v 4))))) ev_int (nomark _)))))))
theorem ok_law_set (T : Txt K mg fa fdt ca) (ih : ∀ g, FnOk P w K mg base (L2.CX P w) (k + 1) (fa g) (fdt g) (psOf g) (spM K ca (arity g) (cf g))) (ih2 : ∀ g, FnOk P w K mg base (L2.CX P w) k (fa g) (fdt g) (psOf g) (spM K ca (arity g) (cg g))) : FnOk P w K mg base (L2.CX P w) (k + 2) (fa .law_set) (fdt .law_set) (psOf .law_set) (spM K ca 4 (fnM 7 (b_law_set cf cg))) :=
  def_ok T.f_law_set sc_law_set rfl fun cdv A outer s H E hr =>
    (bv_cons (sv_set (i := 4) sc_law_set.nd rfl (by first | exact Or.inl rfl | exact Or.inr rfl) (ev_new (lv_lst av_nil)))
      (bv_cons (sv_for (passes_of rfl) rfl (iv_rng1 (by rfl) T.n_range (av_cons (ev_call (ih .law_take) hr (by rfl) T.g_law_take T.f_law_take.kp T.b_law_take (av_cons (ev_v 0) (av_cons (ev_add (ev_v 3) ev_int) av_nil))) av_nil)) (gv_name sc_law_set.nd rfl (by first | exact Or.inl rfl | exact Or.inr rfl))
      (bv_cons (sv_set (i := 6) sc_law_set.nd rfl (by first | exact Or.inl rfl | exact Or.inr rfl) (ev_call (ih .law_type) hr (by rfl) T.g_law_type T.f_law_type.kp T.b_law_type (av_cons (ev_v 0) (av_cons (ev_v 1) (av_cons (ev_v 2) av_nil)))))
      (bv_one (sv_if (tv_cmp (op_notInA (un65 hr)) ok_notInA (ev_v 6) (ev_v 4) (by rfl)) (bv_one (sv_expr (ev_append (ev_v 4) (ev_v 6))))
      bv_nil))))
      (bv_one (sv_ret (ev_tupL (by rfl) T.n_tuple (lv_sorted (un80 hr) (by rfl) T.n_sorted (ev_v 4)))))))
theorem ok_law_type (T : Txt K mg fa fdt ca) (ih : ∀ g, FnOk P w K mg base (L2.CX P w) (k + 1) (fa g) (fdt g) (psOf g) (spM K ca (arity g) (cf g))) (ih2 : ∀ g, FnOk P w K mg base (L2.CX P w) k (fa g) (fdt g) (psOf g) (spM K ca (arity g) (cg g))) : FnOk P w K mg base (L2.CX P w) (k + 2) (fa .law_type) (fdt .law_type) (psOf .law_type) (spM K ca 3 (fnM 4 (b_law_type cf cg))) :=
  def_ok T.f_law_type sc_law_type rfl fun cdv A outer s H E hr =>
    (bv_one (sv_ret (ev_tup (av_cons (ev_tupL (by rfl) T.n_tuple (lv_comp rfl sc_law_type.nd (iv_any (ev_v 1)) (blkOk_by (N := ["c", "kind", "states", "part"]) (sc := defScope s_law_type) (own := [("part", 3)]) (by decide +kernel)) (fun _ _ _ _ _ => (gv_name sc_law_type.nd rfl (by first | exact Or.inl rfl | exact Or.inr rfl))) (fun _ _ _ _ _ => tsv_nil) (fun _ _ _ _ _ => (ev_call (ih .law_set) hr (by rfl) T.g_law_set T.f_law_set.kp T.b_law_set (av_cons (ev_v 0) (av_cons (ev_v 3) (av_cons (ev_v 2) (av_cons ev_int av_nil)))))))) (av_cons (ev_call (ih .law_take) hr (by rfl) T.g_law_take T.f_law_take.kp T.b_law_take (av_cons (ev_v 0) (av_cons (ev_v 2) av_nil))) av_nil)))))
theorem ok_law_nodes_of (T : Txt K mg fa fdt ca) (ih : ∀ g, FnOk P w K mg base (L2.CX P w) (k + 1) (fa g) (fdt g) (psOf g) (spM K ca (arity g) (cf g))) (ih2 : ∀ g, FnOk P w K mg base (L2.CX P w) k (fa g) (fdt g) (psOf g) (spM K ca (arity g) (cg g))) : FnOk P w K mg base (L2.CX P w) (k + 2) (fa .law_nodes_of) (fdt .law_nodes_of) (psOf .law_nodes_of) (spM K ca 2 (fnM 3 (b_law_nodes_of cf cg))) :=
  def_ok T.f_law_nodes_of sc_law_nodes_of rfl fun cdv A outer s H E hr =>
    (bv_cons (sv_expr (ev_append (ev_v 1) (ev_v 0)))
      (bv_cons (sv_if (tv_tr (ev_isi (n := "tuple") (by rfl) T.n_isinstance (by rfl) T.n_tuple PyProof.Rows.boot_tuple (ev_v 0))) (bv_one (sv_for (passes_of rfl) rfl (iv_any (ev_v 0)) (gv_name sc_law_nodes_of.nd rfl (by first | exact Or.inl rfl | exact Or.inr rfl))
      (bv_one (sv_expr (ev_call (ih .law_nodes_of) hr (by rfl) T.g_law_nodes_of T.f_law_nodes_of.kp T.b_law_nodes_of (av_cons (ev_v 2) (av_cons (ev_v 1) av_nil)))))))
      bv_nil)
      (bv_one (sv_ret (ev_v 1)))))
theorem ok_law_changed (T : Txt K mg fa fdt ca) (ih : ∀ g, FnOk P w K mg base (L2.CX P w) (k + 1) (fa g) (fdt g) (psOf g) (spM K ca (arity g) (cf g))) (ih2 : ∀ g, FnOk P w K mg base (L2.CX P w) k (fa g) (fdt g) (psOf g) (spM K ca (arity g) (cg g))) : FnOk P w K mg base (L2.CX P w) (k + 2) (fa .law_changed) (fdt .law_changed) (psOf .law_changed) (spM K ca 3 (fnM 4 (b_law_changed cf cg))) :=
  def_ok T.f_law_changed sc_law_changed rfl fun cdv A outer s H E hr =>
    (bv_cons (sv_put (ev_sub (ev_at (ev_v 1) ev_int) ev_int) (ev_v 1) ev_int set_list ok_setL)
      (bv_cons (sv_if (tv_cmp (op_eqD hr.units) ok_eqD (ev_at (ev_v 1) ev_int) ev_int (nomark _)) (bv_one (sv_ret (ev_v 2)))
      bv_nil)
      (bv_cons (sv_if (tv_not (tv_tr (ev_isi (n := "tuple") (by rfl) T.n_isinstance (by rfl) T.n_tuple PyProof.Rows.boot_tuple (ev_v 0)))) (bv_one (sv_ret (ev_v 0)))
      bv_nil)
      (bv_one (sv_ret (ev_tupL (by rfl) T.n_tuple (lv_comp rfl sc_law_changed.nd (iv_any (ev_v 0)) (blkOk_by (N := ["value", "box", "other", "part"]) (sc := defScope s_law_changed) (own := [("part", 3)]) (by decide +kernel)) (fun _ _ _ _ _ => (gv_name sc_law_changed.nd rfl (by first | exact Or.inl rfl | exact Or.inr rfl))) (fun _ _ _ _ _ => tsv_nil) (fun _ _ _ _ _ => (ev_call (ih .law_changed) hr (by rfl) T.g_law_changed T.f_law_changed.kp T.b_law_changed (av_cons (ev_v 3) (av_cons (ev_v 1) (av_cons (ev_v 2) av_nil))))))))))))
theorem ok_law (T : Txt K mg fa fdt ca) (ih : ∀ g, FnOk P w K mg base (L2.CX P w) (k + 1) (fa g) (fdt g) (psOf g) (spM K ca (arity g) (cf g))) (ih2 : ∀ g, FnOk P w K mg base (L2.CX P w) k (fa g) (fdt g) (psOf g) (spM K ca (arity g) (cg g))) : FnOk P w K mg base (L2.CX P w) (k + 2) (fa .law) (fdt .law) (psOf .law) (spM K ca 1 (fnM 12 (b_law cf cg))) :=
  def_ok T.f_law sc_law rfl fun cdv A outer s H E hr =>
    (bv_cons (sv_set (i := 1) sc_law.nd rfl (by first | exact Or.inl rfl | exact Or.inr rfl) (ev_call (ih .law_start) hr (by rfl) T.g_law_start T.f_law_start.kp T.b_law_start (av_cons (ev_v 0) av_nil)))
      (bv_cons (sv_set (i := 2) sc_law.nd rfl (by first | exact Or.inl rfl | exact Or.inr rfl) (ev_at (ev_new (lv_lst (av_cons (ev_tup av_nil) (av_cons (ev_tup (av_cons (ev_tup av_nil) av_nil)) (av_cons (ev_tup (av_cons (ev_tup av_nil) (av_cons (ev_tup av_nil) av_nil))) (av_cons (ev_tup (av_cons (ev_tup (av_cons (ev_tup av_nil) av_nil)) av_nil)) (av_cons (ev_tup (av_cons (ev_tup av_nil) (av_cons (ev_tup (av_cons (ev_tup av_nil) av_nil)) av_nil))) (av_cons (ev_tup (av_cons (ev_tup (av_cons (ev_tup av_nil) (av_cons (ev_tup av_nil) av_nil))) (av_cons (ev_tup av_nil) av_nil))) (av_cons (ev_tup (av_cons (ev_tup (av_cons (ev_tup (av_cons (ev_tup av_nil) av_nil)) av_nil)) av_nil)) (av_cons (ev_tup (av_cons (ev_tup av_nil) (av_cons (ev_tup (av_cons (ev_tup (av_cons (ev_tup av_nil) av_nil)) av_nil)) av_nil))) av_nil)))))))))) (ev_call (ih .law_take) hr (by rfl) T.g_law_take T.f_law_take.kp T.b_law_take (av_cons (ev_v 1) (av_cons ev_int av_nil)))))
      (bv_cons (sv_set (i := 3) sc_law.nd rfl (by first | exact Or.inl rfl | exact Or.inr rfl) (ev_add ev_int (ev_call (ih .law_take) hr (by rfl) T.g_law_take T.f_law_take.kp T.b_law_take (av_cons (ev_v 1) (av_cons ev_int av_nil)))))
      (bv_cons (sv_set (i := 4) sc_law.nd rfl (by first | exact Or.inl rfl | exact Or.inr rfl) (ev_call (ih .law_type) hr (by rfl) T.g_law_type T.f_law_type.kp T.b_law_type (av_cons (ev_v 1) (av_cons (ev_v 2) (av_cons (ev_v 3) av_nil)))))
      (bv_cons (sv_if (tv_cmp op_notBl ok_notB (ev_call (ih .is_type) hr (by rfl) T.g_is_type T.f_is_type.kp T.b_is_type (av_cons (ev_v 2) (av_cons (ev_v 3) (av_cons (ev_v 4) av_nil)))) ev_bl (nomark _)) (bv_one (sv_ret ev_bl))
      bv_nil)
      (bv_cons (sv_for (passes_of rfl) rfl (iv_rng1 (by rfl) T.n_range (av_cons ev_int av_nil)) (gv_name sc_law.nd rfl (by first | exact Or.inl rfl | exact Or.inr rfl))
      (bv_cons (sv_set (i := 6) sc_law.nd rfl (by first | exact Or.inl rfl | exact Or.inr rfl) (ev_call (ih .law_nodes_of) hr (by rfl) T.g_law_nodes_of T.f_law_nodes_of.kp T.b_law_nodes_of (av_cons (ev_v 4) (av_cons (ev_new (lv_lst av_nil)) av_nil))))
      (bv_cons (sv_set (i := 7) sc_law.nd rfl (by first | exact Or.inl rfl | exact Or.inr rfl) (ev_call (ih .law_take) hr (by rfl) T.g_law_take T.f_law_take.kp T.b_law_take (av_cons (ev_v 1) (av_cons (ev_len (by rfl) T.n_len (ev_v 6)) av_nil))))
      (bv_cons (sv_set (i := 8) sc_law.nd rfl (by first | exact Or.inl rfl | exact Or.inr rfl) (ev_at (ev_v 6) (ev_v 7)))
      (bv_cons (sv_set (i := 9) sc_law.nd rfl (by first | exact Or.inl rfl | exact Or.inr rfl) (ev_new (lv_lst (av_cons (ev_at (ev_v 6) (ev_call (ih .law_take) hr (by rfl) T.g_law_take T.f_law_take.kp T.b_law_take (av_cons (ev_v 1) (av_cons (ev_len (by rfl) T.n_len (ev_v 6)) av_nil)))) (av_cons ev_non (av_cons (ev_sub ev_int ev_int) (av_cons (ev_v 3) (av_cons (ev_tup av_nil) (av_cons ev_str (av_cons (ev_tup (av_cons (ev_tup av_nil) (av_cons ev_int av_nil))) (av_cons (ev_call (ih .law_type) hr (by rfl) T.g_law_type T.f_law_type.kp T.b_law_type (av_cons (ev_v 1) (av_cons (ev_tup av_nil) (av_cons (ev_v 3) av_nil)))) (av_cons ev_bl (av_cons ev_bl av_nil)))))))))))))
      (bv_cons (sv_set (i := 10) sc_law.nd rfl (by first | exact Or.inl rfl | exact Or.inr rfl) (ev_at (ev_v 9) (ev_call (ih .law_take) hr (by rfl) T.g_law_take T.f_law_take.kp T.b_law_take (av_cons (ev_v 1) (av_cons ev_int av_nil)))))
      (bv_cons (sv_if (tv_w (wv_and (tv_tr (ev_isi (n := "tuple") (by rfl) T.n_isinstance (by rfl) T.n_tuple PyProof.Rows.boot_tuple (ev_v 8))) (wv_and1 (tv_cmp (op_eqD hr.units) ok_eqD (ev_call (ih .law_take) hr (by rfl) T.g_law_take T.f_law_take.kp T.b_law_take (av_cons (ev_v 1) (av_cons ev_int av_nil))) ev_int (nomark _))))) (bv_one (sv_set (i := 10) sc_law.nd rfl (by first | exact Or.inl rfl | exact Or.inr rfl) (ev_at (ev_new (lv_lst (av_cons (ev_rev (ev_v 8)) (av_cons (ev_add (ev_v 8) (ev_slice (ev_v 8) ov_none (ov_some ev_int))) (av_cons (ev_slice (ev_v 8) (ov_some ev_int) ov_none) (av_cons (ev_add (ev_slice (ev_v 8) ov_none (ov_some ev_int)) (ev_v 8)) av_nil)))))) (ev_call (ih .law_take) hr (by rfl) T.g_law_take T.f_law_take.kp T.b_law_take (av_cons (ev_v 1) (av_cons ev_int av_nil))))))
      bv_nil)
      (bv_cons (sv_set (i := 11) sc_law.nd rfl (by first | exact Or.inl rfl | exact Or.inr rfl) (ev_call (ih .law_changed) hr (by rfl) T.g_law_changed T.f_law_changed.kp T.b_law_changed (av_cons (ev_v 4) (av_cons (ev_new (lv_lst (av_cons (ev_add (ev_v 7) ev_int) av_nil))) (av_cons (ev_v 10) av_nil)))))
      (bv_one (sv_if (tv_cmp (op_neD hr.units) ok_neD (ev_call (ih .is_type) hr (by rfl) T.g_is_type T.f_is_type.kp T.b_is_type (av_cons (ev_v 2) (av_cons (ev_v 3) (av_cons (ev_v 11) av_nil)))) (ev_call (ih .law_is_type) hr (by rfl) T.g_law_is_type T.f_law_is_type.kp T.b_law_is_type (av_cons (ev_v 2) (av_cons (ev_v 3) (av_cons (ev_v 11) av_nil)))) (nomark _)) (bv_one (sv_ret ev_bl))
      bv_nil))))))))))
      (bv_one (sv_ret ev_bl))))))))
theorem ok_all (T : Txt K mg fa fdt ca) : ∀ (k : Nat), (∀ g : Fn, FnOk P w K mg base (L2.CX P w) (k + 1) (fa g) (fdt g) (psOf g) (spM K ca (arity g) ((mf2 k).1 g))) ∧ ∀ g : Fn, FnOk P w K mg base (L2.CX P w) k (fa g) (fdt g) (psOf g) (spM K ca (arity g) ((mf2 k).2 g))
  | 0 => ⟨fun g => def_zero (by cases g <;> rfl), fun g => def_zero (by cases g <;> rfl)⟩
  | k + 1 => by
    obtain ⟨ih, ih2⟩ := ok_all T k
    refine ⟨fun g => ?_, ih⟩
    cases g with
    | is_type => exact ok_is_type T ih ih2
    | is_set => exact ok_is_set T ih ih2
    | law_start => exact ok_law_start T ih ih2
    | law_fill => exact ok_law_fill T ih ih2
    | law_take => exact ok_law_take T ih ih2
    | law_has_all => exact ok_law_has_all T ih ih2
    | law_has => exact ok_law_has T ih ih2
    | law_is_type => exact ok_law_is_type T ih ih2
    | law_is_set => exact ok_law_is_set T ih ih2
    | law_set => exact ok_law_set T ih ih2
    | law_type => exact ok_law_type T ih ih2
    | law_nodes_of => exact ok_law_nodes_of T ih ih2
    | law_changed => exact ok_law_changed T ih ih2
    | law => exact ok_law T ih ih2
end
end B

namespace B
open PySem L2 L3
def embY : YN → Fn
  | .is_type => .is_type
  | .is_set => .is_set
  | .law_fill => .law_fill
  | .law_take => .law_take
  | .law_is_type => .law_is_type
  | .law_is_set => .law_is_set
  | .law_set => .law_set
  | .law_type => .law_type
theorem src : YNSrc fun k g => mf k (embY g) := ⟨fun _ => rfl, fun _ => rfl, fun _ => rfl, fun _ => rfl, fun _ => rfl, fun _ => rfl, fun _ => rfl, fun _ => rfl⟩
/-! ### nodes -/
mutual
def nodes : D → List D
  | .tup l => .tup l :: nodess l
  | .non => [.non]
  | .bl b => [.bl b]
  | .int i => [.int i]
  | .str x => [.str x]
  | .fz l => [.fz l]
  | .obj n => [.obj n]
def nodess : List D → List D
  | [] => []
  | d :: l => nodes d ++ nodess l
end
mutual
def w2 : D → Bool
  | .tup l => decide (l.length ≤ 2) && w2s l
  | .fz _ => false
  | .obj _ => false
  | .non | .bl _ | .int _ | .str _ => true
def w2s : List D → Bool
  | [] => true
  | d :: l => w2 d && w2s l
end
theorem w2s_iff {l : List D} : w2s l = true ↔ ∀ d ∈ l, w2 d = true := by
  induction l with
  | nil => simp [w2s]
  | cons d l ih => simp [w2s, ih]
theorem w2_tup {l : List D} : w2 (.tup l) = true ↔ l.length ≤ 2 ∧ ∀ d ∈ l, w2 d = true := by
  conv => lhs; unfold w2
  rw [Bool.and_eq_true, decide_eq_true_eq, w2s_iff]
mutual
theorem w2_tre : ∀ {d : D}, w2 d = true → tre d = true
  | .tup l, h => by
    unfold w2 at h
    rw [Bool.and_eq_true, decide_eq_true_eq] at h
    unfold tre
    rw [w2s_tres h.2, decide_eq_true (show l.length ≤ 1000 by omega)]
    rfl
  | .non, _ => by unfold tre; rfl
  | .bl _, _ => by unfold tre; rfl
  | .int _, _ => by unfold tre; rfl
  | .str _, _ => by unfold tre; rfl
  | .fz _, h => by unfold w2 at h; cases h
  | .obj _, h => by unfold w2 at h; cases h
theorem w2s_tres : ∀ {l : List D}, w2s l = true → tres l = true
  | [], _ => by unfold tres; rfl
  | d :: l, h => by
    unfold w2s at h
    rw [Bool.and_eq_true] at h
    unfold tres
    rw [w2_tre h.1, w2s_tres h.2]
    rfl
end
mutual
theorem nodes_w2 : ∀ {d : D}, w2 d = true → ∀ x ∈ nodes d, w2 x = true
  | .tup l, h, x, hx => by
    unfold nodes at hx
    rcases List.mem_cons.mp hx with rfl | hx
    · exact h
    · unfold w2 at h
      rw [Bool.and_eq_true] at h
      exact nodess_w2 h.2 x hx
  | .non, h, x, hx => by unfold nodes at hx; rw [List.mem_singleton.mp hx]; exact h
  | .bl _, h, x, hx => by unfold nodes at hx; rw [List.mem_singleton.mp hx]; exact h
  | .int _, h, x, hx => by unfold nodes at hx; rw [List.mem_singleton.mp hx]; exact h
  | .str _, h, x, hx => by unfold nodes at hx; rw [List.mem_singleton.mp hx]; exact h
  | .fz _, h, x, hx => by unfold w2 at h; cases h
  | .obj _, h, x, hx => by unfold w2 at h; cases h
theorem nodess_w2 : ∀ {l : List D}, w2s l = true → ∀ x ∈ nodess l, w2 x = true
  | [], _, x, hx => by unfold nodess at hx; cases hx
  | d :: l, h, x, hx => by
    unfold w2s at h
    rw [Bool.and_eq_true] at h
    unfold nodess at hx
    rcases List.mem_append.mp hx with hx | hx
    · exact nodes_w2 h.1 x hx
    · exact nodess_w2 h.2 x hx
end
def KW2 (ks : List Kd) : Prop := ks.length ≤ 2 ∧ kwds ks ≤ 2
theorem KW2.part {ks : List Kd} (h : KW2 ks) {k : Kd} (hk : k ∈ ks) : KW2 k.parts := by
  have := kwds_le.mp h.2 k hk
  rw [kd_parts k] at this
  unfold Kd.wd at this
  exact ⟨by omega, by omega⟩
theorem KW2.kw {ks : List Kd} (h : KW2 ks) : KW ks := ⟨by have := h.1; omega, by have := h.2; omega⟩
def bN : Nat → Nat
  | 0 => 0
  | n + 1 => 5 + 4 * bN n
theorem nodess_len {l : List D} {b : Nat} (h : ∀ x ∈ l, (nodes x).length ≤ b) : (nodess l).length ≤ l.length * b := by
  induction l with
  | nil => simp [nodess]
  | cons x l ih =>
    unfold nodess
    have h1 := h x (by simp)
    have h2 := ih fun y hy => h y (by simp [hy])
    rw [List.length_append, List.length_cons, Nat.add_mul]
    omega
theorem ty_small : ∀ {n : Nat} {ks : List Kd} {st : Int} {d : D}, isTy n ks st d = true → Sm n d → KW2 ks → w2 d = true ∧ (nodes d).length ≤ bN n
  | 0, _, _, _, h, _, _ => by unfold isTy at h; cases h
  | n + 1, ks, st, d, h, hs, hw => by
    obtain ⟨sets, q, rfl, h1, h2, h3, h4⟩ := (isTy_iff.mp h).ex
    obtain ⟨sets', q', e, hs⟩ := hs
    cases e
    have key : ∀ s ∈ sets, w2 s = true ∧ (nodes s).length ≤ 1 + 2 * bN n := fun s hm => by
      obtain ⟨k, hk⟩ := zip_other h1 hm
      obtain ⟨l, e, h5, _⟩ := h4 _ hk
      obtain ⟨l', e', h6, h7⟩ := hs s hm
      simp only at e
      subst e
      cases e'
      have hkm := (List.of_mem_zip hk).1
      have ih : ∀ t ∈ l, w2 t = true ∧ (nodes t).length ≤ bN n := fun t ht => ty_small (h5 t ht) (h7 t ht) (hw.part hkm)
      refine ⟨w2_tup.mpr ⟨h6, fun t ht => (ih t ht).1⟩, ?_⟩
      have := nodess_len fun t ht => (ih t ht).2
      have h8 : l.length * bN n ≤ 2 * bN n := Nat.mul_le_mul_right _ h6
      unfold nodes
      rw [List.length_cons]
      omega
    have hl : sets.length ≤ 2 := by rw [h1]; exact hw.1
    refine ⟨w2_tup.mpr ⟨by simp, fun x hx => ?_⟩, ?_⟩
    · simp only [List.mem_cons, List.not_mem_nil, or_false] at hx
      rcases hx with rfl | rfl
      · exact w2_tup.mpr ⟨hl, fun s hs => (key s hs).1⟩
      · unfold w2; rfl
    · have h9 := nodess_len fun s hs => (key s hs).2
      have h10 : sets.length * (1 + 2 * bN n) ≤ 2 * (1 + 2 * bN n) := Nat.mul_le_mul_right _ hl
      simp only [nodes, nodess, List.length_cons, List.length_append, List.length_nil, bN]
      omega
theorem set_self {S : Sto} {f : Nat} {o : O} (h : S[f]? = some o) : S.set f o = S := by
  obtain ⟨hlt, rfl⟩ := List.getElem?_eq_some_iff.mp h
  exact List.set_getElem_self hlt
theorem nodes_spec {k f : Nat} : ∀ (lv : Nat) (d : D) (l : List D) (S : Sto), dpt d < lv → tre d = true → S[f]? = some (.lst l) → l.length + (nodes d).length ≤ 1000000 → mf (k + lv) .law_nodes_of [d, .obj f] S = .ok (.obj f) (S.set f (.lst (l ++ nodes d)))
  | 0, d, l, S, hd, ht, hf, hz => by omega
  | lv + 1, d, l, S, hd, ht, hf, hz => by
    have hlt := lt_of_get hf
    have hpos : 1 ≤ (nodes d).length := by cases d <;> (unfold nodes; simp)
    have hf1 : ∀ o, (S.set f o)[f]? = some o := fun o => get_set hlt
    rw [show k + (lv + 1) = (k + lv) + 1 from rfl, mf_law_nodes_of]
    simp only [b_law_nodes_of, fnM_ev, startD, List.replicate, seqM_ev, thenT_nx, thenT_rt, thenT_bk, thenT_ct, thenT_rse, nopM_ev, brkM_ev, cntM_ev, setM_ev, setT_ok, setT_rse, setLM_ev, setLT_ok, dropM_ev, dropT_ok, dropT_rse, retM_ev, retT_ok, retT_rse, ifS_ev, ifT_true, ifT_false, asgM_ev, asgT_ok', optT_some, cM_ev, vM_ev, vR_some, opM_ev, op1_ok, op1_rse, op2_ok, op2_rse, unM_ev, un1_ok, un1_rse, blT_ev, blR_ok, blR_rse, trT_ev, trR_ok, tru_bl, tru_non, tru_tup, tru_int, andT_ev, and1_true, and1_false, orT_ev, or1_true, or1_false, notT_ev, not1_ok, andM_ev, andV_true, andV_false, orM_ev, orV_true, orV_false, ifM_ev, if1_true, if1_false, chM_ev, ch1_ok, ch2_ok, ch3_true, ch3_false, nilA_ev, consA_ev, con1_ok, con1_rse, con2_ok, tupM_ev, tup1_0, tup1_1, tup1_2, tup1_3, tup1_4, szA_ev, sz1_0, sz1_1, sz1_2, sz1_3, sz1_4, sz1_5, sz1_6, sz1_8, sz1_10, newM_ev, new1_ok, onL_ev, onL1_ok, tupL_ev, clM_ev, cl1_rse, cl1_0, cl1_1, cl1_2, cl1_3, cl1_4, cl1_5, putM_ev, putT_ok, putT2_ok, putT3_ok, putT4_some, augM_ev, augT_some, noO_ev, someO_ev, some1_ok, slM_ev, sl1_ok, sl2_ok, sl3_ok, metM_ev, met0_ev, intD0_ev, add_ii, sub_ii, neg_i, lt_ii, le_ii, gt_ii, ge_ii, isN_ev, notN_ev, num_i, num_b, notD_b, isi_bool_bl, len_tup, len_fz, tup_tup, ix_tup0, ix_tup1, ix_tup2, itM_ev, it1_ok, src_tup, src_fz, src_str, fixC_ev, lvI_ev, lv1_ok, rngI_ev, rg1_ok, forM_ev, for1_ok, turnT_nx, turnT_ct, turnT_bk, turnT_rt, turnT_rse, nmG_ev, tupG_ev, consG_ev, nilG_ev, compM_ev, yesT_ev, fn1_nx, fn1_rt, fn1_rse, eq_ii, eq_bb, max_ii, min_ii, slD_tup, List.getElem?_cons_zero, List.getElem?_cons_succ, List.set_cons_zero, List.set_cons_succ, List.map_cons, List.map_nil, List.length_cons, List.length_nil, List.cons_append, List.nil_append, Option.bind_some, decide_true, decide_false, Bool.not_true, Bool.not_false, ne_ii, ne_bb, forL_nil0, met1_lst hf, app_ok hf (show l.length ≤ 1000000 by omega), isi_tup ht]
    cases d with
    | tup ps =>
      obtain ⟨hl, hm⟩ := tre_tup.mp ht
      simp only [isTupB, seqM_ev, thenT_nx, thenT_rt, thenT_bk, thenT_ct, thenT_rse, nopM_ev, brkM_ev, cntM_ev, setM_ev, setT_ok, setT_rse, setLM_ev, setLT_ok, dropM_ev, dropT_ok, dropT_rse, retM_ev, retT_ok, retT_rse, ifS_ev, ifT_true, ifT_false, asgM_ev, asgT_ok', optT_some, cM_ev, vM_ev, vR_some, opM_ev, op1_ok, op1_rse, op2_ok, op2_rse, unM_ev, un1_ok, un1_rse, blT_ev, blR_ok, blR_rse, trT_ev, trR_ok, tru_bl, tru_non, tru_tup, tru_int, andT_ev, and1_true, and1_false, orT_ev, or1_true, or1_false, notT_ev, not1_ok, andM_ev, andV_true, andV_false, orM_ev, orV_true, orV_false, ifM_ev, if1_true, if1_false, chM_ev, ch1_ok, ch2_ok, ch3_true, ch3_false, nilA_ev, consA_ev, con1_ok, con1_rse, con2_ok, tupM_ev, tup1_0, tup1_1, tup1_2, tup1_3, tup1_4, szA_ev, sz1_0, sz1_1, sz1_2, sz1_3, sz1_4, sz1_5, sz1_6, sz1_8, sz1_10, newM_ev, new1_ok, onL_ev, onL1_ok, tupL_ev, clM_ev, cl1_rse, cl1_0, cl1_1, cl1_2, cl1_3, cl1_4, cl1_5, putM_ev, putT_ok, putT2_ok, putT3_ok, putT4_some, augM_ev, augT_some, noO_ev, someO_ev, some1_ok, slM_ev, sl1_ok, sl2_ok, sl3_ok, metM_ev, met0_ev, intD0_ev, add_ii, sub_ii, neg_i, lt_ii, le_ii, gt_ii, ge_ii, isN_ev, notN_ev, num_i, num_b, notD_b, isi_bool_bl, len_tup, len_fz, tup_tup, ix_tup0, ix_tup1, ix_tup2, itM_ev, it1_ok, src_tup, src_fz, src_str, fixC_ev, lvI_ev, lv1_ok, rngI_ev, rg1_ok, forM_ev, for1_ok, turnT_nx, turnT_ct, turnT_bk, turnT_rt, turnT_rse, nmG_ev, tupG_ev, consG_ev, nilG_ev, compM_ev, yesT_ev, fn1_nx, fn1_rt, fn1_rse, eq_ii, eq_bb, max_ii, min_ii, slD_tup, List.getElem?_cons_zero, List.getElem?_cons_succ, List.set_cons_zero, List.set_cons_succ, List.map_cons, List.map_nil, List.length_cons, List.length_nil, List.cons_append, List.nil_append, Option.bind_some, decide_true, decide_false, Bool.not_true, Bool.not_false, ne_ii, ne_bb, forL_nil0]
      have loop : ∀ (ps : List D) (l : List D) (S : Sto) (x0 x2 : Option D), (∀ p ∈ ps, dpt p < lv ∧ tre p = true) → S[f]? = some (.lst l) → l.length + (nodess ps).length ≤ 1000000 → ∃ x2', forL fixC (nmG 2) (b_law_nodes_of_l1 (mf (k + lv)) (mf2 (k + lv)).2) ps [x0, some (.obj f), x2] S = .nx [x0, some (.obj f), x2'] (S.set f (.lst (l ++ nodess ps))) := by
        intro ps
        induction ps with
        | nil =>
          intro l S x0 x2 _ hf _
          refine ⟨x2, ?_⟩
          unfold nodess
          rw [List.append_nil, set_self hf]
          exact forL_nil rfl
        | cons p ps ih =>
          intro l S x0 x2 h hf hz
          unfold nodess at hz ⊢
          rw [List.length_append] at hz
          have e1 := nodes_spec (k := k) lv p l S (h p (by simp)).1 (h p (by simp)).2 hf (by omega)
          obtain ⟨x2', e2⟩ := ih (l ++ nodes p) (S.set f (.lst (l ++ nodes p))) x0 (some p) (fun q hq => h q (by simp [hq])) (get_set (lt_of_get hf)) (by rw [List.length_append]; omega)
          refine ⟨x2', ?_⟩
          rw [forL_cons rfl (e1 := [x0, some (.obj f), some p]) rfl]
          simp only [seqM_ev, thenT_nx, thenT_rt, thenT_bk, thenT_ct, thenT_rse, nopM_ev, brkM_ev, cntM_ev, setM_ev, setT_ok, setT_rse, setLM_ev, setLT_ok, dropM_ev, dropT_ok, dropT_rse, retM_ev, retT_ok, retT_rse, ifS_ev, ifT_true, ifT_false, asgM_ev, asgT_ok', optT_some, cM_ev, vM_ev, vR_some, opM_ev, op1_ok, op1_rse, op2_ok, op2_rse, unM_ev, un1_ok, un1_rse, blT_ev, blR_ok, blR_rse, trT_ev, trR_ok, tru_bl, tru_non, tru_tup, tru_int, andT_ev, and1_true, and1_false, orT_ev, or1_true, or1_false, notT_ev, not1_ok, andM_ev, andV_true, andV_false, orM_ev, orV_true, orV_false, ifM_ev, if1_true, if1_false, chM_ev, ch1_ok, ch2_ok, ch3_true, ch3_false, nilA_ev, consA_ev, con1_ok, con1_rse, con2_ok, tupM_ev, tup1_0, tup1_1, tup1_2, tup1_3, tup1_4, szA_ev, sz1_0, sz1_1, sz1_2, sz1_3, sz1_4, sz1_5, sz1_6, sz1_8, sz1_10, newM_ev, new1_ok, onL_ev, onL1_ok, tupL_ev, clM_ev, cl1_rse, cl1_0, cl1_1, cl1_2, cl1_3, cl1_4, cl1_5, putM_ev, putT_ok, putT2_ok, putT3_ok, putT4_some, augM_ev, augT_some, noO_ev, someO_ev, some1_ok, slM_ev, sl1_ok, sl2_ok, sl3_ok, metM_ev, met0_ev, intD0_ev, add_ii, sub_ii, neg_i, lt_ii, le_ii, gt_ii, ge_ii, isN_ev, notN_ev, num_i, num_b, notD_b, isi_bool_bl, len_tup, len_fz, tup_tup, ix_tup0, ix_tup1, ix_tup2, itM_ev, it1_ok, src_tup, src_fz, src_str, fixC_ev, lvI_ev, lv1_ok, rngI_ev, rg1_ok, forM_ev, for1_ok, turnT_nx, turnT_ct, turnT_bk, turnT_rt, turnT_rse, nmG_ev, tupG_ev, consG_ev, nilG_ev, compM_ev, yesT_ev, fn1_nx, fn1_rt, fn1_rse, eq_ii, eq_bb, max_ii, min_ii, slD_tup, List.getElem?_cons_zero, List.getElem?_cons_succ, List.set_cons_zero, List.set_cons_succ, List.map_cons, List.map_nil, List.length_cons, List.length_nil, List.cons_append, List.nil_append, Option.bind_some, decide_true, decide_false, Bool.not_true, Bool.not_false, ne_ii, ne_bb, forL_nil0, e1, e2, List.set_set, List.append_assoc]
      have hdp : ∀ p ∈ ps, dpt p < lv := fun p hp => by
        have h1 := dpts_le.mp (Nat.le_refl (dpts ps)) p hp
        have h2 : dpt (.tup ps) = dpts ps + 1 := by unfold dpt; rfl
        omega
      have hn : nodes (.tup ps) = .tup ps :: nodess ps := by unfold nodes; rfl
      rw [hn, List.length_cons] at hz
      obtain ⟨x2', e2⟩ := loop ps (l ++ [.tup ps]) (S.set f (.lst (l ++ [.tup ps]))) (some (.tup ps)) none (fun p hp => ⟨hdp p hp, hm p hp⟩) (hf1 _) (by simp; omega)
      simp only [e2, seqM_ev, thenT_nx, thenT_rt, thenT_bk, thenT_ct, thenT_rse, nopM_ev, brkM_ev, cntM_ev, setM_ev, setT_ok, setT_rse, setLM_ev, setLT_ok, dropM_ev, dropT_ok, dropT_rse, retM_ev, retT_ok, retT_rse, ifS_ev, ifT_true, ifT_false, asgM_ev, asgT_ok', optT_some, cM_ev, vM_ev, vR_some, opM_ev, op1_ok, op1_rse, op2_ok, op2_rse, unM_ev, un1_ok, un1_rse, blT_ev, blR_ok, blR_rse, trT_ev, trR_ok, tru_bl, tru_non, tru_tup, tru_int, andT_ev, and1_true, and1_false, orT_ev, or1_true, or1_false, notT_ev, not1_ok, andM_ev, andV_true, andV_false, orM_ev, orV_true, orV_false, ifM_ev, if1_true, if1_false, chM_ev, ch1_ok, ch2_ok, ch3_true, ch3_false, nilA_ev, consA_ev, con1_ok, con1_rse, con2_ok, tupM_ev, tup1_0, tup1_1, tup1_2, tup1_3, tup1_4, szA_ev, sz1_0, sz1_1, sz1_2, sz1_3, sz1_4, sz1_5, sz1_6, sz1_8, sz1_10, newM_ev, new1_ok, onL_ev, onL1_ok, tupL_ev, clM_ev, cl1_rse, cl1_0, cl1_1, cl1_2, cl1_3, cl1_4, cl1_5, putM_ev, putT_ok, putT2_ok, putT3_ok, putT4_some, augM_ev, augT_some, noO_ev, someO_ev, some1_ok, slM_ev, sl1_ok, sl2_ok, sl3_ok, metM_ev, met0_ev, intD0_ev, add_ii, sub_ii, neg_i, lt_ii, le_ii, gt_ii, ge_ii, isN_ev, notN_ev, num_i, num_b, notD_b, isi_bool_bl, len_tup, len_fz, tup_tup, ix_tup0, ix_tup1, ix_tup2, itM_ev, it1_ok, src_tup, src_fz, src_str, fixC_ev, lvI_ev, lv1_ok, rngI_ev, rg1_ok, forM_ev, for1_ok, turnT_nx, turnT_ct, turnT_bk, turnT_rt, turnT_rse, nmG_ev, tupG_ev, consG_ev, nilG_ev, compM_ev, yesT_ev, fn1_nx, fn1_rt, fn1_rse, eq_ii, eq_bb, max_ii, min_ii, slD_tup, List.getElem?_cons_zero, List.getElem?_cons_succ, List.set_cons_zero, List.set_cons_succ, List.map_cons, List.map_nil, List.length_cons, List.length_nil, List.cons_append, List.nil_append, Option.bind_some, decide_true, decide_false, Bool.not_true, Bool.not_false, ne_ii, ne_bb, forL_nil0, List.set_set, hn, List.append_assoc]
    | _ =>
      simp only [isTupB, seqM_ev, thenT_nx, thenT_rt, thenT_bk, thenT_ct, thenT_rse, nopM_ev, brkM_ev, cntM_ev, setM_ev, setT_ok, setT_rse, setLM_ev, setLT_ok, dropM_ev, dropT_ok, dropT_rse, retM_ev, retT_ok, retT_rse, ifS_ev, ifT_true, ifT_false, asgM_ev, asgT_ok', optT_some, cM_ev, vM_ev, vR_some, opM_ev, op1_ok, op1_rse, op2_ok, op2_rse, unM_ev, un1_ok, un1_rse, blT_ev, blR_ok, blR_rse, trT_ev, trR_ok, tru_bl, tru_non, tru_tup, tru_int, andT_ev, and1_true, and1_false, orT_ev, or1_true, or1_false, notT_ev, not1_ok, andM_ev, andV_true, andV_false, orM_ev, orV_true, orV_false, ifM_ev, if1_true, if1_false, chM_ev, ch1_ok, ch2_ok, ch3_true, ch3_false, nilA_ev, consA_ev, con1_ok, con1_rse, con2_ok, tupM_ev, tup1_0, tup1_1, tup1_2, tup1_3, tup1_4, szA_ev, sz1_0, sz1_1, sz1_2, sz1_3, sz1_4, sz1_5, sz1_6, sz1_8, sz1_10, newM_ev, new1_ok, onL_ev, onL1_ok, tupL_ev, clM_ev, cl1_rse, cl1_0, cl1_1, cl1_2, cl1_3, cl1_4, cl1_5, putM_ev, putT_ok, putT2_ok, putT3_ok, putT4_some, augM_ev, augT_some, noO_ev, someO_ev, some1_ok, slM_ev, sl1_ok, sl2_ok, sl3_ok, metM_ev, met0_ev, intD0_ev, add_ii, sub_ii, neg_i, lt_ii, le_ii, gt_ii, ge_ii, isN_ev, notN_ev, num_i, num_b, notD_b, isi_bool_bl, len_tup, len_fz, tup_tup, ix_tup0, ix_tup1, ix_tup2, itM_ev, it1_ok, src_tup, src_fz, src_str, fixC_ev, lvI_ev, lv1_ok, rngI_ev, rg1_ok, forM_ev, for1_ok, turnT_nx, turnT_ct, turnT_bk, turnT_rt, turnT_rse, nmG_ev, tupG_ev, consG_ev, nilG_ev, compM_ev, yesT_ev, fn1_nx, fn1_rt, fn1_rse, eq_ii, eq_bb, max_ii, min_ii, slD_tup, List.getElem?_cons_zero, List.getElem?_cons_succ, List.set_cons_zero, List.set_cons_succ, List.map_cons, List.map_nil, List.length_cons, List.length_nil, List.cons_append, List.nil_append, Option.bind_some, decide_true, decide_false, Bool.not_true, Bool.not_false, ne_ii, ne_bb, forL_nil0]
      unfold nodes
      rfl
/-! ### changed -/
theorem changed_spec {k b : Nat} : ∀ (lv : Nat) (d o : D) (m : Int) (S : Sto), dpt d < lv → tre d = true → tre o = true → S[b]? = some (.lst [.int m]) →
    ∃ y S' m', mf (k + lv) .law_changed [d, .obj b, o] S = .ok y S' ∧ tre y = true ∧ S'[b]? = some (.lst [.int m']) ∧ Kp b S S'
  | 0, d, o, m, S, hd, ht, ho, hb => by omega
  | lv + 1, d, o, m, S, hd, ht, ho, hb => by
    have hlt := lt_of_get hb
    have hb1 : ∀ o, (S.set b o)[b]? = some o := fun o => get_set hlt
    have hs : ∀ v, setD (.obj b) (.int 0) v S = some (S.set b (.lst [v])) := fun v => set_lst hb ixN_0
    rw [show k + (lv + 1) = (k + lv) + 1 from rfl, mf_law_changed]
    simp only [b_law_changed, fnM_ev, startD, List.replicate, seqM_ev, thenT_nx, thenT_rt, thenT_bk, thenT_ct, thenT_rse, nopM_ev, brkM_ev, cntM_ev, setM_ev, setT_ok, setT_rse, setLM_ev, setLT_ok, dropM_ev, dropT_ok, dropT_rse, retM_ev, retT_ok, retT_rse, ifS_ev, ifT_true, ifT_false, asgM_ev, asgT_ok', optT_some, cM_ev, vM_ev, vR_some, opM_ev, op1_ok, op1_rse, op2_ok, op2_rse, unM_ev, un1_ok, un1_rse, blT_ev, blR_ok, blR_rse, trT_ev, trR_ok, tru_bl, tru_non, tru_tup, tru_int, andT_ev, and1_true, and1_false, orT_ev, or1_true, or1_false, notT_ev, not1_ok, andM_ev, andV_true, andV_false, orM_ev, orV_true, orV_false, ifM_ev, if1_true, if1_false, chM_ev, ch1_ok, ch2_ok, ch3_true, ch3_false, nilA_ev, consA_ev, con1_ok, con1_rse, con2_ok, tupM_ev, tup1_0, tup1_1, tup1_2, tup1_3, tup1_4, szA_ev, sz1_0, sz1_1, sz1_2, sz1_3, sz1_4, sz1_5, sz1_6, sz1_8, sz1_10, newM_ev, new1_ok, onL_ev, onL1_ok, tupL_ev, clM_ev, cl1_rse, cl1_0, cl1_1, cl1_2, cl1_3, cl1_4, cl1_5, putM_ev, putT_ok, putT2_ok, putT3_ok, putT4_some, augM_ev, augT_some, noO_ev, someO_ev, some1_ok, slM_ev, sl1_ok, sl2_ok, sl3_ok, metM_ev, met0_ev, intD0_ev, add_ii, sub_ii, neg_i, lt_ii, le_ii, gt_ii, ge_ii, isN_ev, notN_ev, num_i, num_b, notD_b, isi_bool_bl, len_tup, len_fz, tup_tup, ix_tup0, ix_tup1, ix_tup2, itM_ev, it1_ok, src_tup, src_fz, src_str, fixC_ev, lvI_ev, lv1_ok, rngI_ev, rg1_ok, forM_ev, for1_ok, turnT_nx, turnT_ct, turnT_bk, turnT_rt, turnT_rse, nmG_ev, tupG_ev, consG_ev, nilG_ev, compM_ev, yesT_ev, fn1_nx, fn1_rt, fn1_rse, eq_ii, eq_bb, max_ii, min_ii, slD_tup, List.getElem?_cons_zero, List.getElem?_cons_succ, List.set_cons_zero, List.set_cons_succ, List.map_cons, List.map_nil, List.length_cons, List.length_nil, List.cons_append, List.nil_append, Option.bind_some, decide_true, decide_false, Bool.not_true, Bool.not_false, ne_ii, ne_bb, forL_nil0, ix_lst0 hb, hs, ix_lst0 (hb1 (.lst [.int (m - 1)]))]
    by_cases hm : m - 1 = 0
    · refine ⟨o, _, m - 1, ?_, ho, hb1 _, kp_set⟩
      simp only [decide_eq_true hm, seqM_ev, thenT_nx, thenT_rt, thenT_bk, thenT_ct, thenT_rse, nopM_ev, brkM_ev, cntM_ev, setM_ev, setT_ok, setT_rse, setLM_ev, setLT_ok, dropM_ev, dropT_ok, dropT_rse, retM_ev, retT_ok, retT_rse, ifS_ev, ifT_true, ifT_false, asgM_ev, asgT_ok', optT_some, cM_ev, vM_ev, vR_some, opM_ev, op1_ok, op1_rse, op2_ok, op2_rse, unM_ev, un1_ok, un1_rse, blT_ev, blR_ok, blR_rse, trT_ev, trR_ok, tru_bl, tru_non, tru_tup, tru_int, andT_ev, and1_true, and1_false, orT_ev, or1_true, or1_false, notT_ev, not1_ok, andM_ev, andV_true, andV_false, orM_ev, orV_true, orV_false, ifM_ev, if1_true, if1_false, chM_ev, ch1_ok, ch2_ok, ch3_true, ch3_false, nilA_ev, consA_ev, con1_ok, con1_rse, con2_ok, tupM_ev, tup1_0, tup1_1, tup1_2, tup1_3, tup1_4, szA_ev, sz1_0, sz1_1, sz1_2, sz1_3, sz1_4, sz1_5, sz1_6, sz1_8, sz1_10, newM_ev, new1_ok, onL_ev, onL1_ok, tupL_ev, clM_ev, cl1_rse, cl1_0, cl1_1, cl1_2, cl1_3, cl1_4, cl1_5, putM_ev, putT_ok, putT2_ok, putT3_ok, putT4_some, augM_ev, augT_some, noO_ev, someO_ev, some1_ok, slM_ev, sl1_ok, sl2_ok, sl3_ok, metM_ev, met0_ev, intD0_ev, add_ii, sub_ii, neg_i, lt_ii, le_ii, gt_ii, ge_ii, isN_ev, notN_ev, num_i, num_b, notD_b, isi_bool_bl, len_tup, len_fz, tup_tup, ix_tup0, ix_tup1, ix_tup2, itM_ev, it1_ok, src_tup, src_fz, src_str, fixC_ev, lvI_ev, lv1_ok, rngI_ev, rg1_ok, forM_ev, for1_ok, turnT_nx, turnT_ct, turnT_bk, turnT_rt, turnT_rse, nmG_ev, tupG_ev, consG_ev, nilG_ev, compM_ev, yesT_ev, fn1_nx, fn1_rt, fn1_rse, eq_ii, eq_bb, max_ii, min_ii, slD_tup, List.getElem?_cons_zero, List.getElem?_cons_succ, List.set_cons_zero, List.set_cons_succ, List.map_cons, List.map_nil, List.length_cons, List.length_nil, List.cons_append, List.nil_append, Option.bind_some, decide_true, decide_false, Bool.not_true, Bool.not_false, ne_ii, ne_bb, forL_nil0]
    · simp only [decide_eq_false hm, seqM_ev, thenT_nx, thenT_rt, thenT_bk, thenT_ct, thenT_rse, nopM_ev, brkM_ev, cntM_ev, setM_ev, setT_ok, setT_rse, setLM_ev, setLT_ok, dropM_ev, dropT_ok, dropT_rse, retM_ev, retT_ok, retT_rse, ifS_ev, ifT_true, ifT_false, asgM_ev, asgT_ok', optT_some, cM_ev, vM_ev, vR_some, opM_ev, op1_ok, op1_rse, op2_ok, op2_rse, unM_ev, un1_ok, un1_rse, blT_ev, blR_ok, blR_rse, trT_ev, trR_ok, tru_bl, tru_non, tru_tup, tru_int, andT_ev, and1_true, and1_false, orT_ev, or1_true, or1_false, notT_ev, not1_ok, andM_ev, andV_true, andV_false, orM_ev, orV_true, orV_false, ifM_ev, if1_true, if1_false, chM_ev, ch1_ok, ch2_ok, ch3_true, ch3_false, nilA_ev, consA_ev, con1_ok, con1_rse, con2_ok, tupM_ev, tup1_0, tup1_1, tup1_2, tup1_3, tup1_4, szA_ev, sz1_0, sz1_1, sz1_2, sz1_3, sz1_4, sz1_5, sz1_6, sz1_8, sz1_10, newM_ev, new1_ok, onL_ev, onL1_ok, tupL_ev, clM_ev, cl1_rse, cl1_0, cl1_1, cl1_2, cl1_3, cl1_4, cl1_5, putM_ev, putT_ok, putT2_ok, putT3_ok, putT4_some, augM_ev, augT_some, noO_ev, someO_ev, some1_ok, slM_ev, sl1_ok, sl2_ok, sl3_ok, metM_ev, met0_ev, intD0_ev, add_ii, sub_ii, neg_i, lt_ii, le_ii, gt_ii, ge_ii, isN_ev, notN_ev, num_i, num_b, notD_b, isi_bool_bl, len_tup, len_fz, tup_tup, ix_tup0, ix_tup1, ix_tup2, itM_ev, it1_ok, src_tup, src_fz, src_str, fixC_ev, lvI_ev, lv1_ok, rngI_ev, rg1_ok, forM_ev, for1_ok, turnT_nx, turnT_ct, turnT_bk, turnT_rt, turnT_rse, nmG_ev, tupG_ev, consG_ev, nilG_ev, compM_ev, yesT_ev, fn1_nx, fn1_rt, fn1_rse, eq_ii, eq_bb, max_ii, min_ii, slD_tup, List.getElem?_cons_zero, List.getElem?_cons_succ, List.set_cons_zero, List.set_cons_succ, List.map_cons, List.map_nil, List.length_cons, List.length_nil, List.cons_append, List.nil_append, Option.bind_some, decide_true, decide_false, Bool.not_true, Bool.not_false, ne_ii, ne_bb, forL_nil0, isi_tup ht]
      cases d with
      | tup ps =>
        obtain ⟨hl, hmem⟩ := tre_tup.mp ht
        have hdp : ∀ p ∈ ps, dpt p < lv := fun p hp => by
          have h1 := dpts_le.mp (Nat.le_refl (dpts ps)) p hp
          have h2 : dpt (.tup ps) = dpts ps + 1 := by unfold dpt; rfl
          omega
        obtain ⟨ys, S1, e1, h2, m', c1, k1⟩ := cmp1_all (chk := fixC) (g := nmG 3) (own := [3]) (a := clM 3 (mf (k + lv) .law_changed) (consA (vM 3) (consA (vM 1) (consA (vM 2) nilA)))) (e := [some (.tup ps), some (.obj b), some o, none]) (l := ps) (S := S.set b (.lst [.int (m - 1)]))
          (I := fun S' => ∃ m', S'[b]? = some (.lst [.int m']) ∧ Kp b S S') (Q := fun x y => tre y = true) (by omega) ⟨m - 1, hb1 _, kp_set⟩ (fun _ _ => rfl) (fun x hx S' hI => by
            obtain ⟨m2, cI, kI⟩ := hI
            obtain ⟨y, S2, m3, e2, g1, g2, g3⟩ := changed_spec (k := k) lv x o m2 S' (hdp x hx) (hmem x hx) ho cI
            refine ⟨_, y, S2, rfl, ?_, g1, m3, g2, kI.trans g3⟩
            simp only [wipeD, seqM_ev, thenT_nx, thenT_rt, thenT_bk, thenT_ct, thenT_rse, nopM_ev, brkM_ev, cntM_ev, setM_ev, setT_ok, setT_rse, setLM_ev, setLT_ok, dropM_ev, dropT_ok, dropT_rse, retM_ev, retT_ok, retT_rse, ifS_ev, ifT_true, ifT_false, asgM_ev, asgT_ok', optT_some, cM_ev, vM_ev, vR_some, opM_ev, op1_ok, op1_rse, op2_ok, op2_rse, unM_ev, un1_ok, un1_rse, blT_ev, blR_ok, blR_rse, trT_ev, trR_ok, tru_bl, tru_non, tru_tup, tru_int, andT_ev, and1_true, and1_false, orT_ev, or1_true, or1_false, notT_ev, not1_ok, andM_ev, andV_true, andV_false, orM_ev, orV_true, orV_false, ifM_ev, if1_true, if1_false, chM_ev, ch1_ok, ch2_ok, ch3_true, ch3_false, nilA_ev, consA_ev, con1_ok, con1_rse, con2_ok, tupM_ev, tup1_0, tup1_1, tup1_2, tup1_3, tup1_4, szA_ev, sz1_0, sz1_1, sz1_2, sz1_3, sz1_4, sz1_5, sz1_6, sz1_8, sz1_10, newM_ev, new1_ok, onL_ev, onL1_ok, tupL_ev, clM_ev, cl1_rse, cl1_0, cl1_1, cl1_2, cl1_3, cl1_4, cl1_5, putM_ev, putT_ok, putT2_ok, putT3_ok, putT4_some, augM_ev, augT_some, noO_ev, someO_ev, some1_ok, slM_ev, sl1_ok, sl2_ok, sl3_ok, metM_ev, met0_ev, intD0_ev, add_ii, sub_ii, neg_i, lt_ii, le_ii, gt_ii, ge_ii, isN_ev, notN_ev, num_i, num_b, notD_b, isi_bool_bl, len_tup, len_fz, tup_tup, ix_tup0, ix_tup1, ix_tup2, itM_ev, it1_ok, src_tup, src_fz, src_str, fixC_ev, lvI_ev, lv1_ok, rngI_ev, rg1_ok, forM_ev, for1_ok, turnT_nx, turnT_ct, turnT_bk, turnT_rt, turnT_rse, nmG_ev, tupG_ev, consG_ev, nilG_ev, compM_ev, yesT_ev, fn1_nx, fn1_rt, fn1_rse, eq_ii, eq_bb, max_ii, min_ii, slD_tup, List.getElem?_cons_zero, List.getElem?_cons_succ, List.set_cons_zero, List.set_cons_succ, List.map_cons, List.map_nil, List.length_cons, List.length_nil, List.cons_append, List.nil_append, Option.bind_some, decide_true, decide_false, Bool.not_true, Bool.not_false, ne_ii, ne_bb, forL_nil0, e2])
        refine ⟨.tup ys, S1, m', ?_, tre_tup.mpr ⟨by rw [← h2.length]; exact hl, fun y hy => ?_⟩, c1, k1⟩
        · simp only [isTupB, seqM_ev, thenT_nx, thenT_rt, thenT_bk, thenT_ct, thenT_rse, nopM_ev, brkM_ev, cntM_ev, setM_ev, setT_ok, setT_rse, setLM_ev, setLT_ok, dropM_ev, dropT_ok, dropT_rse, retM_ev, retT_ok, retT_rse, ifS_ev, ifT_true, ifT_false, asgM_ev, asgT_ok', optT_some, cM_ev, vM_ev, vR_some, opM_ev, op1_ok, op1_rse, op2_ok, op2_rse, unM_ev, un1_ok, un1_rse, blT_ev, blR_ok, blR_rse, trT_ev, trR_ok, tru_bl, tru_non, tru_tup, tru_int, andT_ev, and1_true, and1_false, orT_ev, or1_true, or1_false, notT_ev, not1_ok, andM_ev, andV_true, andV_false, orM_ev, orV_true, orV_false, ifM_ev, if1_true, if1_false, chM_ev, ch1_ok, ch2_ok, ch3_true, ch3_false, nilA_ev, consA_ev, con1_ok, con1_rse, con2_ok, tupM_ev, tup1_0, tup1_1, tup1_2, tup1_3, tup1_4, szA_ev, sz1_0, sz1_1, sz1_2, sz1_3, sz1_4, sz1_5, sz1_6, sz1_8, sz1_10, newM_ev, new1_ok, onL_ev, onL1_ok, tupL_ev, clM_ev, cl1_rse, cl1_0, cl1_1, cl1_2, cl1_3, cl1_4, cl1_5, putM_ev, putT_ok, putT2_ok, putT3_ok, putT4_some, augM_ev, augT_some, noO_ev, someO_ev, some1_ok, slM_ev, sl1_ok, sl2_ok, sl3_ok, metM_ev, met0_ev, intD0_ev, add_ii, sub_ii, neg_i, lt_ii, le_ii, gt_ii, ge_ii, isN_ev, notN_ev, num_i, num_b, notD_b, isi_bool_bl, len_tup, len_fz, tup_tup, ix_tup0, ix_tup1, ix_tup2, itM_ev, it1_ok, src_tup, src_fz, src_str, fixC_ev, lvI_ev, lv1_ok, rngI_ev, rg1_ok, forM_ev, for1_ok, turnT_nx, turnT_ct, turnT_bk, turnT_rt, turnT_rse, nmG_ev, tupG_ev, consG_ev, nilG_ev, compM_ev, yesT_ev, fn1_nx, fn1_rt, fn1_rse, eq_ii, eq_bb, max_ii, min_ii, slD_tup, List.getElem?_cons_zero, List.getElem?_cons_succ, List.set_cons_zero, List.set_cons_succ, List.map_cons, List.map_nil, List.length_cons, List.length_nil, List.cons_append, List.nil_append, Option.bind_some, decide_true, decide_false, Bool.not_true, Bool.not_false, ne_ii, ne_bb, forL_nil0, e1]
        · obtain ⟨i, hi⟩ := List.mem_iff_getElem?.mp hy
          obtain ⟨x, _, g⟩ := h2.get' hi
          exact g
      | _ =>
        simp only [isTupB, seqM_ev, thenT_nx, thenT_rt, thenT_bk, thenT_ct, thenT_rse, nopM_ev, brkM_ev, cntM_ev, setM_ev, setT_ok, setT_rse, setLM_ev, setLT_ok, dropM_ev, dropT_ok, dropT_rse, retM_ev, retT_ok, retT_rse, ifS_ev, ifT_true, ifT_false, asgM_ev, asgT_ok', optT_some, cM_ev, vM_ev, vR_some, opM_ev, op1_ok, op1_rse, op2_ok, op2_rse, unM_ev, un1_ok, un1_rse, blT_ev, blR_ok, blR_rse, trT_ev, trR_ok, tru_bl, tru_non, tru_tup, tru_int, andT_ev, and1_true, and1_false, orT_ev, or1_true, or1_false, notT_ev, not1_ok, andM_ev, andV_true, andV_false, orM_ev, orV_true, orV_false, ifM_ev, if1_true, if1_false, chM_ev, ch1_ok, ch2_ok, ch3_true, ch3_false, nilA_ev, consA_ev, con1_ok, con1_rse, con2_ok, tupM_ev, tup1_0, tup1_1, tup1_2, tup1_3, tup1_4, szA_ev, sz1_0, sz1_1, sz1_2, sz1_3, sz1_4, sz1_5, sz1_6, sz1_8, sz1_10, newM_ev, new1_ok, onL_ev, onL1_ok, tupL_ev, clM_ev, cl1_rse, cl1_0, cl1_1, cl1_2, cl1_3, cl1_4, cl1_5, putM_ev, putT_ok, putT2_ok, putT3_ok, putT4_some, augM_ev, augT_some, noO_ev, someO_ev, some1_ok, slM_ev, sl1_ok, sl2_ok, sl3_ok, metM_ev, met0_ev, intD0_ev, add_ii, sub_ii, neg_i, lt_ii, le_ii, gt_ii, ge_ii, isN_ev, notN_ev, num_i, num_b, notD_b, isi_bool_bl, len_tup, len_fz, tup_tup, ix_tup0, ix_tup1, ix_tup2, itM_ev, it1_ok, src_tup, src_fz, src_str, fixC_ev, lvI_ev, lv1_ok, rngI_ev, rg1_ok, forM_ev, for1_ok, turnT_nx, turnT_ct, turnT_bk, turnT_rt, turnT_rse, nmG_ev, tupG_ev, consG_ev, nilG_ev, compM_ev, yesT_ev, fn1_nx, fn1_rt, fn1_rse, eq_ii, eq_bb, max_ii, min_ii, slD_tup, List.getElem?_cons_zero, List.getElem?_cons_succ, List.set_cons_zero, List.set_cons_succ, List.map_cons, List.map_nil, List.length_cons, List.length_nil, List.cons_append, List.nil_append, Option.bind_some, decide_true, decide_false, Bool.not_true, Bool.not_false, ne_ii, ne_bb, forL_nil0]
        exact ⟨_, _, _, rfl, ht, hb1 _, kp_set⟩
/-! ### the law -/
noncomputable def tailB (cf cg : Fn → List D → Sto → Rs D) : MS := (seqM (setM 11 (clM 3 (cf .law_changed) (consA (vM 4) (consA (newM (szA (consA (opM addD (vM 7) (cM (.int 1))) nilA))) (consA (vM 10) nilA)))))
    (ifS (blT (opM neD (clM 3 (cf .is_type) (consA (vM 2) (consA (vM 3) (consA (vM 11) nilA)))) (clM 3 (cf .law_is_type) (consA (vM 2) (consA (vM 3) (consA (vM 11) nilA)))))) (retM (cM (.bl false)))
    nopM))
noncomputable def bodyB (cf cg : Fn → List D → Sto → Rs D) (T : MS) : MS := (seqM (setM 6 (clM 2 (cf .law_nodes_of) (consA (vM 4) (consA (newM (szA nilA)) nilA))))
    (seqM (setM 7 (clM 2 (cf .law_take) (consA (vM 1) (consA (unM lenD (vM 6)) nilA))))
    (seqM (setM 8 (opM ixD (vM 6) (vM 7)))
    (seqM (setM 9 (newM (szA (consA (opM ixD (vM 6) (clM 2 (cf .law_take) (consA (vM 1) (consA (unM lenD (vM 6)) nilA)))) (consA (cM .non) (consA (opM subD (cM (.int 0)) (cM (.int 1))) (consA (vM 3) (consA (tupM nilA) (consA (cM (.str "a")) (consA (tupM (consA (tupM nilA) (consA (cM (.int 0)) nilA))) (consA (clM 3 (cf .law_type) (consA (vM 1) (consA (tupM nilA) (consA (vM 3) nilA)))) (consA (cM (.bl true)) (consA (cM (.bl false)) nilA)))))))))))))
    (seqM (setM 10 (opM ixD (vM 9) (clM 2 (cf .law_take) (consA (vM 1) (consA (cM (.int 10)) nilA)))))
    (seqM (ifS (andT (trT (unM (isiD "tuple") (vM 8))) (blT (opM eqD (clM 2 (cf .law_take) (consA (vM 1) (consA (cM (.int 2)) nilA))) (cM (.int 0))))) (setM 10 (opM ixD (newM (szA (consA (unM revD (vM 8)) (consA (opM addD (vM 8) (slM (vM 8) noO (someO (cM (.int 1))))) (consA (slM (vM 8) (someO (cM (.int 1))) noO) (consA (opM addD (slM (vM 8) noO (someO (cM (.int 1)))) (vM 8)) nilA)))))) (clM 2 (cf .law_take) (consA (vM 1) (consA (cM (.int 4)) nilA)))))
    nopM)
    T))))))
theorem body_eq {cf cg : Fn → List D → Sto → Rs D} : b_law_l1 cf cg = bodyB cf cg (tailB cf cg) := rfl
theorem tail_spec {t : List D} {ks : List Kd} {st d1 : Int} {ty other : D} {S : Sto} {c : Nat} {x0 x5 x6 x8 x9 x11 : Option D} (hk : kdeps ks < 4) (kw : KW ks) (h0 : tre ty = true) (hd : dpt ty ≤ 12) (ho : tre other = true) (ci : CI t S c) :
    ∃ y S', tailB (mf 24) (mf2 24).2 [x0, some (.obj c), some (.tup (kds ks)), some (.int st), some ty, x5, x6, some (.int d1), x8, x9, some other, x11] S = .nx [x0, some (.obj c), some (.tup (kds ks)), some (.int st), some ty, x5, x6, some (.int d1), x8, x9, some other, some y] S' ∧ CI t S' c := by
  have hc := ci.lt
  obtain ⟨y, S1, m', e1, ty1, b1, k1⟩ := changed_spec (k := 11) 13 ty other (d1 + 1) (S ++ [O.lst [.int (d1 + 1)]]) (by omega) h0 ho get_new
  have e1 : mf 24 .law_changed [ty, .obj S.length, other] (S ++ [O.lst [.int (d1 + 1)]]) = .ok y S1 := e1
  have e2 := isType_yn src (k := 16) (st := st) 4 ks y S1 hk (by decide) ty1
  have e2 : mf 24 .is_type [.tup (kds ks), .int st, y] S1 = .ok (.bl (isTy 4 ks st y)) S1 := e2
  obtain ⟨T, e3⟩ := lawType_yn src (k := 16) (st := st) 4 ks y S1 hk (by decide) kw ty1
  have e3 : mf 24 .law_is_type [.tup (kds ks), .int st, y] S1 = .ok (.bl (isTy 4 ks st y)) (S1 ++ T) := e3
  refine ⟨y, S1 ++ T, ?_, ci.keep fun i hi => ?_⟩
  · simp only [tailB, seqM_ev, thenT_nx, thenT_rt, thenT_bk, thenT_ct, thenT_rse, nopM_ev, brkM_ev, cntM_ev, setM_ev, setT_ok, setT_rse, setLM_ev, setLT_ok, dropM_ev, dropT_ok, dropT_rse, retM_ev, retT_ok, retT_rse, ifS_ev, ifT_true, ifT_false, asgM_ev, asgT_ok', optT_some, cM_ev, vM_ev, vR_some, opM_ev, op1_ok, op1_rse, op2_ok, op2_rse, unM_ev, un1_ok, un1_rse, blT_ev, blR_ok, blR_rse, trT_ev, trR_ok, tru_bl, tru_non, tru_tup, tru_int, andT_ev, and1_true, and1_false, orT_ev, or1_true, or1_false, notT_ev, not1_ok, andM_ev, andV_true, andV_false, orM_ev, orV_true, orV_false, ifM_ev, if1_true, if1_false, chM_ev, ch1_ok, ch2_ok, ch3_true, ch3_false, nilA_ev, consA_ev, con1_ok, con1_rse, con2_ok, tupM_ev, tup1_0, tup1_1, tup1_2, tup1_3, tup1_4, szA_ev, sz1_0, sz1_1, sz1_2, sz1_3, sz1_4, sz1_5, sz1_6, sz1_8, sz1_10, newM_ev, new1_ok, onL_ev, onL1_ok, tupL_ev, clM_ev, cl1_rse, cl1_0, cl1_1, cl1_2, cl1_3, cl1_4, cl1_5, putM_ev, putT_ok, putT2_ok, putT3_ok, putT4_some, augM_ev, augT_some, noO_ev, someO_ev, some1_ok, slM_ev, sl1_ok, sl2_ok, sl3_ok, metM_ev, met0_ev, intD0_ev, add_ii, sub_ii, neg_i, lt_ii, le_ii, gt_ii, ge_ii, isN_ev, notN_ev, num_i, num_b, notD_b, isi_bool_bl, len_tup, len_fz, tup_tup, ix_tup0, ix_tup1, ix_tup2, itM_ev, it1_ok, src_tup, src_fz, src_str, fixC_ev, lvI_ev, lv1_ok, rngI_ev, rg1_ok, forM_ev, for1_ok, turnT_nx, turnT_ct, turnT_bk, turnT_rt, turnT_rse, nmG_ev, tupG_ev, consG_ev, nilG_ev, compM_ev, yesT_ev, fn1_nx, fn1_rt, fn1_rse, eq_ii, eq_bb, max_ii, min_ii, slD_tup, List.getElem?_cons_zero, List.getElem?_cons_succ, List.set_cons_zero, List.set_cons_succ, List.map_cons, List.map_nil, List.length_cons, List.length_nil, List.cons_append, List.nil_append, Option.bind_some, decide_true, decide_false, Bool.not_true, Bool.not_false, ne_ii, ne_bb, forL_nil0, e1, e2, e3]
  · have hS1 : S1.length = S.length + 1 := by rw [k1.len]; simp
    rw [get_app (by omega), k1.at_ i (by omega), get_app (by omega)]
theorem nodes_pos {d : D} : 1 ≤ (nodes d).length := by cases d <;> (unfold nodes; simp)
theorem pick_at {l : List D} {d : Int} {P : D → Prop} (h : ∀ x ∈ l, P x) (h0 : 0 ≤ d) (h1 : d < (l.length : Nat)) : ∃ v, atI l d = some v ∧ P v := by
  obtain ⟨v, e1, e2⟩ := atI_at h0 h1
  exact ⟨v, e1, h v (List.mem_of_getElem? e2)⟩
theorem rev_tup {l : List D} {S : Sto} : revD (.tup l) S = .ok (.tup l.reverse) S := (rfl)
theorem body_spec {t : List D} {ks : List Kd} {st : Int} {ty : D} {S : Sto} {c : Nat} {T : MS} {x0 x5 x6 x7 x8 x9 x10 x11 : Option D} {Q : Rt → Prop} (h1 : 0 < st) (h2 : st ≤ 3) (w : w2 ty = true) (hd : dpt ty ≤ 12) (hn : (nodes ty).length ≤ 500) (ci : CI t S c)
    (hT : ∀ (y5 y6 y8 y9 : Option D) (d1 : Int) (other : D) (S' : Sto), tre other = true → CI t S' c → Q (T [x0, some (.obj c), some (.tup (kds ks)), some (.int st), some ty, y5, y6, some (.int d1), y8, y9, some other, x11] S')) :
    Q (bodyB (mf 24) (mf2 24).2 T [x0, some (.obj c), some (.tup (kds ks)), some (.int st), some ty, x5, x6, x7, x8, x9, x10, x11] S) := by
  have hc := ci.lt
  have hpos := nodes_pos (d := ty)
  have e1 := nodes_spec (k := 11) (f := S.length) 13 ty [] (S ++ [O.lst []]) (by omega) (w2_tre w) get_new (by simp; omega)
  have e1 : mf 24 .law_nodes_of [ty, .obj S.length] (S ++ [O.lst []]) = .ok (.obj S.length) ((S ++ [O.lst []]).set S.length (.lst (nodes ty))) := e1
  have c1 : CI t ((S ++ [O.lst []]).set S.length (.lst (nodes ty))) c := ci.keep fun i hi => (get_set' (by omega)).trans (get_app (by omega))
  have s1 : ((S ++ [O.lst []]).set S.length (.lst (nodes ty)))[S.length]? = some (.lst (nodes ty)) := get_set (by simp)
  obtain ⟨d1, S2, e2, a2, b2, c2, k2⟩ := take_yn src (k := 22) c1 (many := ((nodes ty).length : Nat)) (by omega) (by omega)
  have e2 : mf 24 .law_take [.obj c, .int ((nodes ty).length : Nat)] ((S ++ [O.lst []]).set S.length (.lst (nodes ty))) = .ok (.int d1) S2 := e2
  have s2 := (k2.at_ S.length (by omega)).trans s1
  obtain ⟨v, i1, w1⟩ := pick_at (nodes_w2 w) a2 b2
  obtain ⟨d2, S3, e3, a3, b3, c3, k3⟩ := take_yn src (k := 22) c2 (many := ((nodes ty).length : Nat)) (by omega) (by omega)
  have e3 : mf 24 .law_take [.obj c, .int ((nodes ty).length : Nat)] S2 = .ok (.int d2) S3 := e3
  have s3 := (k3.at_ S.length (by omega)).trans s2
  obtain ⟨v2, i2, w3⟩ := pick_at (nodes_w2 w) a3 b3
  obtain ⟨y, S4, e4, t1, t2, c4, k4⟩ := type_yn src (k := 14) (st := st) (t := t) h1 (by omega) 4 [] S3 c (by decide) (by decide) ⟨by decide, by decide⟩ c3
  rw [show kds [] = [] by unfold kds; rfl] at e4
  have e4 : mf 24 .law_type [.obj c, .tup [], .int st] S3 = .ok y S4 := e4
  have ty4 := w2_tre (ty_small t1 t2 ⟨by decide, by decide⟩).1
  obtain ⟨d5, S5, e5, a5, b5, c5, k5⟩ := take_yn src (k := 22) (S := S4 ++ [O.lst [v2, .non, .int (0 - 1), .int st, .tup [], .str (Str.ofString "a"), .tup [.tup [], .int 0], y, .bl true, .bl false]]) (c4.keep fun i hi => get_app (by have := c4.lt; omega)) (many := 10) (by decide) (by decide)
  have e5 : mf 24 .law_take [.obj c, .int 10] (S4 ++ [O.lst [v2, .non, .int (0 - 1), .int st, .tup [], .str (Str.ofString "a"), .tup [.tup [], .int 0], y, .bl true, .bl false]]) = .ok (.int d5) S5 := e5
  have s5 : S5[S4.length]? = some (.lst [v2, .non, .int (0 - 1), .int st, .tup [], .str (Str.ofString "a"), .tup [.tup [], .int 0], y, .bl true, .bl false]) := (k5.at_ _ (by have := c4.lt; omega)).trans get_new
  obtain ⟨v5, i5, w5⟩ := pick_at (P := fun x => tre x = true) (l := [v2, .non, .int (0 - 1), .int st, .tup [], .str (Str.ofString "a"), .tup [.tup [], .int 0], y, .bl true, .bl false]) (by
    intro x hx
    simp only [List.mem_cons, List.not_mem_nil, or_false] at hx
    rcases hx with rfl | rfl | rfl | rfl | rfl | rfl | rfl | rfl | rfl | rfl
    · exact w2_tre w3
    all_goals first | exact ty4 | (simp [tre, tres])) a5 (by simpa using b5)
  have hv := w2_tre w1
  by_cases hb : isTupB v = true
  · cases v with
    | tup l =>
      obtain ⟨hl, hm⟩ := w2_tup.mp w1
      obtain ⟨d6, S6, e6, a6, b6, c6, k6⟩ := take_yn src (k := 22) c5 (many := 2) (by decide) (by decide)
      have e6 : mf 24 .law_take [.obj c, .int 2] S5 = .ok (.int d6) S6 := e6
      have isi : ∀ S, isiD "tuple" (.tup l) S = .ok (.bl true) S := fun S => isi_tup hv
      by_cases h6 : d6 = 0
      · have cut1 : cutD l none (some 1) = l.take 1 := cut_to (j := 1)
        have cut2 : cutD l (some 1) none = l.drop 1 := cut_from (j := 1)
        obtain ⟨d7, S7, e7, a7, b7, c7, k7⟩ := take_yn src (k := 22) (S := S6 ++ [O.lst [.tup l.reverse, .tup (l ++ l.take 1), .tup (l.drop 1), .tup (l.take 1 ++ l)]]) (c6.keep fun i hi => get_app (by have := c6.lt; omega)) (many := 4) (by decide) (by decide)
        have e7 : mf 24 .law_take [.obj c, .int 4] (S6 ++ [O.lst [.tup l.reverse, .tup (l ++ l.take 1), .tup (l.drop 1), .tup (l.take 1 ++ l)]]) = .ok (.int d7) S7 := e7
        have s7 : S7[S6.length]? = some (.lst [.tup l.reverse, .tup (l ++ l.take 1), .tup (l.drop 1), .tup (l.take 1 ++ l)]) := (k7.at_ _ (by have := c6.lt; omega)).trans get_new
        obtain ⟨v7, i7, w7⟩ := pick_at (P := fun x => tre x = true) (l := [.tup l.reverse, .tup (l ++ l.take 1), .tup (l.drop 1), .tup (l.take 1 ++ l)]) (by
          have hm' : ∀ d ∈ l, tre d = true := fun d hd => w2_tre (hm d hd)
          intro x hx
          simp only [List.mem_cons, List.not_mem_nil, or_false] at hx
          rcases hx with rfl | rfl | rfl | rfl
          · exact tre_tup.mpr ⟨by rw [List.length_reverse]; omega, fun d hd => hm' d (List.mem_reverse.mp hd)⟩
          · exact tre_tup.mpr ⟨by rw [List.length_append, List.length_take]; omega, fun d hd => (List.mem_append.mp hd).elim (hm' d) fun h => hm' d (List.mem_of_mem_take h)⟩
          · exact tre_tup.mpr ⟨by rw [List.length_drop]; omega, fun d hd => hm' d (List.mem_of_mem_drop hd)⟩
          · exact tre_tup.mpr ⟨by rw [List.length_append, List.length_take]; omega, fun d hd => (List.mem_append.mp hd).elim (fun h => hm' d (List.mem_of_mem_take h)) (hm' d)⟩) a7 (by simpa using b7)
        have ad1 : ∀ S, addD (.tup l) (.tup (l.take 1)) S = .ok (.tup (l ++ l.take 1)) S := fun S => addT_ok (by rw [List.length_take]; omega)
        have ad2 : ∀ S, addD (.tup (l.take 1)) (.tup l) S = .ok (.tup (l.take 1 ++ l)) S := fun S => addT_ok (by rw [List.length_take]; omega)
        simp only [bodyB, seqM_ev, thenT_nx, thenT_rt, thenT_bk, thenT_ct, thenT_rse, nopM_ev, brkM_ev, cntM_ev, setM_ev, setT_ok, setT_rse, setLM_ev, setLT_ok, dropM_ev, dropT_ok, dropT_rse, retM_ev, retT_ok, retT_rse, ifS_ev, ifT_true, ifT_false, asgM_ev, asgT_ok', optT_some, cM_ev, vM_ev, vR_some, opM_ev, op1_ok, op1_rse, op2_ok, op2_rse, unM_ev, un1_ok, un1_rse, blT_ev, blR_ok, blR_rse, trT_ev, trR_ok, tru_bl, tru_non, tru_tup, tru_int, andT_ev, and1_true, and1_false, orT_ev, or1_true, or1_false, notT_ev, not1_ok, andM_ev, andV_true, andV_false, orM_ev, orV_true, orV_false, ifM_ev, if1_true, if1_false, chM_ev, ch1_ok, ch2_ok, ch3_true, ch3_false, nilA_ev, consA_ev, con1_ok, con1_rse, con2_ok, tupM_ev, tup1_0, tup1_1, tup1_2, tup1_3, tup1_4, szA_ev, sz1_0, sz1_1, sz1_2, sz1_3, sz1_4, sz1_5, sz1_6, sz1_8, sz1_10, newM_ev, new1_ok, onL_ev, onL1_ok, tupL_ev, clM_ev, cl1_rse, cl1_0, cl1_1, cl1_2, cl1_3, cl1_4, cl1_5, putM_ev, putT_ok, putT2_ok, putT3_ok, putT4_some, augM_ev, augT_some, noO_ev, someO_ev, some1_ok, slM_ev, sl1_ok, sl2_ok, sl3_ok, metM_ev, met0_ev, intD0_ev, add_ii, sub_ii, neg_i, lt_ii, le_ii, gt_ii, ge_ii, isN_ev, notN_ev, num_i, num_b, notD_b, isi_bool_bl, len_tup, len_fz, tup_tup, ix_tup0, ix_tup1, ix_tup2, itM_ev, it1_ok, src_tup, src_fz, src_str, fixC_ev, lvI_ev, lv1_ok, rngI_ev, rg1_ok, forM_ev, for1_ok, turnT_nx, turnT_ct, turnT_bk, turnT_rt, turnT_rse, nmG_ev, tupG_ev, consG_ev, nilG_ev, compM_ev, yesT_ev, fn1_nx, fn1_rt, fn1_rse, eq_ii, eq_bb, max_ii, min_ii, slD_tup, List.getElem?_cons_zero, List.getElem?_cons_succ, List.set_cons_zero, List.set_cons_succ, List.map_cons, List.map_nil, List.length_cons, List.length_nil, List.cons_append, List.nil_append, Option.bind_some, decide_true, decide_false, Bool.not_true, Bool.not_false, ne_ii, ne_bb, forL_nil0, e1, len_lst s1, e2, ix_lst s2 i1, len_lst s2, e3, ix_lst s3 i2, e4, e5, ix_lst s5 i5, isi, e6, decide_eq_true h6, rev_tup, cut1, cut2, ad1, ad2, e7, ix_lst s7 i7]
        exact hT _ _ _ _ _ _ _ w7 c7
      · simp only [bodyB, seqM_ev, thenT_nx, thenT_rt, thenT_bk, thenT_ct, thenT_rse, nopM_ev, brkM_ev, cntM_ev, setM_ev, setT_ok, setT_rse, setLM_ev, setLT_ok, dropM_ev, dropT_ok, dropT_rse, retM_ev, retT_ok, retT_rse, ifS_ev, ifT_true, ifT_false, asgM_ev, asgT_ok', optT_some, cM_ev, vM_ev, vR_some, opM_ev, op1_ok, op1_rse, op2_ok, op2_rse, unM_ev, un1_ok, un1_rse, blT_ev, blR_ok, blR_rse, trT_ev, trR_ok, tru_bl, tru_non, tru_tup, tru_int, andT_ev, and1_true, and1_false, orT_ev, or1_true, or1_false, notT_ev, not1_ok, andM_ev, andV_true, andV_false, orM_ev, orV_true, orV_false, ifM_ev, if1_true, if1_false, chM_ev, ch1_ok, ch2_ok, ch3_true, ch3_false, nilA_ev, consA_ev, con1_ok, con1_rse, con2_ok, tupM_ev, tup1_0, tup1_1, tup1_2, tup1_3, tup1_4, szA_ev, sz1_0, sz1_1, sz1_2, sz1_3, sz1_4, sz1_5, sz1_6, sz1_8, sz1_10, newM_ev, new1_ok, onL_ev, onL1_ok, tupL_ev, clM_ev, cl1_rse, cl1_0, cl1_1, cl1_2, cl1_3, cl1_4, cl1_5, putM_ev, putT_ok, putT2_ok, putT3_ok, putT4_some, augM_ev, augT_some, noO_ev, someO_ev, some1_ok, slM_ev, sl1_ok, sl2_ok, sl3_ok, metM_ev, met0_ev, intD0_ev, add_ii, sub_ii, neg_i, lt_ii, le_ii, gt_ii, ge_ii, isN_ev, notN_ev, num_i, num_b, notD_b, isi_bool_bl, len_tup, len_fz, tup_tup, ix_tup0, ix_tup1, ix_tup2, itM_ev, it1_ok, src_tup, src_fz, src_str, fixC_ev, lvI_ev, lv1_ok, rngI_ev, rg1_ok, forM_ev, for1_ok, turnT_nx, turnT_ct, turnT_bk, turnT_rt, turnT_rse, nmG_ev, tupG_ev, consG_ev, nilG_ev, compM_ev, yesT_ev, fn1_nx, fn1_rt, fn1_rse, eq_ii, eq_bb, max_ii, min_ii, slD_tup, List.getElem?_cons_zero, List.getElem?_cons_succ, List.set_cons_zero, List.set_cons_succ, List.map_cons, List.map_nil, List.length_cons, List.length_nil, List.cons_append, List.nil_append, Option.bind_some, decide_true, decide_false, Bool.not_true, Bool.not_false, ne_ii, ne_bb, forL_nil0, e1, len_lst s1, e2, ix_lst s2 i1, len_lst s2, e3, ix_lst s3 i2, e4, e5, ix_lst s5 i5, isi, e6, decide_eq_false h6]
        exact hT _ _ _ _ _ _ _ w5 c6
    | _ => cases hb
  · simp only [bodyB, seqM_ev, thenT_nx, thenT_rt, thenT_bk, thenT_ct, thenT_rse, nopM_ev, brkM_ev, cntM_ev, setM_ev, setT_ok, setT_rse, setLM_ev, setLT_ok, dropM_ev, dropT_ok, dropT_rse, retM_ev, retT_ok, retT_rse, ifS_ev, ifT_true, ifT_false, asgM_ev, asgT_ok', optT_some, cM_ev, vM_ev, vR_some, opM_ev, op1_ok, op1_rse, op2_ok, op2_rse, unM_ev, un1_ok, un1_rse, blT_ev, blR_ok, blR_rse, trT_ev, trR_ok, tru_bl, tru_non, tru_tup, tru_int, andT_ev, and1_true, and1_false, orT_ev, or1_true, or1_false, notT_ev, not1_ok, andM_ev, andV_true, andV_false, orM_ev, orV_true, orV_false, ifM_ev, if1_true, if1_false, chM_ev, ch1_ok, ch2_ok, ch3_true, ch3_false, nilA_ev, consA_ev, con1_ok, con1_rse, con2_ok, tupM_ev, tup1_0, tup1_1, tup1_2, tup1_3, tup1_4, szA_ev, sz1_0, sz1_1, sz1_2, sz1_3, sz1_4, sz1_5, sz1_6, sz1_8, sz1_10, newM_ev, new1_ok, onL_ev, onL1_ok, tupL_ev, clM_ev, cl1_rse, cl1_0, cl1_1, cl1_2, cl1_3, cl1_4, cl1_5, putM_ev, putT_ok, putT2_ok, putT3_ok, putT4_some, augM_ev, augT_some, noO_ev, someO_ev, some1_ok, slM_ev, sl1_ok, sl2_ok, sl3_ok, metM_ev, met0_ev, intD0_ev, add_ii, sub_ii, neg_i, lt_ii, le_ii, gt_ii, ge_ii, isN_ev, notN_ev, num_i, num_b, notD_b, isi_bool_bl, len_tup, len_fz, tup_tup, ix_tup0, ix_tup1, ix_tup2, itM_ev, it1_ok, src_tup, src_fz, src_str, fixC_ev, lvI_ev, lv1_ok, rngI_ev, rg1_ok, forM_ev, for1_ok, turnT_nx, turnT_ct, turnT_bk, turnT_rt, turnT_rse, nmG_ev, tupG_ev, consG_ev, nilG_ev, compM_ev, yesT_ev, fn1_nx, fn1_rt, fn1_rse, eq_ii, eq_bb, max_ii, min_ii, slD_tup, List.getElem?_cons_zero, List.getElem?_cons_succ, List.set_cons_zero, List.set_cons_succ, List.map_cons, List.map_nil, List.length_cons, List.length_nil, List.cons_append, List.nil_append, Option.bind_some, decide_true, decide_false, Bool.not_true, Bool.not_false, ne_ii, ne_bb, forL_nil0, e1, len_lst s1, e2, ix_lst s2 i1, len_lst s2, e3, ix_lst s3 i2, e4, e5, ix_lst s5 i5, isi_tup hv, Bool.not_eq_true _ ▸ hb]
    exact hT _ _ _ _ _ _ _ w5 c5
def kO : Kd := .mk []
def kK : List (List Kd) := [[], [kO], [kO, kO], [.mk [kO]], [kO, .mk [kO]], [.mk [kO, kO], kO], [.mk [.mk [kO]]], [kO, .mk [.mk [kO]]]]
theorem kK_ok : ∀ ks ∈ kK, kdeps ks < 4 ∧ ks.length ≤ 2 ∧ kwds ks ≤ 2 := by decide
theorem kK_d : (kK.map fun ks => D.tup (kds ks)) = [.tup [], .tup [.tup []], .tup [.tup [], .tup []], .tup [.tup [.tup []]], .tup [.tup [], .tup [.tup []]], .tup [.tup [.tup [], .tup []], .tup []], .tup [.tup [.tup [.tup []]]], .tup [.tup [], .tup [.tup [.tup []]]]] := by
  simp [kK, kO, kds, Kd.d]
theorem law_true : ∀ ns : List Int, ns.length ≤ 63 → ∃ S, mf 25 .law [.fz (ns.map D.int)] [] = .ok (.bl true) S := by
  intro ns _
  obtain ⟨S1, n, e1, c1, -, -⟩ := start_spec (t := consA (cM (.int 20)) nilA) (tl := [.int 20]) (ns := ns) (S := []) (fun e S => rfl) (by simp)
  have e1 : mf 24 .law_start [.fz (ns.map D.int)] [] = .ok (.obj n) S1 := e1
  obtain ⟨d2, S2, e2, a2, b2, c2, k2⟩ := take_yn src (k := 22) (S := S1 ++ [O.lst (kK.map fun ks => D.tup (kds ks))]) (c1.keep fun i hi => get_app (by have := c1.lt; omega)) (many := 8) (by decide) (by decide)
  have s2 : S2[S1.length]? = some (.lst (kK.map fun ks => D.tup (kds ks))) := (k2.at_ _ (by have := c1.lt; omega)).trans get_new
  obtain ⟨_, i2, ks, hks, rfl⟩ := pick_at (P := fun x => ∃ ks, ks ∈ kK ∧ x = .tup (kds ks)) (l := kK.map fun ks => D.tup (kds ks)) (fun x hx => by
    obtain ⟨ks, h1, h2⟩ := List.mem_map.mp hx
    exact ⟨ks, h1, h2.symm⟩) a2 (by rw [List.length_map]; exact b2)
  rw [kK_d] at e2 s2 i2
  have e2 : mf 24 .law_take [.obj n, .int 8] _ = .ok (.int d2) S2 := e2
  obtain ⟨q1, q2, q3⟩ := kK_ok ks hks
  have kw2 : KW2 ks := ⟨q2, q3⟩
  obtain ⟨d3, S3, e3, a3, b3, c3, k3⟩ := take_yn src (k := 22) c2 (many := 3) (by decide) (by decide)
  have e3 : mf 24 .law_take [.obj n, .int 3] S2 = .ok (.int d3) S3 := e3
  obtain ⟨ty, S4, e4, t1, t2, c4, k4⟩ := type_yn src (k := 14) (st := 1 + d3) (t := [.int 20]) (by omega) (by omega) 4 ks S3 n q1 (by decide) kw2.kw c3
  have e4 : mf 24 .law_type [.obj n, .tup (kds ks), .int (1 + d3)] S3 = .ok ty S4 := e4
  obtain ⟨w, wn⟩ := ty_small t1 t2 kw2
  have hd := (ty_plain t1).2
  have e5 := isType_yn src (k := 16) (st := 1 + d3) 4 ks ty S4 q1 (by decide) (w2_tre w)
  rw [t1] at e5
  have e5 : mf 24 .is_type [.tup (kds ks), .int (1 + d3), ty] S4 = .ok (.bl true) S4 := e5
  obtain ⟨e', S5, e6, -⟩ := for_idx (chk := fixC) (g := nmG 5) (b := b_law_l1 (mf 24) (mf2 24).2) (l := upto 0 4) (e := [some (.fz (ns.map D.int)), some (.obj n), some (.tup (kds ks)), some (.int (1 + d3)), some ty, none, none, none, none, none, none, none]) (S := S4)
    (I := fun i e S' => ∃ (x5 x6 x7 x8 x9 x10 x11 : Option D), e = [some (.fz (ns.map D.int)), some (.obj n), some (.tup (kds ks)), some (.int (1 + d3)), some ty, x5, x6, x7, x8, x9, x10, x11] ∧ CI [.int 20] S' n) (fun _ _ _ _ => rfl)
    ⟨none, none, none, none, none, none, none, rfl, c4⟩ (fun i x e S hx hI => by
      obtain ⟨x5, x6, x7, x8, x9, x10, x11, rfl, c5⟩ := hI
      rw [body_eq]
      have := body_spec (T := tailB (mf 24) (mf2 24).2) (ks := ks) (st := 1 + d3) (ty := ty) (S := S) (c := n) (x0 := some (.fz (ns.map D.int))) (x5 := some x) (x6 := x6) (x7 := x7) (x8 := x8) (x9 := x9) (x10 := x10) (x11 := x11) (Q := fun r => ∃ e2 S2, r = .nx e2 S2 ∧ ∃ (x5 x6 x7 x8 x9 x10 x11 : Option D), e2 = [some (.fz (ns.map D.int)), some (.obj n), some (.tup (kds ks)), some (.int (1 + d3)), some ty, x5, x6, x7, x8, x9, x10, x11] ∧ CI [.int 20] S2 n) (by omega) (by omega) w (by omega) (Nat.le_trans wn (by decide)) c5
        (fun y5 y6 y8 y9 d1 other S' ho c6 => by
          obtain ⟨y, S2, g1, g2⟩ := tail_spec (d1 := d1) (st := 1 + d3) (x0 := some (.fz (ns.map D.int))) (x5 := y5) (x6 := y6) (x8 := y8) (x9 := y9) (x11 := x11) q1 kw2.kw (w2_tre w) (by omega) ho c6
          exact ⟨_, S2, g1, _, _, _, _, _, _, _, rfl, g2⟩)
      obtain ⟨e2, S2, g1, g2⟩ := this
      exact ⟨_, e2, S2, rfl, .inl g1, g2⟩)
  have hr : rng1D [.int 4] S4 = .ok (upto 0 4, fixC) S4 := rng1_nat (by decide)
  refine ⟨S5, ?_⟩
  rw [mf_law 24]
  simp only [b_law, fnM_ev, startD, List.replicate, seqM_ev, thenT_nx, thenT_rt, thenT_bk, thenT_ct, thenT_rse, nopM_ev, brkM_ev, cntM_ev, setM_ev, setT_ok, setT_rse, setLM_ev, setLT_ok, dropM_ev, dropT_ok, dropT_rse, retM_ev, retT_ok, retT_rse, ifS_ev, ifT_true, ifT_false, asgM_ev, asgT_ok', optT_some, cM_ev, vM_ev, vR_some, opM_ev, op1_ok, op1_rse, op2_ok, op2_rse, unM_ev, un1_ok, un1_rse, blT_ev, blR_ok, blR_rse, trT_ev, trR_ok, tru_bl, tru_non, tru_tup, tru_int, andT_ev, and1_true, and1_false, orT_ev, or1_true, or1_false, notT_ev, not1_ok, andM_ev, andV_true, andV_false, orM_ev, orV_true, orV_false, ifM_ev, if1_true, if1_false, chM_ev, ch1_ok, ch2_ok, ch3_true, ch3_false, nilA_ev, consA_ev, con1_ok, con1_rse, con2_ok, tupM_ev, tup1_0, tup1_1, tup1_2, tup1_3, tup1_4, szA_ev, sz1_0, sz1_1, sz1_2, sz1_3, sz1_4, sz1_5, sz1_6, sz1_8, sz1_10, newM_ev, new1_ok, onL_ev, onL1_ok, tupL_ev, clM_ev, cl1_rse, cl1_0, cl1_1, cl1_2, cl1_3, cl1_4, cl1_5, putM_ev, putT_ok, putT2_ok, putT3_ok, putT4_some, augM_ev, augT_some, noO_ev, someO_ev, some1_ok, slM_ev, sl1_ok, sl2_ok, sl3_ok, metM_ev, met0_ev, intD0_ev, add_ii, sub_ii, neg_i, lt_ii, le_ii, gt_ii, ge_ii, isN_ev, notN_ev, num_i, num_b, notD_b, isi_bool_bl, len_tup, len_fz, tup_tup, ix_tup0, ix_tup1, ix_tup2, itM_ev, it1_ok, src_tup, src_fz, src_str, fixC_ev, lvI_ev, lv1_ok, rngI_ev, rg1_ok, forM_ev, for1_ok, turnT_nx, turnT_ct, turnT_bk, turnT_rt, turnT_rse, nmG_ev, tupG_ev, consG_ev, nilG_ev, compM_ev, yesT_ev, fn1_nx, fn1_rt, fn1_rse, eq_ii, eq_bb, max_ii, min_ii, slD_tup, List.getElem?_cons_zero, List.getElem?_cons_succ, List.set_cons_zero, List.set_cons_succ, List.map_cons, List.map_nil, List.length_cons, List.length_nil, List.cons_append, List.nil_append, Option.bind_some, decide_true, decide_false, Bool.not_true, Bool.not_false, ne_ii, ne_bb, forL_nil0, e1, e2, ix_lst s2 i2, e3, e4, e5, show notBD (.bl true) (.bl true) S4 = .ok (.bl false) S4 from rfl, hr, e6]
end B

namespace B
open PySem PySem.Spec L2 L3
theorem all_mk {w : World} {K : PySem.W.Frag} {h : Heap} {mg : Str → Option Value} {fa0 : Addr} (X : K.In h) (G : h.Ns mainGlobals mg) (hfa : mg "law" = some (.ref fa0))
    {f0 : Addr} {od0 an0 : Option Addr} {sl0 : Array (Option Value)} {oc0 kV0 dc0 pm0 cd0 ct0 : Value}
    (a0 : PySem.W.nsIn K mainGlobals "is_type" = some (some (.ref f0))) (l0 : K.lookup f0 = some ⟨oc0, od0, .func (PySem.W.fnOf "is_type" "is_type" (defArgs s_is_type) (defBody s_is_type) (defScope s_is_type) .none kV0 dc0 pm0 an0 cd0 ct0), sl0⟩) (c0 : PySem.W.codeIn K cd0 "is_type" = true) (k0 : PySem.W.keepIn K (.ref f0) = true)
    {f1 : Addr} {od1 an1 : Option Addr} {sl1 : Array (Option Value)} {oc1 kV1 dc1 pm1 cd1 ct1 : Value}
    (a1 : PySem.W.nsIn K mainGlobals "is_set" = some (some (.ref f1))) (l1 : K.lookup f1 = some ⟨oc1, od1, .func (PySem.W.fnOf "is_set" "is_set" (defArgs s_is_set) (defBody s_is_set) (defScope s_is_set) .none kV1 dc1 pm1 an1 cd1 ct1), sl1⟩) (c1 : PySem.W.codeIn K cd1 "is_set" = true) (k1 : PySem.W.keepIn K (.ref f1) = true)
    {f2 : Addr} {od2 an2 : Option Addr} {sl2 : Array (Option Value)} {oc2 kV2 dc2 pm2 cd2 ct2 : Value}
    (a2 : PySem.W.nsIn K mainGlobals "_law_start" = some (some (.ref f2))) (l2 : K.lookup f2 = some ⟨oc2, od2, .func (PySem.W.fnOf "_law_start" "_law_start" (defArgs s_law_start) (defBody s_law_start) (defScope s_law_start) .none kV2 dc2 pm2 an2 cd2 ct2), sl2⟩) (c2 : PySem.W.codeIn K cd2 "_law_start" = true) (k2 : PySem.W.keepIn K (.ref f2) = true)
    {f3 : Addr} {od3 an3 : Option Addr} {sl3 : Array (Option Value)} {oc3 kV3 dc3 pm3 cd3 ct3 : Value}
    (a3 : PySem.W.nsIn K mainGlobals "_law_fill" = some (some (.ref f3))) (l3 : K.lookup f3 = some ⟨oc3, od3, .func (PySem.W.fnOf "_law_fill" "_law_fill" (defArgs s_law_fill) (defBody s_law_fill) (defScope s_law_fill) .none kV3 dc3 pm3 an3 cd3 ct3), sl3⟩) (c3 : PySem.W.codeIn K cd3 "_law_fill" = true) (k3 : PySem.W.keepIn K (.ref f3) = true)
    {f4 : Addr} {od4 an4 : Option Addr} {sl4 : Array (Option Value)} {oc4 kV4 dc4 pm4 cd4 ct4 : Value}
    (a4 : PySem.W.nsIn K mainGlobals "_law_take" = some (some (.ref f4))) (l4 : K.lookup f4 = some ⟨oc4, od4, .func (PySem.W.fnOf "_law_take" "_law_take" (defArgs s_law_take) (defBody s_law_take) (defScope s_law_take) .none kV4 dc4 pm4 an4 cd4 ct4), sl4⟩) (c4 : PySem.W.codeIn K cd4 "_law_take" = true) (k4 : PySem.W.keepIn K (.ref f4) = true)
    {f5 : Addr} {od5 an5 : Option Addr} {sl5 : Array (Option Value)} {oc5 kV5 dc5 pm5 cd5 ct5 : Value}
    (a5 : PySem.W.nsIn K mainGlobals "_law_has_all" = some (some (.ref f5))) (l5 : K.lookup f5 = some ⟨oc5, od5, .func (PySem.W.fnOf "_law_has_all" "_law_has_all" (defArgs s_law_has_all) (defBody s_law_has_all) (defScope s_law_has_all) .none kV5 dc5 pm5 an5 cd5 ct5), sl5⟩) (c5 : PySem.W.codeIn K cd5 "_law_has_all" = true) (k5 : PySem.W.keepIn K (.ref f5) = true)
    {f6 : Addr} {od6 an6 : Option Addr} {sl6 : Array (Option Value)} {oc6 kV6 dc6 pm6 cd6 ct6 : Value}
    (a6 : PySem.W.nsIn K mainGlobals "_law_has" = some (some (.ref f6))) (l6 : K.lookup f6 = some ⟨oc6, od6, .func (PySem.W.fnOf "_law_has" "_law_has" (defArgs s_law_has) (defBody s_law_has) (defScope s_law_has) .none kV6 dc6 pm6 an6 cd6 ct6), sl6⟩) (c6 : PySem.W.codeIn K cd6 "_law_has" = true) (k6 : PySem.W.keepIn K (.ref f6) = true)
    {f7 : Addr} {od7 an7 : Option Addr} {sl7 : Array (Option Value)} {oc7 kV7 dc7 pm7 cd7 ct7 : Value}
    (a7 : PySem.W.nsIn K mainGlobals "_law_is_type" = some (some (.ref f7))) (l7 : K.lookup f7 = some ⟨oc7, od7, .func (PySem.W.fnOf "_law_is_type" "_law_is_type" (defArgs s_law_is_type) (defBody s_law_is_type) (defScope s_law_is_type) .none kV7 dc7 pm7 an7 cd7 ct7), sl7⟩) (c7 : PySem.W.codeIn K cd7 "_law_is_type" = true) (k7 : PySem.W.keepIn K (.ref f7) = true)
    {f8 : Addr} {od8 an8 : Option Addr} {sl8 : Array (Option Value)} {oc8 kV8 dc8 pm8 cd8 ct8 : Value}
    (a8 : PySem.W.nsIn K mainGlobals "_law_is_set" = some (some (.ref f8))) (l8 : K.lookup f8 = some ⟨oc8, od8, .func (PySem.W.fnOf "_law_is_set" "_law_is_set" (defArgs s_law_is_set) (defBody s_law_is_set) (defScope s_law_is_set) .none kV8 dc8 pm8 an8 cd8 ct8), sl8⟩) (c8 : PySem.W.codeIn K cd8 "_law_is_set" = true) (k8 : PySem.W.keepIn K (.ref f8) = true)
    {f9 : Addr} {od9 an9 : Option Addr} {sl9 : Array (Option Value)} {oc9 kV9 dc9 pm9 cd9 ct9 : Value}
    (a9 : PySem.W.nsIn K mainGlobals "_law_set" = some (some (.ref f9))) (l9 : K.lookup f9 = some ⟨oc9, od9, .func (PySem.W.fnOf "_law_set" "_law_set" (defArgs s_law_set) (defBody s_law_set) (defScope s_law_set) .none kV9 dc9 pm9 an9 cd9 ct9), sl9⟩) (c9 : PySem.W.codeIn K cd9 "_law_set" = true) (k9 : PySem.W.keepIn K (.ref f9) = true)
    {f10 : Addr} {od10 an10 : Option Addr} {sl10 : Array (Option Value)} {oc10 kV10 dc10 pm10 cd10 ct10 : Value}
    (a10 : PySem.W.nsIn K mainGlobals "_law_type" = some (some (.ref f10))) (l10 : K.lookup f10 = some ⟨oc10, od10, .func (PySem.W.fnOf "_law_type" "_law_type" (defArgs s_law_type) (defBody s_law_type) (defScope s_law_type) .none kV10 dc10 pm10 an10 cd10 ct10), sl10⟩) (c10 : PySem.W.codeIn K cd10 "_law_type" = true) (k10 : PySem.W.keepIn K (.ref f10) = true)
    {f11 : Addr} {od11 an11 : Option Addr} {sl11 : Array (Option Value)} {oc11 kV11 dc11 pm11 cd11 ct11 : Value}
    (a11 : PySem.W.nsIn K mainGlobals "_law_nodes_of" = some (some (.ref f11))) (l11 : K.lookup f11 = some ⟨oc11, od11, .func (PySem.W.fnOf "_law_nodes_of" "_law_nodes_of" (defArgs s_law_nodes_of) (defBody s_law_nodes_of) (defScope s_law_nodes_of) .none kV11 dc11 pm11 an11 cd11 ct11), sl11⟩) (c11 : PySem.W.codeIn K cd11 "_law_nodes_of" = true) (k11 : PySem.W.keepIn K (.ref f11) = true)
    {f12 : Addr} {od12 an12 : Option Addr} {sl12 : Array (Option Value)} {oc12 kV12 dc12 pm12 cd12 ct12 : Value}
    (a12 : PySem.W.nsIn K mainGlobals "_law_changed" = some (some (.ref f12))) (l12 : K.lookup f12 = some ⟨oc12, od12, .func (PySem.W.fnOf "_law_changed" "_law_changed" (defArgs s_law_changed) (defBody s_law_changed) (defScope s_law_changed) .none kV12 dc12 pm12 an12 cd12 ct12), sl12⟩) (c12 : PySem.W.codeIn K cd12 "_law_changed" = true) (k12 : PySem.W.keepIn K (.ref f12) = true)
    {f13 : Addr} {od13 an13 : Option Addr} {sl13 : Array (Option Value)} {oc13 kV13 dc13 pm13 cd13 ct13 : Value}
    (a13 : PySem.W.nsIn K mainGlobals "law" = some (some (.ref f13))) (l13 : K.lookup f13 = some ⟨oc13, od13, .func (PySem.W.fnOf "law" "law" (defArgs s_law) (defBody s_law) (defScope s_law) .none kV13 dc13 pm13 an13 cd13 ct13), sl13⟩) (c13 : PySem.W.codeIn K cd13 "law" = true) (k13 : PySem.W.keepIn K (.ref f13) = true)
    (z_all : PySem.W.nsIn K mainGlobals "all" = some none)
    (z_bool : PySem.W.nsIn K mainGlobals "bool" = some none)
    (z_enumerate : PySem.W.nsIn K mainGlobals "enumerate" = some none)
    (z_int : PySem.W.nsIn K mainGlobals "int" = some none)
    (z_isinstance : PySem.W.nsIn K mainGlobals "isinstance" = some none)
    (z_len : PySem.W.nsIn K mainGlobals "len" = some none)
    (z_list : PySem.W.nsIn K mainGlobals "list" = some none)
    (z_range : PySem.W.nsIn K mainGlobals "range" = some none)
    (z_sorted : PySem.W.nsIn K mainGlobals "sorted" = some none)
    (z_tuple : PySem.W.nsIn K mainGlobals "tuple" = some none)
    : ∃ (fa : Fn → Addr) (fdt : Fn → FuncData) (ca : Nat → Addr), fa .law = fa0 ∧ (∀ (s : Shared) (v : Value), BindsTo s (fdt .law) ⟨[v], []⟩ [("script", v)]) ∧ Txt K mg fa fdt ca := by
  have e := hfa.symm.trans (PySem.W.mg_of X G a13)
  cases e
  refine ⟨fun g => match g with | .is_type => f0 | .is_set => f1 | .law_start => f2 | .law_fill => f3 | .law_take => f4 | .law_has_all => f5 | .law_has => f6 | .law_is_type => f7 | .law_is_set => f8 | .law_set => f9 | .law_type => f10 | .law_nodes_of => f11 | .law_changed => f12 | .law => fa0,
    fun g => match g with | .is_type => PySem.W.fnOf "is_type" "is_type" (defArgs s_is_type) (defBody s_is_type) (defScope s_is_type) .none kV0 dc0 pm0 an0 cd0 ct0 | .is_set => PySem.W.fnOf "is_set" "is_set" (defArgs s_is_set) (defBody s_is_set) (defScope s_is_set) .none kV1 dc1 pm1 an1 cd1 ct1 | .law_start => PySem.W.fnOf "_law_start" "_law_start" (defArgs s_law_start) (defBody s_law_start) (defScope s_law_start) .none kV2 dc2 pm2 an2 cd2 ct2 | .law_fill => PySem.W.fnOf "_law_fill" "_law_fill" (defArgs s_law_fill) (defBody s_law_fill) (defScope s_law_fill) .none kV3 dc3 pm3 an3 cd3 ct3 | .law_take => PySem.W.fnOf "_law_take" "_law_take" (defArgs s_law_take) (defBody s_law_take) (defScope s_law_take) .none kV4 dc4 pm4 an4 cd4 ct4 | .law_has_all => PySem.W.fnOf "_law_has_all" "_law_has_all" (defArgs s_law_has_all) (defBody s_law_has_all) (defScope s_law_has_all) .none kV5 dc5 pm5 an5 cd5 ct5 | .law_has => PySem.W.fnOf "_law_has" "_law_has" (defArgs s_law_has) (defBody s_law_has) (defScope s_law_has) .none kV6 dc6 pm6 an6 cd6 ct6 | .law_is_type => PySem.W.fnOf "_law_is_type" "_law_is_type" (defArgs s_law_is_type) (defBody s_law_is_type) (defScope s_law_is_type) .none kV7 dc7 pm7 an7 cd7 ct7 | .law_is_set => PySem.W.fnOf "_law_is_set" "_law_is_set" (defArgs s_law_is_set) (defBody s_law_is_set) (defScope s_law_is_set) .none kV8 dc8 pm8 an8 cd8 ct8 | .law_set => PySem.W.fnOf "_law_set" "_law_set" (defArgs s_law_set) (defBody s_law_set) (defScope s_law_set) .none kV9 dc9 pm9 an9 cd9 ct9 | .law_type => PySem.W.fnOf "_law_type" "_law_type" (defArgs s_law_type) (defBody s_law_type) (defScope s_law_type) .none kV10 dc10 pm10 an10 cd10 ct10 | .law_nodes_of => PySem.W.fnOf "_law_nodes_of" "_law_nodes_of" (defArgs s_law_nodes_of) (defBody s_law_nodes_of) (defScope s_law_nodes_of) .none kV11 dc11 pm11 an11 cd11 ct11 | .law_changed => PySem.W.fnOf "_law_changed" "_law_changed" (defArgs s_law_changed) (defBody s_law_changed) (defScope s_law_changed) .none kV12 dc12 pm12 an12 cd12 ct12 | .law => PySem.W.fnOf "law" "law" (defArgs s_law) (defBody s_law) (defScope s_law) .none kV13 dc13 pm13 an13 cd13 ct13, fun _ => 0, rfl, fun s v => .of_eq rfl, ?_⟩
  exact ⟨fun_mk (st := s_is_type) l0 c0 k0,
    (fun_mk (st := s_is_type) l0 c0 k0).binds (ps := ["kind", "states", "ty"]) fun _ _ _ _ _ _ us hl => match us, hl with | [_, _, _], _ => rfl,
    PySem.W.mg_of X G a0,
    fun_mk (st := s_is_set) l1 c1 k1,
    (fun_mk (st := s_is_set) l1 c1 k1).binds (ps := ["kind", "states", "types"]) fun _ _ _ _ _ _ us hl => match us, hl with | [_, _, _], _ => rfl,
    PySem.W.mg_of X G a1,
    fun_mk (st := s_law_start) l2 c2 k2,
    (fun_mk (st := s_law_start) l2 c2 k2).binds (ps := ["script"]) fun _ _ _ _ _ _ us hl => match us, hl with | [_], _ => rfl,
    PySem.W.mg_of X G a2,
    fun_mk (st := s_law_fill) l3 c3 k3,
    (fun_mk (st := s_law_fill) l3 c3 k3).binds (ps := ["c"]) fun _ _ _ _ _ _ us hl => match us, hl with | [_], _ => rfl,
    PySem.W.mg_of X G a3,
    fun_mk (st := s_law_take) l4 c4 k4,
    (fun_mk (st := s_law_take) l4 c4 k4).binds (ps := ["c", "many"]) fun _ _ _ _ _ _ us hl => match us, hl with | [_, _], _ => rfl,
    PySem.W.mg_of X G a4,
    fun_mk (st := s_law_has_all) l5 c5 k5,
    (fun_mk (st := s_law_has_all) l5 c5 k5).binds (ps := ["a", "env", "sets", "term", "types"]) fun _ _ _ _ _ _ us hl => match us, hl with | [_, _, _, _, _], _ => rfl,
    PySem.W.mg_of X G a5,
    fun_mk (st := s_law_has) l6 c6 k6,
    (fun_mk (st := s_law_has) l6 c6 k6).binds (ps := ["a", "env", "sets", "term", "ty"]) fun _ _ _ _ _ _ us hl => match us, hl with | [_, _, _, _, _], _ => rfl,
    PySem.W.mg_of X G a6,
    fun_mk (st := s_law_is_type) l7 c7 k7,
    (fun_mk (st := s_law_is_type) l7 c7 k7).binds (ps := ["kind", "states", "ty"]) fun _ _ _ _ _ _ us hl => match us, hl with | [_, _, _], _ => rfl,
    PySem.W.mg_of X G a7,
    fun_mk (st := s_law_is_set) l8 c8 k8,
    (fun_mk (st := s_law_is_set) l8 c8 k8).binds (ps := ["kind", "states", "one"]) fun _ _ _ _ _ _ us hl => match us, hl with | [_, _, _], _ => rfl,
    PySem.W.mg_of X G a8,
    fun_mk (st := s_law_set) l9 c9 k9,
    (fun_mk (st := s_law_set) l9 c9 k9).binds (ps := ["c", "kind", "states", "most"]) fun _ _ _ _ _ _ us hl => match us, hl with | [_, _, _, _], _ => rfl,
    PySem.W.mg_of X G a9,
    fun_mk (st := s_law_type) l10 c10 k10,
    (fun_mk (st := s_law_type) l10 c10 k10).binds (ps := ["c", "kind", "states"]) fun _ _ _ _ _ _ us hl => match us, hl with | [_, _, _], _ => rfl,
    PySem.W.mg_of X G a10,
    fun_mk (st := s_law_nodes_of) l11 c11 k11,
    (fun_mk (st := s_law_nodes_of) l11 c11 k11).binds (ps := ["value", "found"]) fun _ _ _ _ _ _ us hl => match us, hl with | [_, _], _ => rfl,
    PySem.W.mg_of X G a11,
    fun_mk (st := s_law_changed) l12 c12 k12,
    (fun_mk (st := s_law_changed) l12 c12 k12).binds (ps := ["value", "box", "other"]) fun _ _ _ _ _ _ us hl => match us, hl with | [_, _, _], _ => rfl,
    PySem.W.mg_of X G a12,
    fun_mk (st := s_law) l13 c13 k13,
    (fun_mk (st := s_law) l13 c13 k13).binds (ps := ["script"]) fun _ _ _ _ _ _ us hl => match us, hl with | [_], _ => rfl,
    PySem.W.mg_of X G a13,
    PySem.W.mg_none_of X G z_all,
    PySem.W.mg_none_of X G z_bool,
    PySem.W.mg_none_of X G z_enumerate,
    PySem.W.mg_none_of X G z_int,
    PySem.W.mg_none_of X G z_isinstance,
    PySem.W.mg_none_of X G z_len,
    PySem.W.mg_none_of X G z_list,
    PySem.W.mg_none_of X G z_range,
    PySem.W.mg_none_of X G z_sorted,
    PySem.W.mg_none_of X G z_tuple⟩
end B
open PySem PySem.W PyProof.Rows
set_option maxRecDepth 100000 in
set_option maxHeartbeats 0 in
theorem PySem.Challenge.cw_burgeon_k14_types_of_kinds_holds : PySem.Challenge.rw_burgeon_k14_types_of_kinds.Holds := by
  w_on; o_law; k_head; (case hw => w_witness2)
  k_fill
  refine L3.walk_law (l := PySem.Challenge.rw_burgeon_k14_types_of_kinds) (k := 26) rfl rfl ⟨rfl, by decide, by decide⟩ (fun w h Y => PySem.W.kIn_of Y) B.law_true ?F
  case F =>
    intro w mg fa h KX G hmg
    have z := @B.all_mk w _ h mg fa KX G hmg
    obtain ⟨fa2, fdt, ca, e, hb, T⟩ : ∃ (fa2 : B.Fn → Addr) (fdt : B.Fn → FuncData) (ca : Nat → Addr), fa2 .law = fa ∧ (∀ (s : Shared) (v : Value), BindsTo s (fdt .law) ⟨[v], []⟩ [("script", v)]) ∧ B.Txt _ mg fa2 fdt ca := by
      refine' B.all_mk (w := w) KX G hmg ?a0 ?l0 ?c0 ?k0 ?a1 ?l1 ?c1 ?k1 ?a2 ?l2 ?c2 ?k2 ?a3 ?l3 ?c3 ?k3 ?a4 ?l4 ?c4 ?k4 ?a5 ?l5 ?c5 ?k5 ?a6 ?l6 ?c6 ?k6 ?a7 ?l7 ?c7 ?k7 ?a8 ?l8 ?c8 ?k8 ?a9 ?l9 ?c9 ?k9 ?a10 ?l10 ?c10 ?k10 ?a11 ?l11 ?c11 ?k11 ?a12 ?l12 ?c12 ?k12 ?a13 ?l13 ?c13 ?k13 ?z_all ?z_bool ?z_enumerate ?z_int ?z_isinstance ?z_len ?z_list ?z_range ?z_sorted ?z_tuple
      (case a0 => k_is); (case l0 => k_is); (case c0 => k_is); (case k0 => k_is); (case a1 => k_is); (case l1 => k_is); (case c1 => k_is); (case k1 => k_is); (case a2 => k_is); (case l2 => k_is); (case c2 => k_is); (case k2 => k_is); (case a3 => k_is); (case l3 => k_is); (case c3 => k_is); (case k3 => k_is); (case a4 => k_is); (case l4 => k_is); (case c4 => k_is); (case k4 => k_is); (case a5 => k_is); (case l5 => k_is); (case c5 => k_is); (case k5 => k_is); (case a6 => k_is); (case l6 => k_is); (case c6 => k_is); (case k6 => k_is); (case a7 => k_is); (case l7 => k_is); (case c7 => k_is); (case k7 => k_is); (case a8 => k_is); (case l8 => k_is); (case c8 => k_is); (case k8 => k_is); (case a9 => k_is); (case l9 => k_is); (case c9 => k_is); (case k9 => k_is); (case a10 => k_is); (case l10 => k_is); (case c10 => k_is); (case k10 => k_is); (case a11 => k_is); (case l11 => k_is); (case c11 => k_is); (case k11 => k_is); (case a12 => k_is); (case l12 => k_is); (case c12 => k_is); (case k12 => k_is); (case a13 => k_is); (case l13 => k_is); (case c13 => k_is); (case k13 => k_is); (case z_all => k_is); (case z_bool => k_is); (case z_enumerate => k_is); (case z_int => k_is); (case z_isinstance => k_is); (case z_len => k_is); (case z_list => k_is); (case z_range => k_is); (case z_sorted => k_is); (case z_tuple => k_is)
    subst e
    exact ⟨fdt .law, ca, hb, fun base _ _ => (B.ok_all T 25).1 .law⟩

