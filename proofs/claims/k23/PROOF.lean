import PyProof.Rows.All
import Wide.All
import OpenK.AllK
import Wide.FinOn
import HandS.ForMost
import HandS.ForExc
import HandS.Deep
import HandS.TupAny
import HandS.TupMul
import HandS.IsInst
import HandS.Iter
import HandS.Text
import PySem.Challenge.RW_burgeon_k23_monitors
set_option Elab.async false
set_option linter.all false
set_option maxRecDepth 100000
set_option maxHeartbeats 4000000
set_option autoImplicit false
/-! L3A: data by value (D), mutable objects by number in a store (Sto), and the judgements that tie the hand layer's readings to plain Lean functions over them. -/
namespace L3
open PySem PySem.Spec L2

/-! ### data, store, results -/
inductive D where
  | non | bl (b : Bool) | int (i : Int) | str (x : Str) | tup (l : List D) | fz (l : List D) | obj (n : Nat)
  deriving Inhabited
mutual
def D.dec : (a b : D) → Decidable (a = b)
  | .non, .non => .isTrue rfl
  | .bl a, .bl b => if h : a = b then .isTrue (h ▸ rfl) else .isFalse fun e => h (D.bl.inj e)
  | .int a, .int b => if h : a = b then .isTrue (h ▸ rfl) else .isFalse fun e => h (D.int.inj e)
  | .str a, .str b => if h : a = b then .isTrue (h ▸ rfl) else .isFalse fun e => h (D.str.inj e)
  | .obj a, .obj b => if h : a = b then .isTrue (h ▸ rfl) else .isFalse fun e => h (D.obj.inj e)
  | .tup a, .tup b => match D.decs a b with
    | .isTrue h => .isTrue (h ▸ rfl)
    | .isFalse h => .isFalse fun e => h (D.tup.inj e)
  | .fz a, .fz b => match D.decs a b with
    | .isTrue h => .isTrue (h ▸ rfl)
    | .isFalse h => .isFalse fun e => h (D.fz.inj e)
  | .non, .bl _ | .non, .int _ | .non, .str _ | .non, .tup _ | .non, .fz _ | .non, .obj _ => .isFalse fun e => by cases e
  | .bl _, .non | .bl _, .int _ | .bl _, .str _ | .bl _, .tup _ | .bl _, .fz _ | .bl _, .obj _ => .isFalse fun e => by cases e
  | .int _, .non | .int _, .bl _ | .int _, .str _ | .int _, .tup _ | .int _, .fz _ | .int _, .obj _ => .isFalse fun e => by cases e
  | .str _, .non | .str _, .bl _ | .str _, .int _ | .str _, .tup _ | .str _, .fz _ | .str _, .obj _ => .isFalse fun e => by cases e
  | .tup _, .non | .tup _, .bl _ | .tup _, .int _ | .tup _, .str _ | .tup _, .fz _ | .tup _, .obj _ => .isFalse fun e => by cases e
  | .fz _, .non | .fz _, .bl _ | .fz _, .int _ | .fz _, .str _ | .fz _, .tup _ | .fz _, .obj _ => .isFalse fun e => by cases e
  | .obj _, .non | .obj _, .bl _ | .obj _, .int _ | .obj _, .str _ | .obj _, .tup _ | .obj _, .fz _ => .isFalse fun e => by cases e
def D.decs : (a b : List D) → Decidable (a = b)
  | [], [] => .isTrue rfl
  | [], _ :: _ => .isFalse fun e => by cases e
  | _ :: _, [] => .isFalse fun e => by cases e
  | a :: as, b :: bs => match D.dec a b with
    | .isFalse h => .isFalse fun e => h (List.cons.inj e).1
    | .isTrue h => match D.decs as bs with
      | .isTrue h' => .isTrue (h ▸ h' ▸ rfl)
      | .isFalse h' => .isFalse fun e => h' (List.cons.inj e).2
end
instance : DecidableEq D := D.dec
inductive O where
  | lst (l : List D)
  | dct (kvs : List (Key × D))
  | ins (c : Nat) (fs : List (Str × D))
  deriving DecidableEq
abbrev Sto := List O
abbrev Sl := List (Option D)
structure Ex where
  c : Nat
  fs : List (Str × D)
inductive Rs (α : Type) where
  | ok (a : α) (S : Sto) | rse (x : Ex) (S : Sto) | bad
inductive Rt where
  | nx (e : Sl) (S : Sto) | rt (d : D) (S : Sto) | bk (e : Sl) (S : Sto) | ct (e : Sl) (S : Sto) | rse (x : Ex) (e : Sl) (S : Sto) | bad
abbrev ME := Sl → Sto → Rs D
abbrev MT := Sl → Sto → Rs Bool
abbrev MA := Sl → Sto → Rs (List D)
abbrev MS := Sl → Sto → Rt

/-! ### what stands for a datum -/
/-- a list that nothing writes -/
def FzL (K : PySem.W.Frag) (H : Hp) (a : Addr) (xs : List V) : Prop :=
  (∃ o, H a = some (.frz o (.lst xs))) ∨
    ∃ (o : Obj) (its : Array Value) (n : Nat), K.lookup a = some o ∧ o.cls = .type "list" ∧ o.dict = none ∧ o.data = .seq its n ∧ its.size ≤ sizeLine ∧ Vals xs its.toList
theorem FzL.sq {K : PySem.W.Frag} {H : Hp} {a : Addr} {xs : List V} (h : FzL K H a xs) : SqL K H a xs := by
  rcases h with h | h
  · exact .inl (.inr h)
  · exact .inr h
mutual
inductive Rep (K : PySem.W.Frag) (r : List Addr) (H : Hp) : V → D → Prop
  | non : Rep K r H .non .non
  | bl (b : Bool) : Rep K r H (.bl b) (.bl b)
  | int (i : Int) : Rep K r H (.int i) (.int i)
  | str (x : Str) : Rep K r H (.str x) (.str x)
  | tup {a : Addr} {xs : List V} {ds : List D} : SqT K H a xs → Reps K r H xs ds → Rep K r H (.ref a) (.tup ds)
  | fz {a : Addr} {xs : List V} {ds : List D} : FzL K H a xs → Reps K r H xs ds → Rep K r H (.ref a) (.fz ds)
  | obj {a : Addr} {n : Nat} : r[n]? = some a → Rep K r H (.ref a) (.obj n)
inductive Reps (K : PySem.W.Frag) (r : List Addr) (H : Hp) : List V → List D → Prop
  | nil : Reps K r H [] []
  | cons {v : V} {vs : List V} {d : D} {ds : List D} : Rep K r H v d → Reps K r H vs ds → Reps K r H (v :: vs) (d :: ds)
end
/-- the heap has grown: tuples and locked lists stand, addresses are kept -/
structure Grow (K : PySem.W.Frag) (r : List Addr) (H : Hp) (r' : List Addr) (H' : Hp) : Prop where
  pre : ∀ (n : Nat) (a : Addr), r[n]? = some a → r'[n]? = some a
  tup : ∀ a xs, SqT K H a xs → SqT K H' a xs
  fz : ∀ a xs, FzL K H a xs → FzL K H' a xs
  dom : ∀ a, H' a = none → H a = none
  keep : ∀ a u, H a = some u → a ∉ r → H' a = some u ∧ a ∉ r'
section
variable {K : PySem.W.Frag} {r r1 r2 : List Addr} {H H1 H2 : Hp}
theorem Grow.refl : Grow K r H r H := ⟨fun _ _ h => h, fun _ _ h => h, fun _ _ h => h, fun _ h => h, fun _ _ h n => ⟨h, n⟩⟩
theorem Grow.trans (a : Grow K r H r1 H1) (b : Grow K r1 H1 r2 H2) : Grow K r H r2 H2 :=
  ⟨fun n x h => b.pre n x (a.pre n x h), fun p xs h => b.tup p xs (a.tup p xs h), fun p xs h => b.fz p xs (a.fz p xs h), fun p h => a.dom p (b.dom p h), fun p u h n => let ⟨h1, n1⟩ := a.keep p u h n; b.keep p u h1 n1⟩
mutual
theorem Rep.grow (g : Grow K r H r1 H1) : ∀ {v : V} {d : D}, Rep K r H v d → Rep K r1 H1 v d
  | _, _, .non => .non
  | _, _, .bl b => .bl b
  | _, _, .int i => .int i
  | _, _, .str x => .str x
  | _, _, .tup h t => .tup (g.tup _ _ h) (Reps.grow g t)
  | _, _, .fz h t => .fz (g.fz _ _ h) (Reps.grow g t)
  | _, _, .obj h => .obj (g.pre _ _ h)
theorem Reps.grow (g : Grow K r H r1 H1) : ∀ {vs : List V} {ds : List D}, Reps K r H vs ds → Reps K r1 H1 vs ds
  | _, _, .nil => .nil
  | _, _, .cons a t => .cons (Rep.grow g a) (Reps.grow g t)
end
theorem Reps.length : ∀ {vs : List V} {ds : List D}, Reps K r H vs ds → vs.length = ds.length
  | _, _, .nil => rfl
  | _, _, .cons _ t => congrArg Nat.succ (Reps.length t)
theorem Reps.get : ∀ {vs : List V} {ds : List D} {i : Nat} {d : D}, Reps K r H vs ds → ds[i]? = some d → ∃ v, vs[i]? = some v ∧ Rep K r H v d
  | _, _, _, _, .nil, e => by simp at e
  | _, _, 0, _, .cons a _, e => by simp at e; subst e; exact ⟨_, rfl, a⟩
  | _, _, i + 1, d, .cons _ t, e => by
    obtain ⟨v, h1, h2⟩ := Reps.get (i := i) (d := d) t (by simpa using e)
    exact ⟨v, by simpa using h1, h2⟩
theorem Reps.get' : ∀ {vs : List V} {ds : List D} {i : Nat} {v : V}, Reps K r H vs ds → vs[i]? = some v → ∃ d, ds[i]? = some d ∧ Rep K r H v d
  | _, _, _, _, .nil, e => by simp at e
  | _, _, 0, _, .cons a _, e => by simp at e; subst e; exact ⟨_, rfl, a⟩
  | _, _, i + 1, d, .cons _ t, e => by
    obtain ⟨v, h1, h2⟩ := Reps.get' (i := i) (v := d) t (by simpa using e)
    exact ⟨v, by simpa using h1, h2⟩
theorem Reps.append : ∀ {vs ws : List V} {ds es : List D}, Reps K r H vs ds → Reps K r H ws es → Reps K r H (vs ++ ws) (ds ++ es)
  | _, _, _, _, .nil, s => s
  | _, _, _, _, .cons a t, s => .cons a (Reps.append t s)
theorem Reps.set {v : V} {d : D} (a : Rep K r H v d) : ∀ {vs : List V} {ds : List D} (i : Nat), Reps K r H vs ds → Reps K r H (vs.set i v) (ds.set i d)
  | _, _, _, .nil => .nil
  | _, _, 0, .cons _ t => .cons a t
  | _, _, i + 1, .cons q t => .cons q (Reps.set a i t)
theorem Reps.take : ∀ {vs : List V} {ds : List D} (n : Nat), Reps K r H vs ds → Reps K r H (vs.take n) (ds.take n)
  | _, _, 0, _ => .nil
  | _, _, _ + 1, .nil => .nil
  | _, _, n + 1, .cons a t => .cons a (Reps.take n t)
theorem Reps.drop : ∀ {vs : List V} {ds : List D} (n : Nat), Reps K r H vs ds → Reps K r H (vs.drop n) (ds.drop n)
  | _, _, 0, t => t
  | _, _, _ + 1, .nil => .nil
  | _, _, n + 1, .cons _ t => Reps.drop n t
theorem Reps.dropLast {vs : List V} {ds : List D} (h : Reps K r H vs ds) : Reps K r H vs.dropLast ds.dropLast := by
  rw [List.dropLast_eq_take, List.dropLast_eq_take, h.length]
  exact h.take _
theorem Reps.eraseIdx : ∀ {vs : List V} {ds : List D} (n : Nat), Reps K r H vs ds → Reps K r H (vs.eraseIdx n) (ds.eraseIdx n)
  | _, _, _, .nil => .nil
  | _, _, 0, .cons _ t => t
  | _, _, n + 1, .cons a t => .cons a (Reps.eraseIdx n t)
theorem Reps.reverse {vs : List V} {ds : List D} (h : Reps K r H vs ds) : Reps K r H vs.reverse ds.reverse := by
  induction h using Reps.rec (motive_1 := fun _ _ _ => True) with
  | nil => exact .nil
  | cons a t _ ih =>
    rw [List.reverse_cons, List.reverse_cons]
    exact ih.append (.cons a .nil)
  | _ => trivial
theorem Reps.nil_of {vs : List V} (h : Reps K r H vs []) : vs = [] := by cases h; rfl
theorem Reps.cons_of {vs : List V} {d : D} {ds : List D} (h : Reps K r H vs (d :: ds)) : ∃ v t, vs = v :: t ∧ Rep K r H v d ∧ Reps K r H t ds := by
  cases h with
  | cons a t => exact ⟨_, _, rfl, a, t⟩

theorem Rep.int_of {v : V} {i : Int} (h : Rep K r H v (.int i)) : v = .int i := by cases h; rfl
theorem Rep.bl_of {v : V} {b : Bool} (h : Rep K r H v (.bl b)) : v = .bl b := by cases h; rfl
theorem Rep.str_of {v : V} {x : Str} (h : Rep K r H v (.str x)) : v = .str x := by cases h; rfl
theorem Rep.non_of {v : V} (h : Rep K r H v .non) : v = .non := by cases h; rfl
theorem Rep.tup_of {v : V} {l : List D} (h : Rep K r H v (.tup l)) : ∃ a xs, v = .ref a ∧ SqT K H a xs ∧ Reps K r H xs l := by
  cases h with
  | tup h t => exact ⟨_, _, rfl, h, t⟩
theorem Rep.fz_of {v : V} {l : List D} (h : Rep K r H v (.fz l)) : ∃ a xs, v = .ref a ∧ FzL K H a xs ∧ Reps K r H xs l := by
  cases h with
  | fz h t => exact ⟨_, _, rfl, h, t⟩
theorem Rep.obj_of {v : V} {n : Nat} (h : Rep K r H v (.obj n)) : ∃ a, v = .ref a ∧ r[n]? = some a := by
  cases h with
  | obj h => exact ⟨_, rfl, h⟩
theorem Reps.ints {ns : List Int} : Reps K r H (ns.map V.int) (ns.map D.int) := by
  induction ns with
  | nil => exact .nil
  | cons n ns ih => exact .cons (.int n) ih
theorem Reps.to_ints : ∀ {ns : List Int} {vs : List V}, Reps K r H vs (ns.map D.int) → vs = ns.map V.int
  | [], _, h => h.nil_of
  | n :: ns, vs, h => by
    obtain ⟨v, t, rfl, a, b⟩ := h.cons_of
    rw [a.int_of, Reps.to_ints b]
    rfl
end

/-! ### the store -/
/-- pairs of a dict, of attributes -/
def RepsK {κ : Type} (K : PySem.W.Frag) (r : List Addr) (H : Hp) (kv : List (κ × V)) (kd : List (κ × D)) : Prop := kv.map (·.1) = kd.map (·.1) ∧ Reps K r H (kv.map (·.2)) (kd.map (·.2))
def ORep (K : PySem.W.Frag) (ca : Nat → Addr) (r : List Addr) (H : Hp) (a : Addr) : O → Prop
  | .lst l => ∃ vs, H a = some (.lst vs) ∧ Reps K r H vs l
  | .dct kd => ∃ kv, H a = some (.dK kv) ∧ RepsK K r H kv kd
  | .ins c fs => ∃ dx fv, H a = some (.ins (ca c) dx fv) ∧ RepsK K r H fv fs
structure StoOk (K : PySem.W.Frag) (ca : Nat → Addr) (r : List Addr) (H : Hp) (S : Sto) : Prop where
  len : r.length = S.length
  nd : r.Nodup
  ob : ∀ (n : Nat) o, S[n]? = some o → ∃ a, r[n]? = some a ∧ ORep K ca r H a o
/-- the mutable thing of a kind that o says stands at a -/
inductive MutO : HO → Prop
  | lst (l) : MutO (.lst l)
  | dK (l) : MutO (.dK l)
  | ins (c d f) : MutO (.ins c d f)
section
variable {K : PySem.W.Frag} {ca : Nat → Addr} {r r1 r2 : List Addr} {H H1 H2 : Hp} {S : Sto} {a p : Addr} {o : O} {u u' : HO} {n : Nat}
theorem ORep.there (h : ORep K ca r H a o) : ∃ u, H a = some u ∧ MutO u := by
  cases o with
  | lst l => obtain ⟨vs, e, _⟩ := h; exact ⟨_, e, .lst _⟩
  | dct l => obtain ⟨vs, e, _⟩ := h; exact ⟨_, e, .dK _⟩
  | ins c l => obtain ⟨dx, vs, e, _⟩ := h; exact ⟨_, e, .ins _ _ _⟩
theorem ORep.grow (g : Grow K r H r1 H1) (e : H1 a = H a) (h : ORep K ca r H a o) : ORep K ca r1 H1 a o := by
  cases o with
  | lst l => obtain ⟨vs, q, t⟩ := h; exact ⟨vs, e.trans q, t.grow g⟩
  | dct l => obtain ⟨vs, q, t1, t2⟩ := h; exact ⟨vs, e.trans q, t1, t2.grow g⟩
  | ins c l => obtain ⟨dx, vs, q, t1, t2⟩ := h; exact ⟨dx, vs, e.trans q, t1, t2.grow g⟩
theorem upd_none {b : Addr} (h : upd H p u b = none) : H b = none := by
  unfold upd at h
  split at h
  · cases h
  · exact h
theorem tup_laid (hp : H p = none) {b : Addr} {xs : List V} (h : SqT K H b xs) : SqT K (upd H p u) b xs := by
  rcases h with (h | ⟨ob, h⟩) | h
  · exact .inl (.inl (by rw [upd_ne (ne_of_none h hp)]; exact h))
  · exact .inl (.inr ⟨ob, by rw [upd_ne (ne_of_none h hp)]; exact h⟩)
  · exact .inr h
theorem fz_laid (hp : H p = none) {b : Addr} {xs : List V} (h : FzL K H b xs) : FzL K (upd H p u) b xs := by
  rcases h with ⟨ob, h⟩ | h
  · exact .inl ⟨ob, by rw [upd_ne (ne_of_none h hp)]; exact h⟩
  · exact .inr h
/-- a new thing of any kind laid at a free address -/
theorem Grow.laid (hp : H p = none) : Grow K r H r (upd H p u) :=
  ⟨fun _ _ h => h, fun _ _ h => tup_laid hp h, fun _ _ h => fz_laid hp h, fun _ h => upd_none h, fun b u' h n => ⟨by rw [upd_ne (ne_of_none h hp)]; exact h, n⟩⟩
theorem snoc_pre {n : Nat} {a : Addr} (h : r[n]? = some a) : (r ++ [p])[n]? = some a := by
  rw [List.getElem?_append_left (List.getElem?_eq_some_iff.mp h).1]
  exact h
/-- .. and numbered -/
theorem Grow.alloc (hp : H p = none) : Grow K r H (r ++ [p]) (upd H p u) :=
  ⟨fun _ _ h => snoc_pre h, fun _ _ h => tup_laid hp h, fun _ _ h => fz_laid hp h, fun _ h => upd_none h, fun b u' h n => ⟨by rw [upd_ne (ne_of_none h hp)]; exact h, fun m => by
    rcases List.mem_append.mp m with m | m
    · exact n m
    · exact ne_of_none h hp (by simpa using m)⟩⟩
/-- a thing that was laid since is numbered -/
theorem Grow.number (g : Grow K r H r1 H1) (hp : H p = none) : Grow K r H (r1 ++ [p]) H1 :=
  ⟨fun _ _ h => snoc_pre (g.pre _ _ h), g.tup, g.fz, g.dom, fun b u' h n => let ⟨h1, n1⟩ := g.keep b u' h n; ⟨h1, fun m => by
    rcases List.mem_append.mp m with m | m
    · exact n1 m
    · exact ne_of_none h hp (by simpa using m)⟩⟩
/-- a mutable thing of the store written -/
theorem Grow.written (hr : p ∈ r) (hp : H p = some u) (m : MutO u) : Grow K r H r (upd H p u') := by
  refine ⟨fun _ _ h => h, fun b xs h => ?_, fun b xs h => ?_, fun b h => upd_none h, fun b x h n => ⟨by rw [upd_ne (fun z : b = p => n (by rw [z]; exact hr))]; exact h, n⟩⟩
  · rcases h with (h | ⟨ob, h⟩) | h
    · refine .inl (.inl ?_)
      rw [upd_ne (fun z => by subst z; rw [hp] at h; cases h; cases m)]
      exact h
    · refine .inl (.inr ⟨ob, ?_⟩)
      rw [upd_ne (fun z => by subst z; rw [hp] at h; cases h; cases m)]
      exact h
    · exact .inr h
  · rcases h with ⟨ob, h⟩ | h
    · refine .inl ⟨ob, ?_⟩
      rw [upd_ne (fun z => by subst z; rw [hp] at h; cases h; cases m)]
      exact h
    · exact .inr h
/-- a list that is no part of the store is written -/
theorem tup_over {A : Addr} {l : List V} (hA : H A = some (.lst l)) {b : Addr} {xs : List V} (h : SqT K H b xs) : SqT K (upd H A u) b xs := by
  rcases h with (h | ⟨ob, h⟩) | h
  · exact .inl (.inl (by rw [upd_ne (fun z => by subst z; rw [hA] at h; cases h)]; exact h))
  · exact .inl (.inr ⟨ob, by rw [upd_ne (fun z => by subst z; rw [hA] at h; cases h)]; exact h⟩)
  · exact .inr h
theorem fz_over {A : Addr} {l : List V} (hA : H A = some (.lst l)) {b : Addr} {xs : List V} (h : FzL K H b xs) : FzL K (upd H A u) b xs := by
  rcases h with ⟨ob, h⟩ | h
  · exact .inl ⟨ob, by rw [upd_ne (fun z => by subst z; rw [hA] at h; cases h)]; exact h⟩
  · exact .inr h
mutual
theorem Rep.over {A : Addr} {l : List V} (hA : H A = some (.lst l)) : ∀ {v : V} {d : D}, Rep K r H v d → Rep K r (upd H A u) v d
  | _, _, .non => .non
  | _, _, .bl b => .bl b
  | _, _, .int i => .int i
  | _, _, .str x => .str x
  | _, _, .tup h t => .tup (tup_over hA h) (Reps.over hA t)
  | _, _, .fz h t => .fz (fz_over hA h) (Reps.over hA t)
  | _, _, .obj h => .obj h
theorem Reps.over {A : Addr} {l : List V} (hA : H A = some (.lst l)) : ∀ {vs : List V} {ds : List D}, Reps K r H vs ds → Reps K r (upd H A u) vs ds
  | _, _, .nil => .nil
  | _, _, .cons a t => .cons (Rep.over hA a) (Reps.over hA t)
end
theorem StoOk.over {A : Addr} {l : List V} (s : StoOk K ca r H S) (hq : A ∉ r) (hA : H A = some (.lst l)) : StoOk K ca r (upd H A u) S :=
  ⟨s.len, s.nd, fun n o h => by
    obtain ⟨a, q, t⟩ := s.ob n o h
    have ne : a ≠ A := fun z => hq (by rw [← z]; exact List.mem_of_getElem? q)
    refine ⟨a, q, ?_⟩
    cases o with
    | lst l => obtain ⟨vs, q, t⟩ := t; exact ⟨vs, by rw [upd_ne ne]; exact q, t.over hA⟩
    | dct l => obtain ⟨vs, q, t1, t2⟩ := t; exact ⟨vs, by rw [upd_ne ne]; exact q, t1, t2.over hA⟩
    | ins c l => obtain ⟨dx, vs, q, t1, t2⟩ := t; exact ⟨dx, vs, by rw [upd_ne ne]; exact q, t1, t2.over hA⟩⟩
theorem Grow.over {A : Addr} {l : List V} (g : Grow K r H r1 H1) (h0 : H A = none) (hA : H1 A = some (.lst l)) : Grow K r H r1 (upd H1 A u) :=
  ⟨g.pre, fun b xs h => tup_over hA (g.tup b xs h), fun b xs h => fz_over hA (g.fz b xs h), fun b h => g.dom b (upd_none h), fun b x h n => let ⟨h1, n1⟩ := g.keep b x h n; ⟨by rw [upd_ne (ne_of_none h h0)]; exact h1, n1⟩⟩
theorem StoOk.at (s : StoOk K ca r H S) (h : r[n]? = some a) (e : S[n]? = some o) : ORep K ca r H a o := by
  obtain ⟨b, q, t⟩ := s.ob n o e
  rw [h] at q
  cases q
  exact t
theorem StoOk.there (s : StoOk K ca r H S) (h : r[n]? = some a) : ∃ u, H a = some u ∧ MutO u := by
  have hl : n < S.length := by rw [← s.len]; exact (List.getElem?_eq_some_iff.mp h).1
  exact (s.at h (List.getElem?_eq_getElem hl)).there
/-- the store over a heap in which nothing of its own has changed -/
theorem StoOk.grow (s : StoOk K ca r H S) (g : Grow K r H r H1) (e : ∀ a ∈ r, H1 a = H a) : StoOk K ca r H1 S :=
  ⟨s.len, s.nd, fun n o h => by
    obtain ⟨a, q, t⟩ := s.ob n o h
    exact ⟨a, q, t.grow g (e a (List.mem_of_getElem? q))⟩⟩
theorem StoOk.free (s : StoOk K ca r H S) (hp : H p = none) : p ∉ r := fun hm => by
  obtain ⟨n, hn⟩ := List.mem_iff_getElem?.mp hm
  obtain ⟨u, e, _⟩ := s.there hn
  rw [hp] at e
  cases e
/-- laid, not in the store (a tuple, a thing that is thrown away) -/
theorem StoOk.laid (s : StoOk K ca r H S) (hp : H p = none) : StoOk K ca r (upd H p u) S :=
  s.grow (Grow.laid hp) fun a ha => upd_ne fun z => s.free hp (z ▸ ha)
theorem Rep.snoc {v : V} {d : D} (h : Rep K r H v d) : Rep K (r ++ [p]) H v d := snocR h
where
  snocR : ∀ {v : V} {d : D}, Rep K r H v d → Rep K (r ++ [p]) H v d
    | _, _, .non => .non
    | _, _, .bl b => .bl b
    | _, _, .int i => .int i
    | _, _, .str x => .str x
    | _, _, .tup h t => .tup h (snocs t)
    | _, _, .fz h t => .fz h (snocs t)
    | _, _, .obj h => .obj (snoc_pre h)
  snocs : ∀ {vs : List V} {ds : List D}, Reps K r H vs ds → Reps K (r ++ [p]) H vs ds
    | _, _, .nil => .nil
    | _, _, .cons a t => .cons (snocR a) (snocs t)
theorem ORep.snoc (h : ORep K ca r H a o) : ORep K ca (r ++ [p]) H a o := by
  cases o with
  | lst l => obtain ⟨vs, q, t⟩ := h; exact ⟨vs, q, Rep.snoc.snocs t⟩
  | dct l => obtain ⟨vs, q, t1, t2⟩ := h; exact ⟨vs, q, t1, Rep.snoc.snocs t2⟩
  | ins c l => obtain ⟨dx, vs, q, t1, t2⟩ := h; exact ⟨dx, vs, q, t1, Rep.snoc.snocs t2⟩
/-- a new object of the store -/
theorem StoOk.alloc (s : StoOk K ca r H S) (hp : H p = none) (ho : ORep K ca (r ++ [p]) (upd H p u) p o) : StoOk K ca (r ++ [p]) (upd H p u) (S ++ [o]) := by
  have s1 : StoOk K ca r (upd H p u) S := s.laid hp
  refine ⟨by simp [s.len], ?_, fun n o' h => ?_⟩
  · rw [List.nodup_append]
    exact ⟨s.nd, by simp, fun x hx y hy z => by
      have hy' : y = p := by simpa using hy
      subst hy'
      exact s.free hp (z ▸ hx)⟩
  · by_cases hn : n < S.length
    · rw [List.getElem?_append_left hn] at h
      obtain ⟨a, q, t⟩ := s1.ob n o' h
      exact ⟨a, snoc_pre q, t.snoc⟩
    · rw [List.getElem?_append_right (by omega)] at h
      have e : n = S.length := by
        cases q : n - S.length with
        | zero => omega
        | succ k => rw [q] at h; simp at h
      subst e
      simp at h
      subst h
      exact ⟨p, by rw [List.getElem?_append_right (by rw [s.len]; exact Nat.le_refl _), s.len]; simp, ho⟩
/-- a thing that was laid since, and that nothing else names, becomes an object of the store -/
theorem StoOk.adopt (s : StoOk K ca r H S) (hp : p ∉ r) (ho : ORep K ca r H p o) : StoOk K ca (r ++ [p]) H (S ++ [o]) := by
  refine ⟨by simp [s.len], ?_, fun n o' h => ?_⟩
  · rw [List.nodup_append]
    exact ⟨s.nd, by simp, fun x hx y hy z => by
      have hy' : y = p := by simpa using hy
      subst hy'
      exact hp (z ▸ hx)⟩
  · by_cases hn : n < S.length
    · rw [List.getElem?_append_left hn] at h
      obtain ⟨a, q, t⟩ := s.ob n o' h
      exact ⟨a, snoc_pre q, t.snoc⟩
    · rw [List.getElem?_append_right (by omega)] at h
      have e : n = S.length := by
        cases q : n - S.length with
        | zero => omega
        | succ k => rw [q] at h; simp at h
      subst e
      simp at h
      subst h
      exact ⟨p, by rw [List.getElem?_append_right (by rw [s.len]; exact Nat.le_refl _), s.len]; simp, ho.snoc⟩
/-- an object of the store is written -/
theorem StoOk.write (s : StoOk K ca r H S) (hn : r[n]? = some p) (hp : H p = some u) (m : MutO u) (ho : ORep K ca r (upd H p u') p o) : StoOk K ca r (upd H p u') (S.set n o) := by
  have g : Grow K r H r (upd H p u') := Grow.written (List.mem_of_getElem? hn) hp m
  refine ⟨by simp [s.len], s.nd, fun k o' h => ?_⟩
  by_cases hk : k = n
  · subst hk
    have hl : k < S.length := by rw [← s.len]; exact (List.getElem?_eq_some_iff.mp hn).1
    rw [List.getElem?_set_self hl] at h
    cases h
    exact ⟨p, hn, ho⟩
  · rw [List.getElem?_set_ne (Ne.symm hk)] at h
    obtain ⟨a, q, t⟩ := s.ob k o' h
    refine ⟨a, q, t.grow g (upd_ne fun z => ?_)⟩
    subst z
    exact hk (nd_ix s.nd q hn)
end

/-! ### slots -/
def SlOk (K : PySem.W.Frag) (r : List Addr) (H : Hp) (s : L2.St) (e : Sl) : Prop := s.length = e.length ∧ ∀ (i : Nat) (d : D), e[i]? = some (some d) → ∃ v, s[i]? = some (some v) ∧ Rep K r H v d
section
variable {K : PySem.W.Frag} {r r1 : List Addr} {H H1 : Hp} {s : St} {e : Sl}
theorem SlOk.grow (h : SlOk K r H s e) (g : Grow K r H r1 H1) : SlOk K r1 H1 s e := ⟨h.1, fun i d q => by
  obtain ⟨v, h1, h2⟩ := h.2 i d q
  exact ⟨v, h1, h2.grow g⟩⟩
end

/-! ### what a function's result promises -/
/-- an exception, as the layer tells it -/
def XRep (K : PySem.W.Frag) (ca : Nat → Addr) (r : List Addr) (H : Hp) (x : Ex) (cls : Value) (dd : Option Addr) : Prop :=
  cls = .ref (ca x.c) ∧ (x.fs = [] ∨ ∃ a fv, dd = some a ∧ H a = some (.xd fv) ∧ RepsK K r H fv x.fs)
abbrev RelT (β α : Type) := Hp → List Addr → Hp → β → α → Prop
def PR {α β : Type} (Rel : RelT β α) (K : PySem.W.Frag) (ca : Nat → Addr) (W : Value → Option Addr → Hp → Prop) (r : List Addr) (H : Hp) (Q : β → Hp → Prop) : Rs α → Prop
  | .ok d S => ∀ r' H' v, Grow K r H r' H' → Rel H r' H' v d → StoOk K ca r' H' S → Q v H'
  | .rse x S => ∀ r' H' cls dd, Grow K r H r' H' → XRep K ca r' H' x cls dd → StoOk K ca r' H' S → W cls dd H'
  | .bad => False
/-- what was new behind a later point was new behind an earlier one -/
structure Anti {α β : Type} (K : PySem.W.Frag) (Rel : RelT β α) : Prop where
  back : ∀ {r : List Addr} {H : Hp} {r1 : List Addr} {H1 : Hp} {r' : List Addr} {H' : Hp} {v : β} {d : α}, Grow K r H r1 H1 → Rel H1 r' H' v d → Rel H r' H' v d
def PRt (K : PySem.W.Frag) (ca : Nat → Addr) (W : WX) (r : List Addr) (H : Hp) (D : Ends) : Rt → Prop
  | .nx e S => ∀ r' H' s, Grow K r H r' H' → SlOk K r' H' s e → StoOk K ca r' H' S → D.nx s H'
  | .rt d S => ∀ r' H' v, Grow K r H r' H' → Rep K r' H' v d → StoOk K ca r' H' S → D.rt v H'
  | .bk e S => ∀ r' H' s, Grow K r H r' H' → SlOk K r' H' s e → StoOk K ca r' H' S → D.bk s H'
  | .ct e S => ∀ r' H' s, Grow K r H r' H' → SlOk K r' H' s e → StoOk K ca r' H' S → D.ct s H'
  | .rse x e S => ∀ r' H' s cls dd, Grow K r H r' H' → SlOk K r' H' s e → XRep K ca r' H' x cls dd → StoOk K ca r' H' S → W cls dd s H'
  | .bad => False
section
variable {K : PySem.W.Frag} {ca : Nat → Addr} {r r1 : List Addr} {H H1 : Hp} {α β : Type} {Rel : RelT β α} {W : Value → Option Addr → Hp → Prop} {Q : β → Hp → Prop} {x : Rs α}
theorem PR.grow (an : Anti K Rel) (g : Grow K r H r1 H1) (h : PR Rel K ca W r H Q x) : PR Rel K ca W r1 H1 Q x := by
  cases x with
  | ok d S => exact fun r' H' v g' q => h r' H' v (g.trans g') (an.back g q)
  | rse x S => exact fun r' H' c d g' => h r' H' c d (g.trans g')
  | bad => exact h
theorem PRt.grow {W : WX} {D : Ends} {x : Rt} (g : Grow K r H r1 H1) (h : PRt K ca W r H D x) : PRt K ca W r1 H1 D x := by
  cases x with
  | nx e S => exact fun r' H' s g' => h r' H' s (g.trans g')
  | rt d S => exact fun r' H' v g' => h r' H' v (g.trans g')
  | bk e S => exact fun r' H' s g' => h r' H' s (g.trans g')
  | ct e S => exact fun r' H' s g' => h r' H' s (g.trans g')
  | rse x e S => exact fun r' H' s c d g' => h r' H' s c d (g.trans g')
  | bad => exact h
end
abbrev RelD (K : PySem.W.Frag) : RelT V D := fun _ r H v d => Rep K r H v d
abbrev RelDs (K : PySem.W.Frag) : RelT (List V) (List D) := fun _ r H v d => Reps K r H v d
abbrev RelB : RelT Bool Bool := fun _ _ _ v d => v = d
/-- a new list that nothing else names -/
abbrev RelL (K : PySem.W.Frag) : RelT V (List D) := fun H0 r H v l => ∃ a vs, v = .ref a ∧ H0 a = none ∧ a ∉ r ∧ H a = some (.lst vs) ∧ Reps K r H vs l
theorem antiD {K : PySem.W.Frag} : Anti K (RelD K) := ⟨fun _ h => h⟩
theorem antiDs {K : PySem.W.Frag} : Anti K (RelDs K) := ⟨fun _ h => h⟩
theorem antiB {K : PySem.W.Frag} : Anti K RelB := ⟨fun _ h => h⟩
theorem antiL {K : PySem.W.Frag} : Anti K (RelL K) := ⟨fun g ⟨a, vs, e, h0, h⟩ => ⟨a, vs, e, g.dom a h0, h⟩⟩
/-- the state at a point -/
structure At (K : PySem.W.Frag) (ca : Nat → Addr) (r : List Addr) (s : St) (H : Hp) (e : Sl) (S : Sto) : Prop where
  sl : SlOk K r H s e
  st : StoOk K ca r H S
def tM {α β : Type} (Rel : RelT β α) (K : PySem.W.Frag) (ca : Nat → Addr) (W : WX) (m : Sl → Sto → Rs α) : St → Hp → (β → Hp → Prop) → Prop := fun s H Q =>
  ∃ r e S, At K ca r s H e S ∧ PR Rel K ca (fun c d H' => W c d s H') r H Q (m e S)
def tS (K : PySem.W.Frag) (ca : Nat → Addr) (W : WX) (m : MS) : TS := fun D s H => ∃ r e S, At K ca r s H e S ∧ PRt K ca W r H D (m e S)

/-! ### the judgements -/
def EV (X : Cx) (ca : Nat → Addr) (e : Expr) (m : ME) : Prop := ∀ W, Takes X W → PE X e (tM (RelD X.K) X.K ca W m)
def TV (X : Cx) (ca : Nat → Addr) (e : Expr) (m : MT) : Prop := ∀ W, Takes X W → PT X e (tM RelB X.K ca W m)
def WV (X : Cx) (ca : Nat → Addr) (e : Expr) (m : MT) : Prop := ∀ W, Takes X W → PW X e (tM RelB X.K ca W m)
/-- an expression that makes a new list -/
def LV (X : Cx) (ca : Nat → Addr) (e : Expr) (m : MA) : Prop := ∀ W, Takes X W → PE X e (tM (RelL X.K) X.K ca W m)
def AV (X : Cx) (ca : Nat → Addr) (es : List Expr) (m : MA) : Prop := ∀ W, Takes X W → PA X es (tM (RelDs X.K) X.K ca W m)
def SV (X : Cx) (ca : Nat → Addr) (st : Stmt) (m : MS) : Prop := ∀ W, Takes X W → PS X st (tS X.K ca W m)
def BV (X : Cx) (ca : Nat → Addr) (st : List Stmt) (m : MS) : Prop := ∀ W, Takes X W → PSs X st (tS X.K ca W m)
section
variable {X : Cx} {e : Expr} {es : List Expr} {st : Stmt} {sts : List Stmt}
theorem weakE {t t' : TE} (h : PE X e t) (w : ∀ s H Q, t' s H Q → t s H Q) : PE X e t' := ⟨fun pins s σ H Q I q => h.run pins s σ H Q I (w _ _ _ q)⟩
theorem weakT {t t' : TT} (h : PT X e t) (w : ∀ s H Q, t' s H Q → t s H Q) : PT X e t' := ⟨fun pins s σ H Q I q => h.run pins s σ H Q I (w _ _ _ q)⟩
theorem weakW {t t' : TT} (h : PW X e t) (w : ∀ s H Q, t' s H Q → t s H Q) : PW X e t' := ⟨fun wh pins s σ H Q I q => h.run wh pins s σ H Q I (w _ _ _ q)⟩
theorem weakA {t t' : TA} (h : PA X es t) (w : ∀ s H Q, t' s H Q → t s H Q) : PA X es t' := ⟨fun pos pins s σ H Q I q => h.run pos pins s σ H Q I (w _ _ _ q)⟩
theorem weakS {t t' : TS} (h : PS X st t) (w : ∀ D s H, t' D s H → t D s H) : PS X st t' := ⟨fun pins s σ H D I q => h.run pins s σ H D I (w _ _ _ q)⟩
theorem weakB {t t' : TS} (h : PSs X sts t) (w : ∀ D s H, t' D s H → t D s H) : PSs X sts t' := ⟨fun pins s σ H D I q => h.run pins s σ H D I (w _ _ _ q)⟩
end

/-! ### results in a row -/
def bindR {α β : Type} (x : Rs α) (f : α → Sto → Rs β) : Rs β := match x with
  | .ok a S => f a S
  | .rse x S => .rse x S
  | .bad => .bad
def bindT {α : Type} (x : Rs α) (e : Sl) (f : α → Sto → Rt) : Rt := match x with
  | .ok a S => f a S
  | .rse x S => .rse x e S
  | .bad => .bad
section
variable {K : PySem.W.Frag} {ca : Nat → Addr} {r : List Addr} {H : Hp} {α β γ δ : Type} {Rel : RelT β α} {Rel' : RelT δ γ} {W : Value → Option Addr → Hp → Prop}
/-- the first's post, from the whole's -/
theorem PR.bind {x : Rs α} {f : α → Sto → Rs γ} {Q : δ → Hp → Prop} {R : β → Hp → Prop} (an : Anti K Rel') (h : PR Rel' K ca W r H Q (bindR x f))
    (k : ∀ r' H' v d S, Grow K r H r' H' → Rel H r' H' v d → StoOk K ca r' H' S → PR Rel' K ca W r' H' Q (f d S) → R v H') : PR Rel K ca W r H R x := by
  cases x with
  | ok d S => exact fun r' H' v g rel s => k r' H' v d S g rel s (PR.grow an g h)
  | rse x S => exact h
  | bad => exact h
/-- .. where what is new must be known as such from the start -/
theorem PR.bind0 {x : Rs α} {f : α → Sto → Rs γ} {Q : δ → Hp → Prop} {R : β → Hp → Prop} (h : PR Rel' K ca W r H Q (bindR x f))
    (k : ∀ r' H' v d S, Grow K r H r' H' → Rel H r' H' v d → StoOk K ca r' H' S → PR Rel' K ca W r H Q (f d S) → R v H') : PR Rel K ca W r H R x := by
  cases x with
  | ok d S => exact fun r' H' v g rel s => k r' H' v d S g rel s h
  | rse x S => exact h
  | bad => exact h
theorem PR.bindT {x : Rs α} {e : Sl} {f : α → Sto → Rt} {W : WX} {D : Ends} {R : β → Hp → Prop} {s : L2.St} (sl : SlOk K r H s e) (h : PRt K ca W r H D (bindT x e f))
    (k : ∀ r' H' v d S, Grow K r H r' H' → Rel H r' H' v d → StoOk K ca r' H' S → PRt K ca W r' H' D (f d S) → R v H') : PR Rel K ca (fun c d H' => W c d s H') r H R x := by
  cases x with
  | ok d S => exact fun r' H' v g rel s => k r' H' v d S g rel s (h.grow g)
  | rse x S => exact fun r' H' c d g xr so => h r' H' s c d g (sl.grow g) xr so
  | bad => exact h
theorem PR.map {x : Rs α} {Q Q' : β → Hp → Prop} (h : PR Rel K ca W r H Q x) (k : ∀ r' H' v d S, Grow K r H r' H' → Rel H r' H' v d → StoOk K ca r' H' S → Q v H' → Q' v H') : PR Rel K ca W r H Q' x := by
  cases x with
  | ok d S => exact fun r' H' v g rel s => k r' H' v d S g rel s (h r' H' v g rel s)
  | rse x S => exact h
  | bad => exact h
end
end L3

/-! L3B: expressions. -/
namespace L3
open PySem PySem.Spec L2

section
variable {X : Cx} {ca : Nat → Addr} {a b c e : Expr} {es : List Expr} {ma mb mc m : ME} {mt mu : MT} {ms : MA} {pos p apos : Pos}

/-! ### names and constants -/
def vM (i : Nat) : ME := fun e S => match e[i]? with
  | some (some d) => .ok d S
  | _ => .bad
def cM (d : D) : ME := fun _ S => .ok d S
theorem ev_of {t : TE} (h : PE X a t) (w : ∀ W s H Q, tM (RelD X.K) X.K ca W m s H Q → t s H Q) : EV X ca a m := fun W _ => weakE h (w W)
theorem ev_var {i : Nat} {x : Str} (h : PE X (.Name x pos) (tVar i)) : EV X ca (.Name x pos) (vM i) := ev_of h fun W s H Q ⟨r, e, S, at_, pr⟩ => by
  unfold vM at pr
  split at pr
  · rename_i d q
    obtain ⟨v, h1, h2⟩ := at_.sl.2 i d q
    exact ⟨v, h1, pr r H v .refl h2 at_.st⟩
  · exact pr.elim
theorem ev_v (i : Nat) {x : Str} (hN : X.N[i]? = some x := by rfl) (hv : Vis X.env.scope x := by first | exact Or.inl rfl | exact Or.inr (Or.inl rfl) | exact Or.inr (Or.inr rfl)) (hd : (x == ("__debug__" : Str)) = false := by decide)
    (hcd : (x == ("__classdict__" : Str)) = false := by decide) : EV X ca (.Name x pos) (vM i) := ev_var (pe_var hN hv hd hcd)
theorem ev_c {v : V} {d : D} (h : PE X a (tC v)) (hr : ∀ r H, Rep X.K r H v d) : EV X ca a (cM d) := ev_of h fun W s H Q ⟨r, e, S, at_, pr⟩ => pr r H v .refl (hr r H) at_.st
theorem ev_int {i : Int} {j : Nat} : EV X ca (.Constant (.int i) j pos) (cM (.int i)) := ev_c pe_int fun _ _ => .int i
theorem ev_bl {i : Bool} {j : Nat} : EV X ca (.Constant (.bool i) j pos) (cM (.bl i)) := ev_c pe_bl fun _ _ => .bl i
theorem ev_non {j : Nat} : EV X ca (.Constant .none j pos) (cM .non) := ev_c pe_non fun _ _ => .non
theorem ev_str {x : Str} {j : Nat} : EV X ca (.Constant (.str x) j pos) (cM (.str x)) := ev_c pe_str fun _ _ => .str x
theorem ev_glob {x : Str} {v : V} {u : Value} {d : D} (hg : Gl X x) (hm : X.mg x = some u) (r : RelV v u) (hr : ∀ r H, Rep X.K r H v d) (hd : (x == ("__debug__" : Str)) = false := by decide) : EV X ca (.Name x pos) (cM d) :=
  ev_c (pe_glob hg hm r hd) hr

/-! ### two values in a row -/
def opM (f : D → D → Sto → Rs D) (a b : ME) : ME := fun e S => bindR (a e S) fun x S1 => bindR (b e S1) fun y S2 => f x y S2
def unM (f : D → Sto → Rs D) (a : ME) : ME := fun e S => bindR (a e S) f
/-- f tells the rule r -/
def OpOk (K : PySem.W.Frag) (ca : Nat → Addr) (r : R2) (f : D → D → Sto → Rs D) : Prop :=
  ∀ (q : List Addr) (H : Hp) (S : Sto) (x y : V) (d e : D) (W : Value → Option Addr → Hp → Prop) (Q : VK), StoOk K ca q H S → Rep K q H x d → Rep K q H y e → PR (RelD K) K ca W q H Q (f d e S) → r x y H Q
def UnOk (K : PySem.W.Frag) (ca : Nat → Addr) (r : V → Hp → VK → Prop) (f : D → Sto → Rs D) : Prop :=
  ∀ (q : List Addr) (H : Hp) (S : Sto) (x : V) (d : D) (W : Value → Option Addr → Hp → Prop) (Q : VK), StoOk K ca q H S → Rep K q H x d → PR (RelD K) K ca W q H Q (f d S) → r x H Q
theorem two_ {W : WX} {s : L2.St} {H : Hp} {Q : VK} {r : R2} {f : D → D → Sto → Rs D} (hf : OpOk X.K ca r f) (h : tM (RelD X.K) X.K ca W (opM f ma mb) s H Q) :
    tOp r (tM (RelD X.K) X.K ca W ma) (tM (RelD X.K) X.K ca W mb) s H Q := by
  obtain ⟨q, e, S, at_, pr⟩ := h
  exact ⟨q, e, S, at_, PR.bind antiD pr fun q1 H1 x d S1 g1 rx s1 pr1 => ⟨q1, e, S1, ⟨at_.sl.grow g1, s1⟩, PR.bind antiD pr1 fun q2 H2 y d2 S2 g2 ry s2 pr2 => hf q2 H2 S2 x y d d2 _ Q s2 (rx.grow g2) ry pr2⟩⟩
theorem one_ {W : WX} {s : L2.St} {H : Hp} {Q : VK} {r : V → Hp → VK → Prop} {f : D → Sto → Rs D} (hf : UnOk X.K ca r f) (h : tM (RelD X.K) X.K ca W (unM f ma) s H Q) :
    tUn r (tM (RelD X.K) X.K ca W ma) s H Q := by
  obtain ⟨q, e, S, at_, pr⟩ := h
  exact ⟨q, e, S, at_, PR.bind antiD pr fun q1 H1 x d S1 g1 rx s1 pr1 => hf q1 H1 S1 x d _ Q s1 rx pr1⟩
theorem ev_op {op : Operator} {r : R2} {f : D → D → Sto → Rs D} (ho : OpR X (binaryOp op) r) (hf : OpOk X.K ca r f) (ha : EV X ca a ma) (hb : EV X ca b mb) : EV X ca (.BinOp a op b pos) (opM f ma mb) :=
  fun W tk => weakE (pe_op ho (ha W tk) (hb W tk)) fun _ _ _ h => two_ hf h
theorem ev_un {op : UnaryOp} {r : V → Hp → VK → Prop} {f : D → Sto → Rs D} (ho : UnR X (unaryOp op) r) (hf : UnOk X.K ca r f) (ha : EV X ca a ma) : EV X ca (.UnaryOp op a pos) (unM f ma) :=
  fun W tk => weakE (pe_un ho (ha W tk)) fun _ _ _ h => one_ hf h
theorem ev_cmp {op : CmpOp} {r : R2} {f : D → D → Sto → Rs D} (ho : OpR X (compareOp op) r) (hf : OpOk X.K ca r f) (ha : EV X ca a ma) (hb : EV X ca b mb) (hm : behindInMarks op b = false) : EV X ca (.Compare a [op] [b] pos) (opM f ma mb) :=
  fun W tk => weakE (pe_cmpR ho (ha W tk) (hb W tk) hm) fun _ _ _ h => two_ hf h
theorem ev_ix {r : R2} {f : D → D → Sto → Rs D} (ho : IxR X r) (hf : OpOk X.K ca r f) (ha : EV X ca a ma) (hb : EV X ca b mb) (hs : PlainIx b) : EV X ca (.Subscript a b pos) (opM f ma mb) :=
  fun W tk => weakE (pe_ix ho (ha W tk) (hb W tk) hs) fun _ _ _ h => two_ hf h

/-! ### tests -/
/-- a bool, as a test -/
def blT (m : ME) : MT := fun e S => bindR (m e S) fun d S1 => match d with
  | .bl k => .ok k S1
  | _ => .bad
theorem PR.blT {q : List Addr} {H : Hp} {W : Value → Option Addr → Hp → Prop} {Q : Bool → Hp → Prop} {e : Sl} {S : Sto} {K : PySem.W.Frag} (pr : PR RelB K ca W q H Q (blT m e S)) :
    PR (RelD K) K ca W q H (fun x H1 => ∃ k, x = .bl k ∧ Q k H1) (m e S) := PR.bind antiB pr fun q1 H1 x d S1 g1 rx s1 pr1 => by
  cases d with
  | bl k => exact ⟨k, rx.bl_of, pr1 q1 H1 k .refl rfl s1⟩
  | _ => exact pr1.elim
theorem tv_cmp {op : CmpOp} {r : R2} {f : D → D → Sto → Rs D} (ho : OpR X (compareOp op) r) (hf : OpOk X.K ca r f) (ha : EV X ca a ma) (hb : EV X ca b mb) (hm : behindInMarks op b = false) : TV X ca (.Compare a [op] [b] pos) (blT (opM f ma mb)) :=
  fun W tk => weakT (pt_cmpR ho (ha W tk) (hb W tk) hm) fun _ _ _ ⟨q, e, S, at_, pr⟩ => two_ hf ⟨q, e, S, at_, pr.blT⟩
/-- any expression whose value is a bool -/
theorem tv_bl (ha : EV X ca a ma) (he : ∀ whole, isTrue a X.env whole = (do let v ← whole; standAt a.pos; holding [v] (truthy v)) := by intro _; rfl) : TV X ca a (blT ma) :=
  fun W tk => weakT (pt_val (ha W tk) he) fun _ _ _ ⟨q, e, S, at_, pr⟩ => ⟨q, e, S, at_, pr.blT⟩
/-- a value's truth -/
def truD (d : D) (S : Sto) : Rs Bool := match d with
  | .non => .ok false S
  | .bl b => .ok b S
  | .int i => .ok (i != 0) S
  | .str y => if y.length ≤ sizeLine then .ok (decide (y.length ≠ 0)) S else .bad
  | .tup l => .ok (!l.isEmpty) S
  | .fz l => .ok (!l.isEmpty) S
  | .obj n => match S[n]? with
    | some (.lst l) => .ok (!l.isEmpty) S
    | some (.dct l) => .ok (!l.isEmpty) S
    | _ => .bad
def trT (m : ME) : MT := fun e S => bindR (m e S) truD
theorem Reps.empty {K : PySem.W.Frag} {q : List Addr} {H : Hp} {vs : List V} {l : List D} (h : Reps K q H vs l) : (!l.isEmpty) = !vs.isEmpty := by
  cases h <;> rfl
theorem RepsK.length {κ : Type} {K : PySem.W.Frag} {q : List Addr} {H : Hp} {kv : List (κ × V)} {kd : List (κ × D)} (h : RepsK K q H kv kd) : kv.length = kd.length := by
  have := congrArg List.length h.1
  simpa using this
theorem RepsK.empty {κ : Type} {K : PySem.W.Frag} {q : List Addr} {H : Hp} {kv : List (κ × V)} {kd : List (κ × D)} (h : RepsK K q H kv kd) : (!kd.isEmpty) = !kv.isEmpty := by
  have := h.length
  cases kv <;> cases kd <;> simp_all
theorem lst_at {K : PySem.W.Frag} {q : List Addr} {H : Hp} {S : Sto} {n : Nat} {l : List D} {p : Addr} (s : StoOk K ca q H S) (hn : q[n]? = some p) (e : S[n]? = some (.lst l)) : ∃ vs, H p = some (.lst vs) ∧ Reps K q H vs l := s.at hn e
theorem dct_at {K : PySem.W.Frag} {q : List Addr} {H : Hp} {S : Sto} {n : Nat} {l : List (Key × D)} {p : Addr} (s : StoOk K ca q H S) (hn : q[n]? = some p) (e : S[n]? = some (.dct l)) : ∃ kv, H p = some (.dK kv) ∧ RepsK K q H kv l := s.at hn e
theorem ins_at {K : PySem.W.Frag} {q : List Addr} {H : Hp} {S : Sto} {n c : Nat} {l : List (Str × D)} {p : Addr} (s : StoOk K ca q H S) (hn : q[n]? = some p) (e : S[n]? = some (.ins c l)) : ∃ dx fv, H p = some (.ins (ca c) dx fv) ∧ RepsK K q H fv l := s.at hn e
theorem tru_V {K : PySem.W.Frag} {q : List Addr} {H : Hp} {S : Sto} {x : V} {d : D} {W : Value → Option Addr → Hp → Prop} {Q : Bool → Hp → Prop} (s : StoOk K ca q H S) (rx : Rep K q H x d) (pr : PR RelB K ca W q H Q (truD d S)) : ∃ k, TruV K x H k ∧ Q k H := by
  cases d with
  | non => rw [rx.non_of]; exact ⟨false, rfl, pr q H false .refl rfl s⟩
  | bl b => rw [rx.bl_of]; exact ⟨b, rfl, pr q H b .refl rfl s⟩
  | int i => rw [rx.int_of]; exact ⟨_, rfl, pr q H _ .refl rfl s⟩
  | str y =>
    rw [rx.str_of]
    unfold truD at pr
    dsimp only at pr
    split at pr
    · rename_i hy
      refine ⟨_, ⟨hy, ?_⟩, pr q H _ .refl rfl s⟩
      rw [Bool.eq_iff_iff]
      simp
    · exact pr.elim
  | tup l =>
    obtain ⟨p, xs, rfl, h1, h2⟩ := rx.tup_of
    exact ⟨_, .inr (.inl ⟨xs, h1, h2.empty⟩), pr q H _ .refl rfl s⟩
  | fz l =>
    obtain ⟨p, xs, rfl, h1, h2⟩ := rx.fz_of
    exact ⟨_, .inl ⟨xs, h1.sq, h2.empty⟩, pr q H _ .refl rfl s⟩
  | obj n =>
    obtain ⟨p, rfl, hn⟩ := rx.obj_of
    unfold truD at pr
    dsimp only at pr
    split at pr
    · rename_i l e
      obtain ⟨vs, h1, h2⟩ := lst_at s hn e
      exact ⟨_, .inl ⟨vs, SqL.of h1, h2.empty⟩, pr q H _ .refl rfl s⟩
    · rename_i l e
      obtain ⟨vs, h1, h2⟩ := dct_at s hn e
      exact ⟨_, .inr (.inr ⟨vs, h1, h2.empty⟩), pr q H _ .refl rfl s⟩
    · exact pr.elim
theorem tv_tr (ha : EV X ca a ma) (he : ∀ whole, isTrue a X.env whole = (do let v ← whole; standAt a.pos; holding [v] (truthy v)) := by intro _; rfl) : TV X ca a (trT ma) :=
  fun W tk => weakT (pt_truth (ha W tk) he) fun _ _ _ ⟨q, e, S, at_, pr⟩ => ⟨q, e, S, at_, PR.bind antiB pr fun q1 H1 x d S1 g1 rx s1 pr1 => tru_V s1 rx pr1⟩
def andT (t u : MT) : MT := fun e S => bindR (t e S) fun c S1 => if c = true then u e S1 else .ok false S1
def orT (t u : MT) : MT := fun e S => bindR (t e S) fun c S1 => if c = true then .ok true S1 else u e S1
def notT (t : MT) : MT := fun e S => bindR (t e S) fun c S1 => .ok (!c) S1
theorem wv_and1 (ha : TV X ca a mt) : WV X ca (.BoolOp .And [a] pos) mt := fun W tk => pw_and1 (ha W tk)
theorem wv_or1 (ha : TV X ca a mt) : WV X ca (.BoolOp .Or [a] pos) mt := fun W tk => pw_or1 (ha W tk)
theorem wv_and (ha : TV X ca a mt) (hb : WV X ca (.BoolOp .And (b :: es) pos) mu) : WV X ca (.BoolOp .And (a :: b :: es) pos) (andT mt mu) :=
  fun W tk => weakW (pw_and (ha W tk) (hb W tk)) fun _ _ _ ⟨q, e, S, at_, pr⟩ => ⟨q, e, S, at_, PR.bind antiB pr fun q1 H1 x d S1 g1 rx s1 pr1 => by
    obtain rfl : x = d := rx
    cases x with
    | true => exact ⟨q1, e, S1, ⟨at_.sl.grow g1, s1⟩, pr1⟩
    | false => exact pr1 q1 H1 false .refl rfl s1⟩
theorem wv_or (ha : TV X ca a mt) (hb : WV X ca (.BoolOp .Or (b :: es) pos) mu) : WV X ca (.BoolOp .Or (a :: b :: es) pos) (orT mt mu) :=
  fun W tk => weakW (pw_or (ha W tk) (hb W tk)) fun _ _ _ ⟨q, e, S, at_, pr⟩ => ⟨q, e, S, at_, PR.bind antiB pr fun q1 H1 x d S1 g1 rx s1 pr1 => by
    obtain rfl : x = d := rx
    cases x with
    | false => exact ⟨q1, e, S1, ⟨at_.sl.grow g1, s1⟩, pr1⟩
    | true => exact pr1 q1 H1 true .refl rfl s1⟩
theorem tv_w (h : WV X ca a mt) : TV X ca a mt := fun W tk => (h W tk).pt
theorem tv_not (ha : TV X ca a mt) : TV X ca (.UnaryOp .Not a pos) (notT mt) :=
  fun W tk => weakT (pt_not (ha W tk)) fun _ _ _ ⟨q, e, S, at_, pr⟩ => ⟨q, e, S, at_, PR.bind antiB pr fun q1 H1 x d S1 g1 rx s1 pr1 => by
    obtain rfl : x = d := rx
    exact pr1 q1 H1 _ .refl rfl s1⟩
/-- and, or, not of bools as values -/
def andM (a b : ME) : ME := fun e S => bindR (a e S) fun x S1 => match x with
  | .bl true => b e S1
  | .bl false => .ok (.bl false) S1
  | _ => .bad
def orM (a b : ME) : ME := fun e S => bindR (a e S) fun x S1 => match x with
  | .bl true => .ok (.bl true) S1
  | .bl false => b e S1
  | _ => .bad
def notD (x : D) (S : Sto) : Rs D := match x with
  | .bl k => .ok (.bl (!k)) S
  | _ => .bad
theorem ev_one {op : BoolOp} (ha : EV X ca a ma) : EV X ca (.BoolOp op [a] pos) ma := fun W tk => pe_one (ha W tk)
theorem ev_and (ha : EV X ca a ma) (hb : EV X ca (.BoolOp .And (b :: es) pos) mb) : EV X ca (.BoolOp .And (a :: b :: es) pos) (andM ma mb) :=
  fun W tk => weakE (pe_and (ha W tk) (hb W tk)) fun _ _ _ ⟨q, e, S, at_, pr⟩ => ⟨q, e, S, at_, PR.bind antiD pr fun q1 H1 x d S1 g1 rx s1 pr1 => by
    split at pr1
    · exact ⟨true, rx.bl_of, q1, e, S1, ⟨at_.sl.grow g1, s1⟩, pr1⟩
    · exact ⟨false, rx.bl_of, pr1 q1 H1 _ .refl (.bl false) s1⟩
    · exact pr1.elim⟩
theorem ev_or (ha : EV X ca a ma) (hb : EV X ca (.BoolOp .Or (b :: es) pos) mb) : EV X ca (.BoolOp .Or (a :: b :: es) pos) (orM ma mb) :=
  fun W tk => weakE (pe_or (ha W tk) (hb W tk)) fun _ _ _ ⟨q, e, S, at_, pr⟩ => ⟨q, e, S, at_, PR.bind antiD pr fun q1 H1 x d S1 g1 rx s1 pr1 => by
    split at pr1
    · exact ⟨true, rx.bl_of, pr1 q1 H1 _ .refl (.bl true) s1⟩
    · exact ⟨false, rx.bl_of, q1, e, S1, ⟨at_.sl.grow g1, s1⟩, pr1⟩
    · exact pr1.elim⟩
theorem ev_not (ha : EV X ca a ma) : EV X ca (.UnaryOp .Not a pos) (unM notD ma) :=
  fun W tk => weakE (pe_not (ha W tk)) fun _ _ _ ⟨q, e, S, at_, pr⟩ => ⟨q, e, S, at_, PR.bind antiD pr fun q1 H1 x d S1 g1 rx s1 pr1 => by
    cases d with
    | bl k => exact ⟨k, rx.bl_of, pr1 q1 H1 _ .refl (.bl _) s1⟩
    | _ => exact pr1.elim⟩
def ifM (t : MT) (a b : ME) : ME := fun e S => bindR (t e S) fun c S1 => if c = true then a e S1 else b e S1
theorem ev_if (hc : TV X ca c mt) (ha : EV X ca a ma) (hb : EV X ca b mb) : EV X ca (.IfExp c a b pos) (ifM mt ma mb) :=
  fun W tk => weakE (pe_ifExp (hc W tk) (ha W tk) (hb W tk)) fun _ _ _ ⟨q, e, S, at_, pr⟩ => ⟨q, e, S, at_, PR.bind antiD pr fun q1 H1 x d S1 g1 rx s1 pr1 => by
    obtain rfl : x = d := rx
    cases x with
    | true => exact ⟨q1, e, S1, ⟨at_.sl.grow g1, s1⟩, pr1⟩
    | false => exact ⟨q1, e, S1, ⟨at_.sl.grow g1, s1⟩, pr1⟩⟩
/-- a op b op' c -/
def chM (f g : D → D → Sto → Rs D) (a b c : ME) : ME := fun e S => bindR (a e S) fun x S1 => bindR (b e S1) fun y S2 => bindR (f x y S2) fun z S3 => match z with
  | .bl true => bindR (c e S3) fun w S4 => g y w S4
  | .bl false => .ok (.bl false) S3
  | _ => .bad
theorem chain_ {W : WX} {s : L2.St} {H : Hp} {Q : VK} {r r' : R2} {f g : D → D → Sto → Rs D} (hf : OpOk X.K ca r f) (hg : OpOk X.K ca r' g) (h : tM (RelD X.K) X.K ca W (chM f g ma mb mc) s H Q) :
    tChain r r' (tM (RelD X.K) X.K ca W ma) (tM (RelD X.K) X.K ca W mb) (tM (RelD X.K) X.K ca W mc) s H Q := by
  obtain ⟨q, e, S, at_, pr⟩ := h
  refine ⟨q, e, S, at_, PR.bind antiD pr fun q1 H1 x d S1 g1 rx s1 pr1 => ⟨q1, e, S1, ⟨at_.sl.grow g1, s1⟩, PR.bind antiD pr1 fun q2 H2 y d2 S2 g2 ry s2 pr2 => hf q2 H2 S2 x y d d2 _ _ s2 (rx.grow g2) ry
    (PR.bind antiD pr2 fun q3 H3 z d3 S3 g3 rz s3 pr3 => ?_)⟩⟩
  split at pr3
  · refine ⟨true, rz.bl_of, ?_⟩
    rw [if_pos rfl]
    exact ⟨q3, e, S3, ⟨((at_.sl.grow g1).grow g2).grow g3, s3⟩, PR.bind antiD pr3 fun q4 H4 w d4 S4 g4 rw4 s4 pr4 => hg q4 H4 S4 y w d2 d4 _ _ s4 ((ry.grow g3).grow g4) rw4 pr4⟩
  · refine ⟨false, rz.bl_of, ?_⟩
    rw [if_neg Bool.false_ne_true]
    exact pr3 q3 H3 _ .refl (.bl false) s3
  · exact pr3.elim
theorem ev_chain {op op' : CmpOp} {r r' : R2} {f g : D → D → Sto → Rs D} (ho : OpR X (compareOp op) r) (ho' : OpR X (compareOp op') r') (hf : OpOk X.K ca r f) (hg : OpOk X.K ca r' g) (ha : EV X ca a ma) (hb : EV X ca b mb) (hc : EV X ca c mc)
    (hm : lastMarks [op, op'] [b, c] = false := by with_unfolding_all rfl) : EV X ca (.Compare a [op, op'] [b, c] pos) (chM f g ma mb mc) :=
  fun W tk => weakE (pe_chain ho ho' (ha W tk) (hb W tk) (hc W tk) hm) fun _ _ _ h => chain_ hf hg h
theorem tv_chain {op op' : CmpOp} {r r' : R2} {f g : D → D → Sto → Rs D} (ho : OpR X (compareOp op) r) (ho' : OpR X (compareOp op') r') (hf : OpOk X.K ca r f) (hg : OpOk X.K ca r' g) (ha : EV X ca a ma) (hb : EV X ca b mb) (hc : EV X ca c mc)
    (hm : lastMarks [op, op'] [b, c] = false := by with_unfolding_all rfl) : TV X ca (.Compare a [op, op'] [b, c] pos) (blT (chM f g ma mb mc)) :=
  fun W tk => weakT (pt_chain ho ho' (ha W tk) (hb W tk) (hc W tk) hm) fun _ _ _ ⟨q, e, S, at_, pr⟩ => chain_ hf hg ⟨q, e, S, at_, pr.blT⟩

/-! ### argument lists, displays -/
def nilA : MA := fun _ S => .ok [] S
def consA (a : ME) (r : MA) : MA := fun e S => bindR (a e S) fun x S1 => bindR (r e S1) fun xs S2 => .ok (x :: xs) S2
theorem av_nil : AV X ca [] nilA := fun W tk => weakA pa_nil fun _ H _ ⟨q, e, S, at_, pr⟩ => pr q H [] .refl .nil at_.st
theorem av_cons (ha : EV X ca a ma) (hr : AV X ca es ms) (hs : starEach (a :: es) X.env = (false, eval a X.env) :: starEach es X.env := by rfl) : AV X ca (a :: es) (consA ma ms) :=
  fun W tk => weakA (pa_cons (ha W tk) (hr W tk) hs) fun _ _ _ ⟨q, e, S, at_, pr⟩ => ⟨q, e, S, at_, PR.bind antiDs pr fun q1 H1 x d S1 g1 rx s1 pr1 => ⟨q1, e, S1, ⟨at_.sl.grow g1, s1⟩, PR.bind antiDs pr1 fun q2 H2 xs ds S2 g2 rxs s2 pr2 =>
    pr2 q2 H2 (x :: xs) .refl (.cons (rx.grow g2) rxs) s2⟩⟩
def tupM (m : MA) : ME := fun e S => bindR (m e S) fun l S1 => if l.length ≤ sizeLine then .ok (.tup l) S1 else .bad
theorem ev_tup {x1 : Nat} (h : AV X ca es ms) : EV X ca (.Tuple es x1 pos) (tupM ms) :=
  fun W tk => weakE (pe_tup (h W tk)) fun _ _ _ ⟨q, e, S, at_, pr⟩ => ⟨q, e, S, at_, PR.bind antiD pr fun q1 H1 xs l S1 g1 rx s1 pr1 => by
    split at pr1
    · rename_i hz
      refine ⟨by rw [rx.length]; exact hz, fun p hp => ?_⟩
      have g := Grow.laid (K := X.K) (r := q1) (u := .tup xs) hp
      exact pr1 q1 _ _ g (.tup (.inl (.inl upd_same)) (rx.grow g)) (s1.laid hp)
    · exact pr1.elim⟩
/-- a written list -/
def szA (m : MA) : MA := fun e S => bindR (m e S) fun l S1 => if l.length ≤ sizeLine then .ok l S1 else .bad
theorem lv_lst (h : AV X ca es ms) : LV X ca (.List es pos) (szA ms) :=
  fun W tk => weakE (pe_lst (h W tk)) fun _ _ _ ⟨q, e, S, at_, pr⟩ => ⟨q, e, S, at_, PR.bind0 pr fun q1 H1 xs l S1 g1 rx s1 pr1 => by
    split at pr1
    · rename_i hz
      refine ⟨by rw [rx.length]; exact hz, fun p hp => ?_⟩
      have g := Grow.laid (K := X.K) (r := q1) (u := .lst xs) hp
      exact pr1 q1 _ _ (g1.trans g) ⟨p, xs, rfl, g1.dom p hp, s1.free hp, upd_same, rx.grow g⟩ (s1.laid hp)
    · exact pr1.elim⟩
/-- a new list, kept -/
def newM (m : MA) : ME := fun e S => bindR (m e S) fun l S1 => .ok (.obj S1.length) (S1 ++ [.lst l])
theorem ev_new (h : LV X ca a ms) : EV X ca a (newM ms) :=
  fun W tk => weakE (h W tk) fun _ _ _ ⟨q, e, S, at_, pr⟩ => ⟨q, e, S, at_, PR.bind0 pr fun q1 H1 v l S1 g1 rel s1 pr1 => by
    obtain ⟨p, vs, rfl, h0, hq, hp, rs⟩ := rel
    refine pr1 (q1 ++ [p]) H1 (.ref p) (g1.number h0) (.obj ?_) (s1.adopt hq ⟨vs, hp, rs⟩)
    rw [List.getElem?_append_right (by rw [s1.len]; exact Nat.le_refl _), s1.len]
    simp⟩
end
end L3

/-! L3D: targets, what is walked, comprehensions, statements, calls. -/
namespace L3
open PySem PySem.Spec L2

/-! ### targets -/
/-- the slots that a target stores, the others as they were -/
structure Sets (is : List Nat) (s s' : L2.St) : Prop where
  len : s'.length = s.length
  other : ∀ (i : Nat), i ∉ is → s'[i]? = s[i]?
def tG (K : PySem.W.Frag) (is : List Nat) (g : D → Sl → Option Sl) : TG := fun v s H Q => ∃ r d e e', Rep K r H v d ∧ SlOk K r H s e ∧ g d e = some e' ∧ ∀ s', SlOk K r H s' e' → Sets is s s' → Q s' H
def tGs (K : PySem.W.Frag) (is : List Nat) (g : List D → Sl → Option Sl) : TGs := fun vs s H Q => ∃ r ds e e', Reps K r H vs ds ∧ SlOk K r H s e ∧ g ds e = some e' ∧ ∀ s', SlOk K r H s' e' → Sets is s s' → Q s' H
def GV (X : Cx) (tg : Expr) (is : List Nat) (g : D → Sl → Option Sl) : Prop := PG X tg (tG X.K is g)
def GVs (X : Cx) (ts : List Expr) (is : List Nat) (g : List D → Sl → Option Sl) : Prop := PGs X ts (tGs X.K is g)
def nmG (i : Nat) (d : D) (e : Sl) : Option Sl := some (e.set i (some d))
def nilG (l : List D) (e : Sl) : Option Sl := match l with
  | [] => some e
  | _ :: _ => none
def consG (g : D → Sl → Option Sl) (gs : List D → Sl → Option Sl) (l : List D) (e : Sl) : Option Sl := match l with
  | [] => none
  | d :: t => (g d e).bind fun e1 => gs t e1
def tupG (n : Nat) (gs : List D → Sl → Option Sl) (d : D) (e : Sl) : Option Sl := match d with
  | .tup l => if l.length = n then gs l e else none
  | _ => none
theorem Sets.refl {is : List Nat} {s : L2.St} : Sets is s s := ⟨rfl, fun _ _ => rfl⟩
theorem SlOk.set {K : PySem.W.Frag} {r : List Addr} {H : Hp} {s : L2.St} {e : Sl} {i : Nat} {v : V} {d : D} (h : SlOk K r H s e) (q : Rep K r H v d) : SlOk K r H (s.set i (some v)) (e.set i (some d)) := by
  refine ⟨by simp [h.1], fun j x hj => ?_⟩
  by_cases hij : i = j
  · subst hij
    by_cases hl : i < e.length
    · rw [List.getElem?_set_self hl] at hj
      cases hj
      exact ⟨v, List.getElem?_set_self (by rw [h.1]; exact hl), q⟩
    · rw [List.getElem?_eq_none (by simpa using hl)] at hj
      cases hj
  · rw [List.getElem?_set_ne hij] at hj
    obtain ⟨w, h1, h2⟩ := h.2 j x hj
    exact ⟨w, by rw [List.getElem?_set_ne hij]; exact h1, h2⟩
theorem Sets.set {s : L2.St} {i : Nat} {v : Option V} : Sets [i] s (s.set i v) := ⟨by simp, fun j hj => List.getElem?_set_ne (fun z => hj (by simp [z]))⟩
section
variable {X : Cx} {ca : Nat → Addr} {tg iter elt e a o : Expr} {es ts : List Expr} {is js own : List Nat} {g : D → Sl → Option Sl} {gs : List D → Sl → Option Sl} {m mo mi mv : ME} {ms : MA} {mt : MT} {pos pos' p : Pos}
theorem weakG {t t' : TG} (h : PG X tg t) (w : ∀ v s H Q, t' v s H Q → t v s H Q) : PG X tg t' := ⟨fun pins s σ H v u Q I r q => h.run pins s σ H v u Q I r (w _ _ _ _ q)⟩
theorem weakGs {t t' : TGs} (h : PGs X ts t) (w : ∀ v s H Q, t' v s H Q → t v s H Q) : PGs X ts t' := ⟨fun pins s σ H v u Q I r q => h.run pins s σ H v u Q I r (w _ _ _ _ q)⟩
theorem weakI {t t' : TI} (h : PI X tg iter t) (w : ∀ s H Q, t' s H Q → t s H Q) : PI X tg iter t' := ⟨fun pins s σ H Q I q => h.run pins s σ H Q I (w _ _ _ q)⟩
theorem gv_of {i : Nat} (h : PG X tg (gName i)) : GV X tg [i] (nmG i) := weakG h fun v s H Q ⟨r, d, e, e', rv, sl, ge, k⟩ => by
  cases ge
  exact k _ (sl.set rv) .set
theorem gv_name {i : Nat} {x : Str} (hN : X.N.Nodup) (hi : X.N[i]? = some x) (hx : Loc X.env.scope x) (hf : X.fn x = true ∨ X.env.scope.names.lookup x = some .local := by first | exact .inl rfl | exact .inr rfl | assumption) : GV X (.Name x pos) [i] (nmG i) :=
  gv_of (pg_name hN hi hx hf)
theorem gvs_nil : GVs X [] [] nilG := weakGs pgs_nil fun vs s H Q ⟨r, ds, e, e', rv, sl, ge, k⟩ => by
  cases ds with
  | nil =>
    cases ge
    exact ⟨rv.nil_of, k s sl .refl⟩
  | cons _ _ => cases ge
theorem gvs_cons (h1 : GV X e is g) (h2 : GVs X es js gs) (hs : (assignEach (e :: es) X.env).map (·.2) = assign e X.env :: (assignEach es X.env).map (·.2) := by rfl) : GVs X (e :: es) (is ++ js) (consG g gs) :=
  weakGs (pgs_cons h1 h2 hs) fun vs s H Q ⟨r, ds, e, e', rv, sl, ge, k⟩ => by
    cases ds with
    | nil => cases ge
    | cons d t =>
      obtain ⟨v, vt, rfl, r1, r2⟩ := rv.cons_of
      obtain ⟨e1, g1, g2⟩ := Option.bind_eq_some_iff.mp ge
      exact ⟨v, vt, rfl, r, d, e, e1, r1, sl, g1, fun s1 sl1 z1 => ⟨r, t, e1, e', r2, sl1, g2, fun s2 sl2 z2 => k s2 sl2 ⟨z2.len.trans z1.len, fun i hi => by
        rw [List.mem_append] at hi
        exact (z2.other i fun z => hi (.inr z)).trans (z1.other i fun z => hi (.inl z))⟩⟩⟩
theorem gv_tup {n k : Nat} (hc : X.calm = true) (h : GVs X es is gs) (hn : (assignEach es X.env).length = n := by rfl) (hst : (assignEach es X.env).findIdx? (·.1) = none := by rfl) : GV X (.Tuple es k pos) is (tupG n gs) :=
  weakG (pg_tup hc h hn hst) fun v s H Q ⟨r, d, e, e', rv, sl, ge, k⟩ => by
    unfold tupG at ge
    split at ge
    · rename_i l
      obtain ⟨p, xs, rfl, h1, h2⟩ := rv.tup_of
      split at ge
      · rename_i hl
        exact ⟨p, xs, rfl, h1, by rw [h2.length]; exact hl, r, l, e, e', h2, sl, ge, k⟩
      · cases ge
    · cases ge

/-! ### what is walked -/
/-- the iterator J yields l, as long as chk holds of the store -/
structure JOk (K : PySem.W.Frag) (ca : Nat → Addr) (J : It) (l : List D) (chk : Sto → Bool) (r0 : List Addr) (H0 : Hp) : Prop where
  go : ∀ (i : Nat) (r : List Addr) (H : Hp) (S : Sto) (x : D), Grow K r0 H0 r H → StoOk K ca r H S → chk S = true → l[i]? = some x → J.go i H ∧ ∀ v H', J.yld i H v H' → Grow K r H r H' ∧ StoOk K ca r H' S ∧ Rep K r H' v x
  stop : ∀ (i : Nat) (r : List Addr) (H : Hp) (S : Sto), Grow K r0 H0 r H → StoOk K ca r H S → chk S = true → l.length ≤ i → J.stop i H
abbrev RelJ (K : PySem.W.Frag) (ca : Nat → Addr) : RelT It (List D × (Sto → Bool)) := fun _ r H J x => JOk K ca J x.1 x.2 r H
abbrev IM := Sl → Sto → Rs (List D × (Sto → Bool))
def IV (X : Cx) (ca : Nat → Addr) (tg iter : Expr) (m : IM) : Prop := ∀ W, Takes X W → PI X tg iter (tM (RelJ X.K ca) X.K ca W m)
theorem antiJ {K : PySem.W.Frag} : Anti K (RelJ K ca) := ⟨fun _ h => h⟩
def fixC (_ : Sto) : Bool := true
def sameC (n : Nat) (l : List D) (S : Sto) : Bool := decide (S[n]? = some (.lst l))
/-- a list of any standing -/
theorem joL {K : PySem.W.Frag} {p : Addr} {l : List D} {chk : Sto → Bool} {r0 : List Addr} {H0 : Hp} (h : ∀ r H S, Grow K r0 H0 r H → StoOk K ca r H S → chk S = true → ∃ vs, SqL K H p vs ∧ Reps K r H vs l) : JOk K ca (Itl K p) l chk r0 H0 where
  go := fun i r H S x g s c q => by
    obtain ⟨vs, h1, h2⟩ := h r H S g s c
    obtain ⟨v, hv, rv⟩ := h2.get q
    refine ⟨⟨vs, v, h1, hv⟩, fun w H' y => ?_⟩
    obtain ⟨rfl, y⟩ := y
    have e := y vs h1
    rw [hv] at e
    cases e
    exact ⟨.refl, s, rv⟩
  stop := fun i r H S g s c q => by
    obtain ⟨vs, h1, h2⟩ := h r H S g s c
    exact ⟨vs, h1, by rw [h2.length]; exact q⟩
theorem joT {K : PySem.W.Frag} {p : Addr} {vs : List V} {l : List D} {r0 : List Addr} {H0 : Hp} (h1 : SqT K H0 p vs) (h2 : Reps K r0 H0 vs l) : JOk K ca (Itt K p) l fixC r0 H0 where
  go := fun i r H S x g s c q => by
    obtain ⟨v, hv, rv⟩ := (h2.grow g).get q
    refine ⟨⟨vs, v, g.tup _ _ h1, hv⟩, fun w H' y => ?_⟩
    obtain ⟨rfl, y⟩ := y
    have e := y vs (g.tup _ _ h1)
    rw [hv] at e
    cases e
    exact ⟨.refl, s, rv⟩
  stop := fun i r H S g s c q => ⟨vs, g.tup _ _ h1, by rw [h2.length]; exact q⟩
/-- a value as a thing to walk -/
def srcLD (d : D) (S : Sto) : Rs (List D × (Sto → Bool)) := match d with
  | .fz l => .ok (l, fixC) S
  | .obj n => match S[n]? with
    | some (.lst l) => .ok (l, sameC n l) S
    | _ => .bad
  | _ => .bad
def srcTD (d : D) (S : Sto) : Rs (List D × (Sto → Bool)) := match d with
  | .tup l => .ok (l, fixC) S
  | _ => .bad
def itM (f : D → Sto → Rs (List D × (Sto → Bool))) (m : ME) : IM := fun e S => bindR (m e S) f
def lvI (m : MA) : IM := fun e S => bindR (m e S) fun l S1 => .ok (l, fixC) S1
theorem iv_list (h : EV X ca iter m) : IV X ca tg iter (itM srcLD m) :=
  fun W tk => weakI (pi_list (h W tk)) fun _ _ _ ⟨q, e, S, at_, pr⟩ => ⟨q, e, S, at_, PR.bind antiJ pr fun q1 H1 x d S1 g1 rx s1 pr1 => by
    unfold srcLD at pr1
    split at pr1
    · obtain ⟨p, xs, rfl, h1, h2⟩ := rx.fz_of
      exact ⟨p, rfl, ⟨xs, h1.sq⟩, pr1 q1 H1 _ .refl (joL fun r H S g s _ => ⟨xs, (g.fz _ _ h1).sq, h2.grow g⟩) s1⟩
    · rename_i n
      obtain ⟨p, rfl, hn⟩ := rx.obj_of
      split at pr1
      · rename_i l el
        obtain ⟨vs, h1, h2⟩ := lst_at s1 hn el
        refine ⟨p, rfl, ⟨vs, SqL.of h1⟩, pr1 q1 H1 _ .refl (joL fun r H S g s c => ?_) s1⟩
        obtain ⟨vs', h1', h2'⟩ := lst_at s (g.pre _ _ hn) (of_decide_eq_true c)
        exact ⟨vs', SqL.of h1', h2'⟩
      · exact pr1.elim
    · exact pr1.elim⟩
theorem iv_lv (h : LV X ca iter ms) : IV X ca tg iter (lvI ms) :=
  fun W tk => weakI (pi_list (h W tk)) fun _ _ _ ⟨q, e, S, at_, pr⟩ => ⟨q, e, S, at_, PR.bind antiJ pr fun q1 H1 x d S1 g1 rx s1 pr1 => by
    obtain ⟨p, vs, rfl, h0, hq, hp, rs⟩ := rx
    exact ⟨p, rfl, ⟨vs, SqL.of hp⟩, pr1 q1 H1 _ .refl (joL fun r H S g s _ => ⟨vs, SqL.of (g.keep _ _ hp hq).1, rs.grow g⟩) s1⟩⟩
theorem iv_tup (h : EV X ca iter m) : IV X ca tg iter (itM srcTD m) :=
  fun W tk => weakI (pi_tup (h W tk)) fun _ _ _ ⟨q, e, S, at_, pr⟩ => ⟨q, e, S, at_, PR.bind antiJ pr fun q1 H1 x d S1 g1 rx s1 pr1 => by
    unfold srcTD at pr1
    split at pr1
    · obtain ⟨p, xs, rfl, h1, h2⟩ := rx.tup_of
      exact ⟨p, rfl, ⟨xs, h1⟩, pr1 q1 H1 _ .refl (joT h1 h2) s1⟩
    · exact pr1.elim⟩
/-- ints in a row -/
def upto (lo : Int) (n : Nat) : List D := (List.range n).map fun (i : Nat) => D.int (lo + (i : Int))
theorem upto_length (lo : Int) (n : Nat) : (upto lo n).length = n := by simp [upto]
theorem upto_get {lo : Int} {n i : Nat} (h : i < n) : (upto lo n)[i]? = some (.int (lo + (i : Int))) := by simp [upto, h]
theorem joR {K : PySem.W.Frag} {lo : Int} {n : Nat} {r0 : List Addr} {H0 : Hp} : JOk K ca (Itr lo n) (upto lo n) fixC r0 H0 where
  go := fun i r H S x g s c q => by
    have hi : i < n := by
      have := (List.getElem?_eq_some_iff.mp q).1
      rwa [upto_length] at this
    refine ⟨hi, fun w H' y => ?_⟩
    obtain ⟨rfl, rfl⟩ := y
    rw [upto_get hi] at q
    cases q
    exact ⟨.refl, s, .int _⟩
  stop := fun i r H S g s c q => by
    rw [upto_length] at q
    exact q
def rng1D (l : List D) (S : Sto) : Rs (List D × (Sto → Bool)) := match l with
  | [.int j] => if -(2 ^ 62) ≤ j ∧ j < 2 ^ 62 then .ok (upto 0 j.toNat, fixC) S else .bad
  | _ => .bad
def rng2D (l : List D) (S : Sto) : Rs (List D × (Sto → Bool)) := match l with
  | [.int i, .int j] => if -(2 ^ 62) ≤ i ∧ i < 2 ^ 62 ∧ -(2 ^ 62) ≤ j ∧ j < 2 ^ 62 then .ok (upto i (j - i).toNat, fixC) S else .bad
  | _ => .bad
def rngI (f : List D → Sto → Rs (List D × (Sto → Bool))) (m : MA) : IM := fun e S => bindR (m e S) f
theorem iv_rng1 {b : Expr} (hg : Gl X "range") (hm : X.mg "range" = none) (h : AV X ca [b] ms) (hs : starEach [b] X.env = [(false, eval b X.env)] := by rfl) : IV X ca tg (.Call (.Name "range" p) [b] [] pos) (rngI rng1D ms) :=
  fun W tk => weakI (pi_range1 hg hm (h W tk) hs) fun _ _ _ ⟨q, e, S, at_, pr⟩ => ⟨q, e, S, at_, PR.bind antiJ pr fun q1 H1 x d S1 g1 rx s1 pr1 => by
    unfold rng1D at pr1
    split at pr1
    · rename_i j
      split at pr1
      · rename_i hj
        obtain ⟨v, t, rfl, r1, r2⟩ := rx.cons_of
        rw [r1.int_of, r2.nil_of]
        exact ⟨j, rfl, hj.1, hj.2, pr1 q1 H1 _ .refl joR s1⟩
      · exact pr1.elim
    · exact pr1.elim⟩
theorem iv_rng2 {b c : Expr} (hg : Gl X "range") (hm : X.mg "range" = none) (h : AV X ca [b, c] ms) (hs : starEach [b, c] X.env = [(false, eval b X.env), (false, eval c X.env)] := by rfl) (hs2 : starEach [c] X.env = [(false, eval c X.env)] := by rfl) :
    IV X ca tg (.Call (.Name "range" p) [b, c] [] pos) (rngI rng2D ms) :=
  fun W tk => weakI (pi_range2 hg hm (h W tk) hs hs2) fun _ _ _ ⟨q, e, S, at_, pr⟩ => ⟨q, e, S, at_, PR.bind antiJ pr fun q1 H1 x d S1 g1 rx s1 pr1 => by
    unfold rng2D at pr1
    split at pr1
    · rename_i i j
      split at pr1
      · rename_i hj
        obtain ⟨v, t, rfl, r1, r2⟩ := rx.cons_of
        obtain ⟨v2, t2, rfl, r3, r4⟩ := r2.cons_of
        rw [r1.int_of, r3.int_of, r4.nil_of]
        exact ⟨i, j, rfl, hj, pr1 q1 H1 _ .refl joR s1⟩
      · exact pr1.elim
    · exact pr1.elim⟩

/-! ### comprehensions -/
def wipeD (e : Sl) : List Nat → Sl
  | [] => e
  | v :: vs => (wipeD e vs).set v none
theorem wipe_ok {K : PySem.W.Frag} {r : List Addr} {H : Hp} {s : L2.St} {e : Sl} (h : SlOk K r H s e) : ∀ vs : List Nat, SlOk K r H (wipe s vs) (wipeD e vs)
  | [] => h
  | v :: vs => by
    obtain ⟨h1, h2⟩ := wipe_ok h vs
    unfold wipe wipeD
    refine ⟨by simpa using h1, fun j x hj => ?_⟩
    by_cases hij : v = j
    · subst hij
      by_cases hl : v < (wipeD e vs).length
      · rw [List.getElem?_set_self hl] at hj
        cases hj
      · rw [List.getElem?_eq_none (by simpa using hl)] at hj
        cases hj
    · rw [List.getElem?_set_ne hij] at hj ⊢
      exact h2 j x hj
theorem wipe_get (s : L2.St) (i : Nat) : ∀ vs : List Nat, (wipe s vs)[i]? = if i ∈ vs then (if i < s.length then some none else none) else s[i]?
  | [] => by simp [wipe]
  | v :: vs => by
    unfold wipe
    have ih := wipe_get s i vs
    by_cases hij : v = i
    · subst hij
      rw [if_pos (by simp)]
      by_cases hl : v < s.length
      · rw [if_pos hl, List.getElem?_set_self (by rw [wipe_length]; exact hl)]
      · rw [if_neg hl, List.getElem?_eq_none (by rw [List.length_set, wipe_length]; omega)]
    · rw [List.getElem?_set_ne hij, ih]
      simp [Ne.symm hij]
theorem wipe_sets {s s' : L2.St} {is vs : List Nat} (z : Sets is s s') (h : ∀ i ∈ is, i ∈ vs) : wipe s' vs = wipe s vs := by
  apply List.ext_getElem?
  intro i
  rw [wipe_get, wipe_get, z.len]
  by_cases hi : i ∈ vs
  · rw [if_pos hi, if_pos hi]
  · rw [if_neg hi, if_neg hi, z.other i fun q => hi (h i q)]
theorem wipe_wipe {s : L2.St} {vs : List Nat} : wipe (wipe s vs) vs = wipe s vs := by
  apply List.ext_getElem?
  intro i
  rw [wipe_get, wipe_get, wipe_length]
  by_cases hi : i ∈ vs
  · rw [if_pos hi, if_pos hi]
  · rw [if_neg hi, if_neg hi]
def compL (chk : Sto → Bool) (g : D → Sl → Option Sl) (t : MT) (el : ME) : List D → Sl → Sto → Option (List D × Sto)
  | [], _, S => if chk S = true then some ([], S) else none
  | x :: r, e, S => if chk S = true then match g x e with
      | some e1 => match t e1 S with
        | .ok true S1 => match el e1 S1 with
          | .ok y S2 => match compL chk g t el r e S2 with
            | some (ys, S3) => some (y :: ys, S3)
            | none => none
          | _ => none
        | .ok false S1 => compL chk g t el r e S1
        | _ => none
      | none => none
    else none
def compM (im : IM) (g : D → Sl → Option Sl) (own : List Nat) (t : MT) (el : ME) : MA := fun e S => bindR (im e S) fun x S1 => if x.1.length ≤ sizeLine then match compL x.2 g t el x.1 (wipeD e own) S1 with
    | some (l, S2) => .ok l S2
    | none => .bad
  else .bad
theorem compL_nil {chk : Sto → Bool} {g : D → Sl → Option Sl} {t : MT} {el : ME} {e : Sl} {S S' : Sto} {ys : List D} (h : compL chk g t el [] e S = some (ys, S')) : chk S = true ∧ ys = [] ∧ S' = S := by
  unfold compL at h
  split at h
  · cases h
    exact ⟨by assumption, rfl, rfl⟩
  · cases h
theorem compL_cons {chk : Sto → Bool} {g : D → Sl → Option Sl} {t : MT} {el : ME} {x : D} {r : List D} {e : Sl} {S S' : Sto} {ys : List D} (h : compL chk g t el (x :: r) e S = some (ys, S')) :
    chk S = true ∧ ∃ e1, g x e = some e1 ∧ ((∃ S1 y S2 zs, t e1 S = .ok true S1 ∧ el e1 S1 = .ok y S2 ∧ compL chk g t el r e S2 = some (zs, S') ∧ ys = y :: zs) ∨ ∃ S1, t e1 S = .ok false S1 ∧ compL chk g t el r e S1 = some (ys, S')) := by
  unfold compL at h
  split at h
  · rename_i hc
    refine ⟨hc, ?_⟩
    split at h
    · rename_i e1 he
      refine ⟨e1, he, ?_⟩
      split at h
      · rename_i S1 ht
        split at h
        · rename_i y S2 hy
          split at h
          · rename_i zs S3 hr
            cases h
            exact .inl ⟨S1, y, S2, zs, ht, hy, hr, rfl⟩
          · cases h
        · cases h
      · rename_i S1 ht
        exact .inr ⟨S1, ht, h⟩
      · cases h
    · cases h
  · cases h
def yesT : MT := fun _ S => .ok true S
def TsV (X : Cx) (ca : Nat → Addr) (ifs : List Expr) (m : MT) : Prop := ∀ W, Takes X W → PTs X ifs (tM RelB X.K ca W m)
theorem tsv_nil : TsV X ca [] yesT := fun W tk => ⟨fun pins s σ H Q I ⟨q, e, S, at_, pr⟩ => pts_nil.run pins s σ H Q I (pr q H true .refl rfl at_.st)⟩
theorem tsv_one (h : TV X ca e mt) : TsV X ca [e] mt := fun W tk => pts_one (h W tk)
abbrev W0 : WX := fun _ _ _ _ => False
/-- a comprehension's reading, from its mirror's -/
theorem comp_ {W : WX} {s : L2.St} {H : Hp} {Q : VK} {im : IM} (hs : ∀ i ∈ is, i ∈ own) (h : tM (RelL X.K) X.K ca W (compM im g own mt m) s H Q) :
    tLc (tM (RelJ X.K ca) X.K ca W im) (tG X.K is g) (tM RelB X.K ca W0 mt) (tM (RelD X.K) X.K ca W0 m) own s H Q := by
  obtain ⟨q, e, S, at_, pr⟩ := h
  refine ⟨q, e, S, at_, PR.bind0 pr fun q1 H1 J x S1 g1 jo s1 pr1 => fun A hA => ?_⟩
  obtain ⟨l, chk⟩ := x
  have jo : JOk X.K ca J l chk q1 H1 := jo
  dsimp only at pr1
  split at pr1
  · rename_i hz
    have sl0 := wipe_ok (at_.sl.grow g1) own
    split at pr1
    · rename_i ys0 S0 hc0
      -- the invariant: what the rest gives, behind what stands at A
      refine ⟨fun i k H2 => k = l.length - i ∧ i ≤ l.length ∧ ∃ q2 S2 acc ad ys, Grow X.K q1 H1 q2 H2 ∧ StoOk X.K ca q2 H2 S2 ∧ A ∉ q2 ∧ H2 A = some (.lst acc) ∧ Reps X.K q2 H2 acc ad ∧ acc.length ≤ i ∧
          compL chk g mt m (l.drop i) (wipeD e own) S2 = some (ys, S0) ∧ ad ++ ys = ys0,
        ⟨l.length, by simp, Nat.zero_le _, q1, S1, [], [], ys0, Grow.laid hA, s1.laid hA, s1.free hA, upd_same, .nil, Nat.le_refl _, hc0, rfl⟩, ?_⟩
      rintro i k H2 ⟨rfl, hi, q2, S2, acc, ad, ys, g2, s2, hq, hA2, ra, hl, hc2, eys⟩
      by_cases hlt : i < l.length
      · have hx : l[i]? = some l[i] := List.getElem?_eq_getElem hlt
        rw [List.drop_eq_getElem_cons hlt] at hc2
        obtain ⟨hc, e1, he1, ht⟩ := compL_cons hc2
        obtain ⟨jg, jy⟩ := jo.go i q2 H2 S2 _ g2 s2 hc hx
        refine .inr ⟨jg, fun H' => ∃ q2 S2 acc ad ys, Grow X.K q1 H1 q2 H' ∧ StoOk X.K ca q2 H' S2 ∧ A ∉ q2 ∧ H' A = some (.lst acc) ∧ Reps X.K q2 H' acc ad ∧ acc.length ≤ i + 1 ∧
          compL chk g mt m (l.drop (i + 1)) (wipeD e own) S2 = some (ys, S0) ∧ ad ++ ys = ys0, fun H' n => ⟨l.length - (i + 1), by omega, rfl, hlt, n⟩, fun v H3 y => ?_⟩
        obtain ⟨g3, s3, rv⟩ := jy v H3 y
        have g23 := g2.trans g3
        have hA3 := (g3.keep A _ hA2 hq).1
        refine ⟨q2, _, _, e1, rv, sl0.grow g23, he1, fun s' sl1 z => ⟨(wipe_sets z hs).trans wipe_wipe, ?_⟩⟩
        refine ⟨q2, e1, S2, ⟨sl1, s3⟩, ?_⟩
        rcases ht with ⟨S4, y', S5, zs, ht, hel, hr, rfl⟩ | ⟨S4, ht, hr⟩
        · rw [ht]
          intro q4 H4 b g4 eb s4
          obtain rfl : b = true := eb
          rw [if_pos rfl]
          refine ⟨q4, e1, S4, ⟨sl1.grow g4, s4⟩, ?_⟩
          rw [hel]
          intro q5 H5 w g5 rw5 s5
          have g45 := g4.trans g5
          obtain ⟨hA5, hq5⟩ := g45.keep A _ hA3 hq
          refine ⟨acc, hA5, Nat.lt_of_le_of_lt hl (Nat.lt_of_lt_of_le hlt hz), q5, S5, acc ++ [w], ad ++ [y'], zs, (g23.trans g45).over hA hA5, s5.over hq5 hA5, hq5, upd_same,
            (((ra.grow g3).grow g45).append (.cons rw5 .nil)).over hA5, by simp; omega, hr, by rw [← eys]; simp⟩
        · rw [ht]
          intro q4 H4 b g4 eb s4
          obtain rfl : b = false := eb
          rw [if_neg Bool.false_ne_true]
          obtain ⟨hA4, hq4⟩ := g4.keep A _ hA3 hq
          exact ⟨q4, S4, acc, ad, ys, g23.trans g4, s4, hq4, hA4, (ra.grow g3).grow g4, by omega, hr, eys⟩
      · have e0 : i = l.length := by omega
        subst e0
        rw [List.drop_length] at hc2
        obtain ⟨hc, rfl, rfl⟩ := compL_nil hc2
        rw [List.append_nil] at eys
        subst eys
        refine .inl ⟨jo.stop _ q2 H2 S0 g2 s2 hc (Nat.le_refl _), ?_⟩
        exact pr1 q2 H2 (.ref A) (g1.trans g2) ⟨A, acc, rfl, g1.dom A hA, hq, hA2, ra⟩ s2
    · exact pr1.elim
  · exact pr1.elim
theorem lv_comp {ow : List Nat} {ifs : List Expr} {scope : Scope} {own' : List (Str × Nat)} {im : IM} (hc : X.calm = true) (hN : X.N.Nodup) (hi : IV X ca tg iter im) (ok : BlkOk X.N X.env.scope scope own')
    (hg : ∀ (s : Shared) (H : Hp) (C : Addr) (cl : List (Str × Addr)) (fp : List Addr), GV (X.blk s H scope (compEnvC scope cl C X.env) fp) tg is g)
    (ht : ∀ (s : Shared) (H : Hp) (C : Addr) (cl : List (Str × Addr)) (fp : List Addr), TsV (X.blk s H scope (compEnvC scope cl C X.env) fp) ca ifs mt)
    (he : ∀ (s : Shared) (H : Hp) (C : Addr) (cl : List (Str × Addr)) (fp : List Addr), EV (X.blk s H scope (compEnvC scope cl C X.env) fp) ca elt m)
    (how : own'.map (·.2) = ow := by rfl) (hs : ∀ i ∈ is, i ∈ own'.map (·.2) := by decide) (hf : ∀ x, foldedSetIterable iter X.env x = pure x := by intro _; rfl) :
    LV X ca (.ListComp elt [⟨tg, iter, ifs, 0⟩] scope pos) (compM im g ow mt m) := by
  subst how
  exact fun W tk => weakE (pe_lc (g := tG X.K is g) (tt := tM RelB X.K ca W0 mt) (te := tM (RelD X.K) X.K ca W0 m) hc hN (hi W tk) ok hg (fun s H C cl fp => ht s H C cl fp W0 takes0) (fun s H C cl fp => he s H C cl fp W0 takes0) hf) fun _ _ _ h => comp_ hs h

/-! ### statements -/
def seqM (a b : MS) : MS := fun e S => match a e S with
  | .nx e' S' => b e' S'
  | x => x
def nopM : MS := fun e S => .nx e S
theorem bv_nil : BV X ca [] nopM := fun W tk => weakB pss_nil fun D s H ⟨q, e, S, at_, pr⟩ => pr q H s .refl at_.sl at_.st
theorem bv_cons {st : Stmt} {sts : List Stmt} {a b : MS} (h1 : SV X ca st a) (h2 : BV X ca sts b) : BV X ca (st :: sts) (seqM a b) :=
  fun W tk => weakB (pss_cons (h1 W tk) (h2 W tk)) fun D s H ⟨q, e, S, at_, pr⟩ => ⟨q, e, S, at_, by
    unfold seqM at pr
    split at pr
    · rename_i e' S' ha
      rw [ha]
      exact fun q' H' s' g sl so => ⟨q', e', S', ⟨sl, so⟩, pr.grow g⟩
    · rename_i hx
      cases ha : a e S with
      | nx e' S' => exact (hx _ _ ha).elim
      | _ => rw [ha] at pr; exact pr⟩
theorem bv_one {st : Stmt} {a : MS} (h1 : SV X ca st a) : BV X ca [st] a := fun W tk => pss_one (h1 W tk)
theorem sv_pass : SV X ca (.Pass pos) nopM := fun W tk => weakS ps_pass fun D s H ⟨q, e, S, at_, pr⟩ => pr q H s .refl at_.sl at_.st
def brkM : MS := fun e S => .bk e S
def cntM : MS := fun e S => .ct e S
theorem sv_break : SV X ca (.Break pos) brkM := fun W tk => weakS ps_break fun D s H ⟨q, e, S, at_, pr⟩ => pr q H s .refl at_.sl at_.st
theorem sv_continue : SV X ca (.Continue pos) cntM := fun W tk => weakS ps_continue fun D s H ⟨q, e, S, at_, pr⟩ => pr q H s .refl at_.sl at_.st
def setM (i : Nat) (m : ME) : MS := fun e S => bindT (m e S) e fun d S1 => .nx (e.set i (some d)) S1
theorem sv_set {i : Nat} {x : Str} (hN : X.N.Nodup) (hi : X.N[i]? = some x) (hx : Loc X.env.scope x) (he : EV X ca a m) (hs : swapsWith a (some (.Name x pos')) pos.line X.env = pure false := by rfl)
    (hf : X.fn x = true ∨ X.env.scope.names.lookup x = some .local := by first | exact .inl rfl | exact .inr rfl | assumption) : SV X ca (.Assign [.Name x pos'] a pos) (setM i m) :=
  fun W tk => weakS (ps_set hN hi hx (he W tk) hs hf) fun D s H ⟨q, e, S, at_, pr⟩ => ⟨q, e, S, at_, PR.bindT at_.sl pr fun q1 H1 v d S1 g1 rv s1 pr1 => pr1 q1 H1 _ .refl ((at_.sl.grow g1).set rv) s1⟩
/-- a comprehension kept under a name -/
def setLM (i : Nat) (m : MA) : MS := fun e S => bindT (m e S) e fun l S1 => .nx (e.set i (some (.obj S1.length))) (S1 ++ [.lst l])
theorem sv_setLc {ow : List Nat} {i : Nat} {y : Str} {py spos : Pos} {ifs : List Expr} {scope : Scope} {own' : List (Str × Nat)} {im : IM} (hc : X.calm = true) (hN : X.N.Nodup) (hy : X.N[i]? = some y) (hyl : X.env.scope.names.lookup y = some .local)
    (hsw : swapsWith (.ListComp elt [⟨tg, iter, ifs, 0⟩] scope pos) (some (.Name y py)) spos.line X.env = pure true) (hi : IV X ca tg iter im) (ok : BlkOk X.N X.env.scope scope own')
    (hg : ∀ (s : Shared) (H : Hp) (C : Addr) (cl : List (Str × Addr)) (fp : List Addr), GV (X.blk s H scope (compEnvC scope cl C X.env) fp) tg is g)
    (ht : ∀ (s : Shared) (H : Hp) (C : Addr) (cl : List (Str × Addr)) (fp : List Addr), TsV (X.blk s H scope (compEnvC scope cl C X.env) fp) ca ifs mt)
    (he : ∀ (s : Shared) (H : Hp) (C : Addr) (cl : List (Str × Addr)) (fp : List Addr), EV (X.blk s H scope (compEnvC scope cl C X.env) fp) ca elt m)
    (how : own'.map (·.2) = ow := by rfl) (hs : ∀ i ∈ is, i ∈ own'.map (·.2) := by decide) (hf : ∀ x, foldedSetIterable iter X.env x = pure x := by intro _; rfl) :
    SV X ca (.Assign [.Name y py] (.ListComp elt [⟨tg, iter, ifs, 0⟩] scope pos) spos) (setLM i (compM im g ow mt m)) := by
  subst how
  exact fun W tk => weakS (ps_setLc (g := tG X.K is g) (tt := tM RelB X.K ca W0 mt) (te := tM (RelD X.K) X.K ca W0 m) hc hN hy hyl hsw (hi W tk) ok hg (fun s H C cl fp => ht s H C cl fp W0 takes0) (fun s H C cl fp => he s H C cl fp W0 takes0) hf) fun D s H ⟨q, e, S, at_, pr⟩ => comp_ hs ⟨q, e, S, at_, by
    unfold setLM at pr
    cases hr : compM im g (own'.map (·.2)) mt m e S with
    | ok l S1 =>
      rw [hr] at pr
      intro q1 H1 v g1 rel s1
      obtain ⟨p, vs, rfl, h0, hq, hp, rs⟩ := rel
      have g2 := g1.number h0
      refine pr (q1 ++ [p]) H1 _ g2 ((at_.sl.grow g2).set (.obj ?_)) (s1.adopt hq ⟨vs, hp, rs⟩)
      rw [List.getElem?_append_right (by rw [s1.len]; exact Nat.le_refl _), s1.len]
      simp
    | rse x S1 =>
      rw [hr] at pr
      exact fun q1 H1 c d g xr so => pr q1 H1 s c d g (at_.sl.grow g) xr so
    | bad =>
      rw [hr] at pr
      exact pr⟩
def dropM (m : ME) : MS := fun e S => bindT (m e S) e fun _ S1 => .nx e S1
theorem sv_expr (he : EV X ca a m) (hs : swapsWith a none pos.line X.env = pure false := by rfl) : SV X ca (.Expr a pos) (dropM m) :=
  fun W tk => weakS (ps_expr (he W tk) hs) fun D s H ⟨q, e, S, at_, pr⟩ => ⟨q, e, S, at_, PR.bindT at_.sl pr fun q1 H1 v d S1 g1 rv s1 pr1 => pr1 q1 H1 _ .refl (at_.sl.grow g1) s1⟩
def retM (m : ME) : MS := fun e S => bindT (m e S) e fun d S1 => .rt d S1
theorem sv_ret (he : EV X ca a m) : SV X ca (.Return (some a) pos) (retM m) :=
  fun W tk => weakS (ps_ret (he W tk)) fun D s H ⟨q, e, S, at_, pr⟩ => ⟨q, e, S, at_, PR.bindT at_.sl pr fun q1 H1 v d S1 g1 rv s1 pr1 => pr1 q1 H1 v .refl rv s1⟩
theorem sv_retN : SV X ca (.Return none pos) (retM (cM .non)) := fun W tk => weakS ps_retN fun D s H ⟨q, e, S, at_, pr⟩ => pr q H .non .refl .non at_.st
def ifS (t : MT) (a b : MS) : MS := fun e S => bindT (t e S) e fun c S1 => if c = true then a e S1 else b e S1
theorem sv_if {sa sb : List Stmt} {ma mb : MS} (hc : TV X ca e mt) (ha : BV X ca sa ma) (hb : BV X ca sb mb) : SV X ca (.If e sa sb pos) (ifS mt ma mb) :=
  fun W tk => weakS (ps_if (hc W tk) (ha W tk) (hb W tk)) fun D s H ⟨q, e, S, at_, pr⟩ => ⟨q, e, S, at_, PR.bindT at_.sl pr fun q1 H1 v d S1 g1 rv s1 pr1 => by
    obtain rfl : v = d := rv
    cases v with
    | true => exact ⟨q1, e, S1, ⟨at_.sl.grow g1, s1⟩, pr1⟩
    | false => exact ⟨q1, e, S1, ⟨at_.sl.grow g1, s1⟩, pr1⟩⟩
/-- a target of names -/
def asgM (g : D → Sl → Option Sl) (m : ME) : MS := fun e S => bindT (m e S) e fun d S1 => match g d e with
  | some e1 => .nx e1 S1
  | none => .bad
theorem sv_asg (he : EV X ca a m) (hg : GV X tg is g) (hs : swapsWithSole [tg] a pos.line X.env = pure false := by rfl) (hw : swappedStores [tg] a X.env = pure none := by rfl)
    (h1 : (assignEach [tg] X.env).map (·.2) = [assign tg X.env] := by rfl) : SV X ca (.Assign [tg] a pos) (asgM g m) :=
  fun W tk => weakS (ps_asg (he W tk) hg hs hw h1) fun D s H ⟨q, e, S, at_, pr⟩ => ⟨q, e, S, at_, PR.bindT at_.sl pr fun q1 H1 v d S1 g1 rv s1 pr1 => by
    split at pr1
    · rename_i e1 he1
      exact ⟨q1, d, e, e1, rv, at_.sl.grow g1, he1, fun s' sl' _ => pr1 q1 H1 s' .refl sl' s1⟩
    · exact pr1.elim⟩
/-- o[i] = v -/
def SetOk (K : PySem.W.Frag) (ca : Nat → Addr) (t : TSet) (f : D → D → D → Sto → Option Sto) : Prop :=
  ∀ (q : List Addr) (H : Hp) (S S' : Sto) (o i v : V) (od id d : D) (Q : Hp → Prop), StoOk K ca q H S → Rep K q H o od → Rep K q H i id → Rep K q H v d → f od id d S = some S' → (∀ H', Grow K q H q H' → StoOk K ca q H' S' → Q H') → t o i v H Q
def putM (f : D → D → D → Sto → Option Sto) (v o i : ME) : MS := fun e S => bindT (v e S) e fun d S1 => bindT (o e S1) e fun od S2 => bindT (i e S2) e fun id S3 => match f od id d S3 with
  | some S4 => .nx e S4
  | none => .bad
theorem sv_put {i : Expr} {t : TSet} {f : D → D → D → Sto → Option Sto} (hv : EV X ca a mv) (ho : EV X ca o mo) (hi : EV X ca i mi) (ht : PSet X t) (hf : SetOk X.K ca t f)
    (ha : ∀ v, assign (.Subscript o i p) X.env v = (do
      let ov ← holding [v] (eval o X.env)
      let iv ← holding [v, ov] (eval i X.env)
      standAt p
      holding [v, ov, iv] (setItem ov iv v)
      release [v, ov, iv] []) := by intro _; rfl)
    (hs : swapsWithSole [.Subscript o i p] a pos.line X.env = pure false := by rfl) (hw : swappedStores [.Subscript o i p] a X.env = pure none := by rfl)
    (h1 : (assignEach [.Subscript o i p] X.env).map (·.2) = [assign (.Subscript o i p) X.env] := by rfl) : SV X ca (.Assign [.Subscript o i p] a pos) (putM f mv mo mi) :=
  fun W tk => weakS (ps_asg (hv W tk) (pg_sub (ho W tk) (hi W tk) ht ha) hs hw h1) fun D s H ⟨q, e, S, at_, pr⟩ => ⟨q, e, S, at_, PR.bindT at_.sl pr fun q1 H1 v d S1 g1 rv s1 pr1 =>
    ⟨q1, e, S1, ⟨at_.sl.grow g1, s1⟩, PR.bindT (at_.sl.grow g1) pr1 fun q2 H2 ov od S2 g2 ro s2 pr2 => ⟨q2, e, S2, ⟨(at_.sl.grow g1).grow g2, s2⟩, PR.bindT ((at_.sl.grow g1).grow g2) pr2 fun q3 H3 iv id S3 g3 ri s3 pr3 => by
      split at pr3
      · rename_i S4 hS
        exact hf q3 H3 S3 S4 ov iv v od id d _ s3 (ro.grow g3) ri ((rv.grow g2).grow g3) hS fun H' g s' => pr3 q3 H' s g (((((at_.sl.grow g1).grow g2).grow g3)).grow g) s'
      · exact pr3.elim⟩⟩⟩
/-- name op= e -/
def augM (i : Nat) (f : D → D → Sto → Rs D) (m : ME) : MS := fun e S => match e[i]? with
  | some (some x) => bindT (m e S) e fun y S1 => bindT (f x y S1) e fun z S2 => .nx (e.set i (some z)) S2
  | _ => .bad
theorem sv_aug {i : Nat} {x : Str} {op : Operator} {r : R2} {f : D → D → Sto → Rs D} (hN : X.N.Nodup) (hi : X.N[i]? = some x) (hx : Loc X.env.scope x) (he : EV X ca a m) (ho : OpR X (inplaceOp op) r) (hf : OpOk X.K ca r f)
    (hfn : X.fn x = true ∨ X.env.scope.names.lookup x = some .local := by first | exact .inl rfl | exact .inr rfl | assumption) : SV X ca (.AugAssign (.Name x pos') op a pos) (augM i f m) :=
  fun W tk => weakS (ps_aug hN hi hx (he W tk) (fun pins s σ H x y v u Q I r1 r2 h => ho pins s σ H x y v u Q I r1 r2 h) hfn) fun D s H ⟨q, e, S, at_, pr⟩ => by
    unfold augM at pr
    split at pr
    · rename_i d hd
      obtain ⟨v, hv, rv⟩ := at_.sl.2 _ _ hd
      refine ⟨v, hv, q, e, S, at_, PR.bindT at_.sl pr fun q1 H1 w d1 S1 g1 rw1 s1 pr1 => hf q1 H1 S1 v w d d1 _ _ s1 (rv.grow g1) rw1 (PR.bindT (at_.sl.grow g1) pr1 fun q2 H2 z dz S2 g2 rz s2 pr2 => ?_)⟩
      exact pr2 q2 H2 _ .refl (((at_.sl.grow g1).grow g2).set rz) s2
    · exact pr.elim

/-! ### loops -/
def forL (chk : Sto → Bool) (g : D → Sl → Option Sl) (b : MS) : List D → Sl → Sto → Rt
  | [], e, S => if chk S = true then .nx e S else .bad
  | x :: r, e, S => if chk S = true then match g x e with
      | some e1 => match b e1 S with
        | .nx e2 S2 => forL chk g b r e2 S2
        | .ct e2 S2 => forL chk g b r e2 S2
        | .bk e2 S2 => .nx e2 S2
        | .rt d S2 => .rt d S2
        | .rse x e2 S2 => .rse x e2 S2
        | .bad => .bad
      | none => .bad
    else .bad
def forM (im : IM) (g : D → Sl → Option Sl) (b : MS) : MS := fun e S => bindT (im e S) e fun x S1 => forL x.2 g b x.1 e S1
theorem sv_for {body : List Stmt} {im : IM} {mb : MS} (hp : PassesOwn (model X.prog X.w) X.A X.env X.xe) (hc : X.calm = true) (hi : IV X ca tg iter im) (hg : GV X tg is g) (hb : BV X ca body mb)
    (hf : ∀ x, foldedSetIterable iter X.env x = pure x := by intro _; rfl) : SV X ca (.For tg iter body [] pos) (forM im g mb) :=
  fun W tk => weakS (ps_for hp hc (hi W tk) hg (hb W tk) hf) fun D s H ⟨q, e, S, at_, pr⟩ => ⟨q, e, S, at_, PR.bindT at_.sl pr fun q1 H1 J x S1 g1 jo s1 pr1 => by
    obtain ⟨l, chk⟩ := x
    have jo : JOk X.K ca J l chk q1 H1 := jo
    refine ⟨fun i k s2 H2 => k = l.length - i ∧ i ≤ l.length ∧ ∃ q2 S2 e2, Grow X.K q1 H1 q2 H2 ∧ SlOk X.K q2 H2 s2 e2 ∧ StoOk X.K ca q2 H2 S2 ∧ PRt X.K ca W q2 H2 D (forL chk g mb (l.drop i) e2 S2),
      ⟨l.length, by simp, Nat.zero_le _, q1, S1, e, .refl, at_.sl.grow g1, s1, pr1⟩, ?_⟩
    rintro i k s2 H2 ⟨rfl, hi, q2, S2, e2, g2, sl2, s2', pr2⟩
    by_cases hlt : i < l.length
    · have hx : l[i]? = some l[i] := List.getElem?_eq_getElem hlt
      rw [List.drop_eq_getElem_cons hlt] at pr2
      unfold forL at pr2
      split at pr2
      · rename_i hck
        obtain ⟨jg, jy⟩ := jo.go i q2 H2 S2 _ g2 s2' hck hx
        refine .inr ⟨jg, fun s3 H3 => ∃ q2 S2 e2, Grow X.K q1 H1 q2 H3 ∧ SlOk X.K q2 H3 s3 e2 ∧ StoOk X.K ca q2 H3 S2 ∧ PRt X.K ca W q2 H3 D (forL chk g mb (l.drop (i + 1)) e2 S2), fun s' H' n => ⟨l.length - (i + 1), by omega, rfl, hlt, n⟩, fun v H3 y => ?_⟩
        obtain ⟨g3, s3, rv⟩ := jy v H3 y
        split at pr2
        · rename_i e1 he1
          refine ⟨q2, _, e2, e1, rv, sl2.grow g3, he1, fun s' sl1 _ => ⟨q2, e1, S2, ⟨sl1, s3⟩, ?_⟩⟩
          have pr3 := PRt.grow g3 pr2
          cases hr : mb e1 S2 with
          | nx e4 S4 =>
            rw [hr] at pr3
            exact fun q4 H4 s4 g4 sl4 so4 => ⟨q4, S4, e4, (g2.trans g3).trans g4, sl4, so4, pr3.grow g4⟩
          | ct e4 S4 =>
            rw [hr] at pr3
            exact fun q4 H4 s4 g4 sl4 so4 => ⟨q4, S4, e4, (g2.trans g3).trans g4, sl4, so4, pr3.grow g4⟩
          | bk e4 S4 =>
            rw [hr] at pr3
            exact pr3
          | rt d S4 =>
            rw [hr] at pr3
            exact pr3
          | rse x e4 S4 =>
            rw [hr] at pr3
            exact pr3
          | bad =>
            rw [hr] at pr3
            exact pr3
        · exact pr2.elim
      · exact pr2.elim
    · have e0 : i = l.length := by omega
      subst e0
      rw [List.drop_length] at pr2
      unfold forL at pr2
      split at pr2
      · rename_i hck
        exact .inl ⟨jo.stop _ q2 H2 S2 g2 s2' hck (Nat.le_refl _), pr2 q2 H2 s2 .refl sl2 s2'⟩
      · exact pr2.elim⟩
/-- a while of at most n turns -/
def whF (c : MT) (b : MS) : Nat → Sl → Sto → Rt
  | 0, _, _ => .bad
  | n + 1, e, S => bindT (c e S) e fun k S1 => if k = true then match b e S1 with
      | .nx e2 S2 => whF c b n e2 S2
      | .ct e2 S2 => whF c b n e2 S2
      | .bk e2 S2 => .nx e2 S2
      | .rt d S2 => .rt d S2
      | .rse x e2 S2 => .rse x e2 S2
      | .bad => .bad
    else .nx e S1
/-- .. of any number: the least that ends -/
noncomputable def whM (c : MT) (b : MS) : MS := fun e S => open Classical in if h : ∃ n, whF c b n e S ≠ .bad then whF c b h.choose e S else .bad
theorem whF_succ {c : MT} {b : MS} {n : Nat} {e : Sl} {S : Sto} : whF c b (n + 1) e S = bindT (c e S) e fun k S1 => if k = true then match b e S1 with
      | .nx e2 S2 => whF c b n e2 S2
      | .ct e2 S2 => whF c b n e2 S2
      | .bk e2 S2 => .nx e2 S2
      | .rt d S2 => .rt d S2
      | .rse x e2 S2 => .rse x e2 S2
      | .bad => .bad
    else .nx e S1 := rfl
theorem whF_more {c : MT} {b : MS} : ∀ {n : Nat} {e : Sl} {S : Sto}, whF c b n e S ≠ .bad → whF c b (n + 1) e S = whF c b n e S
  | 0, e, S, h => (h rfl).elim
  | n + 1, e, S, h => by
    have key : ∀ k S1, (if k = true then match b e S1 with
        | .nx e2 S2 => whF c b n e2 S2
        | .ct e2 S2 => whF c b n e2 S2
        | .bk e2 S2 => .nx e2 S2
        | .rt d S2 => .rt d S2
        | .rse x e2 S2 => .rse x e2 S2
        | .bad => .bad
      else .nx e S1) ≠ Rt.bad → (if k = true then match b e S1 with
        | .nx e2 S2 => whF c b (n + 1) e2 S2
        | .ct e2 S2 => whF c b (n + 1) e2 S2
        | .bk e2 S2 => .nx e2 S2
        | .rt d S2 => .rt d S2
        | .rse x e2 S2 => .rse x e2 S2
        | .bad => .bad
      else .nx e S1) = (if k = true then match b e S1 with
        | .nx e2 S2 => whF c b n e2 S2
        | .ct e2 S2 => whF c b n e2 S2
        | .bk e2 S2 => .nx e2 S2
        | .rt d S2 => .rt d S2
        | .rse x e2 S2 => .rse x e2 S2
        | .bad => .bad
      else .nx e S1) := fun k S1 hk => by
      cases k with
      | false => rfl
      | true =>
        rw [if_pos rfl] at hk ⊢
        rw [if_pos rfl]
        cases hb : b e S1 with
        | nx e2 S2 => rw [hb] at hk; exact whF_more hk
        | ct e2 S2 => rw [hb] at hk; exact whF_more hk
        | _ => rfl
    unfold whF at h
    show bindT (c e S) e _ = bindT (c e S) e _
    cases hc : c e S with
    | ok k S1 => rw [hc] at h; exact key k S1 h
    | rse x S1 => rfl
    | bad => rfl
theorem whF_mono {c : MT} {b : MS} {n : Nat} {e : Sl} {S : Sto} (h : whF c b n e S ≠ .bad) : ∀ k : Nat, whF c b (n + k) e S = whF c b n e S
  | 0 => rfl
  | k + 1 => by
    have ih := whF_mono h k
    rw [← Nat.add_assoc, whF_more (by rw [ih]; exact h), ih]
theorem whM_eq {c : MT} {b : MS} {n : Nat} {e : Sl} {S : Sto} (h : whF c b n e S ≠ .bad) : whM c b e S = whF c b n e S := by
  have hx : ∃ n, whF c b n e S ≠ .bad := ⟨n, h⟩
  unfold whM
  rw [dif_pos hx]
  have h2 := hx.choose_spec
  rcases Nat.le_total n hx.choose with l | l
  · obtain ⟨k, hk⟩ := Nat.exists_eq_add_of_le l
    rw [hk, whF_mono h]
  · obtain ⟨k, hk⟩ := Nat.exists_eq_add_of_le l
    have := whF_mono h2 k
    rw [← hk] at this
    exact this.symm
theorem whM_some {c : MT} {b : MS} {e : Sl} {S : Sto} (h : whM c b e S ≠ .bad) : ∃ n, whF c b n e S ≠ .bad ∧ whM c b e S = whF c b n e S := by
  unfold whM at h ⊢
  split at h
  · rename_i hx
    rw [dif_pos hx]
    exact ⟨_, hx.choose_spec, rfl⟩
  · exact (h rfl).elim
/-- one turn -/
theorem whM_step {c : MT} {b : MS} {e e2 : Sl} {S S1 S2 : Sto} (hc : c e S = .ok true S1) (hb : b e S1 = .nx e2 S2 ∨ b e S1 = .ct e2 S2) : whM c b e S = whM c b e2 S2 := by
  have one : ∀ n, whF c b (n + 1) e S = whF c b n e2 S2 := fun n => by
    rw [whF_succ, hc]
    dsimp only [bindT]
    rw [if_pos rfl]
    rcases hb with h | h <;> rw [h]
  by_cases h : whM c b e2 S2 = .bad
  · by_cases h2 : whM c b e S = .bad
    · rw [h, h2]
    · obtain ⟨n, h3, h4⟩ := whM_some h2
      cases n with
      | zero => exact (h3 rfl).elim
      | succ n =>
        rw [one] at h3 h4
        rw [h4, whM_eq h3]
  · obtain ⟨n, h3, h4⟩ := whM_some h
    rw [h4, ← one n, whM_eq (n := n + 1) (by rw [one]; exact h3)]
theorem whM_end {c : MT} {b : MS} {e : Sl} {S S1 : Sto} (hc : c e S = .ok false S1) : whM c b e S = .nx e S1 := by
  have one : whF c b 1 e S = .nx e S1 := by
    show bindT (c e S) e _ = _
    rw [hc]
    rfl
  rw [whM_eq (n := 1) (by rw [one]; exact fun h => by cases h), one]
theorem whM_out {c : MT} {b : MS} {e : Sl} {S S1 : Sto} (hc : c e S = .ok true S1) : (∀ d S2, b e S1 = .rt d S2 → whM c b e S = .rt d S2) ∧ (∀ e2 S2, b e S1 = .bk e2 S2 → whM c b e S = .nx e2 S2) ∧ ∀ x e2 S2, b e S1 = .rse x e2 S2 → whM c b e S = .rse x e2 S2 := by
  have one : whF c b 1 e S = match b e S1 with
      | .nx e2 S2 => .bad
      | .ct e2 S2 => .bad
      | .bk e2 S2 => .nx e2 S2
      | .rt d S2 => .rt d S2
      | .rse x e2 S2 => .rse x e2 S2
      | .bad => .bad := by
    rw [whF_succ, hc]
    dsimp only [bindT]
    rw [if_pos rfl]
    rfl
  refine ⟨fun d S2 h => ?_, fun e2 S2 h => ?_, fun x e2 S2 h => ?_⟩ <;> (rw [h] at one; rw [whM_eq (n := 1) (by rw [one]; exact fun h => by cases h), one])
theorem sv_while {body : List Stmt} {mb : MS} (hp : PassesOwn (model X.prog X.w) X.A X.env X.xe) (hc : TV X ca e mt) (hb : BV X ca body mb) : SV X ca (.While e body [] pos) (whM mt mb) :=
  fun W tk => weakS (ps_while hp (hc W tk) (hb W tk)) fun D s H ⟨q, e, S, at_, pr⟩ => by
    have nb : whM mt mb e S ≠ .bad := fun z => by rw [z] at pr; exact pr.elim
    obtain ⟨n, hn, he⟩ := whM_some nb
    rw [he] at pr
    refine ⟨fun n s H => ∃ q e S, At X.K ca q s H e S ∧ PRt X.K ca W q H D (whF mt mb n e S), ⟨n, q, e, S, at_, pr⟩, ?_⟩
    rintro n s H ⟨q, e, S, at_, pr⟩
    cases n with
    | zero => exact pr.elim
    | succ n =>
      unfold whF at pr
      refine ⟨q, e, S, at_, PR.bindT at_.sl pr fun q1 H1 b b' S1 g1 eb s1 pr1 => ?_⟩
      obtain rfl : b = b' := eb
      cases b with
      | false => exact pr1 q1 H1 s .refl (at_.sl.grow g1) s1
      | true =>
        rw [if_pos rfl] at pr1 ⊢
        refine ⟨fun s H => ∃ q e S, At X.K ca q s H e S ∧ PRt X.K ca W q H D (whF mt mb n e S), fun s' H' h => ⟨n, Nat.lt_succ_self _, h⟩, q1, e, S1, ⟨at_.sl.grow g1, s1⟩, ?_⟩
        cases hr : mb e S1 with
        | nx e4 S4 =>
          rw [hr] at pr1
          exact fun q4 H4 s4 g4 sl4 so4 => ⟨q4, e4, S4, ⟨sl4, so4⟩, pr1.grow g4⟩
        | ct e4 S4 =>
          rw [hr] at pr1
          exact fun q4 H4 s4 g4 sl4 so4 => ⟨q4, e4, S4, ⟨sl4, so4⟩, pr1.grow g4⟩
        | bk e4 S4 => rw [hr] at pr1; exact pr1
        | rt d S4 => rw [hr] at pr1; exact pr1
        | rse x e4 S4 => rw [hr] at pr1; exact pr1
        | bad => rw [hr] at pr1; exact pr1

/-! ### calls -/
def clM (n : Nat) (f : List D → Sto → Rs D) (m : MA) : ME := fun e S => bindR (m e S) fun ds S1 => if ds.length = n then f ds S1 else .bad
/-- a def's promise: what it hands back is f's -/
def spM (K : PySem.W.Frag) (ca : Nat → Addr) (n : Nat) (f : List D → Sto → Rs D) : Sp := fun vs H Q E => vs.length = n ∧ ∃ q S ds, StoOk K ca q H S ∧ Reps K q H vs ds ∧ PR (RelD K) K ca E q H Q (f ds S)
theorem ev_call {f : Addr} {fd : FuncData} {ps : List Str} {n k : Nat} {x : Str} {mf : List D → Sto → Rs D} (F : FnOk X.prog X.w X.K X.mg X.base (L2.CX X.prog X.w) k f fd ps (spM X.K ca n mf)) (hr : Room k X.A) (hg : Gl X x) (hm : X.mg x = some (.ref f)) (hk : PySem.W.keepIn X.K (.ref f) = true)
    (hb : Binds X.K fd ps []) (ha : AV X ca (e :: es) ms) (hdb : (x == ("__debug__" : Str)) = false := by decide) (he : starEach (e :: es) X.env = (false, eval e X.env) :: starEach es X.env := by rfl) (hpl : (backTo pos (starEach es X.env)).any (·.1) = false := by rfl) :
    EV X ca (.Call (.Name x p) (e :: es) [] pos) (clM n mf ms) := fun W tk => weakE (pe_callS F hr hg hm hk hb (fun σ => passAt tk σ) (ha W tk) hdb he hpl) fun s H Q ⟨q, e, S, at_, pr⟩ => ⟨q, e, S, at_, PR.bind antiD pr fun q1 H1 vs ds S1 g1 rv s1 pr1 => by
  split at pr1
  · rename_i hl
    exact ⟨by rw [rv.length, hl], q1, S1, ds, s1, rv, pr1⟩
  · exact pr1.elim⟩
/-- the slots at the entry -/
def startD (n : Nat) (ds : List D) : Sl := ds.map some ++ List.replicate (n - ds.length) none
/-- a def, by its body -/
def fnM (n : Nat) (b : MS) (ds : List D) (S : Sto) : Rs D := match b (startD n ds) S with
  | .nx _ S1 => .ok .non S1
  | .rt d S1 => .ok d S1
  | .rse x _ S1 => .rse x S1
  | _ => .bad
theorem start_ok {K : PySem.W.Frag} {r : List Addr} {H : Hp} {N : List Str} {vs : List V} {ds : List D} (h : Reps K r H vs ds) : SlOk K r H (L2.start N vs) (startD N.length ds) := by
  unfold L2.start startD
  refine ⟨by simp [h.length], fun i d hi => ?_⟩
  by_cases hl : i < ds.length
  · rw [List.getElem?_append_left (by simpa using hl), List.getElem?_map] at hi
    obtain ⟨d', h1, h2⟩ := Option.map_eq_some_iff.mp hi
    cases h2
    obtain ⟨v, h3, h4⟩ := h.get h1
    exact ⟨v, by rw [List.getElem?_append_left (by rw [List.length_map, h.length]; exact hl), List.getElem?_map, h3]; rfl, h4⟩
  · rw [List.getElem?_append_right (by simpa using hl), List.getElem?_replicate] at hi
    split at hi <;> cases hi
theorem def_ok {P : Program} {w : World} {K : PySem.W.Frag} {mg : Str → Option Value} {base : Heap} {x qual : Str} {st : Stmt} {f : Addr} {fd : FuncData} {N ps : List Str} {k n : Nat} {b : MS} (F : Fun K x qual st f fd) (S : FnScope N ps (defScope st)) (hn : ps.length = n)
    (hb : ∀ (cdv : Value) (A : Around) (outer : List PySem.Env) (s : Shared) (H : Hp) (E : XK), Room k (A.deeper (PyProof.Rows.envOfC qual (defScope st) s.heap.objs.size f cdv)) →
      BV (cxOf (L2.CX P w) P w K mg base N qual (defScope st) f cdv A outer s H E) ca (defBody st) b) :
    FnOk P w K mg base (L2.CX P w) (k + 1) f fd ps (spM K ca n (fnM N.length b)) := by
  refine F.okX S (fun vs H Q E h => h.1.trans hn.symm) fun cdv A outer s H vs Q E hr h => ?_
  obtain ⟨hl, q, S, ds, so, rv, pr⟩ := h
  refine ⟨_, hb cdv A outer s H E hr (fun c d _ H => E c d H) (takes_of rfl rfl rfl rfl), q, startD N.length ds, S, ⟨start_ok rv, so⟩, ?_⟩
  show PRt K ca _ q H _ (b (startD N.length ds) S)
  unfold fnM at pr
  cases hr : b (startD N.length ds) S with
  | nx e S1 =>
    rw [hr] at pr
    exact fun r' H' s' g _ so => pr r' H' .non g .non so
  | rt d S1 =>
    rw [hr] at pr
    exact pr
  | rse x e S1 =>
    rw [hr] at pr
    exact fun r' H' s' c d g _ xr so => pr r' H' c d g xr so
  | bk e S1 => rw [hr] at pr; exact pr.elim
  | ct e S1 => rw [hr] at pr; exact pr.elim
  | bad => rw [hr] at pr; exact pr.elim
/-- at no level: nothing is promised -/
theorem def_zero {P : Program} {w : World} {K : PySem.W.Frag} {mg : Str → Option Value} {base : Heap} {f : Addr} {fd : FuncData} {ps : List Str} {n j : Nat} (hn : ps.length = n) : FnOk P w K mg base (L2.CX P w) j f fd ps (spM K ca n fun _ _ => .bad) :=
  ⟨fun vs H Q E h => h.1.trans hn.symm, fun A outer s H args us vs Q E _ _ _ _ h => by
    obtain ⟨_, _, _, _, _, _, z⟩ := h
    exact z.elim⟩
end
end L3

/-! L3C: operators, comparisons, subscripts, built-ins, methods. -/
namespace L3
open PySem PySem.Spec L2
section
variable {X : Cx} {ca : Nat → Addr} {a b c o e : Expr} {es : List Expr} {ma mb mc m mo : ME} {mt : MT} {ms : MA} {pos p apos cpos : Pos}

/-! ### laying, writing, in one step -/
theorem PR.put {K : PySem.W.Frag} {q : List Addr} {H : Hp} {W : Value → Option Addr → Hp → Prop} {Q : VK} {S : Sto} {d : D} {v : V} (pr : PR (RelD K) K ca W q H Q (.ok d S)) (rv : Rep K q H v d) (s : StoOk K ca q H S) : Q v H := pr q H v .refl rv s
theorem PR.tupNew {K : PySem.W.Frag} {q : List Addr} {H : Hp} {W : Value → Option Addr → Hp → Prop} {Q : VK} {S : Sto} {l : List D} {vs : List V} {p : Addr} (pr : PR (RelD K) K ca W q H Q (.ok (.tup l) S)) (rv : Reps K q H vs l) (s : StoOk K ca q H S) (hp : H p = none) :
    Q (.ref p) (upd H p (.tup vs)) := pr q _ _ (Grow.laid hp) (.tup (.inl (.inl upd_same)) (rv.grow (Grow.laid hp))) (s.laid hp)
theorem PR.lstNew {K : PySem.W.Frag} {q : List Addr} {H : Hp} {W : Value → Option Addr → Hp → Prop} {Q : VK} {S : Sto} {l : List D} {vs : List V} {p : Addr} (pr : PR (RelL K) K ca W q H Q (.ok l S)) (rv : Reps K q H vs l) (s : StoOk K ca q H S) (hp : H p = none) :
    Q (.ref p) (upd H p (.lst vs)) := pr q _ _ (Grow.laid hp) ⟨p, vs, rfl, hp, s.free hp, upd_same, rv.grow (Grow.laid hp)⟩ (s.laid hp)
theorem sto_set {K : PySem.W.Frag} {q : List Addr} {H : Hp} {S : Sto} {l : List D} {n : Nat} {vs ws : List V} {p : Addr} (s : StoOk K ca q H S) (hn : q[n]? = some p) (hp : H p = some (.lst vs)) (rw' : Reps K q H ws l) :
    Grow K q H q (upd H p (.lst ws)) ∧ StoOk K ca q (upd H p (.lst ws)) (S.set n (.lst l)) := by
  have g : Grow K q H q (upd H p (.lst ws)) := Grow.written (List.mem_of_getElem? hn) hp (.lst vs)
  exact ⟨g, s.write hn hp (.lst vs) ⟨ws, upd_same, rw'.grow g⟩⟩

/-! ### numbers -/
def intD (C : Int → Int → Prop) [∀ i j, Decidable (C i j)] (g : Int → Int → D) (x y : D) (S : Sto) : Rs D := match x, y with
  | .int i, .int j => if C i j then .ok (g i j) S else .bad
  | _, _ => .bad
def intD0 (g : Int → Int → D) (x y : D) (S : Sto) : Rs D := match x, y with
  | .int i, .int j => .ok (g i j) S
  | _, _ => .bad
theorem ok_I0 {K : PySem.W.Frag} {g : Int → Int → V} {g' : Int → Int → D} (h : ∀ i j r H, Rep K r H (g i j) (g' i j)) : OpOk K ca (rI0 g) (intD0 g') := by
  intro q H S x y d e W Q s rx ry pr
  unfold intD0 at pr
  split at pr
  · rw [rx.int_of, ry.int_of]
    exact ⟨_, _, rfl, rfl, pr.put (h _ _ _ _) s⟩
  · exact pr.elim
theorem ok_I {K : PySem.W.Frag} {C : Int → Int → Prop} [∀ i j, Decidable (C i j)] {g : Int → Int → V} {g' : Int → Int → D} (h : ∀ i j r H, Rep K r H (g i j) (g' i j)) : OpOk K ca (rI C g) (intD C g') := by
  intro q H S x y d e W Q s rx ry pr
  unfold intD at pr
  split at pr
  · split at pr
    · rename_i hc
      rw [rx.int_of, ry.int_of]
      exact ⟨_, _, rfl, rfl, hc, pr.put (h _ _ _ _) s⟩
    · exact pr.elim
  · exact pr.elim
instance {i j : Int} : Decidable (CMul i j) := by unfold CMul; infer_instance
instance {i j : Int} : Decidable (CDiv i j) := by unfold CDiv; infer_instance
instance {i j : Int} : Decidable (CPow i j) := by unfold CPow; infer_instance
/-- two rules for one operation, by what the values are -/
theorem OpOk.or {K : PySem.W.Frag} {r r' : R2} {f f' : D → D → Sto → Rs D} (h : OpOk K ca r f) (h' : OpOk K ca r' f') (g : D → D → Sto → Rs D) (hg : ∀ d e S, g d e S = f d e S ∨ g d e S = f' d e S) :
    OpOk K ca (fun x y H Q => r x y H Q ∨ r' x y H Q) g := by
  intro q H S x y d e W Q s rx ry pr
  rcases hg d e S with z | z
  · rw [z] at pr
    exact .inl (h q H S x y d e W Q s rx ry pr)
  · rw [z] at pr
    exact .inr (h' q H S x y d e W Q s rx ry pr)

/-! #### + -/
def addSD (x y : D) (S : Sto) : Rs D := match x, y with
  | .str i, .str j => if i.length + j.length ≤ sizeLine then .ok (.str (i ++ j)) S else .bad
  | _, _ => .bad
def addTD (x y : D) (S : Sto) : Rs D := match x, y with
  | .tup i, .tup j => if i.length + j.length ≤ sizeLine then .ok (.tup (i ++ j)) S else .bad
  | _, _ => .bad
def addD (x y : D) (S : Sto) : Rs D := match x, y with
  | .int i, .int j => .ok (.int (i + j)) S
  | .str i, .str j => if i.length + j.length ≤ sizeLine then .ok (.str (i ++ j)) S else .bad
  | .tup i, .tup j => if i.length + j.length ≤ sizeLine then .ok (.tup (i ++ j)) S else .bad
  | _, _ => .bad
theorem ok_addS {K : PySem.W.Frag} : OpOk K ca (fun x y H Q => ∃ i j, x = .str i ∧ y = .str j ∧ i.length + j.length ≤ sizeLine ∧ Q (.str (i ++ j)) H) addSD := by
  intro q H S x y d e W Q s rx ry pr
  unfold addSD at pr
  split at pr
  · split at pr
    · rename_i hz
      rw [rx.str_of, ry.str_of]
      exact ⟨_, _, rfl, rfl, hz, pr.put (.str _) s⟩
    · exact pr.elim
  · exact pr.elim
theorem ok_addT {K : PySem.W.Frag} : OpOk K ca (rCatA K) addTD := by
  intro q H S x y d e W Q s rx ry pr
  unfold addTD at pr
  split at pr
  · rename_i l1 l2
    split at pr
    · rename_i hz
      obtain ⟨a, xs, rfl, h1, h2⟩ := rx.tup_of
      obtain ⟨b, ys, rfl, h3, h4⟩ := ry.tup_of
      refine ⟨a, b, xs, ys, rfl, rfl, h1, h3, by rw [h2.length, h4.length]; exact hz, fun ex => ?_, fun _ ey => ?_, fun _ _ p hp => pr.tupNew (h2.append h4) s hp⟩
      · subst ex
        have e0 : l1 = [] := by cases h2; rfl
        subst e0
        exact pr.put ry s
      · subst ey
        have e0 : l2 = [] := by cases h4; rfl
        subst e0
        rw [List.append_nil] at pr
        exact pr.put rx s
    · exact pr.elim
  · exact pr.elim

theorem ok_add {K : PySem.W.Frag} : OpOk K ca (fun x y H Q => rI0 (fun i j => .int (i + j)) x y H Q ∨ ((∃ i j, x = .str i ∧ y = .str j ∧ i.length + j.length ≤ sizeLine ∧ Q (.str (i ++ j)) H) ∨ rCatA K x y H Q)) addD := by
  intro q H S x y d e W Q s rx ry pr
  cases d <;> cases e <;> first
    | exact .inl (ok_I0 (g' := fun i j => .int (i + j)) (fun _ _ _ _ => .int _) q H S x y _ _ W Q s rx ry pr)
    | exact .inr (.inl (ok_addS q H S x y _ _ W Q s rx ry pr))
    | exact .inr (.inr (ok_addT q H S x y _ _ W Q s rx ry pr))
    | exact pr.elim
theorem ev_add (ha : EV X ca a ma) (hb : EV X ca b mb) : EV X ca (.BinOp a .Add b pos) (opM addD ma mb) := ev_op (op_add.or (op_add_str.or op_catA)) ok_add ha hb
def subD : D → D → Sto → Rs D := intD0 fun i j => .int (i - j)
def fdivD : D → D → Sto → Rs D := intD CDiv fun i j => .int (i / j)
def modD : D → D → Sto → Rs D := intD (fun _ j => 0 < j) fun i j => .int (i % j)
def powD : D → D → Sto → Rs D := intD CPow fun i j => .int (i ^ j.toNat)
def mulD : D → D → Sto → Rs D := intD CMul fun i j => .int (i * j)
theorem ev_sub (ha : EV X ca a ma) (hb : EV X ca b mb) : EV X ca (.BinOp a .Sub b pos) (opM subD ma mb) := ev_op op_sub (ok_I0 fun _ _ _ _ => .int _) ha hb
theorem ev_fdiv (ha : EV X ca a ma) (hb : EV X ca b mb) : EV X ca (.BinOp a .FloorDiv b pos) (opM fdivD ma mb) := ev_op op_fdiv (ok_I fun _ _ _ _ => .int _) ha hb
theorem ev_mod (ha : EV X ca a ma) (hb : EV X ca b mb) : EV X ca (.BinOp a .Mod b pos) (opM modD ma mb) := ev_op op_mod (ok_I fun _ _ _ _ => .int _) ha hb
theorem ev_pow (ha : EV X ca a ma) (hb : EV X ca b mb) : EV X ca (.BinOp a .Pow b pos) (opM powD ma mb) := ev_op op_pow (ok_I fun _ _ _ _ => .int _) ha hb
theorem ev_mul (ha : EV X ca a ma) (hb : EV X ca b mb) : EV X ca (.BinOp a .Mult b pos) (opM mulD ma mb) := ev_op op_mul (ok_I fun _ _ _ _ => .int _) ha hb
def negD (x : D) (S : Sto) : Rs D := match x with
  | .int i => .ok (.int (-i)) S
  | _ => .bad
theorem ev_neg (ha : EV X ca a ma) : EV X ca (.UnaryOp .USub a pos) (unM negD ma) := ev_un un_neg (fun q H S x d W Q s rx pr => by
  cases d with
  | int i => rw [rx.int_of]; exact ⟨i, rfl, pr.put (.int _) s⟩
  | _ => exact pr.elim) ha
theorem sv_augI {i : Nat} {x : Str} {pos' : Pos} (hN : X.N.Nodup) (hi : X.N[i]? = some x) (hx : Loc X.env.scope x) (he : EV X ca a m)
    (hfn : X.fn x = true ∨ X.env.scope.names.lookup x = some .local := by first | exact .inl rfl | exact .inr rfl | assumption) : SV X ca (.AugAssign (.Name x pos') .Add a pos) (augM i (intD0 fun i j => .int (i + j)) m) := sv_aug hN hi hx he iop_add (ok_I0 fun _ _ _ _ => .int _) hfn
theorem sv_subI {i : Nat} {x : Str} {pos' : Pos} (hN : X.N.Nodup) (hi : X.N[i]? = some x) (hx : Loc X.env.scope x) (he : EV X ca a m)
    (hfn : X.fn x = true ∨ X.env.scope.names.lookup x = some .local := by first | exact .inl rfl | exact .inr rfl | assumption) : SV X ca (.AugAssign (.Name x pos') .Sub a pos) (augM i subD m) := sv_aug hN hi hx he iop_sub (ok_I0 fun _ _ _ _ => .int _) hfn

/-! #### comparisons -/
def ltD : D → D → Sto → Rs D := intD0 fun i j => .bl (decide (i < j))
def leD : D → D → Sto → Rs D := intD0 fun i j => .bl (decide (i ≤ j))
def gtD : D → D → Sto → Rs D := intD0 fun i j => .bl (decide (j < i))
def geD : D → D → Sto → Rs D := intD0 fun i j => .bl (decide (j ≤ i))
theorem ok_lt {K : PySem.W.Frag} : OpOk K ca (rI0 fun i j => .bl (decide (i < j))) ltD := ok_I0 fun _ _ _ _ => .bl _
theorem ok_le {K : PySem.W.Frag} : OpOk K ca (rI0 fun i j => .bl (decide (i ≤ j))) leD := ok_I0 fun _ _ _ _ => .bl _
theorem ok_gt {K : PySem.W.Frag} : OpOk K ca (rI0 fun i j => .bl (decide (j < i))) gtD := ok_I0 fun _ _ _ _ => .bl _
theorem ok_ge {K : PySem.W.Frag} : OpOk K ca (rI0 fun i j => .bl (decide (j ≤ i))) geD := ok_I0 fun _ _ _ _ => .bl _
def isND (x y : D) (S : Sto) : Rs D := match y with
  | .non => .ok (.bl (decide (x = .non))) S
  | _ => .bad
def notND (x y : D) (S : Sto) : Rs D := match y with
  | .non => .ok (.bl (!decide (x = .non))) S
  | _ => .bad
theorem Rep.non_iff {K : PySem.W.Frag} {q : List Addr} {H : Hp} {x : V} {d : D} (h : Rep K q H x d) : decide (x = .non) = decide (d = .non) := by
  cases h <;> simp
theorem ok_isN {K : PySem.W.Frag} : OpOk K ca (fun x y H Q => y = .non ∧ Q (.bl (decide (x = .non))) H) isND := by
  intro q H S x y d e W Q s rx ry pr
  cases e with
  | non => exact ⟨ry.non_of, pr.put (by rw [rx.non_iff]; exact .bl _) s⟩
  | _ => exact pr.elim
theorem ok_notN {K : PySem.W.Frag} : OpOk K ca (fun x y H Q => y = .non ∧ Q (.bl (!decide (x = .non))) H) notND := by
  intro q H S x y d e W Q s rx ry pr
  cases e with
  | non => exact ⟨ry.non_of, pr.put (by rw [rx.non_iff]; exact .bl _) s⟩
  | _ => exact pr.elim
def isBD (x y : D) (S : Sto) : Rs D := match x, y with
  | .bl a, .bl b => .ok (.bl (decide (a = b))) S
  | _, _ => .bad
def notBD (x y : D) (S : Sto) : Rs D := match x, y with
  | .bl a, .bl b => .ok (.bl (!decide (a = b))) S
  | _, _ => .bad

/-! #### == of data -/
mutual
def toP (f : Nat → Option PyData) : D → Option PyData
  | .non => some .none
  | .bl b => some (.bool b)
  | .int i => some (.int i)
  | .str x => some (.str x)
  | .tup l => (toPs f l).map .tuple
  | .fz l => (toPs f l).map .list
  | .obj n => f n
def toPs (f : Nat → Option PyData) : List D → Option (List PyData)
  | [] => some []
  | x :: r => match toP f x, toPs f r with
    | some p, some ps => some (p :: ps)
    | _, _ => none
end
def objP (S : Sto) : Nat → Nat → Option PyData
  | 0, _ => none
  | k + 1, n => match S[n]? with
    | some (.lst l) => (toPs (objP S k) l).map .list
    | _ => none
def datP (S : Sto) (d : D) : Option PyData := toP (objP S 8) d
section
variable {K : PySem.W.Frag} {q : List Addr} {H : Hp} {S : Sto}
mutual
theorem toP_ok {f : Nat → Option PyData} (hf : ∀ (n : Nat) p a, f n = some p → q[n]? = some a → Dp K H (.ref a) p) : ∀ (d : D) (v : V) (p : PyData), Rep K q H v d → toP f d = some p → Dp K H v p
  | .non, v, p, r, e => by
    rw [r.non_of]; unfold toP at e; cases e; exact .non
  | .bl b, v, p, r, e => by
    rw [r.bl_of]; unfold toP at e; cases e; exact .bl b
  | .int i, v, p, r, e => by
    rw [r.int_of]; unfold toP at e; cases e; exact .int i
  | .str x, v, p, r, e => by
    rw [r.str_of]; unfold toP at e; cases e; exact .str x
  | .tup l, v, p, r, e => by
    obtain ⟨a, xs, rfl, h1, h2⟩ := r.tup_of
    unfold toP at e
    obtain ⟨ps, e1, rfl⟩ := Option.map_eq_some_iff.mp e
    exact .tup h1 (toPs_ok hf l xs ps h2 e1)
  | .fz l, v, p, r, e => by
    obtain ⟨a, xs, rfl, h1, h2⟩ := r.fz_of
    unfold toP at e
    obtain ⟨ps, e1, rfl⟩ := Option.map_eq_some_iff.mp e
    exact .lst h1.sq (toPs_ok hf l xs ps h2 e1)
  | .obj n, v, p, r, e => by
    obtain ⟨a, rfl, h⟩ := r.obj_of
    unfold toP at e
    exact hf n p a e h
theorem toPs_ok {f : Nat → Option PyData} (hf : ∀ (n : Nat) p a, f n = some p → q[n]? = some a → Dp K H (.ref a) p) : ∀ (l : List D) (vs : List V) (ps : List PyData), Reps K q H vs l → toPs f l = some ps → DpAll K H vs ps
  | [], vs, ps, r, e => by
    rw [r.nil_of]; unfold toPs at e; cases e; exact .nil
  | d :: l, vs, ps, r, e => by
    obtain ⟨v, t, rfl, r1, r2⟩ := r.cons_of
    unfold toPs at e
    split at e
    · rename_i p1 p2 e1 e2
      cases e
      exact .cons (toP_ok hf d v p1 r1 e1) (toPs_ok hf l t p2 r2 e2)
    · cases e
end
theorem objP_ok (s : StoOk K ca q H S) : ∀ (k n : Nat) (p : PyData) (a : Addr), objP S k n = some p → q[n]? = some a → Dp K H (.ref a) p
  | 0, n, p, a, e, h => by cases e
  | k + 1, n, p, a, e, h => by
    unfold objP at e
    split at e
    · rename_i l el
      obtain ⟨ps, e1, rfl⟩ := Option.map_eq_some_iff.mp e
      obtain ⟨vs, h1, h2⟩ := lst_at s h el
      exact .lst (SqL.of h1) (toPs_ok (fun n p a => objP_ok s k n p a) l vs ps h2 e1)
    · cases e
theorem datP_ok (s : StoOk K ca q H S) {d : D} {v : V} {p : PyData} (r : Rep K q H v d) (e : datP S d = some p) : Dp K H v p := toP_ok (objP_ok s 8) d v p r e
end
def eqP (x y : D) (S : Sto) : Option Bool := match datP S x, datP S y with
  | some p, some r => if SeqAt.shaped p = true ∧ SeqAt.shaped r = true then some (PyData.eqv p r) else none
  | _, _ => none
def eqD (x y : D) (S : Sto) : Rs D := match eqP x y S with
  | some k => .ok (.bl k) S
  | none => .bad
def neD (x y : D) (S : Sto) : Rs D := match eqP x y S with
  | some k => .ok (.bl (!k)) S
  | none => .bad
theorem eqP_some {x y : D} {S : Sto} {k : Bool} (h : eqP x y S = some k) : ∃ p r, datP S x = some p ∧ datP S y = some r ∧ SeqAt.shaped p = true ∧ SeqAt.shaped r = true ∧ k = PyData.eqv p r := by
  unfold eqP at h
  split at h
  · rename_i p r e1 e2
    split at h
    · rename_i hs
      cases h
      exact ⟨p, r, e1, e2, hs.1, hs.2, rfl⟩
    · cases h
  · cases h
theorem ok_eqD {K : PySem.W.Frag} : OpOk K ca (rEqD K) eqD := by
  intro q H S x y d e W Q s rx ry pr
  unfold eqD at pr
  split at pr
  · rename_i k h
    obtain ⟨p, r, e1, e2, h1, h2, rfl⟩ := eqP_some h
    exact ⟨p, r, datP_ok s rx e1, datP_ok s ry e2, h1, h2, pr.put (.bl _) s⟩
  · exact pr.elim
theorem ok_neD {K : PySem.W.Frag} : OpOk K ca (rNeD K) neD := by
  intro q H S x y d e W Q s rx ry pr
  unfold neD at pr
  split at pr
  · rename_i k h
    obtain ⟨p, r, e1, e2, h1, h2, rfl⟩ := eqP_some h
    exact ⟨p, r, datP_ok s rx e1, datP_ok s ry e2, h1, h2, pr.put (.bl _) s⟩
  · exact pr.elim

/-! ### subscripts -/
def ixD (x y : D) (S : Sto) : Rs D := match x, y with
  | .obj n, .int i => match S[n]? with
    | some (.lst l) => match atI l i with
      | some v => .ok v S
      | none => .bad
    | _ => .bad
  | .fz l, .int i => match atI l i with
    | some v => .ok v S
    | none => .bad
  | .tup l, .int i => match atI l i with
    | some v => .ok v S
    | none => .bad
  | .str z, .int i => if z.length ≤ sizeLine then match atI z.cps.toList i with
      | some c => .ok (.str ⟨#[c]⟩) S
      | none => .bad
    else .bad
  | _, _ => .bad
theorem Reps.atI {K : PySem.W.Frag} {q : List Addr} {H : Hp} {vs : List V} {l : List D} {i : Int} {d : D} (h : Reps K q H vs l) (e : atI l i = some d) : ∃ v, L2.atI vs i = some v ∧ Rep K q H v d := by
  unfold L2.atI at e ⊢
  obtain ⟨j, h1, h2⟩ := Option.bind_eq_some_iff.mp e
  obtain ⟨v, h3, h4⟩ := h.get h2
  exact ⟨v, by rw [h.length, h1]; exact h3, h4⟩
theorem ok_ix {K : PySem.W.Frag} : OpOk K ca (rIx K) ixD := by
  intro q H S x y d e W Q s rx ry pr
  unfold ixD at pr
  split at pr
  · rename_i n i
    obtain ⟨p, rfl, hn⟩ := rx.obj_of
    split at pr
    · rename_i l el
      split at pr
      · rename_i v hv
        obtain ⟨vs, h1, h2⟩ := lst_at s hn el
        obtain ⟨w, h3, h4⟩ := h2.atI hv
        exact .inl ⟨p, vs, i, w, rfl, ry.int_of, SqL.of h1, h3, pr.put h4 s⟩
      · exact pr.elim
    · exact pr.elim
  · rename_i l i
    obtain ⟨p, xs, rfl, h1, h2⟩ := rx.fz_of
    split at pr
    · rename_i v hv
      obtain ⟨w, h3, h4⟩ := h2.atI hv
      exact .inl ⟨p, xs, i, w, rfl, ry.int_of, h1.sq, h3, pr.put h4 s⟩
    · exact pr.elim
  · rename_i l i
    obtain ⟨p, xs, rfl, h1, h2⟩ := rx.tup_of
    split at pr
    · rename_i v hv
      obtain ⟨w, h3, h4⟩ := h2.atI hv
      exact .inr (.inl ⟨p, xs, i, w, rfl, ry.int_of, h1, h3, pr.put h4 s⟩)
    · exact pr.elim
  · rename_i z i
    split at pr
    · rename_i hz
      split at pr
      · rename_i c hc
        exact .inr (.inr ⟨z, i, c, rx.str_of, ry.int_of, hz, hc, pr.put (.str _) s⟩)
      · exact pr.elim
    · exact pr.elim
  · exact pr.elim
theorem ev_at (ha : EV X ca a ma) (hb : EV X ca b mb) (hs : PlainIx b := by exact fun _ _ => rfl) : EV X ca (.Subscript a b pos) (opM ixD ma mb) := ev_ix ix_seq ok_ix ha hb hs
/-- o[i] = v, a list -/
def setD (o i v : D) (S : Sto) : Option Sto := match o, i with
  | .obj n, .int k => match S[n]? with
    | some (.lst l) => match ixN l.length k with
      | some j => some (S.set n (.lst (l.set j v)))
      | none => none
    | _ => none
  | _, _ => none
theorem ok_setL {K : PySem.W.Frag} : SetOk K ca rSetL setD := by
  intro q H S S' o i v od id d Q s ro ri rv h k
  unfold setD at h
  split at h
  · rename_i n z
    obtain ⟨p, rfl, hn⟩ := ro.obj_of
    split at h
    · rename_i l el
      split at h
      · rename_i j hj
        cases h
        obtain ⟨vs, h1, h2⟩ := lst_at s hn el
        obtain ⟨g, s'⟩ := sto_set s hn h1 (h2.set rv j)
        exact ⟨p, vs, z, j, rfl, ri.int_of, h1, by rw [h2.length]; exact hj, k _ g s'⟩
      · cases h
    · cases h
  · cases h
/-! ### slices -/
abbrev MO := Sl → Sto → Rs (Option Int)
abbrev RelO' : RelT (Option Int) (Option Int) := fun _ _ _ v d => v = d
theorem antiO {K : PySem.W.Frag} : Anti K RelO' := ⟨fun _ h => h⟩
def OV (X : Cx) (ca : Nat → Addr) (e : Option Expr) (m : MO) : Prop := ∀ W, Takes X W → PO X e (tM RelO' X.K ca W m)
theorem weakO {e : Option Expr} {t t' : TO} (h : PO X e t) (w : ∀ s H Q, t' s H Q → t s H Q) : PO X e t' := ⟨fun pins s σ H Q I q => h.run pins s σ H Q I (w _ _ _ q)⟩
def noO : MO := fun _ S => .ok none S
def someO (m : ME) : MO := fun e S => bindR (m e S) fun d S1 => match d with
  | .int i => .ok (some i) S1
  | _ => .bad
theorem ov_none : OV X ca none noO := fun W tk => weakO po_none fun s H Q ⟨q, e, S, at_, pr⟩ => pr q H none .refl rfl at_.st
theorem ov_some (ha : EV X ca a ma) : OV X ca (some a) (someO ma) := fun W tk => weakO (po_some (ha W tk)) fun s H Q ⟨q, e, S, at_, pr⟩ => ⟨q, e, S, at_, PR.bind antiO pr fun q1 H1 x d S1 g1 rx s1 pr1 => by
  cases d with
  | int i => exact ⟨i, rx.int_of, pr1 q1 H1 _ .refl rfl s1⟩
  | _ => exact pr1.elim⟩
def cutD (xs : List D) (lo hi : Option Int) : List D := (xs.drop (HT.sIx xs.length 0 lo)).take (HT.sIx xs.length xs.length hi - HT.sIx xs.length 0 lo)
theorem Reps.cut {K : PySem.W.Frag} {q : List Addr} {H : Hp} {vs : List V} {l : List D} (h : Reps K q H vs l) (lo hi : Option Int) : Reps K q H (cutV vs lo hi) (cutD l lo hi) := by
  unfold cutV cutD
  rw [h.length]
  exact (h.drop _).take _
/-- of a list: a new one -/
def slLM (m : ME) (lo hi : MO) : MA := fun e S => bindR (m e S) fun x S1 => bindR (lo e S1) fun l S2 => bindR (hi e S2) fun u S3 => match x with
  | .fz xs => .ok (cutD xs l u) S3
  | .obj n => match S3[n]? with
    | some (.lst xs) => .ok (cutD xs l u) S3
    | _ => .bad
  | _ => .bad
theorem lv_slice {lo hi : Option Expr} {ml mh : MO} {p2 : Pos} (ha : EV X ca a ma) (hl : OV X ca lo ml) (hu : OV X ca hi mh) : LV X ca (.Subscript a (.Slice lo hi none p2) pos) (slLM ma ml mh) :=
  fun W tk => weakE (pe_slice sl_list (ha W tk) (hl W tk) (hu W tk)) fun s H Q ⟨q, e, S, at_, pr⟩ => ⟨q, e, S, at_, PR.bind antiL pr fun q1 H1 x d S1 g1 rx s1 pr1 => ⟨q1, e, S1, ⟨at_.sl.grow g1, s1⟩, PR.bind antiL pr1 fun q2 H2 l l' S2 g2 el s2 pr2 =>
    ⟨q2, e, S2, ⟨(at_.sl.grow g1).grow g2, s2⟩, PR.bind antiL pr2 fun q3 H3 u u' S3 g3 eu s3 pr3 => by
      obtain rfl : l = l' := el
      obtain rfl : u = u' := eu
      have rx3 := (rx.grow g2).grow g3
      split at pr3
      · obtain ⟨p, xs, rfl, h1, h2⟩ := rx3.fz_of
        exact ⟨p, xs, rfl, h1.sq, fun a ha => pr3.lstNew (h2.cut l u) s3 ha⟩
      · rename_i n
        obtain ⟨p, rfl, hn⟩ := rx3.obj_of
        split at pr3
        · rename_i xs el
          obtain ⟨vs, h1, h2⟩ := lst_at s3 hn el
          exact ⟨p, vs, rfl, SqL.of h1, fun a ha => pr3.lstNew (h2.cut l u) s3 ha⟩
        · exact pr3.elim
      · exact pr3.elim⟩⟩⟩

/-! ### built-ins by name -/
theorem ev_b1 {x : Str} {id : String} {r : List V → Hp → VK → Prop} {f : D → Sto → Rs D} (hc : CallR X (.builtin id) r) (hf : UnOk X.K ca (fun v H Q => r [v] H Q) f) (hg : Gl X x) (hm : X.mg x = none) (hv : bootBuiltins x = some (.builtin id)) (ha : EV X ca a ma) (hn : x ≠ "__name__" := by decide) (hdb : (x == ("__debug__" : Str)) = false := by decide)
    (he : starEach [a] X.env = [(false, eval a X.env)] := by rfl) : EV X ca (.Call (.Name x p) [a] [] pos) (unM f ma) :=
  fun W tk => weakE (pe_callB hc hg hm hv (pa_cons (ha W tk) pa_nil he) hn hdb he rfl) fun s H Q ⟨q, e, S, at_, pr⟩ => ⟨q, e, S, at_, PR.bind antiD pr fun q1 H1 x d S1 g1 rx s1 pr1 => hf q1 H1 S1 x d _ Q s1 rx pr1⟩
theorem ev_t1 {x : Str} {T : String} {r : List V → Hp → VK → Prop} {f : D → Sto → Rs D} (hc : CallR X (.type T) r) (hf : UnOk X.K ca (fun v H Q => r [v] H Q) f) (hg : Gl X x) (hm : X.mg x = none) (hv : bootBuiltins x = some (.type T)) (ha : EV X ca a ma) (hn : x ≠ "__name__" := by decide) (hdb : (x == ("__debug__" : Str)) = false := by decide)
    (he : starEach [a] X.env = [(false, eval a X.env)] := by rfl) : EV X ca (.Call (.Name x p) [a] [] pos) (unM f ma) :=
  fun W tk => weakE (pe_callTy hc hg hm hv (pa_cons (ha W tk) pa_nil he) hn hdb he rfl) fun s H Q ⟨q, e, S, at_, pr⟩ => ⟨q, e, S, at_, PR.bind antiD pr fun q1 H1 x d S1 g1 rx s1 pr1 => hf q1 H1 S1 x d _ Q s1 rx pr1⟩
/-- .. of a new list that is thrown away -/
def onL (f : List D → Sto → Rs D) (m : MA) : ME := fun e S => bindR (m e S) f
def LOk (K : PySem.W.Frag) (ca : Nat → Addr) (r : List V → Hp → VK → Prop) (f : List D → Sto → Rs D) : Prop :=
  ∀ (q : List Addr) (H : Hp) (S : Sto) (p : Addr) (vs : List V) (l : List D) (W : Value → Option Addr → Hp → Prop) (Q : VK), StoOk K ca q H S → H p = some (.lst vs) → Reps K q H vs l → PR (RelD K) K ca W q H Q (f l S) → r [.ref p] H Q
theorem ev_bL {x : Str} {id : String} {r : List V → Hp → VK → Prop} {f : List D → Sto → Rs D} (hc : CallR X (.builtin id) r) (hf : LOk X.K ca r f) (hg : Gl X x) (hm : X.mg x = none) (hv : bootBuiltins x = some (.builtin id)) (ha : LV X ca a ms) (hn : x ≠ "__name__" := by decide) (hdb : (x == ("__debug__" : Str)) = false := by decide)
    (he : starEach [a] X.env = [(false, eval a X.env)] := by rfl) : EV X ca (.Call (.Name x p) [a] [] pos) (onL f ms) :=
  fun W tk => weakE (pe_callB hc hg hm hv (pa_cons (ha W tk) pa_nil he) hn hdb he rfl) fun s H Q ⟨q, e, S, at_, pr⟩ => ⟨q, e, S, at_, PR.bind antiD pr fun q1 H1 x l S1 g1 rx s1 pr1 => by
    obtain ⟨p, vs, rfl, h0, hq, hp, rs⟩ := rx
    exact hf q1 H1 S1 p vs l _ Q s1 hp rs pr1⟩
theorem ev_tL {x : Str} {T : String} {r : List V → Hp → VK → Prop} {f : List D → Sto → Rs D} (hc : CallR X (.type T) r) (hf : LOk X.K ca r f) (hg : Gl X x) (hm : X.mg x = none) (hv : bootBuiltins x = some (.type T)) (ha : LV X ca a ms) (hn : x ≠ "__name__" := by decide) (hdb : (x == ("__debug__" : Str)) = false := by decide)
    (he : starEach [a] X.env = [(false, eval a X.env)] := by rfl) : EV X ca (.Call (.Name x p) [a] [] pos) (onL f ms) :=
  fun W tk => weakE (pe_callTy hc hg hm hv (pa_cons (ha W tk) pa_nil he) hn hdb he rfl) fun s H Q ⟨q, e, S, at_, pr⟩ => ⟨q, e, S, at_, PR.bind antiD pr fun q1 H1 x l S1 g1 rx s1 pr1 => by
    obtain ⟨p, vs, rfl, h0, hq, hp, rs⟩ := rx
    exact hf q1 H1 S1 p vs l _ Q s1 hp rs pr1⟩
/-- tuple([..]) -/
def tupL (l : List D) (S : Sto) : Rs D := .ok (.tup l) S
theorem ev_tupL (hg : Gl X "tuple") (hm : X.mg "tuple" = none) (ha : LV X ca a ms) (he : starEach [a] X.env = [(false, eval a X.env)] := by rfl) : EV X ca (.Call (.Name "tuple" p) [a] [] pos) (onL tupL ms) :=
  ev_tL call_tuple_of (fun q H S p vs l W Q s hp rs pr => ⟨p, vs, rfl, .inl ⟨SqL.of hp, fun a ha => pr.tupNew rs s ha⟩⟩) hg hm PyProof.Rows.boot_tuple ha (by decide) (by decide) he
/-- tuple(x), x a list or a tuple that stands -/
def tupD (x : D) (S : Sto) : Rs D := match x with
  | .tup l => .ok (.tup l) S
  | .fz l => .ok (.tup l) S
  | .obj n => match S[n]? with
    | some (.lst l) => .ok (.tup l) S
    | _ => .bad
  | _ => .bad
theorem ev_tup1 (hg : Gl X "tuple") (hm : X.mg "tuple" = none) (ha : EV X ca a ma) (he : starEach [a] X.env = [(false, eval a X.env)] := by rfl) : EV X ca (.Call (.Name "tuple" p) [a] [] pos) (unM tupD ma) :=
  ev_t1 call_tuple_of (fun q H S x d W Q s rx pr => by
    unfold tupD at pr
    split at pr
    · obtain ⟨p, xs, rfl, h1, h2⟩ := rx.tup_of
      exact ⟨p, xs, rfl, .inr ⟨h1, pr.put rx s⟩⟩
    · obtain ⟨p, xs, rfl, h1, h2⟩ := rx.fz_of
      exact ⟨p, xs, rfl, .inl ⟨h1.sq, fun a ha => pr.tupNew h2 s ha⟩⟩
    · rename_i n
      obtain ⟨p, rfl, hn⟩ := rx.obj_of
      split at pr
      · rename_i l el
        obtain ⟨vs, h1, h2⟩ := lst_at s hn el
        exact ⟨p, vs, rfl, .inl ⟨SqL.of h1, fun a ha => pr.tupNew h2 s ha⟩⟩
      · exact pr.elim
    · exact pr.elim) hg hm PyProof.Rows.boot_tuple ha (by decide) (by decide) he
/-- list(x): a new one -/
def lstD (x : D) (S : Sto) : Rs (List D) := match x with
  | .tup l => .ok l S
  | .fz l => .ok l S
  | .obj n => match S[n]? with
    | some (.lst l) => .ok l S
    | _ => .bad
  | _ => .bad
def toA (f : D → Sto → Rs (List D)) (m : ME) : MA := fun e S => bindR (m e S) f
theorem lv_list1 (hg : Gl X "list") (hm : X.mg "list" = none) (ha : EV X ca a ma) (he : starEach [a] X.env = [(false, eval a X.env)] := by rfl) : LV X ca (.Call (.Name "list" p) [a] [] pos) (toA lstD ma) :=
  fun W tk => weakE (pe_callTy call_list_of hg hm PyProof.Rows.boot_list (pa_cons (ha W tk) pa_nil he) (by decide) (by decide) he rfl) fun s H Q ⟨q, e, S, at_, pr⟩ => ⟨q, e, S, at_, PR.bind antiL pr fun q1 H1 x d S1 g1 rx s1 pr1 => by
    unfold lstD at pr1
    split at pr1
    · obtain ⟨p, xs, rfl, h1, h2⟩ := rx.tup_of
      exact ⟨p, xs, rfl, .inr h1, fun a ha => pr1.lstNew h2 s1 ha⟩
    · obtain ⟨p, xs, rfl, h1, h2⟩ := rx.fz_of
      exact ⟨p, xs, rfl, .inl h1.sq, fun a ha => pr1.lstNew h2 s1 ha⟩
    · rename_i n
      obtain ⟨p, rfl, hn⟩ := rx.obj_of
      split at pr1
      · rename_i l el
        obtain ⟨vs, h1, h2⟩ := lst_at s1 hn el
        exact ⟨p, vs, rfl, .inl (SqL.of h1), fun a ha => pr1.lstNew h2 s1 ha⟩
      · exact pr1.elim
    · exact pr1.elim⟩
def lenD (x : D) (S : Sto) : Rs D := match x with
  | .str y => if y.length ≤ sizeLine then .ok (.int (y.length : Nat)) S else .bad
  | .tup l => .ok (.int (l.length : Nat)) S
  | .fz l => .ok (.int (l.length : Nat)) S
  | .obj n => match S[n]? with
    | some (.lst l) => .ok (.int (l.length : Nat)) S
    | _ => .bad
  | _ => .bad
theorem ev_len (hg : Gl X "len") (hm : X.mg "len" = none) (ha : EV X ca a ma) (he : starEach [a] X.env = [(false, eval a X.env)] := by rfl) : EV X ca (.Call (.Name "len" p) [a] [] pos) (unM lenD ma) :=
  ev_b1 call_len (fun q H S x d W Q s rx pr => by
    unfold lenD at pr
    split at pr
    · rename_i y
      split at pr
      · rename_i hy
        rw [rx.str_of]
        exact ⟨_, _, rfl, ⟨hy, rfl⟩, pr.put (.int _) s⟩
      · exact pr.elim
    · obtain ⟨p, xs, rfl, h1, h2⟩ := rx.tup_of
      rw [← h2.length] at pr
      exact ⟨_, _, rfl, .inr ⟨xs, h1, rfl⟩, pr.put (.int _) s⟩
    · obtain ⟨p, xs, rfl, h1, h2⟩ := rx.fz_of
      rw [← h2.length] at pr
      exact ⟨_, _, rfl, .inl ⟨xs, h1.sq, rfl⟩, pr.put (.int _) s⟩
    · rename_i n
      obtain ⟨p, rfl, hn⟩ := rx.obj_of
      split at pr
      · rename_i l el
        obtain ⟨vs, h1, h2⟩ := lst_at s hn el
        rw [← h2.length] at pr
        exact ⟨_, _, rfl, .inl ⟨vs, SqL.of h1, rfl⟩, pr.put (.int _) s⟩
      · exact pr.elim
    · exact pr.elim) hg hm PySem.boot_len ha (by decide) (by decide) he
def numD (x : D) (S : Sto) : Rs D := match x with
  | .int i => .ok (.int i) S
  | .bl k => .ok (.int (if k then 1 else 0)) S
  | _ => .bad
theorem ev_num (hg : Gl X "int") (hm : X.mg "int" = none) (ha : EV X ca a ma) (he : starEach [a] X.env = [(false, eval a X.env)] := by rfl) : EV X ca (.Call (.Name "int" p) [a] [] pos) (unM numD ma) :=
  ev_t1 call_int1 (fun q H S x d W Q s rx pr => by
    unfold numD at pr
    split at pr
    · rw [rx.int_of]
      exact .inl ⟨_, rfl, pr.put (.int _) s⟩
    · rw [rx.bl_of]
      exact .inr ⟨_, rfl, pr.put (.int _) s⟩
    · exact pr.elim) hg hm PyProof.Rows.boot_int ha (by decide) (by decide) he
/-! #### isinstance -/
def tagD (d : D) (S : Sto) : Option String := match d with
  | .non => some "NoneType"
  | .bl _ => some "bool"
  | .int _ => some "int"
  | .str _ => some "str"
  | .tup _ => some "tuple"
  | .fz _ => some "list"
  | .obj n => match S[n]? with
    | some (.lst _) => some "list"
    | some (.dct _) => some "dict"
    | _ => none
def isiD (T : String) (d : D) (S : Sto) : Rs D := match tagD d S with
  | some t => match kitB t T with
    | some b => .ok (.bl b) S
    | none => .bad
  | none => .bad
theorem tag_ty {K : PySem.W.Frag} {q : List Addr} {H : Hp} {S : Sto} {x : V} {d : D} {t : String} (s : StoOk K ca q H S) (rx : Rep K q H x d) (h : tagD d S = some t) : TyX K H x (.type t) := by
  cases d with
  | non => rw [rx.non_of]; cases h; exact .base .non
  | bl b => rw [rx.bl_of]; cases h; exact .base (.bl b)
  | int i => rw [rx.int_of]; cases h; exact .base (.int i)
  | str y => rw [rx.str_of]; cases h; exact .base (.str y)
  | tup l =>
    obtain ⟨p, xs, rfl, h1, h2⟩ := rx.tup_of
    cases h
    rcases h1 with (h1 | ⟨o, h1⟩) | ⟨o, _, _, h1, h3, _⟩
    · exact .base (.tup h1)
    · exact .fTuple h1
    · exact .kTuple h1 h3
  | fz l =>
    obtain ⟨p, xs, rfl, h1, h2⟩ := rx.fz_of
    cases h
    rcases h1 with ⟨o, h1⟩ | ⟨o, _, _, h1, h3, _⟩
    · exact .base (.frz h1)
    · exact .kList h1 h3
  | obj n =>
    obtain ⟨p, rfl, hn⟩ := rx.obj_of
    unfold tagD at h
    dsimp only at h
    split at h
    · rename_i l el
      cases h
      obtain ⟨vs, h1, h2⟩ := lst_at s hn el
      exact .base (.lst h1)
    · rename_i l el
      cases h
      obtain ⟨vs, h1, h2⟩ := dct_at s hn el
      exact .base (.dK h1)
    · cases h
theorem ev_isi {T : Str} {n : String} {pT : Pos} (hg : Gl X "isinstance") (hm : X.mg "isinstance" = none) (hgT : Gl X T) (hmT : X.mg T = none) (hv : bootBuiltins T = some (.type n)) (ha : EV X ca a ma) (hnT : T ≠ "__name__" := by decide) (hdT : (T == ("__debug__" : Str)) = false := by decide)
    (he : starEach [a, .Name T pT] X.env = [(false, eval a X.env), (false, eval (.Name T pT) X.env)] := by rfl) (he2 : starEach [.Name T pT] X.env = [(false, eval (.Name T pT) X.env)] := by rfl) :
    EV X ca (.Call (.Name "isinstance" p) [a, .Name T pT] [] pos) (unM (isiD n) ma) :=
  fun W tk => weakE (pe_callB call_isi hg hm PyProof.Rows.boot_isinstance (pa_cons (ha W tk) (pa_cons (pe_bltn (v := .ty n) hgT hmT hv rfl hnT hdT) pa_nil he2) (by rw [he, he2])) (by decide) (by decide) (by rw [he, he2]) (by rw [he2]; rfl)) fun s H Q ⟨q, e, S, at_, pr⟩ => ⟨q, e, S, at_, PR.bind antiD pr fun q1 H1 x d S1 g1 rx s1 pr1 => by
    unfold isiD at pr1
    split at pr1
    · rename_i t ht
      split at pr1
      · rename_i b hb
        exact ⟨x, .ty n, .type t, .type n, b, rfl, .ty n, tag_ty s1 rx ht, kit_ty hb, pr1.put (.bl b) s1⟩
      · exact pr1.elim
    · exact pr1.elim⟩
theorem kit_bool_bool : kitB "bool" "bool" = some true := by decide +kernel

/-! ### methods of lists -/
/-- xs.append(v) -/
def appD (o v : D) (S : Sto) : Rs D := match o with
  | .obj n => match S[n]? with
    | some (.lst l) => if l.length < sizeLine then .ok .non (S.set n (.lst (l ++ [v]))) else .bad
    | _ => .bad
  | _ => .bad
/-- o.m(v): o is looked at first -/
def metM (k : D → Sto → Bool) (f : D → D → Sto → Rs D) (o a : ME) : ME := fun e S => bindR (o e S) fun x S1 => if k x S1 = true then bindR (a e S1) fun y S2 => f x y S2 else .bad
def met0 (k : D → Sto → Bool) (f : D → Sto → Rs D) (o : ME) : ME := fun e S => bindR (o e S) fun x S1 => if k x S1 = true then f x S1 else .bad
def isLst (o : D) (S : Sto) : Bool := match o with
  | .obj n => match S[n]? with
    | some (.lst _) => true
    | _ => false
  | _ => false
theorem isLst_ok {K : PySem.W.Frag} {q : List Addr} {H : Hp} {S : Sto} {x : V} {d : D} (s : StoOk K ca q H S) (rx : Rep K q H x d) (h : isLst d S = true) : ∃ (n : Nat) (p : Addr) (vs : List V), d = .obj n ∧ x = .ref p ∧ q[n]? = some p ∧ H p = some (.lst vs) := by
  unfold isLst at h
  split at h
  · rename_i n
    obtain ⟨p, rfl, hn⟩ := rx.obj_of
    split at h
    · rename_i l el
      obtain ⟨vs, h1, h2⟩ := lst_at s hn el
      exact ⟨n, p, vs, rfl, rfl, hn, h1⟩
    · cases h
  · cases h
theorem ev_append (ho : EV X ca o mo) (ha : EV X ca a ma) (hbase : attributeBase o "append" X.env (eval o X.env) = eval o X.env := by rfl)
    (hfew : ((backTo cpos (starEach [a] X.env)).all (fun x => !x.1) && (backToKw cpos (keywordEach [] X.env)).all (fun x => x.1.isSome)
      && decide ([a].length + ([] : List Keyword).length + (if ([] : List Keyword).isEmpty then 0 else 1) < 30)) = true := by rfl)
    (hline : (apos.endLine == cpos.line) = true := by rfl) (hs : starEach [a] X.env = [(false, eval a X.env)] := by rfl) : EV X ca (.Call (.Attribute o "append" apos) [a] [] cpos) (metM isLst appD mo ma) :=
  fun W tk => weakE (pe_bm PySem.F.plainAttrs_list PySem.F.slot_list_append PySem.F.type_list_append mt_append (ho W tk) (pa_cons (ha W tk) pa_nil hs) hbase hfew hline hs rfl) fun s H Q ⟨q, e, S, at_, pr⟩ => ⟨q, e, S, at_, PR.bind antiD pr fun q1 H1 x d S1 g1 rx s1 pr1 => by
    split at pr1
    · rename_i hk
      obtain ⟨n, p, vs0, rfl, rfl, hn, hp⟩ := isLst_ok s1 rx hk
      refine ⟨.inl ⟨rfl, _, SqL.of hp⟩, q1, e, S1, ⟨at_.sl.grow g1, s1⟩, PR.bind antiD pr1 fun q2 H2 y d2 S2 g2 ry s2 pr2 => ?_⟩
      unfold appD at pr2
      dsimp only at pr2
      split at pr2
      · rename_i l el
        split at pr2
        · rename_i hz
          obtain ⟨vs, h1, h2⟩ := lst_at s2 (g2.pre _ _ hn) el
          obtain ⟨g, s'⟩ := sto_set s2 (g2.pre _ _ hn) h1 (h2.append (.cons ry .nil))
          exact ⟨p, vs, y, rfl, rfl, h1, by rw [h2.length]; exact hz, pr2 q2 _ _ g .non s'⟩
        · exact pr2.elim
      · exact pr2.elim
    · exact pr1.elim⟩
end
end L3

/-! L3E: what is walked whatever it is; slices whatever they are of; in. -/
namespace L3
open PySem PySem.Spec L2
section
variable {X : Cx} {ca : Nat → Addr} {a b c o e tg : Expr} {es : List Expr} {ma mb mc m mo : ME} {mt : MT} {ms : MA} {pos p apos cpos : Pos}
/-- a list, a tuple, a text -/
def iAny (K : PySem.W.Frag) (tl : TE) : TI := fun σ H R => tl σ H fun x H1 => (∃ a, x = .ref a ∧ (∃ xs, SqL K H1 a xs) ∧ R (Itl K a) H1) ∨ (∃ a, x = .ref a ∧ (∃ xs, SqT K H1 a xs) ∧ R (Itt K a) H1) ∨ ∃ z, x = .str z ∧ R (Its z) H1
theorem pi_any {l : Expr} {tl : TE} (hl : PE X l tl) : PI X tg l (iAny X.K tl) := by
  refine ⟨fun pins s σ H R I h => ?_⟩
  refine thn (hl.run pins s σ H _ I h) fun v s1 ⟨x, H1, I1, r1, q1⟩ => ?_
  rcases q1 with ⟨a, e, ⟨xs, hq⟩, q⟩ | ⟨a, e, ⟨xs, hq⟩, q⟩ | ⟨x, ex, q⟩
  · subst e
    cases r1
    obtain ⟨its, rv, p, hz⟩ := I1.list hq
    refine wpAny_pyIter_list p.isList ?_
    refine ⟨s1.heap.objs.size, [s1.heap.objs.size], _, _, H1, rfl, I1.kept (t' := s1.toks) fun b o e => Heap.get?_push_of_some _ e, turn_list a _, ⟨_, Heap.get?_push_size _ rfl, rfl, rfl⟩, fun b hb => ?_, q⟩
    have e : b = s1.heap.objs.size := by simpa using hb
    subst e
    exact I1.fpOk (Nat.le_refl _) (I1.hok.fresh (Nat.le_refl _))
  · subst e
    cases r1
    obtain ⟨its, rv, p, hz⟩ := I1.tuple hq
    refine wpAny_pyIter_tuple (show s1.heap.IsTuple a its.toArray from p) ?_
    refine ⟨s1.heap.objs.size, [s1.heap.objs.size], _, _, H1, rfl, I1.kept (t' := s1.toks) fun b o e => Heap.get?_push_of_some _ e, turn_tuple a _, ⟨_, Heap.get?_push_size _ rfl, rfl, rfl⟩, fun b hb => ?_, q⟩
    have e : b = s1.heap.objs.size := by simpa using hb
    subst e
    exact I1.fpOk (Nat.le_refl _) (I1.hok.fresh (Nat.le_refl _))
  · subst ex
    obtain ⟨t, rfl⟩ := r1
    cases ha : x.cps.all (· < 128)
    · exact wpAny_pyIter_wide ha (pi_one (tk := s1.toks) I1 _ (turn_str _ x t "str_iterator" (.inr rfl)) ⟨_, Heap.get?_push_size _ rfl, rfl, rfl⟩ q)
    · exact wpAny_pyIter_ascii ha (pi_one (tk := s1.toks) I1 _ (turn_str _ x t "str_ascii_iterator" (.inl rfl)) ⟨_, Heap.get?_push_size _ rfl, rfl, rfl⟩ q)
/-- the signs of a text -/
def signsD (z : Str) : List D := z.cps.toList.map fun c => D.str ⟨#[c]⟩
theorem joS {K : PySem.W.Frag} {z : Str} {r0 : List Addr} {H0 : Hp} : JOk K ca (Its z) (signsD z) fixC r0 H0 where
  go := fun i r H S x g s c q => by
    unfold signsD at q
    rw [List.getElem?_map] at q
    obtain ⟨cc, h1, h2⟩ := Option.map_eq_some_iff.mp q
    have hi : i < z.cps.size := by
      have := (List.getElem?_eq_some_iff.mp h1).1
      simpa using this
    refine ⟨hi, fun w H' y => ?_⟩
    obtain ⟨rfl, c2, h3, rfl⟩ := y
    have h4 : z.cps[i]? = some cc := by simpa using h1
    rw [h4] at h3
    cases h3
    subst h2
    exact ⟨.refl, s, .str _⟩
  stop := fun i r H S g s c q => by
    unfold signsD at q
    rw [List.length_map] at q
    show z.cps.size ≤ i
    simpa using q
def srcD (d : D) (S : Sto) : Rs (List D × (Sto → Bool)) := match d with
  | .fz l => .ok (l, fixC) S
  | .tup l => .ok (l, fixC) S
  | .str z => .ok (signsD z, fixC) S
  | .obj n => match S[n]? with
    | some (.lst l) => .ok (l, sameC n l) S
    | _ => .bad
  | _ => .bad
theorem iv_any (h : EV X ca a ma) : IV X ca tg a (itM srcD ma) :=
  fun W tk => weakI (pi_any (h W tk)) fun _ _ _ ⟨q, e, S, at_, pr⟩ => ⟨q, e, S, at_, PR.bind antiJ pr fun q1 H1 x d S1 g1 rx s1 pr1 => by
    unfold srcD at pr1
    split at pr1
    · obtain ⟨p, xs, rfl, h1, h2⟩ := rx.fz_of
      exact .inl ⟨p, rfl, ⟨xs, h1.sq⟩, pr1 q1 H1 _ .refl (joL fun r H S g s _ => ⟨xs, (g.fz _ _ h1).sq, h2.grow g⟩) s1⟩
    · obtain ⟨p, xs, rfl, h1, h2⟩ := rx.tup_of
      exact .inr (.inl ⟨p, rfl, ⟨xs, h1⟩, pr1 q1 H1 _ .refl (joT h1 h2) s1⟩)
    · exact .inr (.inr ⟨_, rx.str_of, pr1 q1 H1 _ .refl joS s1⟩)
    · rename_i n
      obtain ⟨p, rfl, hn⟩ := rx.obj_of
      split at pr1
      · rename_i l el
        obtain ⟨vs, h1, h2⟩ := lst_at s1 hn el
        refine .inl ⟨p, rfl, ⟨vs, SqL.of h1⟩, pr1 q1 H1 _ .refl (joL fun r H S g s c => ?_) s1⟩
        obtain ⟨vs', h1', h2'⟩ := lst_at s (g.pre _ _ hn) (of_decide_eq_true c)
        exact ⟨vs', SqL.of h1', h2'⟩
      · exact pr1.elim
    · exact pr1.elim⟩
/-- a slice of anything -/
def slD (x : D) (l u : Option Int) (S : Sto) : Rs D := match x with
  | .fz xs => .ok (.obj S.length) (S ++ [.lst (cutD xs l u)])
  | .tup xs => .ok (.tup (cutD xs l u)) S
  | .str z => if z.length ≤ sizeLine then .ok (.str (cutS z l u)) S else .bad
  | .obj n => match S[n]? with
    | some (.lst xs) => .ok (.obj S.length) (S ++ [.lst (cutD xs l u)])
    | _ => .bad
  | _ => .bad
def slM (m : ME) (lo hi : MO) : ME := fun e S => bindR (m e S) fun x S1 => bindR (lo e S1) fun l S2 => bindR (hi e S2) fun u S3 => slD x l u S3
theorem PR.objNew {K : PySem.W.Frag} {q : List Addr} {H : Hp} {W : Value → Option Addr → Hp → Prop} {Q : VK} {S : Sto} {l : List D} {vs : List V} {p : Addr} (pr : PR (RelD K) K ca W q H Q (.ok (.obj S.length) (S ++ [.lst l]))) (rv : Reps K q H vs l) (s : StoOk K ca q H S) (hp : H p = none) :
    Q (.ref p) (upd H p (.lst vs)) := by
  have g : Grow K q H (q ++ [p]) (upd H p (.lst vs)) := Grow.alloc hp
  refine pr _ _ _ g (.obj ?_) (s.alloc hp ⟨vs, upd_same, rv.grow g⟩)
  rw [List.getElem?_append_right (by rw [s.len]; exact Nat.le_refl _), s.len]
  simp
theorem cut_whole {xs : List D} {l u : Option Int} (h : HT.sIx xs.length 0 l = 0 ∧ HT.sIx xs.length xs.length u = xs.length) : cutD xs l u = xs := by
  unfold cutD
  rw [h.1, h.2, List.drop_zero, Nat.sub_zero, List.take_length]
theorem ev_slice {lo hi : Option Expr} {ml mh : MO} {p2 : Pos} (ha : EV X ca a ma) (hl : OV X ca lo ml) (hu : OV X ca hi mh) : EV X ca (.Subscript a (.Slice lo hi none p2) pos) (slM ma ml mh) :=
  fun W tk => weakE (pe_slice (sl_list.or (sl_tupA.or sl_str)) (ha W tk) (hl W tk) (hu W tk)) fun s H Q ⟨q, e, S, at_, pr⟩ => ⟨q, e, S, at_, PR.bind antiD pr fun q1 H1 x d S1 g1 rx s1 pr1 => ⟨q1, e, S1, ⟨at_.sl.grow g1, s1⟩, PR.bind antiD pr1 fun q2 H2 l l' S2 g2 el s2 pr2 =>
    ⟨q2, e, S2, ⟨(at_.sl.grow g1).grow g2, s2⟩, PR.bind antiD pr2 fun q3 H3 u u' S3 g3 eu s3 pr3 => by
      obtain rfl : l = l' := el
      obtain rfl : u = u' := eu
      have rx3 := (rx.grow g2).grow g3
      unfold slD at pr3
      split at pr3
      · obtain ⟨p, xs, rfl, h1, h2⟩ := rx3.fz_of
        exact .inl ⟨p, xs, rfl, h1.sq, fun a ha => pr3.objNew (h2.cut l u) s3 ha⟩
      · rename_i ds
        obtain ⟨p, xs, rfl, h1, h2⟩ := rx3.tup_of
        refine .inr (.inl ⟨p, xs, rfl, h1, fun hw => ?_, fun hw a ha => pr3.tupNew (h2.cut l u) s3 ha⟩)
        rw [h2.length] at hw
        rw [cut_whole hw] at pr3
        exact pr3.put rx3 s3
      · split at pr3
        · rename_i z hz
          exact .inr (.inr ⟨z, rx3.str_of, hz, pr3.put (.str _) s3⟩)
        · exact pr3.elim
      · rename_i n
        obtain ⟨p, rfl, hn⟩ := rx3.obj_of
        split at pr3
        · rename_i xs el
          obtain ⟨vs, h1, h2⟩ := lst_at s3 hn el
          exact .inl ⟨p, vs, rfl, SqL.of h1, fun a ha => pr3.objNew (h2.cut l u) s3 ha⟩
        · exact pr3.elim
      · exact pr3.elim⟩⟩⟩
end
end L3

/-! L3F: the law's own head: from the mirror's truth to the row. -/
namespace L3
open PySem PySem.Spec L2
/-- a list of at most 63 ints comes in, True goes out -/
def spLaw (K : PySem.W.Frag) : Sp := fun vs H Q _ => ∃ (a : Addr) (ns : List Int), vs = [.ref a] ∧ FzL K H a (ns.map V.int) ∧ ns.length ≤ 63 ∧ ∀ H', Q (.bl true) H'
theorem law_imp {P : Program} {w : World} {K : PySem.W.Frag} {mg : Str → Option Value} {base : Heap} {ca : Nat → Addr} {k : Nat} {f : Addr} {fd : FuncData} {m : List D → Sto → Rs D}
    (tr : ∀ ns : List Int, ns.length ≤ 63 → ∃ S, m [.fz (ns.map D.int)] [] = .ok (.bl true) S) (F : FnOk P w K mg base (L2.CX P w) k f fd ["script"] (spM K ca 1 m)) : FnOk P w K mg base (L2.CX P w) k f fd ["script"] (spLaw K) :=
  F.imp fun vs H Q E ⟨a, ns, e, hf, hl, hq⟩ => by
    subst e
    obtain ⟨S, hS⟩ := tr ns hl
    refine ⟨rfl, [], [], [.fz (ns.map D.int)], ⟨rfl, List.nodup_nil, fun n o h => by simp at h⟩, .cons (.fz hf .ints) .nil, ?_⟩
    rw [hS]
    intro r' H' v g rv so
    rw [rv.bl_of]
    exact hq H'
theorem walk_law {l : PySem.W.OpenLaw} {k : Nat} {q : Program} {loose : List Str} {XP : (Str → Option Value) → Heap → Prop} {YP : World → Heap → Prop} {d : DefRec} {K : Params → PySem.W.Frag} {m : List D → Sto → Rs D} (hn : l.most = some 63) (hdf : d.params.defaults = []) (hr : Room k callerA)
    (hY : ∀ (w : World) (h : Heap), YP w h → (K w.params).In h) (tr : ∀ ns : List Int, ns.length ≤ 63 → ∃ S, m [.fz (ns.map D.int)] [] = .ok (.bl true) S)
    (F : ∀ (w : World) (mg : Str → Option Value) (fa : Addr) (h : Heap), (K w.params).In h → h.Ns mainGlobals mg → mg d.name = some (.ref fa) →
      ∃ (fd : FuncData) (ca : Nat → Addr), (∀ (s : Shared) (u : Value), BindsTo s fd ⟨[u], []⟩ [("script", u)]) ∧ ∀ base : Heap, (K w.params).In base → base.Ns mainGlobals mg → FnOk l.prog w (K w.params) mg base (L2.CX l.prog w) k fa fd ["script"] (spM (K w.params) ca 1 m)) :
    PySem.W.WalkO q loose XP YP l.row.toRowW d [] (fun f vs => PySem.call f vs) :=
  L2.walk_of (n := 63) (k := k) (x := "script") (CX := fun w => L2.CX l.prog w) (sp := fun w => spLaw (K w.params)) hn (by decide) hdf hr hY
    (fun w mg fa h KX G hmg => by
      obtain ⟨fd, ca, hb, hF⟩ := F w mg fa h KX G hmg
      exact ⟨fd, hb, fun base h1 h2 => law_imp tr (hF base h1 h2)⟩)
    (fun w H a ns hl hO hS => by
      refine ⟨a, ns, rfl, ?_, hl, fun _ => rfl⟩
      rcases hS with (hS | hS) | hS
      · rcases hO a with z | ⟨o, xs, z⟩
        · rw [hS] at z; cases z
        · rw [hS] at z; cases z
      · exact .inl hS
      · exact .inr hS)
    fun w H s e s' h => by
      obtain ⟨_, _, _, _, _, _, _, _, _, _, _, _, z⟩ := h
      exact z
end L3

/-! L3G: reckoning with mirrors. -/
namespace L3
open PySem PySem.Spec L2
section
variable {S S1 S2 : Sto} {e e1 : Sl} {n m : Nat} {l : List D} {d v x y z u : D} {α β : Type}
/-! ### indices -/
theorem atI_0 {a : α} {l : List α} : atI (a :: l) 0 = some a := by
  have h := atI_nat (xs := a :: l) (j := 0) (v := a) rfl
  exact h
theorem atI_1 {a b : α} {l : List α} : atI (a :: b :: l) 1 = some b := by
  have h := atI_nat (xs := a :: b :: l) (j := 1) (v := b) rfl
  exact h
theorem atI_2 {a b c : α} {l : List α} : atI (a :: b :: c :: l) 2 = some c := by
  have h := atI_nat (xs := a :: b :: c :: l) (j := 2) (v := c) rfl
  exact h
theorem atI_3 {a b c d : α} {l : List α} : atI (a :: b :: c :: d :: l) 3 = some d := by
  have h := atI_nat (xs := a :: b :: c :: d :: l) (j := 3) (v := d) rfl
  exact h
theorem atI_4 {a b c d e : α} {l : List α} : atI (a :: b :: c :: d :: e :: l) 4 = some e := by
  have h := atI_nat (xs := a :: b :: c :: d :: e :: l) (j := 4) (v := e) rfl
  exact h
theorem atI_at {l : List α} {i : Int} (h0 : 0 ≤ i) (h1 : i < l.length) : ∃ v, atI l i = some v ∧ l[i.toNat]? = some v := by
  have h2 : i.toNat < l.length := by omega
  refine ⟨l[i.toNat], ?_, List.getElem?_eq_getElem h2⟩
  have := atI_nat (xs := l) (j := i.toNat) (v := l[i.toNat]) (List.getElem?_eq_getElem h2)
  rwa [Int.toNat_of_nonneg h0] at this
theorem atI_neg1 {l : List α} (h : l ≠ []) : atI l (-1) = some (l.getLast h) := by
  have := atI_last l.dropLast (l.getLast h)
  rwa [List.dropLast_concat_getLast] at this
theorem ixN_0 {k : Nat} : ixN (k + 1) 0 = some 0 := by
  unfold ixN
  rw [if_pos (by decide), if_pos (by omega)]
  rfl
theorem ixN_1 {k : Nat} : ixN (k + 2) 1 = some 1 := by
  unfold ixN
  rw [if_pos (by decide), if_pos (by omega)]
  rfl
theorem ixN_2 {k : Nat} : ixN (k + 3) 2 = some 2 := by
  unfold ixN
  rw [if_pos (by decide), if_pos (by omega)]
  rfl
theorem ixN_3 {k : Nat} : ixN (k + 4) 3 = some 3 := by
  unfold ixN
  rw [if_pos (by decide), if_pos (by omega)]
  rfl
theorem ixN_4 {k : Nat} : ixN (k + 5) 4 = some 4 := by
  unfold ixN
  rw [if_pos (by decide), if_pos (by omega)]
  rfl

/-! ### one step at a time: each piece as a function of what came out of the one before -/
variable {a b c : ME} {t t2 : MT} {ma mb : MS} {ms ms2 : MA} {im : IM} {f g : D → D → Sto → Rs D} {f1 : D → Sto → Rs D} {fl : List D → Sto → Rs D} {i j k : Nat} {bb : Bool} {xx : Ex} {gg : D → Sl → Option Sl} {chk : Sto → Bool} {own : List Nat}
def thenT (r : Rt) (b : MS) : Rt := match r with
  | .nx e S => b e S
  | x => x
@[simp] theorem seqM_ev {e : Sl} {S : Sto} : seqM ma mb e S = thenT (ma e S) mb := by unfold seqM thenT; cases ma e S <;> rfl
@[simp] theorem thenT_nx : thenT (.nx e S) mb = mb e S := (rfl)
@[simp] theorem thenT_rt : thenT (.rt d S) mb = .rt d S := (rfl)
@[simp] theorem thenT_bk : thenT (.bk e S) mb = .bk e S := (rfl)
@[simp] theorem thenT_ct : thenT (.ct e S) mb = .ct e S := (rfl)
@[simp] theorem thenT_rse : thenT (.rse xx e S) mb = .rse xx e S := (rfl)
@[simp] theorem nopM_ev : nopM e S = .nx e S := (rfl)
@[simp] theorem brkM_ev : brkM e S = .bk e S := (rfl)
@[simp] theorem cntM_ev : cntM e S = .ct e S := (rfl)
def setT (i : Nat) (e : Sl) (r : Rs D) : Rt := match r with
  | .ok d S => .nx (e.set i (some d)) S
  | .rse x S => .rse x e S
  | .bad => .bad
@[simp] theorem setM_ev : setM i a e S = setT i e (a e S) := by unfold setM setT bindT; cases a e S <;> rfl
@[simp] theorem setT_ok : setT i e (.ok d S) = .nx (e.set i (some d)) S := (rfl)
@[simp] theorem setT_rse : setT i e (.rse xx S) = .rse xx e S := (rfl)
def setLT (i : Nat) (e : Sl) (r : Rs (List D)) : Rt := match r with
  | .ok l S => .nx (e.set i (some (.obj S.length))) (S ++ [.lst l])
  | .rse x S => .rse x e S
  | .bad => .bad
@[simp] theorem setLM_ev : setLM i ms e S = setLT i e (ms e S) := by unfold setLM setLT bindT; cases ms e S <;> rfl
@[simp] theorem setLT_ok : setLT i e (.ok l S) = .nx (e.set i (some (.obj S.length))) (S ++ [.lst l]) := (rfl)
def dropT (e : Sl) (r : Rs D) : Rt := match r with
  | .ok _ S => .nx e S
  | .rse x S => .rse x e S
  | .bad => .bad
@[simp] theorem dropM_ev : dropM a e S = dropT e (a e S) := by unfold dropM dropT bindT; cases a e S <;> rfl
@[simp] theorem dropT_ok : dropT e (.ok d S) = .nx e S := (rfl)
@[simp] theorem dropT_rse : dropT e (.rse xx S) = .rse xx e S := (rfl)
def retT (e : Sl) (r : Rs D) : Rt := match r with
  | .ok d S => .rt d S
  | .rse x S => .rse x e S
  | .bad => .bad
@[simp] theorem retM_ev : retM a e S = retT e (a e S) := by unfold retM retT bindT; cases a e S <;> rfl
@[simp] theorem retT_ok : retT e (.ok d S) = .rt d S := (rfl)
@[simp] theorem retT_rse : retT e (.rse xx S) = .rse xx e S := (rfl)
def ifT (r : Rs Bool) (ma mb : MS) (e : Sl) : Rt := match r with
  | .ok c S => if c = true then ma e S else mb e S
  | .rse x S => .rse x e S
  | .bad => .bad
@[simp] theorem ifS_ev : ifS t ma mb e S = ifT (t e S) ma mb e := by unfold ifS ifT bindT; cases t e S <;> rfl
@[simp] theorem ifT_true : ifT (.ok true S) ma mb e = ma e S := (rfl)
@[simp] theorem ifT_false : ifT (.ok false S) ma mb e = mb e S := (rfl)
theorem ifT_ok : ifT (.ok bb S) ma mb e = if bb = true then ma e S else mb e S := (rfl)
def asgT (g : D → Sl → Option Sl) (e : Sl) (r : Rs D) : Rt := match r with
  | .ok d S => match g d e with
    | some e1 => .nx e1 S
    | none => .bad
  | .rse x S => .rse x e S
  | .bad => .bad
@[simp] theorem asgM_ev : asgM gg a e S = asgT gg e (a e S) := by unfold asgM asgT bindT; cases a e S <;> rfl
theorem asgT_ok : asgT gg e (.ok d S) = (match gg d e with
    | some e1 => .nx e1 S
    | none => .bad) := rfl
def optT (o : Option Sl) (S : Sto) : Rt := match o with
  | some e1 => .nx e1 S
  | none => .bad
@[simp] theorem asgT_ok' : asgT gg e (.ok d S) = optT (gg d e) S := (rfl)
@[simp] theorem optT_some : optT (some e1) S = .nx e1 S := (rfl)
/-! #### expressions -/
@[simp] theorem cM_ev : cM d e S = .ok d S := (rfl)
def vR (o : Option (Option D)) (S : Sto) : Rs D := match o with
  | some (some d) => .ok d S
  | _ => .bad
@[simp] theorem vM_ev : vM i e S = vR e[i]? S := (rfl)
@[simp] theorem vR_some : vR (some (some d)) S = .ok d S := (rfl)
def op1 (f : D → D → Sto → Rs D) (r : Rs D) (b : ME) (e : Sl) : Rs D := match r with
  | .ok x S1 => match b e S1 with
    | .ok y S2 => f x y S2
    | .rse x S => .rse x S
    | .bad => .bad
  | .rse x S => .rse x S
  | .bad => .bad
def op2 (f : D → D → Sto → Rs D) (x : D) (r : Rs D) : Rs D := match r with
  | .ok y S2 => f x y S2
  | .rse x S => .rse x S
  | .bad => .bad
@[simp] theorem opM_ev : opM f a b e S = op1 f (a e S) b e := by
  unfold opM op1 bindR
  cases a e S with
  | ok x S1 => dsimp only; cases b e S1 <;> rfl
  | _ => rfl
@[simp] theorem op1_ok : op1 f (.ok x S) b e = op2 f x (b e S) := by unfold op1 op2; dsimp only
@[simp] theorem op1_rse : op1 f (.rse xx S) b e = .rse xx S := (rfl)
@[simp] theorem op2_ok : op2 f x (.ok y S) = f x y S := (rfl)
@[simp] theorem op2_rse : op2 f x (.rse xx S) = .rse xx S := (rfl)
def un1 (f : D → Sto → Rs D) (r : Rs D) : Rs D := match r with
  | .ok x S1 => f x S1
  | .rse x S => .rse x S
  | .bad => .bad
@[simp] theorem unM_ev : unM f1 a e S = un1 f1 (a e S) := by unfold unM un1 bindR; cases a e S <;> rfl
@[simp] theorem un1_ok : un1 f1 (.ok x S) = f1 x S := (rfl)
@[simp] theorem un1_rse : un1 f1 (.rse xx S) = .rse xx S := (rfl)
def blR (r : Rs D) : Rs Bool := match r with
  | .ok (.bl k) S => .ok k S
  | .rse x S => .rse x S
  | _ => .bad
@[simp] theorem blT_ev : blT a e S = blR (a e S) := by
  unfold blT blR bindR
  cases a e S with
  | ok x S1 => cases x <;> rfl
  | _ => rfl
@[simp] theorem blR_ok : blR (.ok (.bl bb) S) = .ok bb S := (rfl)
@[simp] theorem blR_rse : blR (.rse xx S) = .rse xx S := (rfl)
def trR (r : Rs D) : Rs Bool := match r with
  | .ok d S => truD d S
  | .rse x S => .rse x S
  | .bad => .bad
@[simp] theorem trT_ev : trT a e S = trR (a e S) := by unfold trT trR bindR; cases a e S <;> rfl
@[simp] theorem trR_ok : trR (.ok d S) = truD d S := (rfl)
@[simp] theorem tru_bl : truD (.bl bb) S = .ok bb S := (rfl)
@[simp] theorem tru_non : truD .non S = .ok false S := (rfl)
@[simp] theorem tru_tup : truD (.tup l) S = .ok (!l.isEmpty) S := (rfl)
@[simp] theorem tru_int {i : Int} : truD (.int i) S = .ok (i != 0) S := (rfl)
theorem tru_lst (h : S[n]? = some (.lst l)) : truD (.obj n) S = .ok (!l.isEmpty) S := by unfold truD; dsimp only; rw [h]
def and1 (r : Rs Bool) (u : MT) (e : Sl) : Rs Bool := match r with
  | .ok c S => if c = true then u e S else .ok false S
  | .rse x S => .rse x S
  | .bad => .bad
@[simp] theorem andT_ev : andT t t2 e S = and1 (t e S) t2 e := by unfold andT and1 bindR; cases t e S <;> rfl
@[simp] theorem and1_true : and1 (.ok true S) t2 e = t2 e S := (rfl)
@[simp] theorem and1_false : and1 (.ok false S) t2 e = .ok false S := (rfl)
theorem and1_ok : and1 (.ok bb S) t2 e = if bb = true then t2 e S else .ok false S := (rfl)
def or1 (r : Rs Bool) (u : MT) (e : Sl) : Rs Bool := match r with
  | .ok c S => if c = true then .ok true S else u e S
  | .rse x S => .rse x S
  | .bad => .bad
@[simp] theorem orT_ev : orT t t2 e S = or1 (t e S) t2 e := by unfold orT or1 bindR; cases t e S <;> rfl
@[simp] theorem or1_true : or1 (.ok true S) t2 e = .ok true S := (rfl)
@[simp] theorem or1_false : or1 (.ok false S) t2 e = t2 e S := (rfl)
theorem or1_ok : or1 (.ok bb S) t2 e = if bb = true then .ok true S else t2 e S := (rfl)
def not1 (r : Rs Bool) : Rs Bool := match r with
  | .ok c S => .ok (!c) S
  | .rse x S => .rse x S
  | .bad => .bad
@[simp] theorem notT_ev : notT t e S = not1 (t e S) := by unfold notT not1 bindR; cases t e S <;> rfl
@[simp] theorem not1_ok : not1 (.ok bb S) = .ok (!bb) S := (rfl)
def andV (r : Rs D) (b : ME) (e : Sl) : Rs D := match r with
  | .ok (.bl true) S => b e S
  | .ok (.bl false) S => .ok (.bl false) S
  | .rse x S => .rse x S
  | _ => .bad
@[simp] theorem andM_ev : andM a b e S = andV (a e S) b e := by
  unfold andM andV bindR
  cases a e S with
  | ok x S1 =>
    cases x with
    | bl k => cases k <;> rfl
    | _ => rfl
  | _ => rfl
@[simp] theorem andV_true : andV (.ok (.bl true) S) b e = b e S := (rfl)
@[simp] theorem andV_false : andV (.ok (.bl false) S) b e = .ok (.bl false) S := (rfl)
def orV (r : Rs D) (b : ME) (e : Sl) : Rs D := match r with
  | .ok (.bl true) S => .ok (.bl true) S
  | .ok (.bl false) S => b e S
  | .rse x S => .rse x S
  | _ => .bad
@[simp] theorem orM_ev : orM a b e S = orV (a e S) b e := by
  unfold orM orV bindR
  cases a e S with
  | ok x S1 =>
    cases x with
    | bl k => cases k <;> rfl
    | _ => rfl
  | _ => rfl
@[simp] theorem orV_true : orV (.ok (.bl true) S) b e = .ok (.bl true) S := (rfl)
@[simp] theorem orV_false : orV (.ok (.bl false) S) b e = b e S := (rfl)
def if1 (r : Rs Bool) (a b : ME) (e : Sl) : Rs D := match r with
  | .ok c S => if c = true then a e S else b e S
  | .rse x S => .rse x S
  | .bad => .bad
@[simp] theorem ifM_ev : ifM t a b e S = if1 (t e S) a b e := by unfold ifM if1 bindR; cases t e S <;> rfl
@[simp] theorem if1_true : if1 (.ok true S) a b e = a e S := (rfl)
@[simp] theorem if1_false : if1 (.ok false S) a b e = b e S := (rfl)
theorem if1_ok : if1 (.ok bb S) a b e = if bb = true then a e S else b e S := (rfl)
def ch1 (f g : D → D → Sto → Rs D) (r : Rs D) (b c : ME) (e : Sl) : Rs D := match r with
  | .ok x S1 => bindR (b e S1) fun y S2 => bindR (f x y S2) fun z S3 => match z with
    | .bl true => bindR (c e S3) fun w S4 => g y w S4
    | .bl false => .ok (.bl false) S3
    | _ => .bad
  | .rse x S => .rse x S
  | .bad => .bad
def ch2 (f g : D → D → Sto → Rs D) (x : D) (r : Rs D) (c : ME) (e : Sl) : Rs D := match r with
  | .ok y S2 => bindR (f x y S2) fun z S3 => match z with
    | .bl true => bindR (c e S3) fun w S4 => g y w S4
    | .bl false => .ok (.bl false) S3
    | _ => .bad
  | .rse x S => .rse x S
  | .bad => .bad
def ch3 (g : D → D → Sto → Rs D) (y : D) (r : Rs D) (c : ME) (e : Sl) : Rs D := match r with
  | .ok (.bl true) S3 => bindR (c e S3) fun w S4 => g y w S4
  | .ok (.bl false) S3 => .ok (.bl false) S3
  | .rse x S => .rse x S
  | _ => .bad
@[simp] theorem chM_ev : chM f g a b c e S = ch1 f g (a e S) b c e := by unfold chM ch1 bindR; cases a e S <;> rfl
@[simp] theorem ch1_ok : ch1 f g (.ok x S) b c e = ch2 f g x (b e S) c e := by unfold ch1 ch2 bindR; dsimp only; cases b e S <;> rfl
@[simp] theorem ch2_ok : ch2 f g x (.ok y S) c e = ch3 g y (f x y S) c e := by
  unfold ch2 ch3 bindR
  dsimp only
  cases f x y S with
  | ok z S3 =>
    cases z with
    | bl k => cases k <;> rfl
    | _ => rfl
  | _ => rfl
@[simp] theorem ch3_true : ch3 g y (.ok (.bl true) S) c e = op2 g y (c e S) := by unfold ch3 op2 bindR; dsimp only; cases c e S <;> rfl
@[simp] theorem ch3_false : ch3 g y (.ok (.bl false) S) c e = .ok (.bl false) S := (rfl)
theorem ch3_bl : ch3 g y (.ok (.bl bb) S) c e = if bb = true then op2 g y (c e S) else .ok (.bl false) S := by cases bb <;> simp
@[simp] theorem nilA_ev : nilA e S = .ok [] S := (rfl)
def con1 (r : Rs D) (m : MA) (e : Sl) : Rs (List D) := match r with
  | .ok x S1 => match m e S1 with
    | .ok xs S2 => .ok (x :: xs) S2
    | .rse x S => .rse x S
    | .bad => .bad
  | .rse x S => .rse x S
  | .bad => .bad
def con2 (x : D) (r : Rs (List D)) : Rs (List D) := match r with
  | .ok xs S2 => .ok (x :: xs) S2
  | .rse x S => .rse x S
  | .bad => .bad
@[simp] theorem consA_ev : consA a ms e S = con1 (a e S) ms e := by
  unfold consA con1 bindR
  cases a e S with
  | ok x S1 => dsimp only; cases ms e S1 <;> rfl
  | _ => rfl
@[simp] theorem con1_ok : con1 (.ok x S) ms e = con2 x (ms e S) := by unfold con1 con2; dsimp only
@[simp] theorem con1_rse : con1 (.rse xx S) ms e = .rse xx S := (rfl)
@[simp] theorem con2_ok : con2 x (.ok l S) = .ok (x :: l) S := (rfl)
def tup1 (r : Rs (List D)) : Rs D := match r with
  | .ok l S => if l.length ≤ sizeLine then .ok (.tup l) S else .bad
  | .rse x S => .rse x S
  | .bad => .bad
@[simp] theorem tupM_ev : tupM ms e S = tup1 (ms e S) := by unfold tupM tup1 bindR; cases ms e S <;> rfl
theorem tup1_ok : tup1 (.ok l S) = if l.length ≤ sizeLine then .ok (.tup l) S else .bad := (rfl)
theorem tup1_small (h : l.length ≤ 1000) : tup1 (.ok l S) = .ok (.tup l) S := if_pos (Nat.le_trans h (by rw [sizeLine_eq]; decide))
@[simp] theorem tup1_0 : tup1 (.ok [] S) = .ok (.tup []) S := (rfl)
@[simp] theorem tup1_1 : tup1 (.ok [x] S) = .ok (.tup [x]) S := tup1_small (by simp)
@[simp] theorem tup1_2 : tup1 (.ok [x, y] S) = .ok (.tup [x, y]) S := tup1_small (by simp)
@[simp] theorem tup1_3 : tup1 (.ok [x, y, z] S) = .ok (.tup [x, y, z]) S := tup1_small (by simp)
@[simp] theorem tup1_4 : tup1 (.ok [x, y, z, u] S) = .ok (.tup [x, y, z, u]) S := tup1_small (by simp)
def sz1 (r : Rs (List D)) : Rs (List D) := match r with
  | .ok l S => if l.length ≤ sizeLine then .ok l S else .bad
  | .rse x S => .rse x S
  | .bad => .bad
@[simp] theorem szA_ev : szA ms e S = sz1 (ms e S) := by unfold szA sz1 bindR; cases ms e S <;> rfl
theorem sz1_ok : sz1 (.ok l S) = if l.length ≤ sizeLine then .ok l S else .bad := (rfl)
theorem sz1_small (h : l.length ≤ 1000) : sz1 (.ok l S) = .ok l S := if_pos (Nat.le_trans h (by rw [sizeLine_eq]; decide))
@[simp] theorem sz1_0 : sz1 (.ok [] S) = .ok [] S := (rfl)
@[simp] theorem sz1_1 : sz1 (.ok [x] S) = .ok [x] S := sz1_small (by simp)
@[simp] theorem sz1_2 : sz1 (.ok [x, y] S) = .ok [x, y] S := sz1_small (by simp)
@[simp] theorem sz1_3 : sz1 (.ok [x, y, z] S) = .ok [x, y, z] S := sz1_small (by simp)
@[simp] theorem sz1_4 : sz1 (.ok [x, y, z, u] S) = .ok [x, y, z, u] S := sz1_small (by simp)
@[simp] theorem sz1_5 : sz1 (.ok [x, y, z, u, v] S) = .ok [x, y, z, u, v] S := sz1_small (by simp)
@[simp] theorem sz1_6 {w : D} : sz1 (.ok [x, y, z, u, v, w] S) = .ok [x, y, z, u, v, w] S := sz1_small (by simp)
@[simp] theorem sz1_8 {w w2 w3 : D} : sz1 (.ok [x, y, z, u, v, w, w2, w3] S) = .ok [x, y, z, u, v, w, w2, w3] S := sz1_small (by simp)
@[simp] theorem sz1_10 {w w2 w3 w4 w5 : D} : sz1 (.ok [x, y, z, u, v, w, w2, w3, w4, w5] S) = .ok [x, y, z, u, v, w, w2, w3, w4, w5] S := sz1_small (by simp)
def new1 (r : Rs (List D)) : Rs D := match r with
  | .ok l S => .ok (.obj S.length) (S ++ [.lst l])
  | .rse x S => .rse x S
  | .bad => .bad
@[simp] theorem newM_ev : newM ms e S = new1 (ms e S) := by unfold newM new1 bindR; cases ms e S <;> rfl
@[simp] theorem new1_ok : new1 (.ok l S) = .ok (.obj S.length) (S ++ [.lst l]) := (rfl)
def onL1 (f : List D → Sto → Rs D) (r : Rs (List D)) : Rs D := match r with
  | .ok l S => f l S
  | .rse x S => .rse x S
  | .bad => .bad
@[simp] theorem onL_ev : onL fl ms e S = onL1 fl (ms e S) := by unfold onL onL1 bindR; cases ms e S <;> rfl
@[simp] theorem onL1_ok : onL1 fl (.ok l S) = fl l S := (rfl)
@[simp] theorem tupL_ev : tupL l S = .ok (.tup l) S := (rfl)
def cl1 (n : Nat) (f : List D → Sto → Rs D) (r : Rs (List D)) : Rs D := match r with
  | .ok ds S => if ds.length = n then f ds S else .bad
  | .rse x S => .rse x S
  | .bad => .bad
@[simp] theorem clM_ev : clM n fl ms e S = cl1 n fl (ms e S) := by unfold clM cl1 bindR; cases ms e S <;> rfl
@[simp] theorem cl1_rse : cl1 n fl (.rse xx S) = .rse xx S := (rfl)
theorem cl1_ok : cl1 n fl (.ok l S) = if l.length = n then fl l S else .bad := (rfl)
@[simp] theorem cl1_0 : cl1 0 fl (.ok [] S) = fl [] S := (rfl)
@[simp] theorem cl1_1 : cl1 1 fl (.ok [x] S) = fl [x] S := (rfl)
@[simp] theorem cl1_2 : cl1 2 fl (.ok [x, y] S) = fl [x, y] S := (rfl)
@[simp] theorem cl1_3 : cl1 3 fl (.ok [x, y, z] S) = fl [x, y, z] S := (rfl)
@[simp] theorem cl1_4 : cl1 4 fl (.ok [x, y, z, u] S) = fl [x, y, z, u] S := (rfl)
@[simp] theorem cl1_5 : cl1 5 fl (.ok [x, y, z, u, v] S) = fl [x, y, z, u, v] S := (rfl)
def putT (f : D → D → D → Sto → Option Sto) (e : Sl) (r : Rs D) (o i : ME) : Rt := bindT r e fun d S1 => bindT (o e S1) e fun od S2 => bindT (i e S2) e fun id S3 => match f od id d S3 with
  | some S4 => .nx e S4
  | none => .bad
def putT2 (f : D → D → D → Sto → Option Sto) (e : Sl) (d : D) (r : Rs D) (i : ME) : Rt := bindT r e fun od S2 => bindT (i e S2) e fun id S3 => match f od id d S3 with
  | some S4 => .nx e S4
  | none => .bad
def putT3 (f : D → D → D → Sto → Option Sto) (e : Sl) (d od : D) (r : Rs D) : Rt := bindT r e fun id S3 => match f od id d S3 with
  | some S4 => .nx e S4
  | none => .bad
def putT4 (e : Sl) (r : Option Sto) : Rt := match r with
  | some S4 => .nx e S4
  | none => .bad
variable {pf : D → D → D → Sto → Option Sto}
@[simp] theorem putM_ev : putM pf a b c e S = putT pf e (a e S) b c := (rfl)
@[simp] theorem putT_ok : putT pf e (.ok d S) b c = putT2 pf e d (b e S) c := (rfl)
@[simp] theorem putT2_ok : putT2 pf e d (.ok x S) c = putT3 pf e d x (c e S) := (rfl)
@[simp] theorem putT3_ok : putT3 pf e d x (.ok y S) = putT4 e (pf x y d S) := (rfl)
@[simp] theorem putT4_some : putT4 e (some S) = .nx e S := (rfl)
def augT (i : Nat) (f : D → D → Sto → Rs D) (o : Option (Option D)) (m : ME) (e : Sl) (S : Sto) : Rt := match o with
  | some (some x) => setT i e (op2 f x (m e S))
  | _ => .bad
@[simp] theorem augM_ev : augM i f a e S = augT i f e[i]? a e S := by
  unfold augM
  generalize e[i]? = o
  cases o with
  | none => rfl
  | some o =>
    cases o with
    | none => rfl
    | some x =>
      show _ = setT i e (op2 f x (a e S))
      dsimp only
      unfold bindT setT op2
      cases a e S with
      | ok y S1 => dsimp only; cases f x y S1 <;> rfl
      | _ => rfl
@[simp] theorem augT_some : augT i f (some (some x)) a e S = setT i e (op2 f x (a e S)) := (rfl)
/-! #### slices -/
@[simp] theorem noO_ev : noO e S = .ok none S := (rfl)
def some1 (r : Rs D) : Rs (Option Int) := match r with
  | .ok (.int i) S => .ok (some i) S
  | .rse x S => .rse x S
  | _ => .bad
@[simp] theorem someO_ev : someO a e S = some1 (a e S) := by
  unfold someO some1 bindR
  cases a e S with
  | ok x S1 => cases x <;> rfl
  | _ => rfl
@[simp] theorem some1_ok {i : Int} : some1 (.ok (.int i) S) = .ok (some i) S := (rfl)
variable {lo hi : MO}
def sl1 (r : Rs D) (lo hi : MO) (e : Sl) : Rs D := bindR r fun x S1 => bindR (lo e S1) fun l S2 => bindR (hi e S2) fun u S3 => slD x l u S3
def sl2 (x : D) (r : Rs (Option Int)) (hi : MO) (e : Sl) : Rs D := bindR r fun l S2 => bindR (hi e S2) fun u S3 => slD x l u S3
def sl3 (x : D) (l : Option Int) (r : Rs (Option Int)) : Rs D := bindR r fun u S3 => slD x l u S3
@[simp] theorem slM_ev : slM a lo hi e S = sl1 (a e S) lo hi e := (rfl)
@[simp] theorem sl1_ok : sl1 (.ok x S) lo hi e = sl2 x (lo e S) hi e := (rfl)
@[simp] theorem sl2_ok {o : Option Int} : sl2 x (.ok o S) hi e = sl3 x o (hi e S) := (rfl)
@[simp] theorem sl3_ok {o o2 : Option Int} : sl3 x o (.ok o2 S) = slD x o o2 S := (rfl)
/-! #### methods -/
def met1 (k : D → Sto → Bool) (f : D → D → Sto → Rs D) (r : Rs D) (a : ME) (e : Sl) : Rs D := match r with
  | .ok x S1 => if k x S1 = true then op2 f x (a e S1) else .bad
  | .rse x S => .rse x S
  | .bad => .bad
variable {kk : D → Sto → Bool}
@[simp] theorem metM_ev : metM kk f a b e S = met1 kk f (a e S) b e := by
  unfold metM met1 bindR
  cases a e S with
  | ok x S1 =>
    dsimp only
    split
    · unfold op2
      cases b e S1 <;> rfl
    · rfl
  | _ => rfl
theorem met1_ok : met1 kk f (.ok x S) b e = if kk x S = true then op2 f x (b e S) else .bad := (rfl)
theorem isLst_yes (h : S[n]? = some (.lst l)) : isLst (.obj n) S = true := by unfold isLst; dsimp only; rw [h]
theorem met1_lst (h : S[n]? = some (.lst l)) : met1 isLst f (.ok (.obj n) S) b e = op2 f (.obj n) (b e S) := by rw [met1_ok, if_pos (isLst_yes h)]
def met01 (k : D → Sto → Bool) (f : D → Sto → Rs D) (r : Rs D) : Rs D := match r with
  | .ok x S1 => if k x S1 = true then f x S1 else .bad
  | .rse x S => .rse x S
  | .bad => .bad
@[simp] theorem met0_ev : met0 kk f1 a e S = met01 kk f1 (a e S) := by unfold met0 met01 bindR; cases a e S <;> rfl
theorem met01_lst (h : S[n]? = some (.lst l)) : met01 isLst f1 (.ok (.obj n) S) = f1 (.obj n) S := by show (if _ then _ else _) = _; rw [if_pos (isLst_yes h)]
theorem app_ok (h : S[n]? = some (.lst l)) (hz : l.length ≤ 1000000) : appD (.obj n) d S = .ok .non (S.set n (.lst (l ++ [d]))) := by
  unfold appD
  dsimp only
  rw [h]
  dsimp only
  rw [if_pos (Nat.lt_of_le_of_lt hz (by rw [sizeLine_eq]; decide))]
/-! #### operations -/
variable {p q : Int}
@[simp] theorem intD0_ev {g : Int → Int → D} : intD0 g (.int p) (.int q) S = .ok (g p q) S := (rfl)
@[simp] theorem add_ii : addD (.int p) (.int q) S = .ok (.int (p + q)) S := (rfl)
@[simp] theorem sub_ii : subD (.int p) (.int q) S = .ok (.int (p - q)) S := (rfl)
@[simp] theorem neg_i : negD (.int p) S = .ok (.int (-p)) S := (rfl)
theorem mul_ii (h : (-(2 ^ 64) < p ∧ p < 2 ^ 64) ∨ (-(2 ^ 64) < q ∧ q < 2 ^ 64)) : mulD (.int p) (.int q) S = .ok (.int (p * q)) S := if_pos h
theorem mod_ii (h : 0 < q) : modD (.int p) (.int q) S = .ok (.int (p % q)) S := if_pos h
theorem fdiv_ii (h : 0 < q ∧ q < 1073741824) : fdivD (.int p) (.int q) S = .ok (.int (p / q)) S := if_pos h
theorem pow_ii (h : 0 ≤ q ∧ q ≤ 1000000 ∧ p.natAbs < 2 ^ 64) : powD (.int p) (.int q) S = .ok (.int (p ^ q.toNat)) S := if_pos h
@[simp] theorem lt_ii : ltD (.int p) (.int q) S = .ok (.bl (decide (p < q))) S := (rfl)
@[simp] theorem le_ii : leD (.int p) (.int q) S = .ok (.bl (decide (p ≤ q))) S := (rfl)
@[simp] theorem gt_ii : gtD (.int p) (.int q) S = .ok (.bl (decide (q < p))) S := (rfl)
@[simp] theorem ge_ii : geD (.int p) (.int q) S = .ok (.bl (decide (q ≤ p))) S := (rfl)
@[simp] theorem isN_ev : isND x .non S = .ok (.bl (decide (x = .non))) S := (rfl)
@[simp] theorem notN_ev : notND x .non S = .ok (.bl (!decide (x = .non))) S := (rfl)
@[simp] theorem num_i : numD (.int p) S = .ok (.int p) S := (rfl)
@[simp] theorem num_b : numD (.bl bb) S = .ok (.int (if bb then 1 else 0)) S := (rfl)
@[simp] theorem notD_b : notD (.bl bb) S = .ok (.bl (!bb)) S := (rfl)
@[simp] theorem isi_bool_bl : isiD "bool" (.bl bb) S = .ok (.bl true) S := by unfold isiD tagD; dsimp only; rw [kit_bool_bool]
@[simp] theorem len_tup : lenD (.tup l) S = .ok (.int (l.length : Nat)) S := (rfl)
@[simp] theorem len_fz : lenD (.fz l) S = .ok (.int (l.length : Nat)) S := (rfl)
theorem len_lst (h : S[n]? = some (.lst l)) : lenD (.obj n) S = .ok (.int (l.length : Nat)) S := by unfold lenD; dsimp only; rw [h]
@[simp] theorem tup_tup : tupD (.tup l) S = .ok (.tup l) S := (rfl)
theorem tup_lst (h : S[n]? = some (.lst l)) : tupD (.obj n) S = .ok (.tup l) S := by unfold tupD; dsimp only; rw [h]
theorem ix_lst {i : Int} (h : S[n]? = some (.lst l)) (hv : atI l i = some v) : ixD (.obj n) (.int i) S = .ok v S := by
  unfold ixD
  dsimp only
  rw [h]
  dsimp only
  rw [hv]
theorem ix_tup {i : Int} (hv : atI l i = some v) : ixD (.tup l) (.int i) S = .ok v S := by
  unfold ixD
  dsimp only
  rw [hv]
@[simp] theorem ix_tup0 : ixD (.tup (x :: l)) (.int 0) S = .ok x S := ix_tup atI_0
@[simp] theorem ix_tup1 : ixD (.tup (x :: y :: l)) (.int 1) S = .ok y S := ix_tup atI_1
@[simp] theorem ix_tup2 : ixD (.tup (x :: y :: z :: l)) (.int 2) S = .ok z S := ix_tup atI_2
theorem ix_lst0 (h : S[n]? = some (.lst (x :: l))) : ixD (.obj n) (.int 0) S = .ok x S := ix_lst h atI_0
theorem ix_lst1 (h : S[n]? = some (.lst (x :: y :: l))) : ixD (.obj n) (.int 1) S = .ok y S := ix_lst h atI_1
theorem ix_lst2 (h : S[n]? = some (.lst (x :: y :: z :: l))) : ixD (.obj n) (.int 2) S = .ok z S := ix_lst h atI_2
theorem ix_lst3 (h : S[n]? = some (.lst (x :: y :: z :: u :: l))) : ixD (.obj n) (.int 3) S = .ok u S := ix_lst h atI_3
theorem ix_lst4 {w : D} (h : S[n]? = some (.lst (x :: y :: z :: u :: w :: l))) : ixD (.obj n) (.int 4) S = .ok w S := ix_lst h atI_4
theorem set_lst {i : Int} {j : Nat} (h : S[n]? = some (.lst l)) (hj : ixN l.length i = some j) : setD (.obj n) (.int i) v S = some (S.set n (.lst (l.set j v))) := by
  unfold setD
  dsimp only
  rw [h]
  dsimp only
  rw [hj]
theorem set_lst1 (h : S[n]? = some (.lst (x :: y :: l))) : setD (.obj n) (.int 1) v S = some (S.set n (.lst (x :: v :: l))) := set_lst h ixN_1
theorem set_lst2 (h : S[n]? = some (.lst (x :: y :: z :: l))) : setD (.obj n) (.int 2) v S = some (S.set n (.lst (x :: y :: v :: l))) := set_lst h ixN_2
theorem set_lst3 (h : S[n]? = some (.lst (x :: y :: z :: u :: l))) : setD (.obj n) (.int 3) v S = some (S.set n (.lst (x :: y :: z :: v :: l))) := set_lst h ixN_3
theorem set_lst4 {w : D} (h : S[n]? = some (.lst (x :: y :: z :: u :: w :: l))) : setD (.obj n) (.int 4) v S = some (S.set n (.lst (x :: y :: z :: u :: v :: l))) := set_lst h ixN_4
/-! #### what is walked -/
def it1 (f : D → Sto → Rs (List D × (Sto → Bool))) (r : Rs D) : Rs (List D × (Sto → Bool)) := match r with
  | .ok d S => f d S
  | .rse x S => .rse x S
  | .bad => .bad
variable {fi : D → Sto → Rs (List D × (Sto → Bool))} {fr : List D → Sto → Rs (List D × (Sto → Bool))}
@[simp] theorem itM_ev : itM fi a e S = it1 fi (a e S) := by unfold itM it1 bindR; cases a e S <;> rfl
@[simp] theorem it1_ok : it1 fi (.ok d S) = fi d S := (rfl)
@[simp] theorem src_tup : srcD (.tup l) S = .ok (l, fixC) S := (rfl)
@[simp] theorem src_fz : srcD (.fz l) S = .ok (l, fixC) S := (rfl)
@[simp] theorem src_str {z : Str} : srcD (.str z) S = .ok (signsD z, fixC) S := (rfl)
theorem src_lst (h : S[n]? = some (.lst l)) : srcD (.obj n) S = .ok (l, sameC n l) S := by unfold srcD; dsimp only; rw [h]
@[simp] theorem fixC_ev : fixC S = true := (rfl)
theorem sameC_ev (h : S[n]? = some (.lst l)) : sameC n l S = true := decide_eq_true h
def lv1 (r : Rs (List D)) : Rs (List D × (Sto → Bool)) := match r with
  | .ok l S => .ok (l, fixC) S
  | .rse x S => .rse x S
  | .bad => .bad
@[simp] theorem lvI_ev : lvI ms e S = lv1 (ms e S) := by unfold lvI lv1 bindR; cases ms e S <;> rfl
@[simp] theorem lv1_ok : lv1 (.ok l S) = .ok (l, fixC) S := (rfl)
def rg1 (f : List D → Sto → Rs (List D × (Sto → Bool))) (r : Rs (List D)) : Rs (List D × (Sto → Bool)) := match r with
  | .ok l S => f l S
  | .rse x S => .rse x S
  | .bad => .bad
@[simp] theorem rngI_ev : rngI fr ms e S = rg1 fr (ms e S) := by unfold rngI rg1 bindR; cases ms e S <;> rfl
@[simp] theorem rg1_ok : rg1 fr (.ok l S) = fr l S := (rfl)
theorem rng1_ok (h : -(2 ^ 62) ≤ p ∧ p < 2 ^ 62) : rng1D [.int p] S = .ok (upto 0 p.toNat, fixC) S := if_pos h
theorem rng2_ok (h : -(2 ^ 62) ≤ p ∧ p < 2 ^ 62 ∧ -(2 ^ 62) ≤ q ∧ q < 2 ^ 62) : rng2D [.int p, .int q] S = .ok (upto p (q - p).toNat, fixC) S := if_pos h
theorem rng1_nat (h : n ≤ 1000000) : rng1D [.int (n : Int)] S = .ok (upto 0 n, fixC) S := by
  rw [rng1_ok ⟨by omega, by omega⟩]
  rfl
def for1 (r : Rs (List D × (Sto → Bool))) (g : D → Sl → Option Sl) (b : MS) (e : Sl) : Rt := match r with
  | .ok x S => forL x.2 g b x.1 e S
  | .rse x S => .rse x e S
  | .bad => .bad
@[simp] theorem forM_ev : forM im gg ma e S = for1 (im e S) gg ma e := by unfold forM for1 bindT; cases im e S <;> rfl
@[simp] theorem for1_ok : for1 (.ok (l, chk) S) gg ma e = forL chk gg ma l e S := (rfl)
theorem forL_nil (h : chk S = true) : forL chk gg ma [] e S = .nx e S := if_pos h
@[simp] theorem forL_nil0 : forL fixC gg ma [] e S = .nx e S := if_pos rfl
/-- what a turn gives, then the others -/
def turnT (r : Rt) (f : Sl → Sto → Rt) : Rt := match r with
  | .nx e S => f e S
  | .ct e S => f e S
  | .bk e S => .nx e S
  | .rt d S => .rt d S
  | .rse x e S => .rse x e S
  | .bad => .bad
@[simp] theorem turnT_nx {f : Sl → Sto → Rt} : turnT (.nx e S) f = f e S := (rfl)
@[simp] theorem turnT_ct {f : Sl → Sto → Rt} : turnT (.ct e S) f = f e S := (rfl)
@[simp] theorem turnT_bk {f : Sl → Sto → Rt} : turnT (.bk e S) f = .nx e S := (rfl)
@[simp] theorem turnT_rt {f : Sl → Sto → Rt} : turnT (.rt d S) f = .rt d S := (rfl)
@[simp] theorem turnT_rse {f : Sl → Sto → Rt} : turnT (.rse xx e S) f = .rse xx e S := (rfl)
theorem forL_cons {e1 : Sl} (h : chk S = true) (hg : gg x e = some e1) : forL chk gg ma (x :: l) e S = turnT (ma e1 S) (forL chk gg ma l) := by
  conv => lhs; unfold forL
  rw [if_pos h, hg]
  dsimp only
  cases ma e1 S <;> rfl
@[simp] theorem nmG_ev : nmG i d e = some (e.set i (some d)) := (rfl)
@[simp] theorem tupG_ev {gs : List D → Sl → Option Sl} : tupG n gs (.tup l) e = if l.length = n then gs l e else none := (rfl)
@[simp] theorem consG_ev {gs : List D → Sl → Option Sl} : consG gg gs (d :: l) e = (gg d e).bind fun e1 => gs l e1 := (rfl)
@[simp] theorem nilG_ev : nilG [] e = some e := (rfl)
/-! #### comprehensions -/
def cmp1 (r : Rs (List D × (Sto → Bool))) (g : D → Sl → Option Sl) (own : List Nat) (t : MT) (el : ME) (e : Sl) : Rs (List D) := match r with
  | .ok x S1 => if x.1.length ≤ sizeLine then match compL x.2 g t el x.1 (wipeD e own) S1 with
      | some (l, S2) => .ok l S2
      | none => .bad
    else .bad
  | .rse x S => .rse x S
  | .bad => .bad
@[simp] theorem compM_ev : compM im gg own t a e S = cmp1 (im e S) gg own t a e := by unfold compM cmp1 bindR; cases im e S <;> rfl
theorem cmp1_ok {l2 : List D} (hz : l.length ≤ 1000000) (h : compL chk gg t a l (wipeD e own) S = some (l2, S2)) : cmp1 (.ok (l, chk) S) gg own t a e = .ok l2 S2 := by
  show (if l.length ≤ sizeLine then _ else _) = _
  rw [if_pos (Nat.le_trans hz (by rw [sizeLine_eq]; decide)), h]
theorem compL_nil' (h : chk S = true) : compL chk gg t a [] e S = some ([], S) := if_pos h
theorem compL_yes {e1 : Sl} {l2 : List D} {S3 : Sto} (h : chk S = true) (hg : gg x e = some e1) (ht : t e1 S = .ok true S1) (he : a e1 S1 = .ok y S2) (hr : compL chk gg t a l e S2 = some (l2, S3)) : compL chk gg t a (x :: l) e S = some (y :: l2, S3) := by
  unfold compL
  rw [if_pos h, hg]
  dsimp only
  rw [ht]
  dsimp only
  rw [he]
  dsimp only
  rw [hr]
theorem compL_no {e1 : Sl} {o : Option (List D × Sto)} (h : chk S = true) (hg : gg x e = some e1) (ht : t e1 S = .ok false S1) (hr : compL chk gg t a l e S1 = o) : compL chk gg t a (x :: l) e S = o := by
  unfold compL
  rw [if_pos h, hg]
  dsimp only
  rw [ht]
  dsimp only
  exact hr
@[simp] theorem yesT_ev : yesT e S = .ok true S := (rfl)
/-- nothing is stored: filter and map -/
theorem compL_pure {P : D → Bool} {F : D → D} : ∀ (l : List D), chk S = true → (∀ x ∈ l, ∃ e1, gg x e = some e1 ∧ t e1 S = .ok (P x) S ∧ (P x = true → a e1 S = .ok (F x) S)) → compL chk gg t a l e S = some ((l.filter P).map F, S)
  | [], h, _ => compL_nil' h
  | x :: l, h, hx => by
    obtain ⟨e1, h1, h2, h3⟩ := hx x (by simp)
    have ih := compL_pure (P := P) (F := F) l h fun y hy => hx y (by simp [hy])
    cases hp : P x with
    | true =>
      rw [List.filter_cons_of_pos hp, List.map_cons]
      exact compL_yes h h1 (by rw [h2, hp]) (h3 hp) ih
    | false =>
      rw [List.filter_cons_of_neg (by rw [hp]; decide)]
      exact compL_no h h1 (by rw [h2, hp]) ih
theorem cmp1_pure {P : D → Bool} {F : D → D} (hz : l.length ≤ 1000000) (h : chk S = true) (hx : ∀ x ∈ l, ∃ e1, gg x (wipeD e own) = some e1 ∧ t e1 S = .ok (P x) S ∧ (P x = true → a e1 S = .ok (F x) S)) :
    cmp1 (.ok (l, chk) S) gg own t a e = .ok ((l.filter P).map F) S := cmp1_ok hz (compL_pure l h hx)
theorem cmp1_map {F : D → D} (hz : l.length ≤ 1000000) (h : chk S = true) (hx : ∀ x ∈ l, ∃ e1, gg x (wipeD e own) = some e1 ∧ a e1 S = .ok (F x) S) :
    cmp1 (.ok (l, chk) S) gg own yesT a e = .ok (l.map F) S := by
  have := cmp1_pure (t := yesT) (P := fun _ => true) (F := F) (own := own) (e := e) (gg := gg) (a := a) hz h fun x hm => by
    obtain ⟨e1, h1, h2⟩ := hx x hm
    exact ⟨e1, h1, rfl, fun _ => h2⟩
  rw [this, List.filter_eq_self.mpr (by simp)]
/-! #### a def -/
def fn1 (r : Rt) : Rs D := match r with
  | .nx _ S1 => .ok .non S1
  | .rt d S1 => .ok d S1
  | .rse x _ S1 => .rse x S1
  | _ => .bad
@[simp] theorem fnM_ev : fnM n ma l S = fn1 (ma (startD n l) S) := (rfl)
@[simp] theorem fn1_nx : fn1 (.nx e S) = .ok .non S := (rfl)
@[simp] theorem fn1_rt : fn1 (.rt d S) = .ok d S := (rfl)
@[simp] theorem fn1_rse : fn1 (.rse xx e S) = .rse xx S := (rfl)
/-! #### the store -/
theorem get_set (h : n < S.length) {o : O} : (S.set n o)[n]? = some o := List.getElem?_set_self h
theorem get_set' (h : n ≠ m) {o : O} : (S.set n o)[m]? = S[m]? := List.getElem?_set_ne h
theorem lt_of_get {o : O} (h : S[n]? = some o) : n < S.length := (List.getElem?_eq_some_iff.mp h).1
theorem get_app (h : n < S.length) {T : Sto} : (S ++ T)[n]? = S[n]? := List.getElem?_append_left h
theorem get_new {o : O} : (S ++ [o])[S.length]? = some o := by rw [List.getElem?_append_right (Nat.le_refl _), Nat.sub_self]; rfl
end
/-! #### == of simple things -/
theorem eqD_of {x y : D} {p r : PyData} {S : Sto} (h1 : datP S x = some p) (h2 : datP S y = some r) (h3 : SeqAt.shaped p = true) (h4 : SeqAt.shaped r = true) : eqD x y S = .ok (.bl (PyData.eqv p r)) S := by
  unfold eqD eqP
  rw [h1, h2]
  dsimp only
  rw [if_pos ⟨h3, h4⟩]
theorem neD_of {x y : D} {p r : PyData} {S : Sto} (h1 : datP S x = some p) (h2 : datP S y = some r) (h3 : SeqAt.shaped p = true) (h4 : SeqAt.shaped r = true) : neD x y S = .ok (.bl (!PyData.eqv p r)) S := by
  unfold neD eqP
  rw [h1, h2]
  dsimp only
  rw [if_pos ⟨h3, h4⟩]
theorem dat_int {i : Int} {S : Sto} : datP S (.int i) = some (.int i) := by unfold datP toP; rfl
theorem dat_bl {i : Bool} {S : Sto} : datP S (.bl i) = some (.bool i) := by unfold datP toP; rfl
theorem dat_non {S : Sto} : datP S .non = some .none := by unfold datP toP; rfl
theorem dat_str {x : Str} {S : Sto} : datP S (.str x) = some (.str x) := by unfold datP toP; rfl
theorem shp_int {i : Int} : SeqAt.shaped (.int i) = true := by simp [SeqAt.shaped, PyData.canLay0, PyData.depth]
theorem shp_bl {i : Bool} : SeqAt.shaped (.bool i) = true := by simp [SeqAt.shaped, PyData.canLay0, PyData.depth]
theorem shp_non : SeqAt.shaped .none = true := by simp [SeqAt.shaped, PyData.canLay0, PyData.depth]
theorem shp_str {x : Str} (h : PyData.strOk x = true) : SeqAt.shaped (.str x) = true := by simp [SeqAt.shaped, PyData.canLay0, PyData.depth, h]
@[simp] theorem eq_ii {i j : Int} {S : Sto} : eqD (.int i) (.int j) S = .ok (.bl (decide (i = j))) S := by
  rw [eqD_of dat_int dat_int shp_int shp_int]
  simp only [PyData.eqv]
  rfl
@[simp] theorem ne_ii {i j : Int} {S : Sto} : neD (.int i) (.int j) S = .ok (.bl (!decide (i = j))) S := by
  rw [neD_of dat_int dat_int shp_int shp_int]
  simp only [PyData.eqv]
  rfl
@[simp] theorem eq_bb {i j : Bool} {S : Sto} : eqD (.bl i) (.bl j) S = .ok (.bl (decide (i = j))) S := by
  rw [eqD_of dat_bl dat_bl shp_bl shp_bl]
  simp only [PyData.eqv]
  rfl
@[simp] theorem ne_bb {i j : Bool} {S : Sto} : neD (.bl i) (.bl j) S = .ok (.bl (!decide (i = j))) S := by
  rw [neD_of dat_bl dat_bl shp_bl shp_bl]
  simp only [PyData.eqv]
  rfl
theorem eq_ss {x y : Str} {S : Sto} (hx : PyData.strOk x = true) (hy : PyData.strOk y = true) : eqD (.str x) (.str y) S = .ok (.bl (decide (x = y))) S := by
  rw [eqD_of dat_str dat_str (shp_str hx) (shp_str hy)]
  simp only [PyData.eqv]
  rfl
theorem ne_ss {x y : Str} {S : Sto} (hx : PyData.strOk x = true) (hy : PyData.strOk y = true) : neD (.str x) (.str y) S = .ok (.bl (!decide (x = y))) S := by
  rw [neD_of dat_str dat_str (shp_str hx) (shp_str hy)]
  simp only [PyData.eqv]
  rfl
end L3

/-! L3H: the laws' source of numbers. -/
namespace L3
open PySem PySem.Spec L2
def fillB1 : MS := seqM (ifS (blT (opM ltD (opM ixD (vM 0) (cM (.int 1))) (unM lenD (opM ixD (vM 0) (cM (.int 0)))))) (seqM (setM 1 (opM ixD (opM ixD (vM 0) (cM (.int 0))) (opM ixD (vM 0) (cM (.int 1)))))
    (seqM (putM setD (opM addD (opM ixD (vM 0) (cM (.int 1))) (cM (.int 1))) (vM 0) (cM (.int 1)))
    (seqM (ifS (blT (opM ltD (vM 1) (cM (.int 0)))) (setM 1 (opM subD (opM subD (cM (.int 0)) (cM (.int 1))) (vM 1)))
    nopM)
    (ifS (blT (opM geD (vM 1) (opM powD (cM (.int 10)) (cM (.int 18))))) (retM (vM 1))
    nopM))))
    nopM) nopM
def fillB3 : MS := seqM (setM 1 (opM modD (unM numD (opM addD (opM mulD (vM 1) (cM (.int 48271))) (opM mulD (opM ixD (vM 0) (cM (.int 3))) (cM (.int 69621))))) (cM (.int 2147483647))))
    (retM (opM addD (opM fdivD (unM numD (opM addD (opM addD (opM mulD (vM 1) (vM 1)) (opM mulD (opM ixD (vM 0) (cM (.int 3))) (cM (.int 7919)))) (cM (.int 11)))) (cM (.int 64))) (cM (.int 36028797018963968))))
def fillB2 : MS := seqM (ifS (andT (trT (opM ixD (vM 0) (cM (.int 0)))) (blT (opM geD (opM ixD (vM 0) (cM (.int 1))) (unM lenD (opM ixD (vM 0) (cM (.int 0))))))) (setM 1 (opM addD (vM 1) (opM modD (unM numD (opM ixD (opM ixD (vM 0) (cM (.int 0))) (unM negD (cM (.int 1))))) (cM (.int 1000003)))))
    nopM) fillB3
def fillB : MS := seqM (putM setD (opM addD (opM ixD (vM 0) (cM (.int 3))) (cM (.int 1))) (vM 0) (cM (.int 3)))
    (seqM (setM 1 (opM addD (opM mulD (opM ixD (vM 0) (cM (.int 3))) (cM (.int 69621))) (cM (.int 12345))))
    (seqM (ifS (blT (opM ltD (opM ixD (vM 0) (cM (.int 1))) (unM lenD (opM ixD (vM 0) (cM (.int 0)))))) (seqM (setM 1 (opM ixD (opM ixD (vM 0) (cM (.int 0))) (opM ixD (vM 0) (cM (.int 1)))))
    (seqM (putM setD (opM addD (opM ixD (vM 0) (cM (.int 1))) (cM (.int 1))) (vM 0) (cM (.int 1)))
    (seqM (ifS (blT (opM ltD (vM 1) (cM (.int 0)))) (setM 1 (opM subD (opM subD (cM (.int 0)) (cM (.int 1))) (vM 1)))
    nopM)
    (ifS (blT (opM geD (vM 1) (opM powD (cM (.int 10)) (cM (.int 18))))) (retM (vM 1))
    nopM))))
    nopM) fillB2))
def takeB (f : List D → Sto → Rs D) : MS := seqM (ifS (blT (opM ltD (opM ixD (vM 0) (cM (.int 2))) (vM 1))) (putM setD (clM 1 f (consA (vM 0) nilA)) (vM 0) (cM (.int 2)))
    nopM)
    (seqM (setM 2 (opM modD (unM numD (opM ixD (vM 0) (cM (.int 2)))) (vM 1)))
    (seqM (putM setD (opM fdivD (opM ixD (vM 0) (cM (.int 2))) (vM 1)) (vM 0) (cM (.int 2)))
    (retM (vM 2))))
def startB (t : MA) : MS := retM (newM (szA (consA (newM (compM (itM srcD (slM (vM 0) noO (someO (cM (.int 63))))) (nmG 1) [1] yesT (unM numD (vM 1)))) (consA (cM (.int 0)) (consA (cM (.int 0)) (consA (cM (.int 0)) t))))))
/-- the law's source of numbers stands at n; t: what else it holds -/
structure CI (t : List D) (S : Sto) (n : Nat) : Prop where
  ex : ∃ (m : Nat) (xs : List Int) (p b k : Int), S[n]? = some (.lst (.obj m :: .int p :: .int b :: .int k :: t)) ∧ S[m]? = some (.lst (xs.map D.int)) ∧ m < n ∧ 0 ≤ p ∧ 0 ≤ b ∧ 0 ≤ k
/-- nothing but n (and its list, which stands) has changed -/
structure Kp (n : Nat) (S S' : Sto) : Prop where
  len : S'.length = S.length
  at_ : ∀ (i : Nat), i ≠ n → S'[i]? = S[i]?
theorem Kp.refl {n : Nat} {S : Sto} : Kp n S S := ⟨rfl, fun _ _ => rfl⟩
theorem Kp.trans {n : Nat} {S S1 S2 : Sto} (a : Kp n S S1) (b : Kp n S1 S2) : Kp n S S2 := ⟨b.len.trans a.len, fun i h => (b.at_ i h).trans (a.at_ i h)⟩
theorem kp_set {n : Nat} {S : Sto} {o : O} : Kp n S (S.set n o) := ⟨by simp, fun i hi => get_set' (Ne.symm hi)⟩
theorem fill3 {S : Sto} {n m : Nat} {p b k w : Int} {t : List D} (hn : S[n]? = some (.lst (.obj m :: .int p :: .int b :: .int k :: t))) (hk : 0 ≤ k) (hw : 0 ≤ w) :
    ∃ v, fn1 (fillB3 [some (.obj n), some (.int w)] S) = .ok (.int v) S ∧ 0 ≤ v := by
  simp [fillB3, ix_lst3 hn, mul_ii, mod_ii]
  have h0 : 0 ≤ (w * 48271 + k * 69621) % 2147483647 := Int.emod_nonneg _ (by decide)
  have h1 : (w * 48271 + k * 69621) % 2147483647 < 2147483647 := Int.emod_lt_of_pos _ (by decide)
  generalize (w * 48271 + k * 69621) % 2147483647 = r at h0 h1
  have h2 : 0 ≤ r * r := Int.mul_nonneg h0 h0
  have h3 : 0 ≤ (r * r + k * 7919 + 11) / 64 := Int.ediv_nonneg (by omega) (by decide)
  rw [mul_ii (.inl ⟨by omega, by omega⟩)]
  simp [ix_lst3 hn, mul_ii, fdiv_ii]
  omega
theorem fill2 {S : Sto} {n m : Nat} {xs : List Int} {p b k w : Int} {t : List D} (hn : S[n]? = some (.lst (.obj m :: .int p :: .int b :: .int k :: t))) (hm : S[m]? = some (.lst (xs.map D.int))) (hk : 0 ≤ k) (hw : 0 ≤ w) :
    ∃ v, fn1 (fillB2 [some (.obj n), some (.int w)] S) = .ok (.int v) S ∧ 0 ≤ v := by
  unfold fillB2
  simp only [seqM_ev, ifS_ev, andT_ev, trT_ev, opM_ev, vM_ev, cM_ev, List.getElem?_cons_zero, vR_some, op1_ok, op2_ok, ix_lst0 hn, trR_ok, tru_lst hm]
  by_cases hx : xs = []
  · subst hx
    simpa using fill3 hn hk hw
  · have hl : xs.map D.int ≠ [] := by simpa using hx
    simp only [show (!(xs.map D.int).isEmpty) = true by simpa using hx, and1_true, blT_ev, opM_ev, vM_ev, cM_ev, List.getElem?_cons_zero, vR_some, op1_ok, op2_ok, ix_lst1 hn, unM_ev, ix_lst0 hn, un1_ok, len_lst hm, ge_ii, blR_ok]
    by_cases hp : ((xs.map D.int).length : Int) ≤ p
    · rw [decide_eq_true hp]
      have ha := atI_neg1 hl
      rw [List.getLast_map] at ha
      simp [ix_lst0 hn, ix_lst hm ha, mod_ii]
      have h3 : 0 ≤ xs.getLast hx % 1000003 := Int.emod_nonneg _ (by decide)
      simpa using fill3 hn hk (Int.add_nonneg hw h3)
    · rw [decide_eq_false hp]
      simpa using fill3 hn hk hw
theorem fill_spec {S : Sto} {n : Nat} {t : List D} (h : CI t S n) : ∃ v S', fnM 2 fillB [.obj n] S = .ok (.int v) S' ∧ 0 ≤ v ∧ CI t S' n ∧ Kp n S S' := by
  obtain ⟨m, xs, p, b, k, hn, hm, hmn, hp, hb, hk⟩ := h
  have hne : m ≠ n := Nat.ne_of_lt hmn
  have hlt : n < S.length := lt_of_get hn
  have q1 : ∀ o, (S.set n o)[n]? = some o := fun o => get_set hlt
  have q2 : ∀ o, (S.set n o)[m]? = some (.lst (xs.map D.int)) := fun o => (get_set' (Ne.symm hne)).trans hm
  unfold fillB
  simp only [fnM_ev, startD, List.map_cons, List.map_nil, List.length_cons, List.length_nil, List.replicate, List.cons_append, List.nil_append]
  simp only [seqM_ev, putM_ev, putT_ok, putT2_ok, putT3_ok, putT4_some, setM_ev, setT_ok, thenT_nx, opM_ev, vM_ev, cM_ev, List.getElem?_cons_zero, vR_some, op1_ok, op2_ok, ix_lst3 hn, add_ii, set_lst3 hn, ix_lst3 (q1 _), mul_ii (.inr ⟨show -(2 ^ 64 : Int) < 69621 by decide, by decide⟩), List.set_cons_succ, List.set_cons_zero, ifS_ev, blT_ev, unM_ev, ix_lst1 (q1 _), ix_lst0 (q1 _), un1_ok, len_lst (q2 _), lt_ii, blR_ok]
  by_cases hl : p < ((xs.map D.int).length : Int)
  · rw [decide_eq_true hl]
    obtain ⟨v0, h1, h2⟩ := atI_at (l := xs.map D.int) hp hl
    rw [List.getElem?_map] at h2
    obtain ⟨z, hz, rfl⟩ := Option.map_eq_some_iff.mp h2
    simp only [ifT_true, seqM_ev, setM_ev, opM_ev, vM_ev, cM_ev, List.getElem?_cons_zero, vR_some, op1_ok, op2_ok, ix_lst0 (q1 _), ix_lst1 (q1 _), ix_lst (q2 _) h1, setT_ok, thenT_nx, List.set_cons_succ, List.set_cons_zero, putM_ev, putT_ok, putT2_ok, putT3_ok, add_ii, set_lst1 (q1 _), putT4_some, List.set_set,
      ifS_ev, blT_ev, List.getElem?_cons_succ, lt_ii, blR_ok]
    have done : ∀ w : Int, 0 ≤ w → ∃ v S', fn1 (thenT ((ifS (blT (opM geD (vM 1) (opM powD (cM (.int 10)) (cM (.int 18))))) (retM (vM 1)) nopM) [some (.obj n), some (.int w)] (S.set n (.lst (.obj m :: .int (p + 1) :: .int b :: .int (k + 1) :: t)))) fillB2) = .ok (.int v) S' ∧ 0 ≤ v ∧ CI t S' n ∧ Kp n S S' := fun w hw => by
      have ci : CI t (S.set n (.lst (.obj m :: .int (p + 1) :: .int b :: .int (k + 1) :: t))) n := ⟨m, xs, p + 1, b, k + 1, q1 _, q2 _, hmn, by omega, hb, by omega⟩
      simp only [ifS_ev, blT_ev, opM_ev, vM_ev, cM_ev, List.getElem?_cons_succ, List.getElem?_cons_zero, vR_some, op1_ok, op2_ok, pow_ii (show (0 : Int) ≤ 18 ∧ (18 : Int) ≤ 1000000 ∧ (10 : Int).natAbs < 2 ^ 64 by decide), ge_ii, blR_ok]
      by_cases hg : (10 : Int) ^ (18 : Int).toNat ≤ w
      · rw [decide_eq_true hg]
        exact ⟨w, _, rfl, hw, ci, kp_set⟩
      · rw [decide_eq_false hg]
        obtain ⟨v, h3, h4⟩ := fill2 (q1 (.lst (.obj m :: .int (p + 1) :: .int b :: .int (k + 1) :: t))) (q2 _) (by omega) hw
        exact ⟨v, _, h3, h4, ci, kp_set⟩
    by_cases hz0 : z < 0
    · rw [decide_eq_true hz0]
      simp only [ifT_true, setM_ev, opM_ev, cM_ev, vM_ev, op1_ok, op2_ok, sub_ii, List.getElem?_cons_succ, List.getElem?_cons_zero, vR_some, setT_ok, thenT_nx, List.set_cons_succ, List.set_cons_zero]
      exact done (0 - 1 - z) (by omega)
    · rw [decide_eq_false hz0]
      simp only [ifT_false, nopM_ev, thenT_nx]
      exact done z (by omega)
  · rw [decide_eq_false hl]
    simp only [ifT_false, nopM_ev, thenT_nx]
    obtain ⟨v, h3, h4⟩ := fill2 (q1 (.lst (.obj m :: .int p :: .int b :: .int (k + 1) :: t))) (q2 _) (by omega) (show 0 ≤ (k + 1) * 69621 + 12345 by omega)
    exact ⟨v, _, h3, h4, ⟨m, xs, p, b, k + 1, q1 _, q2 _, hmn, hp, hb, by omega⟩, kp_set⟩
/-- a draw -/
theorem take_spec {f : List D → Sto → Rs D} {t : List D} (hf : ∀ (S : Sto) (n : Nat), CI t S n → ∃ v S', f [.obj n] S = .ok (.int v) S' ∧ 0 ≤ v ∧ CI t S' n ∧ Kp n S S') {S : Sto} {n : Nat} {many : Int} (h : CI t S n) (h0 : 0 < many) (h1 : many < 1073741824) :
    ∃ d S', fnM 3 (takeB f) [.obj n, .int many] S = .ok (.int d) S' ∧ 0 ≤ d ∧ d < many ∧ CI t S' n ∧ Kp n S S' := by
  -- what stands behind the filling
  have fin : ∀ S, CI t S n → ∃ d S', fn1 ((seqM (setM 2 (opM modD (unM numD (opM ixD (vM 0) (cM (.int 2)))) (vM 1))) (seqM (putM setD (opM fdivD (opM ixD (vM 0) (cM (.int 2))) (vM 1)) (vM 0) (cM (.int 2))) (retM (vM 2)))) [some (.obj n), some (.int many), none] S) = .ok (.int d) S' ∧ 0 ≤ d ∧ d < many ∧ CI t S' n ∧ Kp n S S' := fun S h => by
    obtain ⟨m, xs, p, b, k, hn, hm, hmn, hp, hb, hk⟩ := h
    have hne : m ≠ n := Nat.ne_of_lt hmn
    have hlt : n < S.length := lt_of_get hn
    refine ⟨b % many, S.set n (.lst (.obj m :: .int p :: .int (b / many) :: .int k :: t)), ?_, Int.emod_nonneg _ (by omega), Int.emod_lt_of_pos _ h0, ⟨m, xs, p, b / many, k, get_set hlt, (get_set' (Ne.symm hne)).trans hm, hmn, hp, Int.ediv_nonneg hb (by omega), hk⟩, kp_set⟩
    simp [ix_lst2 hn, mod_ii h0, fdiv_ii ⟨h0, h1⟩, set_lst2 hn]
  unfold takeB
  simp only [fnM_ev, startD, List.map_cons, List.map_nil, List.length_cons, List.length_nil, List.replicate, List.cons_append, List.nil_append]
  obtain ⟨m, xs, p, b, k, hn, hm, hmn, hp, hb, hk⟩ := id h
  have hne : m ≠ n := Nat.ne_of_lt hmn
  have e : ∀ (x y : MS), seqM x y = fun e S => thenT (x e S) y := fun x y => by funext e S; simp
  rw [e]
  simp only [ifS_ev, blT_ev, opM_ev, vM_ev, cM_ev, List.getElem?_cons_zero, List.getElem?_cons_succ, vR_some, op1_ok, op2_ok, ix_lst2 hn, lt_ii, blR_ok]
  by_cases hb2 : b < many
  · obtain ⟨v, S1, e1, hv, c1, k1⟩ := hf S n h
    obtain ⟨m1, xs1, p1, b1, k1', hn1, hm1, hmn1, hp1, hb1, hk1⟩ := id c1
    have hne1 : m1 ≠ n := Nat.ne_of_lt hmn1
    have hlt : n < S1.length := lt_of_get hn1
    rw [decide_eq_true hb2]
    simp only [ifT_true, putM_ev, clM_ev, consA_ev, vM_ev, List.getElem?_cons_zero, vR_some, con1_ok, nilA_ev, con2_ok, cl1_1, e1, putT_ok, putT2_ok, cM_ev, putT3_ok, set_lst2 hn1, putT4_some, thenT_nx]
    obtain ⟨d, S2, e2, h2, h3, c2, k2⟩ := fin (S1.set n (.lst (.obj m1 :: .int p1 :: .int v :: .int k1' :: t))) ⟨m1, xs1, p1, v, k1', get_set hlt, (get_set' (Ne.symm hne1)).trans hm1, hmn1, hp1, hv, hk1⟩
    exact ⟨d, S2, e2, h2, h3, c2, (k1.trans kp_set).trans k2⟩
  · rw [decide_eq_false hb2]
    simp only [ifT_false, nopM_ev, thenT_nx]
    exact fin S h
/-- the start -/
theorem cut63 (ns : List Int) : cutD (ns.map D.int) none (some 63) = (ns.take 63).map D.int := by
  unfold cutD
  rw [HT.sIx_none, show HT.sIx (ns.map D.int).length (ns.map D.int).length (some 63) = min 63 (ns.map D.int).length from HT.sIx_nat _ _ 63]
  simp [List.map_take]
theorem start_spec {t : MA} {tl : List D} {ns : List Int} {S : Sto} (ht : ∀ e S, t e S = .ok tl S) (hl : tl.length ≤ 10) : ∃ S' n, fnM 2 (startB t) [.fz (ns.map D.int)] S = .ok (.obj n) S' ∧ CI tl S' n ∧ n = S.length + 2 ∧ S'.length = S.length + 3 := by
  have h1 : cmp1 (.ok (((ns.take 63).map D.int), sameC S.length ((ns.take 63).map D.int)) (S ++ [.lst ((ns.take 63).map D.int)])) (nmG 1) [1] yesT (unM numD (vM 1)) [some (.fz (ns.map D.int)), none] = .ok ((((ns.take 63).map D.int)).map id) (S ++ [.lst ((ns.take 63).map D.int)]) := by
    refine cmp1_map (by simp; omega) (sameC_ev get_new) fun x hx => ⟨_, rfl, ?_⟩
    obtain ⟨i, _, rfl⟩ := List.mem_map.mp hx
    simp [wipeD]
  rw [List.map_id] at h1
  have h2 : fnM 2 (startB t) [.fz (ns.map D.int)] S = .ok (.obj (S.length + 2)) (S ++ [.lst ((ns.take 63).map D.int)] ++ [.lst ((ns.take 63).map D.int)] ++ [.lst (.obj (S.length + 1) :: .int 0 :: .int 0 :: .int 0 :: tl)]) := by
    simp only [startB, fnM_ev, startD, List.map_cons, List.map_nil, List.length_cons, List.length_nil, List.replicate, List.cons_append, List.nil_append, retM_ev, newM_ev, szA_ev, consA_ev, compM_ev, itM_ev, slM_ev, vM_ev, List.getElem?_cons_zero, vR_some, sl1_ok, noO_ev, sl2_ok, someO_ev, cM_ev, some1_ok, sl3_ok, slD, cut63, it1_ok, src_lst get_new, h1, new1_ok, con1_ok, ht, con2_ok]
    rw [sz1_small (by simp; omega)]
    simp
  refine ⟨_, _, h2, ⟨S.length + 1, ns.take 63, 0, 0, 0, ?_, ?_, by omega, Int.le_refl _, Int.le_refl _, Int.le_refl _⟩, rfl, by simp⟩
  · rw [List.getElem?_append_right (by simp)]
    simp
  · rw [List.getElem?_append_left (by simp), List.getElem?_append_right (by simp)]
    simp
theorem CI.keep {t : List D} {S S' : Sto} {n : Nat} (h : CI t S n) (k : ∀ (i : Nat), i ≤ n → S'[i]? = S[i]?) : CI t S' n := by
  obtain ⟨m, xs, p, b, c, hn, hm, hmn, r⟩ := h
  exact ⟨m, xs, p, b, c, (k n (Nat.le_refl _)).trans hn, (k m (Nat.le_of_lt hmn)).trans hm, hmn, r⟩
theorem CI.lt {t : List D} {S : Sto} {n : Nat} (h : CI t S n) : n < S.length := by
  obtain ⟨m, xs, p, b, c, hn, _⟩ := h
  exact lt_of_get hn
/-- what stood stands, but for n -/
structure Kx (n : Nat) (S S' : Sto) : Prop where
  le : S.length ≤ S'.length
  at_ : ∀ (i : Nat), i < S.length → i ≠ n → S'[i]? = S[i]?
theorem Kx.refl {n : Nat} {S : Sto} : Kx n S S := ⟨Nat.le_refl _, fun _ _ _ => rfl⟩
theorem Kx.trans {n : Nat} {S S1 S2 : Sto} (a : Kx n S S1) (b : Kx n S1 S2) : Kx n S S2 := ⟨Nat.le_trans a.le b.le, fun i h ne => (b.at_ i (Nat.lt_of_lt_of_le h a.le) ne).trans (a.at_ i h ne)⟩
theorem Kp.x {n : Nat} {S S' : Sto} (h : Kp n S S') : Kx n S S' := ⟨Nat.le_of_eq h.len.symm, fun i _ ne => h.at_ i ne⟩
theorem Kx.app {n : Nat} {S T : Sto} : Kx n S (S ++ T) := ⟨by simp, fun i h _ => get_app h⟩
theorem Kx.get {n i : Nat} {S S' : Sto} {o : O} (h : Kx n S S') (e : S[i]? = some o) (ne : i ≠ n) : S'[i]? = some o := (h.at_ i (lt_of_get e) ne).trans e
end L3

namespace B
open PySem PySem.Spec L2 L3
inductive Fn where
  | next_state
  | keeps
  | law_start
  | law_fill
  | law_take
  | law_monitor
  | law
noncomputable def b_next_state (cf cg : Fn → List D → Sto → Rs D) : MS := (seqM (forM (itM srcD (vM 0)) (tupG 2 (consG (nmG 3) (consG (nmG 4) nilG)))
    (ifS (blT (opM eqD (vM 3) (vM 2))) (retM (vM 4))
    nopM))
    (retM (vM 1)))
noncomputable def b_keeps (cf cg : Fn → List D → Sto → Rs D) : MS := (seqM (setM 2 (cM (.int 0)))
    (seqM (forM (itM srcD (vM 1)) (nmG 3)
    (seqM (setM 2 (clM 3 (cf .next_state) (consA (opM ixD (opM ixD (vM 0) (cM (.int 1))) (vM 2)) (consA (vM 2) (consA (vM 3) nilA)))))
    (ifS (blT (opM isND (vM 2) (cM .non))) (retM (cM (.bl false)))
    nopM)))
    (retM (cM (.bl true)))))
noncomputable def b_law_start (cf cg : Fn → List D → Sto → Rs D) : MS := (retM (newM (szA (consA (newM (compM (itM srcD (slM (vM 0) noO (someO (cM (.int 63))))) (nmG 1) [1] yesT (unM numD (vM 1)))) (consA (cM (.int 0)) (consA (cM (.int 0)) (consA (cM (.int 0)) (consA (cM (.int 20)) nilA))))))))
noncomputable def b_law_fill (cf cg : Fn → List D → Sto → Rs D) : MS := (seqM (putM setD (opM addD (opM ixD (vM 0) (cM (.int 3))) (cM (.int 1))) (vM 0) (cM (.int 3)))
    (seqM (setM 1 (opM addD (opM mulD (opM ixD (vM 0) (cM (.int 3))) (cM (.int 69621))) (cM (.int 12345))))
    (seqM (ifS (blT (opM ltD (opM ixD (vM 0) (cM (.int 1))) (unM lenD (opM ixD (vM 0) (cM (.int 0)))))) (seqM (setM 1 (opM ixD (opM ixD (vM 0) (cM (.int 0))) (opM ixD (vM 0) (cM (.int 1)))))
    (seqM (putM setD (opM addD (opM ixD (vM 0) (cM (.int 1))) (cM (.int 1))) (vM 0) (cM (.int 1)))
    (seqM (ifS (blT (opM ltD (vM 1) (cM (.int 0)))) (setM 1 (opM subD (opM subD (cM (.int 0)) (cM (.int 1))) (vM 1)))
    nopM)
    (ifS (blT (opM geD (vM 1) (opM powD (cM (.int 10)) (cM (.int 18))))) (retM (vM 1))
    nopM))))
    nopM)
    (seqM (ifS (andT (trT (opM ixD (vM 0) (cM (.int 0)))) (blT (opM geD (opM ixD (vM 0) (cM (.int 1))) (unM lenD (opM ixD (vM 0) (cM (.int 0))))))) (setM 1 (opM addD (vM 1) (opM modD (unM numD (opM ixD (opM ixD (vM 0) (cM (.int 0))) (unM negD (cM (.int 1))))) (cM (.int 1000003)))))
    nopM)
    (seqM (setM 1 (opM modD (unM numD (opM addD (opM mulD (vM 1) (cM (.int 48271))) (opM mulD (opM ixD (vM 0) (cM (.int 3))) (cM (.int 69621))))) (cM (.int 2147483647))))
    (retM (opM addD (opM fdivD (unM numD (opM addD (opM addD (opM mulD (vM 1) (vM 1)) (opM mulD (opM ixD (vM 0) (cM (.int 3))) (cM (.int 7919)))) (cM (.int 11)))) (cM (.int 64))) (cM (.int 36028797018963968)))))))))
noncomputable def b_law_take (cf cg : Fn → List D → Sto → Rs D) : MS := (seqM (ifS (blT (opM ltD (opM ixD (vM 0) (cM (.int 2))) (vM 1))) (putM setD (clM 1 (cf .law_fill) (consA (vM 0) nilA)) (vM 0) (cM (.int 2)))
    nopM)
    (seqM (setM 2 (opM modD (unM numD (opM ixD (vM 0) (cM (.int 2)))) (vM 1)))
    (seqM (putM setD (opM fdivD (opM ixD (vM 0) (cM (.int 2))) (vM 1)) (vM 0) (cM (.int 2)))
    (retM (vM 2)))))
noncomputable def b_law_monitor (cf cg : Fn → List D → Sto → Rs D) : MS := (seqM (setM 1 (opM addD (cM (.int 1)) (clM 2 (cf .law_take) (consA (vM 0) (consA (cM (.int 5)) nilA)))))
    (seqM (setM 2 (newM (szA nilA)))
    (seqM (forM (rngI rng1D (consA (vM 1) nilA)) (nmG 3)
    (seqM (setM 4 (newM (szA nilA)))
    (seqM (forM (lvI (szA (consA (cM (.str "a")) (consA (cM (.str "b")) (consA (cM (.str "c")) (consA (cM (.str "d")) nilA)))))) (nmG 5)
    (ifS (blT (opM neD (clM 2 (cf .law_take) (consA (vM 0) (consA (cM (.int 3)) nilA))) (cM (.int 0)))) (dropM (metM isLst appD (vM 4) (tupM (consA (vM 5) (consA (opM ixD (newM (szA (consA (cM .non) (consA (clM 2 (cf .law_take) (consA (vM 0) (consA (vM 1) nilA))) (consA (clM 2 (cf .law_take) (consA (vM 0) (consA (vM 1) nilA))) (consA (vM 3) nilA)))))) (clM 2 (cf .law_take) (consA (vM 0) (consA (cM (.int 4)) nilA)))) nilA)))))
    nopM))
    (dropM (metM isLst appD (vM 2) (unM tupD (vM 4)))))))
    (retM (tupM (consA (vM 1) (consA (unM tupD (vM 2)) nilA)))))))
noncomputable def b_law (cf cg : Fn → List D → Sto → Rs D) : MS := (seqM (setM 1 (clM 1 (cf .law_start) (consA (vM 0) nilA)))
    (seqM (setM 2 (clM 1 (cf .law_monitor) (consA (vM 1) nilA)))
    (seqM (setM 3 (onL tupL (compM (rngI rng1D (consA (clM 2 (cf .law_take) (consA (vM 1) (consA (cM (.int 13)) nilA))) nilA)) (nmG 8) [8] yesT (opM ixD (cM (.str "abcde")) (clM 2 (cf .law_take) (consA (vM 1) (consA (cM (.int 5)) nilA)))))))
    (seqM (setM 4 (cM (.int 0)))
    (seqM (forM (itM srcD (vM 3)) (nmG 5)
    (ifS (blT (opM notND (vM 4) (cM .non))) (seqM (setLM 6 (compM (itM srcD (opM ixD (opM ixD (vM 2) (cM (.int 1))) (vM 4))) (tupG 2 (consG (nmG 9) (consG (nmG 10) nilG))) [9, 10] (blT (opM eqD (vM 9) (vM 5))) (vM 10)))
    (ifS (trT (vM 6)) (setM 4 (opM ixD (vM 6) (cM (.int 0))))
    nopM))
    nopM))
    (seqM (setM 7 (clM 2 (cf .keeps) (consA (vM 2) (consA (vM 3) nilA))))
    (retM (andM (unM (isiD "bool") (vM 7)) (opM eqD (vM 7) (opM notND (vM 4) (cM .non)))))))))))
noncomputable def bodyOf (cf cg : Fn → List D → Sto → Rs D) : Fn → List D → Sto → Rs D
  | .next_state => fnM 5 (b_next_state cf cg)
  | .keeps => fnM 4 (b_keeps cf cg)
  | .law_start => fnM 2 (b_law_start cf cg)
  | .law_fill => fnM 2 (b_law_fill cf cg)
  | .law_take => fnM 3 (b_law_take cf cg)
  | .law_monitor => fnM 6 (b_law_monitor cf cg)
  | .law => fnM 11 (b_law cf cg)
noncomputable def mf2 : Nat → (Fn → List D → Sto → Rs D) × (Fn → List D → Sto → Rs D)
  | 0 => (fun _ _ _ => .bad, fun _ _ _ => .bad)
  | k + 1 => (bodyOf (mf2 k).1 (mf2 k).2, (mf2 k).1)
noncomputable abbrev mf (k : Nat) : Fn → List D → Sto → Rs D := (mf2 k).1
def arity : Fn → Nat
  | .next_state => 3
  | .keeps => 2
  | .law_start => 1
  | .law_fill => 1
  | .law_take => 2
  | .law_monitor => 1
  | .law => 1
def topS (i : Nat) : Stmt := PySem.Challenge.pw_burgeon_k23_monitors.main.body.getD i (.Pass ⟨0, 0, 0, 0⟩)
abbrev s_next_state : Stmt := topS 1
abbrev s_keeps : Stmt := topS 2
abbrev s_law_start : Stmt := topS 4
abbrev s_law_fill : Stmt := topS 5
abbrev s_law_take : Stmt := topS 6
abbrev s_law_monitor : Stmt := topS 7
abbrev s_law : Stmt := topS 8
theorem sc_next_state : FnScope ["row", "state", "event", "name", "other"] ["row", "state", "event"] (defScope s_next_state) := ⟨rfl, rfl, rfl, by decide +kernel, rfl, by decide +kernel, by decide +kernel⟩
theorem sc_keeps : FnScope ["monitor", "events", "state", "event"] ["monitor", "events"] (defScope s_keeps) := ⟨rfl, rfl, rfl, by decide +kernel, rfl, by decide +kernel, by decide +kernel⟩
theorem sc_law_start : FnScope ["script", "cell"] ["script"] (defScope s_law_start) := ⟨rfl, rfl, rfl, by decide +kernel, rfl, by decide +kernel, by decide +kernel⟩
theorem sc_law_fill : FnScope ["c", "number"] ["c"] (defScope s_law_fill) := ⟨rfl, rfl, rfl, by decide +kernel, rfl, by decide +kernel, by decide +kernel⟩
theorem sc_law_take : FnScope ["c", "many", "digit"] ["c", "many"] (defScope s_law_take) := ⟨rfl, rfl, rfl, by decide +kernel, rfl, by decide +kernel, by decide +kernel⟩
theorem sc_law_monitor : FnScope ["c", "states", "table", "q", "row", "event"] ["c"] (defScope s_law_monitor) := ⟨rfl, rfl, rfl, by decide +kernel, rfl, by decide +kernel, by decide +kernel⟩
theorem sc_law : FnScope ["script", "c", "monitor", "events", "state", "event", "found", "told", "k", "name", "other"] ["script"] (defScope s_law) := ⟨rfl, rfl, rfl, by decide +kernel, rfl, by decide +kernel, by decide +kernel⟩
def psOf : Fn → List Str
  | .next_state => ["row", "state", "event"]
  | .keeps => ["monitor", "events"]
  | .law_start => ["script"]
  | .law_fill => ["c"]
  | .law_take => ["c", "many"]
  | .law_monitor => ["c"]
  | .law => ["script"]
structure Txt (K : PySem.W.Frag) (mg : Str → Option Value) (fa : Fn → Addr) (fdt : Fn → FuncData) (ca : Nat → Addr) : Prop where
  f_next_state : Fun K "next_state" "next_state" s_next_state (fa .next_state) (fdt .next_state)
  b_next_state : Binds K (fdt .next_state) ["row", "state", "event"] []
  g_next_state : mg "next_state" = some (.ref (fa .next_state))
  f_keeps : Fun K "keeps" "keeps" s_keeps (fa .keeps) (fdt .keeps)
  b_keeps : Binds K (fdt .keeps) ["monitor", "events"] []
  g_keeps : mg "keeps" = some (.ref (fa .keeps))
  f_law_start : Fun K "_law_start" "_law_start" s_law_start (fa .law_start) (fdt .law_start)
  b_law_start : Binds K (fdt .law_start) ["script"] []
  g_law_start : mg "_law_start" = some (.ref (fa .law_start))
  f_law_fill : Fun K "_law_fill" "_law_fill" s_law_fill (fa .law_fill) (fdt .law_fill)
  b_law_fill : Binds K (fdt .law_fill) ["c"] []
  g_law_fill : mg "_law_fill" = some (.ref (fa .law_fill))
  f_law_take : Fun K "_law_take" "_law_take" s_law_take (fa .law_take) (fdt .law_take)
  b_law_take : Binds K (fdt .law_take) ["c", "many"] []
  g_law_take : mg "_law_take" = some (.ref (fa .law_take))
  f_law_monitor : Fun K "_law_monitor" "_law_monitor" s_law_monitor (fa .law_monitor) (fdt .law_monitor)
  b_law_monitor : Binds K (fdt .law_monitor) ["c"] []
  g_law_monitor : mg "_law_monitor" = some (.ref (fa .law_monitor))
  f_law : Fun K "law" "law" s_law (fa .law) (fdt .law)
  b_law : Binds K (fdt .law) ["script"] []
  g_law : mg "law" = some (.ref (fa .law))
  n_bool : mg "bool" = none
  n_int : mg "int" = none
  n_isinstance : mg "isinstance" = none
  n_len : mg "len" = none
  n_range : mg "range" = none
  n_tuple : mg "tuple" = none
section
variable {P : Program} {w : World} {K : PySem.W.Frag} {mg : Str → Option Value} {base : Heap} {fa : Fn → Addr} {fdt : Fn → FuncData} {ca : Nat → Addr} {k : Nat} {cf cg : Fn → List D → Sto → Rs D}
theorem ok_next_state (T : Txt K mg fa fdt ca) (ih : ∀ g, FnOk P w K mg base (L2.CX P w) (k + 1) (fa g) (fdt g) (psOf g) (spM K ca (arity g) (cf g))) (ih2 : ∀ g, FnOk P w K mg base (L2.CX P w) k (fa g) (fdt g) (psOf g) (spM K ca (arity g) (cg g))) : FnOk P w K mg base (L2.CX P w) (k + 2) (fa .next_state) (fdt .next_state) (psOf .next_state) (spM K ca 3 (fnM 5 (b_next_state cf cg))) :=
  def_ok T.f_next_state sc_next_state rfl fun cdv A outer s H E hr =>
    (bv_cons (sv_for (passes_of rfl) rfl (iv_any (ev_v 0)) (gv_tup rfl (gvs_cons (gv_name sc_next_state.nd rfl (by first | exact Or.inl rfl | exact Or.inr rfl)) (gvs_cons (gv_name sc_next_state.nd rfl (by first | exact Or.inl rfl | exact Or.inr rfl)) gvs_nil)))
      (bv_one (sv_if (tv_cmp (op_eqD hr.units) ok_eqD (ev_v 3) (ev_v 2) (nomark _)) (bv_one (sv_ret (ev_v 4)))
      bv_nil)))
      (bv_one (sv_ret (ev_v 1))))
theorem ok_keeps (T : Txt K mg fa fdt ca) (ih : ∀ g, FnOk P w K mg base (L2.CX P w) (k + 1) (fa g) (fdt g) (psOf g) (spM K ca (arity g) (cf g))) (ih2 : ∀ g, FnOk P w K mg base (L2.CX P w) k (fa g) (fdt g) (psOf g) (spM K ca (arity g) (cg g))) : FnOk P w K mg base (L2.CX P w) (k + 2) (fa .keeps) (fdt .keeps) (psOf .keeps) (spM K ca 2 (fnM 4 (b_keeps cf cg))) :=
  def_ok T.f_keeps sc_keeps rfl fun cdv A outer s H E hr =>
    (bv_cons (sv_set (i := 2) sc_keeps.nd rfl (by first | exact Or.inl rfl | exact Or.inr rfl) ev_int)
      (bv_cons (sv_for (passes_of rfl) rfl (iv_any (ev_v 1)) (gv_name sc_keeps.nd rfl (by first | exact Or.inl rfl | exact Or.inr rfl))
      (bv_cons (sv_set (i := 2) sc_keeps.nd rfl (by first | exact Or.inl rfl | exact Or.inr rfl) (ev_call (ih .next_state) hr (by rfl) T.g_next_state T.f_next_state.kp T.b_next_state (av_cons (ev_at (ev_at (ev_v 0) ev_int) (ev_v 2)) (av_cons (ev_v 2) (av_cons (ev_v 3) av_nil)))))
      (bv_one (sv_if (tv_cmp op_isN ok_isN (ev_v 2) ev_non (nomark _)) (bv_one (sv_ret ev_bl))
      bv_nil))))
      (bv_one (sv_ret ev_bl))))
theorem ok_law_start (T : Txt K mg fa fdt ca) (ih : ∀ g, FnOk P w K mg base (L2.CX P w) (k + 1) (fa g) (fdt g) (psOf g) (spM K ca (arity g) (cf g))) (ih2 : ∀ g, FnOk P w K mg base (L2.CX P w) k (fa g) (fdt g) (psOf g) (spM K ca (arity g) (cg g))) : FnOk P w K mg base (L2.CX P w) (k + 2) (fa .law_start) (fdt .law_start) (psOf .law_start) (spM K ca 1 (fnM 2 (b_law_start cf cg))) :=
  def_ok T.f_law_start sc_law_start rfl fun cdv A outer s H E hr =>
    (bv_one (sv_ret (ev_new (lv_lst (av_cons (ev_new (lv_comp rfl sc_law_start.nd (iv_any (ev_slice (ev_v 0) ov_none (ov_some ev_int))) (blkOk_by (N := ["script", "cell"]) (sc := defScope s_law_start) (own := [("cell", 1)]) (by decide +kernel)) (fun _ _ _ _ _ => (gv_name sc_law_start.nd rfl (by first | exact Or.inl rfl | exact Or.inr rfl))) (fun _ _ _ _ _ => tsv_nil) (fun _ _ _ _ _ => (ev_num (by rfl) T.n_int (ev_v 1))))) (av_cons ev_int (av_cons ev_int (av_cons ev_int (av_cons ev_int av_nil)))))))))
theorem ok_law_fill (T : Txt K mg fa fdt ca) (ih : ∀ g, FnOk P w K mg base (L2.CX P w) (k + 1) (fa g) (fdt g) (psOf g) (spM K ca (arity g) (cf g))) (ih2 : ∀ g, FnOk P w K mg base (L2.CX P w) k (fa g) (fdt g) (psOf g) (spM K ca (arity g) (cg g))) : FnOk P w K mg base (L2.CX P w) (k + 2) (fa .law_fill) (fdt .law_fill) (psOf .law_fill) (spM K ca 1 (fnM 2 (b_law_fill cf cg))) :=
  def_ok T.f_law_fill sc_law_fill rfl fun cdv A outer s H E hr =>
    (bv_cons (sv_put (ev_add (ev_at (ev_v 0) ev_int) ev_int) (ev_v 0) ev_int set_list ok_setL)
      (bv_cons (sv_set (i := 1) sc_law_fill.nd rfl (by first | exact Or.inl rfl | exact Or.inr rfl) (ev_add (ev_mul (ev_at (ev_v 0) ev_int) ev_int) ev_int))
      (bv_cons (sv_if (tv_cmp op_lt ok_lt (ev_at (ev_v 0) ev_int) (ev_len (by rfl) T.n_len (ev_at (ev_v 0) ev_int)) (nomark _)) (bv_cons (sv_set (i := 1) sc_law_fill.nd rfl (by first | exact Or.inl rfl | exact Or.inr rfl) (ev_at (ev_at (ev_v 0) ev_int) (ev_at (ev_v 0) ev_int)))
      (bv_cons (sv_put (ev_add (ev_at (ev_v 0) ev_int) ev_int) (ev_v 0) ev_int set_list ok_setL)
      (bv_cons (sv_if (tv_cmp op_lt ok_lt (ev_v 1) ev_int (nomark _)) (bv_one (sv_set (i := 1) sc_law_fill.nd rfl (by first | exact Or.inl rfl | exact Or.inr rfl) (ev_sub (ev_sub ev_int ev_int) (ev_v 1))))
      bv_nil)
      (bv_one (sv_if (tv_cmp op_ge ok_ge (ev_v 1) (ev_pow ev_int ev_int) (nomark _)) (bv_one (sv_ret (ev_v 1)))
      bv_nil)))))
      bv_nil)
      (bv_cons (sv_if (tv_w (wv_and (tv_tr (ev_at (ev_v 0) ev_int)) (wv_and1 (tv_cmp op_ge ok_ge (ev_at (ev_v 0) ev_int) (ev_len (by rfl) T.n_len (ev_at (ev_v 0) ev_int)) (nomark _))))) (bv_one (sv_set (i := 1) sc_law_fill.nd rfl (by first | exact Or.inl rfl | exact Or.inr rfl) (ev_add (ev_v 1) (ev_mod (ev_num (by rfl) T.n_int (ev_at (ev_at (ev_v 0) ev_int) (ev_neg ev_int))) ev_int))))
      bv_nil)
      (bv_cons (sv_set (i := 1) sc_law_fill.nd rfl (by first | exact Or.inl rfl | exact Or.inr rfl) (ev_mod (ev_num (by rfl) T.n_int (ev_add (ev_mul (ev_v 1) ev_int) (ev_mul (ev_at (ev_v 0) ev_int) ev_int))) ev_int))
      (bv_one (sv_ret (ev_add (ev_fdiv (ev_num (by rfl) T.n_int (ev_add (ev_add (ev_mul (ev_v 1) (ev_v 1)) (ev_mul (ev_at (ev_v 0) ev_int) ev_int)) ev_int)) ev_int) ev_int))))))))
theorem ok_law_take (T : Txt K mg fa fdt ca) (ih : ∀ g, FnOk P w K mg base (L2.CX P w) (k + 1) (fa g) (fdt g) (psOf g) (spM K ca (arity g) (cf g))) (ih2 : ∀ g, FnOk P w K mg base (L2.CX P w) k (fa g) (fdt g) (psOf g) (spM K ca (arity g) (cg g))) : FnOk P w K mg base (L2.CX P w) (k + 2) (fa .law_take) (fdt .law_take) (psOf .law_take) (spM K ca 2 (fnM 3 (b_law_take cf cg))) :=
  def_ok T.f_law_take sc_law_take rfl fun cdv A outer s H E hr =>
    (bv_cons (sv_if (tv_cmp op_lt ok_lt (ev_at (ev_v 0) ev_int) (ev_v 1) (nomark _)) (bv_one (sv_put (ev_call (ih .law_fill) hr (by rfl) T.g_law_fill T.f_law_fill.kp T.b_law_fill (av_cons (ev_v 0) av_nil)) (ev_v 0) ev_int set_list ok_setL))
      bv_nil)
      (bv_cons (sv_set (i := 2) sc_law_take.nd rfl (by first | exact Or.inl rfl | exact Or.inr rfl) (ev_mod (ev_num (by rfl) T.n_int (ev_at (ev_v 0) ev_int)) (ev_v 1)))
      (bv_cons (sv_put (ev_fdiv (ev_at (ev_v 0) ev_int) (ev_v 1)) (ev_v 0) ev_int set_list ok_setL)
      (bv_one (sv_ret (ev_v 2))))))
theorem ok_law_monitor (T : Txt K mg fa fdt ca) (ih : ∀ g, FnOk P w K mg base (L2.CX P w) (k + 1) (fa g) (fdt g) (psOf g) (spM K ca (arity g) (cf g))) (ih2 : ∀ g, FnOk P w K mg base (L2.CX P w) k (fa g) (fdt g) (psOf g) (spM K ca (arity g) (cg g))) : FnOk P w K mg base (L2.CX P w) (k + 2) (fa .law_monitor) (fdt .law_monitor) (psOf .law_monitor) (spM K ca 1 (fnM 6 (b_law_monitor cf cg))) :=
  def_ok T.f_law_monitor sc_law_monitor rfl fun cdv A outer s H E hr =>
    (bv_cons (sv_set (i := 1) sc_law_monitor.nd rfl (by first | exact Or.inl rfl | exact Or.inr rfl) (ev_add ev_int (ev_call (ih .law_take) hr (by rfl) T.g_law_take T.f_law_take.kp T.b_law_take (av_cons (ev_v 0) (av_cons ev_int av_nil)))))
      (bv_cons (sv_set (i := 2) sc_law_monitor.nd rfl (by first | exact Or.inl rfl | exact Or.inr rfl) (ev_new (lv_lst av_nil)))
      (bv_cons (sv_for (passes_of rfl) rfl (iv_rng1 (by rfl) T.n_range (av_cons (ev_v 1) av_nil)) (gv_name sc_law_monitor.nd rfl (by first | exact Or.inl rfl | exact Or.inr rfl))
      (bv_cons (sv_set (i := 4) sc_law_monitor.nd rfl (by first | exact Or.inl rfl | exact Or.inr rfl) (ev_new (lv_lst av_nil)))
      (bv_cons (sv_for (passes_of rfl) rfl (iv_lv (lv_lst (av_cons ev_str (av_cons ev_str (av_cons ev_str (av_cons ev_str av_nil)))))) (gv_name sc_law_monitor.nd rfl (by first | exact Or.inl rfl | exact Or.inr rfl))
      (bv_one (sv_if (tv_cmp (op_neD hr.units) ok_neD (ev_call (ih .law_take) hr (by rfl) T.g_law_take T.f_law_take.kp T.b_law_take (av_cons (ev_v 0) (av_cons ev_int av_nil))) ev_int (nomark _)) (bv_one (sv_expr (ev_append (ev_v 4) (ev_tup (av_cons (ev_v 5) (av_cons (ev_at (ev_new (lv_lst (av_cons ev_non (av_cons (ev_call (ih .law_take) hr (by rfl) T.g_law_take T.f_law_take.kp T.b_law_take (av_cons (ev_v 0) (av_cons (ev_v 1) av_nil))) (av_cons (ev_call (ih .law_take) hr (by rfl) T.g_law_take T.f_law_take.kp T.b_law_take (av_cons (ev_v 0) (av_cons (ev_v 1) av_nil))) (av_cons (ev_v 3) av_nil)))))) (ev_call (ih .law_take) hr (by rfl) T.g_law_take T.f_law_take.kp T.b_law_take (av_cons (ev_v 0) (av_cons ev_int av_nil)))) av_nil))))))
      bv_nil)))
      (bv_one (sv_expr (ev_append (ev_v 2) (ev_tup1 (by rfl) T.n_tuple (ev_v 4))))))))
      (bv_one (sv_ret (ev_tup (av_cons (ev_v 1) (av_cons (ev_tup1 (by rfl) T.n_tuple (ev_v 2)) av_nil))))))))
theorem ok_law (T : Txt K mg fa fdt ca) (ih : ∀ g, FnOk P w K mg base (L2.CX P w) (k + 1) (fa g) (fdt g) (psOf g) (spM K ca (arity g) (cf g))) (ih2 : ∀ g, FnOk P w K mg base (L2.CX P w) k (fa g) (fdt g) (psOf g) (spM K ca (arity g) (cg g))) : FnOk P w K mg base (L2.CX P w) (k + 2) (fa .law) (fdt .law) (psOf .law) (spM K ca 1 (fnM 11 (b_law cf cg))) :=
  def_ok T.f_law sc_law rfl fun cdv A outer s H E hr =>
    (bv_cons (sv_set (i := 1) sc_law.nd rfl (by first | exact Or.inl rfl | exact Or.inr rfl) (ev_call (ih .law_start) hr (by rfl) T.g_law_start T.f_law_start.kp T.b_law_start (av_cons (ev_v 0) av_nil)))
      (bv_cons (sv_set (i := 2) sc_law.nd rfl (by first | exact Or.inl rfl | exact Or.inr rfl) (ev_call (ih .law_monitor) hr (by rfl) T.g_law_monitor T.f_law_monitor.kp T.b_law_monitor (av_cons (ev_v 1) av_nil)))
      (bv_cons (sv_set (i := 3) sc_law.nd rfl (by first | exact Or.inl rfl | exact Or.inr rfl) (ev_tupL (by rfl) T.n_tuple (lv_comp rfl sc_law.nd (iv_rng1 (by rfl) T.n_range (av_cons (ev_call (ih .law_take) hr (by rfl) T.g_law_take T.f_law_take.kp T.b_law_take (av_cons (ev_v 1) (av_cons ev_int av_nil))) av_nil)) (blkOk_by (N := ["script", "c", "monitor", "events", "state", "event", "found", "told", "k", "name", "other"]) (sc := defScope s_law) (own := [("k", 8)]) (by decide +kernel)) (fun _ _ _ _ _ => (gv_name sc_law.nd rfl (by first | exact Or.inl rfl | exact Or.inr rfl))) (fun _ _ _ _ _ => tsv_nil) (fun _ _ _ _ _ => (ev_at ev_str (ev_call (ih .law_take) hr (by rfl) T.g_law_take T.f_law_take.kp T.b_law_take (av_cons (ev_v 1) (av_cons ev_int av_nil))))))))
      (bv_cons (sv_set (i := 4) sc_law.nd rfl (by first | exact Or.inl rfl | exact Or.inr rfl) ev_int)
      (bv_cons (sv_for (passes_of rfl) rfl (iv_any (ev_v 3)) (gv_name sc_law.nd rfl (by first | exact Or.inl rfl | exact Or.inr rfl))
      (bv_one (sv_if (tv_cmp op_notN ok_notN (ev_v 4) ev_non (nomark _)) (bv_cons (sv_setLc (i := 6) rfl sc_law.nd rfl rfl (sw_true rfl rfl rfl (by decide +kernel)) (iv_any (ev_at (ev_at (ev_v 2) ev_int) (ev_v 4))) (blkOk_by (N := ["script", "c", "monitor", "events", "state", "event", "found", "told", "k", "name", "other"]) (sc := defScope s_law) (own := [("name", 9), ("other", 10)]) (by decide +kernel)) (fun _ _ _ _ _ => (gv_tup rfl (gvs_cons (gv_name sc_law.nd rfl (by first | exact Or.inl rfl | exact Or.inr rfl)) (gvs_cons (gv_name sc_law.nd rfl (by first | exact Or.inl rfl | exact Or.inr rfl)) gvs_nil)))) (fun _ _ _ _ _ => (tsv_one (tv_cmp (op_eqD hr.units) ok_eqD (ev_v 9) (ev_v 5) (nomark _)))) (fun _ _ _ _ _ => (ev_v 10)))
      (bv_one (sv_if (tv_tr (ev_v 6)) (bv_one (sv_set (i := 4) sc_law.nd rfl (by first | exact Or.inl rfl | exact Or.inr rfl) (ev_at (ev_v 6) ev_int)))
      bv_nil)))
      bv_nil)))
      (bv_cons (sv_set (i := 7) sc_law.nd rfl (by first | exact Or.inl rfl | exact Or.inr rfl) (ev_call (ih .keeps) hr (by rfl) T.g_keeps T.f_keeps.kp T.b_keeps (av_cons (ev_v 2) (av_cons (ev_v 3) av_nil))))
      (bv_one (sv_ret (ev_and (ev_isi (n := "bool") (by rfl) T.n_isinstance (by rfl) T.n_bool PyProof.Rows.boot_bool (ev_v 7)) (ev_one (ev_cmp (op_eqD hr.units) ok_eqD (ev_v 7) (ev_cmp op_notN ok_notN (ev_v 4) ev_non (nomark _)) (nomark _))))))))))))
theorem ok_all (T : Txt K mg fa fdt ca) : ∀ (k : Nat), (∀ g : Fn, FnOk P w K mg base (L2.CX P w) (k + 1) (fa g) (fdt g) (psOf g) (spM K ca (arity g) ((mf2 k).1 g))) ∧ ∀ g : Fn, FnOk P w K mg base (L2.CX P w) k (fa g) (fdt g) (psOf g) (spM K ca (arity g) ((mf2 k).2 g))
  | 0 => ⟨fun g => def_zero (by cases g <;> rfl), fun g => def_zero (by cases g <;> rfl)⟩
  | k + 1 => by
    obtain ⟨ih, ih2⟩ := ok_all T k
    refine ⟨fun g => ?_, ih⟩
    cases g with
    | next_state => exact ok_next_state T ih ih2
    | keeps => exact ok_keeps T ih ih2
    | law_start => exact ok_law_start T ih ih2
    | law_fill => exact ok_law_fill T ih ih2
    | law_take => exact ok_law_take T ih ih2
    | law_monitor => exact ok_law_monitor T ih ih2
    | law => exact ok_law T ih ih2
end
end B

namespace B
open PySem PySem.Spec L2 L3
/-! ### the rows of a monitor -/
def pairD (p : Str × D) : D := .tup [.str p.1, p.2]
def rowD (l : List (Str × D)) : D := .tup (l.map pairD)
def nxt (l : List (Str × D)) (st : D) (ev : Str) : D := match l with
  | [] => st
  | p :: r => if p.1 = ev then p.2 else nxt r st ev
def OkS (l : List (Str × D)) : Prop := ∀ p ∈ l, PyData.strOk p.1 = true
theorem next_loop {st : D} {ev : Str} (he : PyData.strOk ev = true) {S : Sto} {a : D} : ∀ (l : List (Str × D)) (x y : Option D), OkS l →
    fn1 (thenT (forL fixC (tupG 2 (consG (nmG 3) (consG (nmG 4) nilG))) (ifS (blT (opM eqD (vM 3) (vM 2))) (retM (vM 4)) nopM) (l.map pairD) [some a, some st, some (.str ev), x, y] S) (retM (vM 1))) = .ok (nxt l st ev) S
  | [], x, y, _ => by simp [forL_nil, nxt]
  | p :: r, x, y, h => by
    have hp := h p (by simp)
    rw [List.map_cons, forL_cons (e1 := [some a, some st, some (.str ev), some (.str p.1), some p.2]) rfl (by simp [pairD])]
    simp only [ifS_ev, blT_ev, opM_ev, vM_ev, List.getElem?_cons_succ, List.getElem?_cons_zero, vR_some, op1_ok, op2_ok, eq_ss hp he, blR_ok]
    by_cases hq : p.1 = ev
    · simp [hq, nxt]
    · simp only [decide_eq_false hq, ifT_false, nopM_ev, turnT_nx]
      rw [next_loop he r _ _ fun q hq => h q (by simp [hq])]
      simp [nxt, hq]
theorem next_spec {cf cg : Fn → List D → Sto → Rs D} {l : List (Str × D)} {st : D} {ev : Str} (he : PyData.strOk ev = true) (h : OkS l) {S : Sto} : fnM 5 (b_next_state cf cg) [rowD l, st, .str ev] S = .ok (nxt l st ev) S := by
  simpa [b_next_state, startD, rowD] using next_loop (a := rowD l) he (S := S) l none none h
/-! ### a monitor -/
structure Mon (n : Nat) (M : List (List (Str × D))) : Prop where
  len : M.length = n
  ok : ∀ l ∈ M, OkS l ∧ ∀ p ∈ l, p.2 = .non ∨ ∃ j : Nat, j < n ∧ p.2 = .int j
def monD (n : Nat) (M : List (List (Str × D))) : D := .tup [.int n, .tup (M.map rowD)]
/-- the states behind events: none is the error and stays -/
def runM (M : List (List (Str × D))) : List Str → D → D
  | [], st => st
  | ev :: r, st => match st with
    | .int j => runM M r (nxt (M.getD j.toNat []) st ev)
    | st => st
theorem nxt_ok {n : Nat} {l : List (Str × D)} (h : ∀ p ∈ l, p.2 = .non ∨ ∃ j : Nat, j < n ∧ p.2 = .int j) {st : D} (hs : st = .non ∨ ∃ j : Nat, j < n ∧ st = .int j) (ev : Str) : nxt l st ev = .non ∨ ∃ j : Nat, j < n ∧ nxt l st ev = .int j := by
  induction l with
  | nil => exact hs
  | cons p r ih =>
    unfold nxt
    split
    · exact h p (by simp)
    · exact ih fun q hq => h q (by simp [hq])
theorem run_non (M : List (List (Str × D))) : ∀ evs, runM M evs .non = .non
  | [] => rfl
  | _ :: _ => rfl
theorem at_row {n : Nat} {M : List (List (Str × D))} (h : Mon n M) {j : Nat} (hj : j < n) {S : Sto} : ixD (.tup (M.map rowD)) (.int (j : Int)) S = .ok (rowD (M.getD j [])) S := by
  refine ix_tup (atI_nat ?_)
  rw [List.getElem?_map, List.getD_eq_getElem?_getD, List.getElem?_eq_getElem (by rw [h.len]; exact hj)]
  rfl
theorem getD_mem {M : List (List (Str × D))} {j : Nat} (hj : j < M.length) : M.getD j [] ∈ M := by
  rw [List.getD_eq_getElem?_getD, List.getElem?_eq_getElem hj]
  exact List.getElem_mem hj
theorem keeps_loop {k : Nat} {n : Nat} {M : List (List (Str × D))} (h : Mon n M) {S : Sto} {a : D} : ∀ (evs : List Str) (j : Nat) (x : Option D), j < n → (∀ ev ∈ evs, PyData.strOk ev = true) →
    fn1 (thenT (forL fixC (nmG 3) (seqM (setM 2 (clM 3 (mf (k + 1) .next_state) (consA (opM ixD (opM ixD (vM 0) (cM (.int 1))) (vM 2)) (consA (vM 2) (consA (vM 3) nilA))))) (ifS (blT (opM isND (vM 2) (cM .non))) (retM (cM (.bl false))) nopM)) (evs.map D.str) [some (monD n M), some a, some (.int j), x] S) (retM (cM (.bl true)))) =
      .ok (.bl (decide (runM M evs (.int j) ≠ .non))) S
  | [], j, x, _, _ => by simp [forL_nil, runM]
  | ev :: r, j, x, hj, he => by
    have hev := he ev (by simp)
    have hrow := h.ok _ (getD_mem (M := M) (j := j) (by rw [h.len]; exact hj))
    have e1 : mf (k + 1) .next_state [rowD (M.getD j []), .int j, .str ev] S = .ok (nxt (M.getD j []) (.int j) ev) S := next_spec hev hrow.1
    rw [List.map_cons, forL_cons (e1 := [some (monD n M), some a, some (.int j), some (.str ev)]) rfl (by simp)]
    simp only [seqM_ev, setM_ev, clM_ev, consA_ev, opM_ev, vM_ev, cM_ev, List.getElem?_cons_zero, List.getElem?_cons_succ, vR_some, op1_ok, op2_ok, monD, ix_tup1, at_row h hj, con1_ok, nilA_ev, con2_ok, cl1_3, e1, setT_ok, thenT_nx, List.set_cons_succ, List.set_cons_zero, ifS_ev, blT_ev, isN_ev, blR_ok]
    have hr : runM M (ev :: r) (.int j) = runM M r (nxt (M.getD j []) (.int j) ev) := by simp [runM]
    rw [hr]
    rcases nxt_ok hrow.2 (.inr ⟨j, hj, rfl⟩) ev with e2 | ⟨j2, hj2, e2⟩
    · rw [e2, run_non]
      simp
    · rw [e2]
      simp only [show decide (D.int (j2 : Int) = .non) = false from rfl, ifT_false, nopM_ev, turnT_nx]
      exact keeps_loop h r j2 _ hj2 fun e hm => he e (by simp [hm])
theorem keeps_spec {k : Nat} {n : Nat} {M : List (List (Str × D))} (h : Mon n M) (hn : 0 < n) {evs : List Str} (he : ∀ ev ∈ evs, PyData.strOk ev = true) {S : Sto} : mf (k + 2) .keeps [monD n M, .tup (evs.map D.str)] S = .ok (.bl (decide (runM M evs (.int 0) ≠ .non))) S := by
  have := keeps_loop (k := k) h (S := S) (a := .tup (evs.map D.str)) evs 0 none hn he
  show fnM 4 (b_keeps (mf (k + 1)) (mf2 (k + 1)).2) _ S = _
  simpa [b_keeps, startD] using this

/-! ### draws -/
theorem take_mf {k : Nat} {t : List D} {S : Sto} {n : Nat} {many : Int} (h : CI t S n) (h0 : 0 < many) (h1 : many < 1073741824) :
    ∃ d S', mf (k + 2) .law_take [.obj n, .int many] S = .ok (.int d) S' ∧ 0 ≤ d ∧ d < many ∧ CI t S' n ∧ Kp n S S' :=
  take_spec (f := mf (k + 1) .law_fill) (fun S n h => fill_spec h) h h0 h1
/-! ### a drawn monitor -/
def ValOk (n : Nat) (v : D) : Prop := v = .non ∨ ∃ j : Nat, j < n ∧ v = .int j
def RowOk (n : Nat) (l : List (Str × D)) : Prop := OkS l ∧ ∀ p ∈ l, ValOk n p.2
theorem row_loop {k n tb rw' : Nat} {st : Nat} {q : Nat} {t : List D} (hst : st ≤ 5) (hst0 : 0 < st) (hq : q < st) (hnr : n < rw') : ∀ (evs : List Str) (l : List (Str × D)) (S : Sto) (x : Option D), CI t S n → S[rw']? = some (.lst (l.map pairD)) → l.length + evs.length ≤ 1000 → RowOk st l →
    (∀ ev ∈ evs, PyData.strOk ev = true) → ∃ l' S' y, forL fixC (nmG 5) (ifS (blT (opM neD (clM 2 (mf (k + 2) .law_take) (consA (vM 0) (consA (cM (.int 3)) nilA))) (cM (.int 0)))) (dropM (metM isLst appD (vM 4) (tupM (consA (vM 5) (consA (opM ixD (newM (szA (consA (cM .non) (consA (clM 2 (mf (k + 2) .law_take) (consA (vM 0) (consA (vM 1) nilA))) (consA (clM 2 (mf (k + 2) .law_take) (consA (vM 0) (consA (vM 1) nilA))) (consA (vM 3) nilA)))))) (clM 2 (mf (k + 2) .law_take) (consA (vM 0) (consA (cM (.int 4)) nilA)))) nilA))))) nopM) (evs.map D.str)
      [some (.obj n), some (.int st), some (.obj tb), some (.int q), some (.obj rw'), x] S = .nx [some (.obj n), some (.int st), some (.obj tb), some (.int q), some (.obj rw'), y] S' ∧ CI t S' n ∧ S'[rw']? = some (.lst (l'.map pairD)) ∧ (RowOk st l' ∧ l'.length ≤ 1000) ∧
      S.length ≤ S'.length ∧ ∀ (i : Nat), i < S.length → i ≠ n → i ≠ rw' → S'[i]? = S[i]?
  | [], l, S, x, ci, hr, hl, ho, he => ⟨l, S, x, by simp, ci, hr, ⟨ho, by simpa using hl⟩, Nat.le_refl _, fun _ _ _ _ => rfl⟩
  | ev :: r, l, S, x, ci, hr, hl, ho, he => by
    have hev := he ev (by simp)
    have ne : rw' ≠ n := Nat.ne_of_gt hnr
    obtain ⟨d0, S1, e0, h1, h2, c1, k1⟩ := take_mf (k := k) (many := 3) ci (by decide) (by decide)
    have hr1 : S1[rw']? = some (.lst (l.map pairD)) := (k1.at_ _ ne).trans hr
    have hst' : (0 : Int) < st := by omega
    rw [List.map_cons, forL_cons (e1 := [some (.obj n), some (.int st), some (.obj tb), some (.int q), some (.obj rw'), some (.str ev)]) rfl (by simp)]
    simp only [ifS_ev, blT_ev, opM_ev, clM_ev, consA_ev, vM_ev, cM_ev, List.getElem?_cons_zero, List.getElem?_cons_succ, vR_some, con1_ok, nilA_ev, con2_ok, cl1_2, e0, op1_ok, op2_ok, ne_ii, blR_ok]
    by_cases hd : d0 = 0
    · subst hd
      simp only [decide_true, Bool.not_true, ifT_false, nopM_ev, turnT_nx]
      obtain ⟨l', S', y, g1, g2, g3, g4, g5, g6⟩ := row_loop (k := k) (tb := tb) (t := t) hst hst0 hq hnr r l S1 (some (.str ev)) c1 hr1 (by simp at hl; omega) ho fun e hm => he e (by simp [hm])
      exact ⟨l', S', y, g1, g2, g3, g4, by rw [← k1.len]; exact g5, fun i hi hn1 hn2 => (g6 i (by rw [k1.len]; exact hi) hn1 hn2).trans (k1.at_ i hn1)⟩
    · obtain ⟨d1, S2, e1, h3, h4, c2, k2⟩ := take_mf (k := k) (many := st) c1 hst' (by omega)
      obtain ⟨d2, S3, e2, h5, h6, c3, k3⟩ := take_mf (k := k) (many := st) c2 hst' (by omega)
      have hlt3 : n < S3.length := c3.lt
      have c3' : CI t (S3 ++ [.lst [.non, .int d1, .int d2, .int q]]) n := c3.keep fun i hi => get_app (by omega)
      obtain ⟨d3, S4, e3, h7, h8, c4, k4⟩ := take_mf (k := k) (many := 4) c3' (by decide) (by decide)
      have hnew : S4[S3.length]? = some (.lst [.non, .int d1, .int d2, .int q]) := (k4.at_ _ (by omega)).trans get_new
      have hlr3 : rw' < S3.length := by
        have := lt_of_get hr1
        rw [k3.len, k2.len]
        exact this
      have hr4 : S4[rw']? = some (.lst (l.map pairD)) := (k4.at_ _ ne).trans ((get_app hlr3).trans (((k3.at_ _ ne).trans (k2.at_ _ ne)).trans hr1))
      -- the drawn state
      obtain ⟨v, hv, hvo⟩ : ∃ v, atI [D.non, .int d1, .int d2, .int (q : Int)] d3 = some v ∧ ValOk st v := by
        have : d3 = 0 ∨ d3 = 1 ∨ d3 = 2 ∨ d3 = 3 := by omega
        rcases this with rfl | rfl | rfl | rfl
        · exact ⟨_, atI_0, .inl rfl⟩
        · exact ⟨_, atI_1, .inr ⟨d1.toNat, by omega, by rw [Int.toNat_of_nonneg h3]⟩⟩
        · exact ⟨_, atI_2, .inr ⟨d2.toNat, by omega, by rw [Int.toNat_of_nonneg h5]⟩⟩
        · exact ⟨_, atI_3, .inr ⟨q, hq, rfl⟩⟩
      have hlm : (l.map pairD).length ≤ 1000000 := by simp at hl ⊢; omega
      simp only [decide_eq_false hd, Bool.not_false, ifT_true, dropM_ev, metM_ev, vM_ev, List.getElem?_cons_zero, List.getElem?_cons_succ, vR_some, met1_lst hr1, tupM_ev, consA_ev, con1_ok, opM_ev, newM_ev, szA_ev, cM_ev, clM_ev, nilA_ev, con2_ok, cl1_2, e1, e2, sz1_4, new1_ok, op1_ok, e3, op2_ok, ix_lst hnew hv, tup1_2, app_ok hr4 hlm, dropT_ok, turnT_nx]
      have hap : l.map pairD ++ [.tup [.str ev, v]] = (l ++ [(ev, v)]).map pairD := by simp [pairD]
      rw [hap]
      have hlt4 : rw' < S4.length := lt_of_get hr4
      obtain ⟨l', S', y, g1, g2, g3, g4, g5, g6⟩ := row_loop (k := k) (tb := tb) (t := t) hst hst0 hq hnr r (l ++ [(ev, v)]) (S4.set rw' (.lst ((l ++ [(ev, v)]).map pairD))) (some (.str ev)) (c4.keep fun i hi => get_set' (by omega)) (get_set hlt4) (by simp at hl ⊢; omega)
        ⟨fun p hp => by
          rcases List.mem_append.mp hp with hp | hp
          · exact ho.1 p hp
          · simp at hp; subst hp; exact hev, fun p hp => by
          rcases List.mem_append.mp hp with hp | hp
          · exact ho.2 p hp
          · simp at hp; subst hp; exact hvo⟩ fun e hm => he e (by simp [hm])
      have hlen : S.length ≤ S4.length := by
        rw [k4.len, List.length_append, k3.len, k2.len, k1.len]
        exact Nat.le_add_right _ _
      refine ⟨l', S', y, g1, g2, g3, g4, Nat.le_trans hlen (by simpa using g5), fun i hi hn1 hn2 => ?_⟩
      have hi3 : i < S3.length := by rw [k3.len, k2.len, k1.len]; exact hi
      refine (g6 i (by simp; omega) hn1 hn2).trans ((get_set' (Ne.symm hn2)).trans ((k4.at_ i hn1).trans ((get_app hi3).trans ((k3.at_ i hn1).trans ((k2.at_ i hn1).trans (k1.at_ i hn1))))))

theorem get_map {α β : Type} {f : α → β} {l : List α} {i : Nat} {x : α} (h : l[i]? = some x) : (l.map f)[i]? = some (f x) := by rw [List.getElem?_map, h]; rfl
theorem upto_eq (n : Nat) : upto 0 n = (List.range n).map fun (i : Nat) => D.int (i : Int) := by
  unfold upto
  congr 1
  funext i
  simp
/-- the rows, one for each state -/
theorem table_loop {k n tb : Nat} {st : Nat} {t : List D} (hst : st ≤ 5) (hst0 : 0 < st) (hnb : n < tb) : ∀ (m i : Nat) (M : List (List (Str × D))) (S : Sto) (x y z : Option D), i + m = st → CI t S n → S[tb]? = some (.lst (M.map rowD)) → M.length = i → (∀ l ∈ M, RowOk st l ∧ l.length ≤ 1000) →
    ∃ (M' : List (List (Str × D))) (S' : Sto) (x' y' z' : Option D), forL fixC (nmG 3) (seqM (setM 4 (newM (szA nilA)))
    (seqM (forM (lvI (szA (consA (cM (.str "a")) (consA (cM (.str "b")) (consA (cM (.str "c")) (consA (cM (.str "d")) nilA)))))) (nmG 5)
    (ifS (blT (opM neD (clM 2 (mf (k + 2) .law_take) (consA (vM 0) (consA (cM (.int 3)) nilA))) (cM (.int 0)))) (dropM (metM isLst appD (vM 4) (tupM (consA (vM 5) (consA (opM ixD (newM (szA (consA (cM .non) (consA (clM 2 (mf (k + 2) .law_take) (consA (vM 0) (consA (vM 1) nilA))) (consA (clM 2 (mf (k + 2) .law_take) (consA (vM 0) (consA (vM 1) nilA))) (consA (vM 3) nilA)))))) (clM 2 (mf (k + 2) .law_take) (consA (vM 0) (consA (cM (.int 4)) nilA)))) nilA)))))
    nopM))
    (dropM (metM isLst appD (vM 2) (unM tupD (vM 4)))))) ((List.range' i m).map fun (i : Nat) => D.int (i : Int))
      [some (.obj n), some (.int st), some (.obj tb), x, y, z] S = .nx [some (.obj n), some (.int st), some (.obj tb), x', y', z'] S' ∧ CI t S' n ∧ S'[tb]? = some (.lst (M'.map rowD)) ∧ M'.length = st ∧ (∀ l ∈ M', RowOk st l ∧ l.length ≤ 1000)
  | 0, i, M, S, x, y, z, hi, ci, hb, hM, ho => ⟨M, S, x, y, z, by simp, ci, hb, by omega, ho⟩
  | m + 1, i, M, S, x, y, z, hi, ci, hb, hM, ho => by
    have hlb := lt_of_get hb
    have hnl : n < S.length := ci.lt
    have hbn : tb ≠ n := Nat.ne_of_gt hnb
    rw [List.range'_succ, List.map_cons, forL_cons (e1 := [some (.obj n), some (.int st), some (.obj tb), some (.int i), y, z]) rfl (by simp)]
    -- a new row
    have c0 : CI t (S ++ [.lst ([] : List D)]) n := ci.keep fun i hi => get_app (by omega)
    obtain ⟨l', S1, z1, g1, g2, g3, g4, g5, g6⟩ := row_loop (k := k) (n := n) (tb := tb) (rw' := S.length) (st := st) (q := i) (t := t) hst hst0 (by omega) hnl ["a", "b", "c", "d"] [] (S ++ [.lst []]) z c0 get_new (by simp) ⟨fun p hp => by simp at hp, fun p hp => by simp at hp⟩ (by decide +kernel)
    have hb1 : S1[tb]? = some (.lst (M.map rowD)) := (g6 tb (by simp; omega) hbn (Nat.ne_of_lt hlb)).trans ((get_app hlb).trans hb)
    have hlb1 := lt_of_get hb1
    simp only [List.map_cons, List.map_nil] at g1
    have hz : (M.map rowD).length ≤ 1000000 := by simp; omega
    simp only [seqM_ev, setM_ev, newM_ev, szA_ev, nilA_ev, sz1_0, new1_ok, setT_ok, thenT_nx, List.set_cons_succ, List.set_cons_zero, forM_ev, lvI_ev, consA_ev, cM_ev, con1_ok, con2_ok, sz1_4, lv1_ok, for1_ok, g1, dropM_ev, metM_ev, vM_ev, List.getElem?_cons_zero, List.getElem?_cons_succ, vR_some, met1_lst hb1, unM_ev, un1_ok, tup_lst g3, op2_ok, app_ok hb1 hz, dropT_ok, turnT_nx]
    have hap : M.map rowD ++ [.tup (l'.map pairD)] = (M ++ [l']).map rowD := by simp [rowD]
    rw [hap]
    obtain ⟨M', S', x', y', z', r1, r2, r3, r4, r5⟩ := table_loop (k := k) (t := t) hst hst0 hnb m (i + 1) (M ++ [l']) (S1.set tb (.lst ((M ++ [l']).map rowD))) (some (.int i)) (some (.obj S.length)) z1 (by omega) (g2.keep fun i hi => get_set' (by omega)) (get_set hlb1) (by simp; omega) fun l hl => by
      rcases List.mem_append.mp hl with hl | hl
      · exact ho l hl
      · simp at hl; subst hl; exact g4
    exact ⟨M', S', x', y', z', r1, r2, r3, r4, r5⟩
theorem monitor_spec {k : Nat} {t : List D} {S : Sto} {n : Nat} (ci : CI t S n) : ∃ (st : Nat) (M : List (List (Str × D))) (S' : Sto), mf (k + 3) .law_monitor [.obj n] S = .ok (monD st M) S' ∧ CI t S' n ∧ 0 < st ∧ Mon st M ∧ ∀ l ∈ M, l.length ≤ 1000 := by
  obtain ⟨d, S1, e1, h1, h2, c1, k1⟩ := take_mf (k := k) (many := 5) ci (by decide) (by decide)
  have hst : (1 : Int) + d = ((d.toNat + 1 : Nat) : Int) := by omega
  obtain ⟨M, S2, x, y, z, r1, r2, r3, r4, r5⟩ := table_loop (k := k) (n := n) (tb := S1.length) (st := d.toNat + 1) (t := t) (by omega) (by omega) c1.lt (d.toNat + 1) 0 [] (S1 ++ [.lst []]) none none none (by omega) (c1.keep fun i hi => get_app (by have := c1.lt; omega)) get_new rfl (fun l hl => by simp at hl)
  rw [← List.range_eq_range', ← upto_eq] at r1
  refine ⟨d.toNat + 1, M, S2, ?_, r2, by omega, ⟨r4, fun l hl => (r5 l hl).1⟩, fun l hl => (r5 l hl).2⟩
  show fnM 6 (b_law_monitor (mf (k + 2)) (mf2 (k + 2)).2) _ S = _
  have hr : (rng1D [.int ((d.toNat + 1 : Nat) : Int)] (S1 ++ [.lst []])) = .ok (upto 0 (d.toNat + 1), fixC) (S1 ++ [.lst []]) := rng1_nat (by omega)
  simp only [b_law_monitor, fnM_ev, startD, List.map_cons, List.map_nil, List.length_cons, List.length_nil, List.replicate, List.cons_append, List.nil_append, seqM_ev, setM_ev, opM_ev, cM_ev, clM_ev, consA_ev, vM_ev, List.getElem?_cons_zero, vR_some, con1_ok, nilA_ev, con2_ok, cl1_2, e1, op1_ok, op2_ok, add_ii, hst, setT_ok, thenT_nx, List.set_cons_succ, List.set_cons_zero, newM_ev, szA_ev, sz1_0, new1_ok, forM_ev, rngI_ev, List.getElem?_cons_succ, rg1_ok, hr, for1_ok]
  rw [r1]
  simp only [thenT_nx, retM_ev, tupM_ev, consA_ev, vM_ev, List.getElem?_cons_zero, List.getElem?_cons_succ, vR_some, con1_ok, unM_ev, un1_ok, tup_lst r3, nilA_ev, con2_ok, tup1_2, retT_ok, fn1_rt]
  rfl
/-! ### the law -/
def EvOk (ev : Str) : Prop := PyData.strOk ev = true
theorem found_pure {l : List (Str × D)} {S : Sto} {ev : Str} (h : OkS l) (he : EvOk ev) {e : Sl} (hl : e.length = 11) (h5 : e[5]? = some (some (.str ev))) (hz : l.length ≤ 1000000) :
    cmp1 (.ok (l.map pairD, fixC) S) (tupG 2 (consG (nmG 9) (consG (nmG 10) nilG))) [9, 10] (blT (opM eqD (vM 9) (vM 5))) (vM 10) e = .ok ((l.filter fun p => decide (p.1 = ev)).map (·.2)) S := by
  have key : ∀ l : List (Str × D), OkS l → compL fixC (tupG 2 (consG (nmG 9) (consG (nmG 10) nilG))) (blT (opM eqD (vM 9) (vM 5))) (vM 10) (l.map pairD) (wipeD e [9, 10]) S = some ((l.filter fun p => decide (p.1 = ev)).map (·.2), S) := by
    intro l
    induction l with
    | nil => intro _; exact compL_nil' rfl
    | cons p r ih =>
      intro h
      have hp := h p (by simp)
      have ih := ih fun q hq => h q (by simp [hq])
      have g : tupG 2 (consG (nmG 9) (consG (nmG 10) nilG)) (pairD p) (wipeD e [9, 10]) = some (((wipeD e [9, 10]).set 9 (some (.str p.1))).set 10 (some p.2)) := rfl
      have g9 : (((wipeD e [9, 10]).set 9 (some (.str p.1))).set 10 (some p.2))[9]? = some (some (.str p.1)) := by simp [wipeD, hl]
      have g10 : (((wipeD e [9, 10]).set 9 (some (.str p.1))).set 10 (some p.2))[10]? = some (some p.2) := by simp [wipeD, hl]
      have g5 : (((wipeD e [9, 10]).set 9 (some (.str p.1))).set 10 (some p.2))[5]? = some (some (.str ev)) := by simp [wipeD, h5]
      have ht : blT (opM eqD (vM 9) (vM 5)) (((wipeD e [9, 10]).set 9 (some (.str p.1))).set 10 (some p.2)) S = .ok (decide (p.1 = ev)) S := by simp only [blT_ev, opM_ev, vM_ev, g9, g5, vR_some, op1_ok, op2_ok, eq_ss hp he, blR_ok]
      by_cases hq : p.1 = ev
      · rw [List.filter_cons_of_pos (by simp [hq]), List.map_cons, List.map_cons]
        exact compL_yes rfl g (by rw [ht, decide_eq_true hq]) (by simp only [vM_ev, g10, vR_some]) ih
      · rw [List.filter_cons_of_neg (by simp [hq]), List.map_cons]
        exact compL_no rfl g (by rw [ht, decide_eq_false hq]) ih
  exact cmp1_ok (by simpa using hz) (key l h)
theorem nxt_filter (st : D) (ev : Str) : ∀ l : List (Str × D), nxt l st ev = (((l.filter fun p => decide (p.1 = ev)).map (·.2)).head?).getD st
  | [] => rfl
  | p :: r => by
    unfold nxt
    by_cases hq : p.1 = ev
    · rw [if_pos hq, List.filter_cons_of_pos (by simp [hq])]
      rfl
    · rw [if_neg hq, List.filter_cons_of_neg (by simp [hq])]
      exact nxt_filter st ev r
theorem law_loop {n : Nat} {M : List (List (Str × D))} (h : Mon n M) {a b d : D} : ∀ (evs : List Str) (S : Sto) (st : D) (x5 x6 x8 x9 x10 : Option D), (∀ l ∈ M, l.length ≤ 1000) → ValOk n st → (∀ ev ∈ evs, EvOk ev) →
    ∃ S' x5' x6', forL fixC (nmG 5) (ifS (blT (opM notND (vM 4) (cM .non))) (seqM (setLM 6 (compM (itM srcD (opM ixD (opM ixD (vM 2) (cM (.int 1))) (vM 4))) (tupG 2 (consG (nmG 9) (consG (nmG 10) nilG))) [9, 10] (blT (opM eqD (vM 9) (vM 5))) (vM 10)))
    (ifS (trT (vM 6)) (setM 4 (opM ixD (vM 6) (cM (.int 0))))
    nopM))
    nopM) (evs.map D.str) [some a, some b, some (monD n M), some d, some st, x5, x6, none, x8, x9, x10] S = .nx [some a, some b, some (monD n M), some d, some (runM M evs st), x5', x6', none, x8, x9, x10] S'
  | [], S, st, x5, x6, x8, x9, x10, _, _, _ => ⟨S, x5, x6, by simp [runM]⟩
  | ev :: r, S, st, x5, x6, x8, x9, x10, hM, hs, he => by
    have hev := he ev (by simp)
    rw [List.map_cons, forL_cons (e1 := [some a, some b, some (monD n M), some d, some st, some (.str ev), x6, none, x8, x9, x10]) rfl (by simp)]
    simp only [ifS_ev, blT_ev, opM_ev, vM_ev, cM_ev, List.getElem?_cons_zero, List.getElem?_cons_succ, vR_some, op1_ok, op2_ok, notN_ev, blR_ok]
    rcases hs with rfl | ⟨j, hj, rfl⟩
    · obtain ⟨S', x5', x6', g⟩ := law_loop h (a := a) (b := b) (d := d) r S .non (some (.str ev)) x6 x8 x9 x10 hM (.inl rfl) fun e hm => he e (by simp [hm])
      refine ⟨S', x5', x6', ?_⟩
      rw [run_non] at g ⊢
      simpa using g
    · have hm := getD_mem (M := M) (j := j) (by rw [h.len]; exact hj)
      have hrow := h.ok _ hm
      have hrun : runM M (ev :: r) (.int j) = runM M r (nxt (M.getD j []) (.int j) ev) := by simp [runM]
      have hc := found_pure (S := S) hrow.1 hev (e := [some a, some b, some (monD n M), some d, some (.int (j : Int)), some (.str ev), x6, none, x8, x9, x10]) rfl rfl (by have := hM _ hm; omega)
      have hn := nxt_ok hrow.2 (.inr ⟨j, hj, rfl⟩) ev
      rw [nxt_filter] at hn
      rw [hrun, nxt_filter]
      generalize hF : ((M.getD j []).filter fun p => decide (p.1 = ev)).map (·.2) = F at hc hn
      simp only [show (!decide (D.int (j : Int) = .non)) = true from rfl, ifT_true, seqM_ev, setLM_ev, compM_ev, itM_ev, opM_ev, vM_ev, cM_ev, List.getElem?_cons_zero, List.getElem?_cons_succ, vR_some, op1_ok, op2_ok, monD, ix_tup1, at_row h hj, it1_ok, rowD, src_tup]
      simp only [monD] at hc
      simp only [hc, setLT_ok, thenT_nx, List.set_cons_succ, List.set_cons_zero, ifS_ev, trT_ev, vM_ev, List.getElem?_cons_zero, List.getElem?_cons_succ, vR_some, trR_ok, tru_lst get_new]
      cases F with
      | nil =>
        simp only [List.isEmpty_nil, Bool.not_true, ifT_false, nopM_ev, turnT_nx, List.head?_nil, Option.getD_none]
        exact law_loop h r _ _ _ _ _ _ _ hM (.inr ⟨j, hj, rfl⟩) fun e hm => he e (by simp [hm])
      | cons f F =>
        simp only [List.isEmpty_cons, Bool.not_false, ifT_true, setM_ev, opM_ev, vM_ev, cM_ev, List.getElem?_cons_zero, List.getElem?_cons_succ, vR_some, op1_ok, op2_ok, ix_lst0 get_new, setT_ok, List.set_cons_succ, List.set_cons_zero, turnT_nx, List.head?_cons, Option.getD_some]
        exact law_loop h r _ _ _ _ _ _ _ hM hn fun e hm => he e (by simp [hm])

theorem start_mf {k : Nat} {ns : List Int} : ∃ S' n, mf (k + 1) .law_start [.fz (ns.map D.int)] [] = .ok (.obj n) S' ∧ CI [.int 20] S' n := by
  obtain ⟨S', n, h1, h2, _⟩ := start_spec (t := consA (cM (.int 20)) nilA) (tl := [.int 20]) (ns := ns) (S := []) (fun e S => by simp) (by simp)
  exact ⟨S', n, h1, h2⟩
/-- the drawn events -/
theorem events_comp {k : Nat} {n : Nat} {t : List D} : ∀ (m : Nat) (l : List D), l.length = m → ∀ (S : Sto) (e : Sl), CI t S n → e.length = 11 → e[1]? = some (some (.obj n)) → ∃ (evs : List Str) (S' : Sto), compL fixC (nmG 8) yesT (opM ixD (cM (.str "abcde")) (clM 2 (mf (k + 2) .law_take) (consA (vM 1) (consA (cM (.int 5)) nilA)))) l e S = some (evs.map D.str, S') ∧ ∀ ev ∈ evs, EvOk ev
  | 0, l, hl, S, e, ci, h1, h2 => by
    cases l with
    | nil => exact ⟨[], S, compL_nil' rfl, fun _ h => by simp at h⟩
    | cons _ _ => cases hl
  | m + 1, l, hl, S, e, ci, h1, h2 => by
    cases l with
    | nil => cases hl
    | cons x l =>
      obtain ⟨d, S1, e1, h3, h4, c1, k1⟩ := take_mf (k := k) (many := 5) ci (by decide) (by decide)
      obtain ⟨evs, S2, g1, g2⟩ := events_comp (k := k) m l (by simpa using hl) S1 e c1 h1 h2
      obtain ⟨ev, hx, hev⟩ : ∃ ev : Str, ixD (.str "abcde") (.int d) S1 = .ok (.str ev) S1 ∧ EvOk ev := by
        have hz : Str.length (Str.ofString "abcde") ≤ sizeLine := by rw [sizeLine_eq]; decide +kernel
        have hc : (Str.ofString "abcde").cps.toList = [97, 98, 99, 100, 101] := by decide +kernel
        have : d = 0 ∨ d = 1 ∨ d = 2 ∨ d = 3 ∨ d = 4 := by omega
        unfold ixD
        dsimp only
        rw [if_pos hz, hc]
        rcases this with rfl | rfl | rfl | rfl | rfl
        · rw [atI_0]; exact ⟨_, rfl, show PyData.strOk _ = true from by decide +kernel⟩
        · rw [atI_1]; exact ⟨_, rfl, show PyData.strOk _ = true from by decide +kernel⟩
        · rw [atI_2]; exact ⟨_, rfl, show PyData.strOk _ = true from by decide +kernel⟩
        · rw [atI_3]; exact ⟨_, rfl, show PyData.strOk _ = true from by decide +kernel⟩
        · rw [atI_4]; exact ⟨_, rfl, show PyData.strOk _ = true from by decide +kernel⟩
      have h1' : (e.set 8 (some x))[1]? = some (some (.obj n)) := by rw [List.getElem?_set_ne (by decide)]; exact h2
      refine ⟨ev :: evs, S2, compL_yes (e1 := e.set 8 (some x)) (S1 := S) (S2 := S1) (y := .str ev) rfl rfl rfl ?_ g1, fun z hz => ?_⟩
      · simp only [opM_ev, cM_ev, op1_ok, clM_ev, consA_ev, vM_ev, h1', vR_some, con1_ok, nilA_ev, con2_ok, cl1_2, e1, op2_ok, hx]
      · rcases List.mem_cons.mp hz with rfl | hz
        · exact hev
        · exact g2 z hz
theorem law_true : ∀ ns : List Int, ns.length ≤ 63 → ∃ S, mf 8 .law [.fz (ns.map D.int)] [] = .ok (.bl true) S := by
  intro ns _
  obtain ⟨S1, n, e1, c1⟩ := start_mf (k := 6) (ns := ns)
  obtain ⟨st, M, S2, e2, c2, hst, hM, hz⟩ := monitor_spec (k := 4) c1
  obtain ⟨d, S3, e3, h1, h2, c3, k3⟩ := take_mf (k := 5) (many := 13) c2 (by decide) (by decide)
  have hr : rng1D [.int d] S3 = .ok (upto 0 d.toNat, fixC) S3 := by
    have := rng1_nat (S := S3) (n := d.toNat) (by omega)
    rwa [Int.toNat_of_nonneg h1] at this
  have hul : (upto 0 d.toNat).length ≤ 1000000 := by rw [upto_length]; omega
  obtain ⟨evs, S4, g1, g2⟩ := events_comp (k := 5) (n := n) (t := [.int 20]) _ (upto 0 d.toNat) rfl S3 (wipeD [some (.fz (ns.map D.int)), some (.obj n), some (monD st M), none, none, none, none, none, none, none, none] [8]) c3 rfl rfl
  obtain ⟨S5, x5, x6, g3⟩ := law_loop hM (a := .fz (ns.map D.int)) (b := .obj n) (d := .tup (evs.map D.str)) evs S4 (.int 0) none none none none none hz (.inr ⟨0, hst, rfl⟩) g2
  have g4 := keeps_spec (k := 5) hM hst g2 (S := S5)
  refine ⟨S5, ?_⟩
  rw [show mf 8 .law = fnM 11 (b_law (mf 7) (mf2 7).2) from rfl]
  simp only [b_law, fnM_ev, startD, List.map_cons, List.map_nil, List.length_cons, List.length_nil, List.replicate, List.cons_append, List.nil_append, seqM_ev, setM_ev, clM_ev, consA_ev, vM_ev, List.getElem?_cons_zero, List.getElem?_cons_succ, vR_some, con1_ok, nilA_ev, con2_ok, cl1_1, e1, setT_ok, thenT_nx, List.set_cons_succ, List.set_cons_zero, e2, onL_ev, compM_ev, rngI_ev, cM_ev, cl1_2, e3, rg1_ok, hr, cmp1_ok hul g1, onL1_ok, tupL_ev, forM_ev, itM_ev, it1_ok, src_tup, for1_ok, g3, g4]
  simp only [retM_ev, andM_ev, unM_ev, vM_ev, List.getElem?_cons_zero, List.getElem?_cons_succ, vR_some, un1_ok, isi_bool_bl, andV_true, opM_ev, op1_ok, cM_ev, op2_ok, notN_ev, eq_bb, retT_ok, fn1_rt]
  simp
end B

namespace B
open PySem PySem.Spec L2 L3
theorem all_mk {w : World} {K : PySem.W.Frag} {h : Heap} {mg : Str → Option Value} {fa0 : Addr} (X : K.In h) (G : h.Ns mainGlobals mg) (hfa : mg "law" = some (.ref fa0))
    {f0 : Addr} {od0 an0 : Option Addr} {sl0 : Array (Option Value)} {oc0 kV0 dc0 pm0 cd0 ct0 : Value}
    (a0 : PySem.W.nsIn K mainGlobals "next_state" = some (some (.ref f0))) (l0 : K.lookup f0 = some ⟨oc0, od0, .func (PySem.W.fnOf "next_state" "next_state" (defArgs s_next_state) (defBody s_next_state) (defScope s_next_state) .none kV0 dc0 pm0 an0 cd0 ct0), sl0⟩) (c0 : PySem.W.codeIn K cd0 "next_state" = true) (k0 : PySem.W.keepIn K (.ref f0) = true)
    {f1 : Addr} {od1 an1 : Option Addr} {sl1 : Array (Option Value)} {oc1 kV1 dc1 pm1 cd1 ct1 : Value}
    (a1 : PySem.W.nsIn K mainGlobals "keeps" = some (some (.ref f1))) (l1 : K.lookup f1 = some ⟨oc1, od1, .func (PySem.W.fnOf "keeps" "keeps" (defArgs s_keeps) (defBody s_keeps) (defScope s_keeps) .none kV1 dc1 pm1 an1 cd1 ct1), sl1⟩) (c1 : PySem.W.codeIn K cd1 "keeps" = true) (k1 : PySem.W.keepIn K (.ref f1) = true)
    {f2 : Addr} {od2 an2 : Option Addr} {sl2 : Array (Option Value)} {oc2 kV2 dc2 pm2 cd2 ct2 : Value}
    (a2 : PySem.W.nsIn K mainGlobals "_law_start" = some (some (.ref f2))) (l2 : K.lookup f2 = some ⟨oc2, od2, .func (PySem.W.fnOf "_law_start" "_law_start" (defArgs s_law_start) (defBody s_law_start) (defScope s_law_start) .none kV2 dc2 pm2 an2 cd2 ct2), sl2⟩) (c2 : PySem.W.codeIn K cd2 "_law_start" = true) (k2 : PySem.W.keepIn K (.ref f2) = true)
    {f3 : Addr} {od3 an3 : Option Addr} {sl3 : Array (Option Value)} {oc3 kV3 dc3 pm3 cd3 ct3 : Value}
    (a3 : PySem.W.nsIn K mainGlobals "_law_fill" = some (some (.ref f3))) (l3 : K.lookup f3 = some ⟨oc3, od3, .func (PySem.W.fnOf "_law_fill" "_law_fill" (defArgs s_law_fill) (defBody s_law_fill) (defScope s_law_fill) .none kV3 dc3 pm3 an3 cd3 ct3), sl3⟩) (c3 : PySem.W.codeIn K cd3 "_law_fill" = true) (k3 : PySem.W.keepIn K (.ref f3) = true)
    {f4 : Addr} {od4 an4 : Option Addr} {sl4 : Array (Option Value)} {oc4 kV4 dc4 pm4 cd4 ct4 : Value}
    (a4 : PySem.W.nsIn K mainGlobals "_law_take" = some (some (.ref f4))) (l4 : K.lookup f4 = some ⟨oc4, od4, .func (PySem.W.fnOf "_law_take" "_law_take" (defArgs s_law_take) (defBody s_law_take) (defScope s_law_take) .none kV4 dc4 pm4 an4 cd4 ct4), sl4⟩) (c4 : PySem.W.codeIn K cd4 "_law_take" = true) (k4 : PySem.W.keepIn K (.ref f4) = true)
    {f5 : Addr} {od5 an5 : Option Addr} {sl5 : Array (Option Value)} {oc5 kV5 dc5 pm5 cd5 ct5 : Value}
    (a5 : PySem.W.nsIn K mainGlobals "_law_monitor" = some (some (.ref f5))) (l5 : K.lookup f5 = some ⟨oc5, od5, .func (PySem.W.fnOf "_law_monitor" "_law_monitor" (defArgs s_law_monitor) (defBody s_law_monitor) (defScope s_law_monitor) .none kV5 dc5 pm5 an5 cd5 ct5), sl5⟩) (c5 : PySem.W.codeIn K cd5 "_law_monitor" = true) (k5 : PySem.W.keepIn K (.ref f5) = true)
    {f6 : Addr} {od6 an6 : Option Addr} {sl6 : Array (Option Value)} {oc6 kV6 dc6 pm6 cd6 ct6 : Value}
    (a6 : PySem.W.nsIn K mainGlobals "law" = some (some (.ref f6))) (l6 : K.lookup f6 = some ⟨oc6, od6, .func (PySem.W.fnOf "law" "law" (defArgs s_law) (defBody s_law) (defScope s_law) .none kV6 dc6 pm6 an6 cd6 ct6), sl6⟩) (c6 : PySem.W.codeIn K cd6 "law" = true) (k6 : PySem.W.keepIn K (.ref f6) = true)
    (z_bool : PySem.W.nsIn K mainGlobals "bool" = some none)
    (z_int : PySem.W.nsIn K mainGlobals "int" = some none)
    (z_isinstance : PySem.W.nsIn K mainGlobals "isinstance" = some none)
    (z_len : PySem.W.nsIn K mainGlobals "len" = some none)
    (z_range : PySem.W.nsIn K mainGlobals "range" = some none)
    (z_tuple : PySem.W.nsIn K mainGlobals "tuple" = some none)
    : ∃ (fa : Fn → Addr) (fdt : Fn → FuncData) (ca : Nat → Addr), fa .law = fa0 ∧ (∀ (s : Shared) (v : Value), BindsTo s (fdt .law) ⟨[v], []⟩ [("script", v)]) ∧ Txt K mg fa fdt ca := by
  have e := hfa.symm.trans (PySem.W.mg_of X G a6)
  cases e
  refine ⟨fun g => match g with | .next_state => f0 | .keeps => f1 | .law_start => f2 | .law_fill => f3 | .law_take => f4 | .law_monitor => f5 | .law => fa0,
    fun g => match g with | .next_state => PySem.W.fnOf "next_state" "next_state" (defArgs s_next_state) (defBody s_next_state) (defScope s_next_state) .none kV0 dc0 pm0 an0 cd0 ct0 | .keeps => PySem.W.fnOf "keeps" "keeps" (defArgs s_keeps) (defBody s_keeps) (defScope s_keeps) .none kV1 dc1 pm1 an1 cd1 ct1 | .law_start => PySem.W.fnOf "_law_start" "_law_start" (defArgs s_law_start) (defBody s_law_start) (defScope s_law_start) .none kV2 dc2 pm2 an2 cd2 ct2 | .law_fill => PySem.W.fnOf "_law_fill" "_law_fill" (defArgs s_law_fill) (defBody s_law_fill) (defScope s_law_fill) .none kV3 dc3 pm3 an3 cd3 ct3 | .law_take => PySem.W.fnOf "_law_take" "_law_take" (defArgs s_law_take) (defBody s_law_take) (defScope s_law_take) .none kV4 dc4 pm4 an4 cd4 ct4 | .law_monitor => PySem.W.fnOf "_law_monitor" "_law_monitor" (defArgs s_law_monitor) (defBody s_law_monitor) (defScope s_law_monitor) .none kV5 dc5 pm5 an5 cd5 ct5 | .law => PySem.W.fnOf "law" "law" (defArgs s_law) (defBody s_law) (defScope s_law) .none kV6 dc6 pm6 an6 cd6 ct6, fun _ => 0, rfl, fun s v => .of_eq rfl, ?_⟩
  exact ⟨fun_mk (st := s_next_state) l0 c0 k0,
    (fun_mk (st := s_next_state) l0 c0 k0).binds (ps := ["row", "state", "event"]) fun _ _ _ _ _ _ us hl => match us, hl with | [_, _, _], _ => rfl,
    PySem.W.mg_of X G a0,
    fun_mk (st := s_keeps) l1 c1 k1,
    (fun_mk (st := s_keeps) l1 c1 k1).binds (ps := ["monitor", "events"]) fun _ _ _ _ _ _ us hl => match us, hl with | [_, _], _ => rfl,
    PySem.W.mg_of X G a1,
    fun_mk (st := s_law_start) l2 c2 k2,
    (fun_mk (st := s_law_start) l2 c2 k2).binds (ps := ["script"]) fun _ _ _ _ _ _ us hl => match us, hl with | [_], _ => rfl,
    PySem.W.mg_of X G a2,
    fun_mk (st := s_law_fill) l3 c3 k3,
    (fun_mk (st := s_law_fill) l3 c3 k3).binds (ps := ["c"]) fun _ _ _ _ _ _ us hl => match us, hl with | [_], _ => rfl,
    PySem.W.mg_of X G a3,
    fun_mk (st := s_law_take) l4 c4 k4,
    (fun_mk (st := s_law_take) l4 c4 k4).binds (ps := ["c", "many"]) fun _ _ _ _ _ _ us hl => match us, hl with | [_, _], _ => rfl,
    PySem.W.mg_of X G a4,
    fun_mk (st := s_law_monitor) l5 c5 k5,
    (fun_mk (st := s_law_monitor) l5 c5 k5).binds (ps := ["c"]) fun _ _ _ _ _ _ us hl => match us, hl with | [_], _ => rfl,
    PySem.W.mg_of X G a5,
    fun_mk (st := s_law) l6 c6 k6,
    (fun_mk (st := s_law) l6 c6 k6).binds (ps := ["script"]) fun _ _ _ _ _ _ us hl => match us, hl with | [_], _ => rfl,
    PySem.W.mg_of X G a6,
    PySem.W.mg_none_of X G z_bool,
    PySem.W.mg_none_of X G z_int,
    PySem.W.mg_none_of X G z_isinstance,
    PySem.W.mg_none_of X G z_len,
    PySem.W.mg_none_of X G z_range,
    PySem.W.mg_none_of X G z_tuple⟩
end B
open PySem PySem.W PyProof.Rows
set_option maxRecDepth 100000 in
set_option maxHeartbeats 0 in
theorem PySem.Challenge.cw_burgeon_k23_monitors_holds : PySem.Challenge.rw_burgeon_k23_monitors.Holds := by
  w_on; o_law; k_head; (case hw => w_witness2)
  k_fill
  refine L3.walk_law (l := PySem.Challenge.rw_burgeon_k23_monitors) (k := 9) rfl rfl ⟨rfl, by decide, by decide⟩ (fun w h Y => PySem.W.kIn_of Y) B.law_true ?F
  case F =>
    intro w mg fa h KX G hmg
    have z := @B.all_mk w _ h mg fa KX G hmg
    obtain ⟨fa2, fdt, ca, e, hb, T⟩ : ∃ (fa2 : B.Fn → Addr) (fdt : B.Fn → FuncData) (ca : Nat → Addr), fa2 .law = fa ∧ (∀ (s : Shared) (v : Value), BindsTo s (fdt .law) ⟨[v], []⟩ [("script", v)]) ∧ B.Txt _ mg fa2 fdt ca := by
      refine' B.all_mk (w := w) KX G hmg ?a0 ?l0 ?c0 ?k0 ?a1 ?l1 ?c1 ?k1 ?a2 ?l2 ?c2 ?k2 ?a3 ?l3 ?c3 ?k3 ?a4 ?l4 ?c4 ?k4 ?a5 ?l5 ?c5 ?k5 ?a6 ?l6 ?c6 ?k6 ?z_bool ?z_int ?z_isinstance ?z_len ?z_range ?z_tuple
      (case a0 => k_is); (case l0 => k_is); (case c0 => k_is); (case k0 => k_is); (case a1 => k_is); (case l1 => k_is); (case c1 => k_is); (case k1 => k_is); (case a2 => k_is); (case l2 => k_is); (case c2 => k_is); (case k2 => k_is); (case a3 => k_is); (case l3 => k_is); (case c3 => k_is); (case k3 => k_is); (case a4 => k_is); (case l4 => k_is); (case c4 => k_is); (case k4 => k_is); (case a5 => k_is); (case l5 => k_is); (case c5 => k_is); (case k5 => k_is); (case a6 => k_is); (case l6 => k_is); (case c6 => k_is); (case k6 => k_is); (case z_bool => k_is); (case z_int => k_is); (case z_isinstance => k_is); (case z_len => k_is); (case z_range => k_is); (case z_tuple => k_is)
    subst e
    exact ⟨fdt .law, ca, hb, fun base _ _ => (B.ok_all T 8).1 .law⟩

