import PyProof.Rows.All
import Wide.All
import OpenK.AllK
import Wide.FinOn
import HandS.ForMost
import HandS.ForExc
import HandS.CallSlots
import HandS.Style
import HandS.Zip
import HandS.IsInst
import HandS.Wide
import HandS.TupAny
import HandS.TupMul
import KE.SortData
import KE.DataFind
import KE.DataMinMax
import KE.DataIsa
import KE.DataAny
import KE.KRevSl
import PySem.Challenge.RW_stonepiles_k63_whole_numbers_of_lines
/-! part VsA -/
set_option Elab.async false
set_option linter.all false
set_option maxRecDepth 100000
set_option maxHeartbeats 4000000
/-! Values as plain data over the hand layer: what is frozen (RF), what is owned (OW), a state of roots (Good). -/
namespace Vs
open PySem PySem.Spec PyProof.Rows L2

def Ex (H H' : Hp) : Prop := ∀ a o, H a = some o → H' a = some o
theorem Ex.refl (H : Hp) : Ex H H := fun _ _ h => h
theorem Ex.trans {H H1 H2 : Hp} (a : Ex H H1) (b : Ex H1 H2) : Ex H H2 := fun x o h => b x o (a x o h)
theorem Ex.new {H : Hp} {p : Addr} {o : HO} (h : H p = none) : Ex H (upd H p o) := fun a u e => by
  rw [upd_ne (ne_of_none e h)]
  exact e
theorem Ex.none {H H' : Hp} {p : Addr} (e : Ex H H') (h : H' p = none) : H p = none := by
  cases h1 : H p with
  | none => rfl
  | some o =>
    rw [e p o h1] at h
    cases h
theorem ex_rd {H H' : Hp} {a : Addr} {u : HO} (e : Ex H H') (h : Rd H a u) : Rd H' a u := by
  rcases h with h | ⟨o, h⟩
  · exact Or.inl (e a _ h)
  · exact Or.inr ⟨o, e a _ h⟩
theorem ex_l {K : PySem.W.Frag} {H H' : Hp} {a : Addr} {xs : List V} (e : Ex H H') (h : SqL K H a xs) : SqL K H' a xs := by
  rcases h with h | h
  · exact Or.inl (ex_rd e h)
  · exact Or.inr h
theorem ex_t {K : PySem.W.Frag} {H H' : Hp} {a : Addr} {xs : List V} (e : Ex H H') (h : SqT K H a xs) : SqT K H' a xs := by
  rcases h with h | h
  · exact Or.inl (ex_rd e h)
  · exact Or.inr h

abbrev Dt := PyData
abbrev St := L2.St
/-- the keys of a dict as data -/
def kD : Key → Dt
  | .inl i => .int i
  | .inr x => .str x
/-- what a tracked dict holds: keys as data, values -/
inductive DicO : HO → List (Dt × V) → Prop
  | k (kvs : List (Key × V)) : DicO (.dK kvs) (kvs.map fun p => (kD p.1, p.2))
  | t (kvs : List (List Key × V)) : DicO (.dT kvs) (kvs.map fun p => (PyData.tuple (p.1.map kD), p.2))

mutual
inductive RF (K : PySem.W.Frag) (W : Hp) : V → Dt → Prop
  | non : RF K W .non .none
  | bl (b : Bool) : RF K W (.bl b) (.bool b)
  | int (i : Int) : RF K W (.int i) (.int i)
  | str (x : Str) : RF K W (.str x) (.str x)
  | tup {a : Addr} {vs : List V} {ds : List Dt} : SqT K W a vs → RFs K W vs ds → RF K W (.ref a) (.tuple ds)
  | lst {a : Addr} {vs : List V} {ds : List Dt} : SqL K W a vs → RFs K W vs ds → RF K W (.ref a) (.list ds)
  | dic {a : Addr} {o : HO} {ks : List Dt} {vs : List V} {ds : List Dt} : Rd W a o → DicO o (ks.zip vs) → ks.length = vs.length → RFs K W vs ds → RF K W (.ref a) (.dict (ks.zip ds))
inductive RFs (K : PySem.W.Frag) (W : Hp) : List V → List Dt → Prop
  | nil : RFs K W [] []
  | cons {v : V} {vs : List V} {d : Dt} {ds : List Dt} : RF K W v d → RFs K W vs ds → RFs K W (v :: vs) (d :: ds)
end

mutual
theorem RF.mono {K : PySem.W.Frag} {W W' : Hp} (e : Ex W W') : ∀ {v : V} {d : Dt}, RF K W v d → RF K W' v d
  | _, _, .non => .non
  | _, _, .bl b => .bl b
  | _, _, .int i => .int i
  | _, _, .str x => .str x
  | _, _, .tup h r => .tup (ex_t e h) (RFs.mono e r)
  | _, _, .lst h r => .lst (ex_l e h) (RFs.mono e r)
  | _, _, .dic h q l r => .dic (ex_rd e h) q l (RFs.mono e r)
theorem RFs.mono {K : PySem.W.Frag} {W W' : Hp} (e : Ex W W') : ∀ {vs : List V} {ds : List Dt}, RFs K W vs ds → RFs K W' vs ds
  | _, _, .nil => .nil
  | _, _, .cons r t => .cons (RF.mono e r) (RFs.mono e t)
end

theorem RFs.length {K : PySem.W.Frag} {W : Hp} : ∀ {vs : List V} {ds : List Dt}, RFs K W vs ds → vs.length = ds.length
  | _, _, .nil => rfl
  | _, _, .cons _ t => congrArg (· + 1) (RFs.length t)
theorem RFs.get {K : PySem.W.Frag} {W : Hp} : ∀ {vs : List V} {ds : List Dt} {i : Nat} {d : Dt}, RFs K W vs ds → ds[i]? = some d → ∃ v, vs[i]? = some v ∧ RF K W v d
  | _, _, _, _, .nil, e => by simp at e
  | _, _, 0, _, .cons r _, e => by simp at e; subst e; exact ⟨_, rfl, r⟩
  | _, _, i + 1, d, .cons r t, e => by
    obtain ⟨u, h1, h2⟩ := RFs.get (i := i) (d := d) t (by simpa using e)
    exact ⟨u, by simpa using h1, h2⟩
theorem RFs.append {K : PySem.W.Frag} {W : Hp} : ∀ {vs ws : List V} {ds es : List Dt}, RFs K W vs ds → RFs K W ws es → RFs K W (vs ++ ws) (ds ++ es)
  | _, _, _, _, .nil, s => s
  | _, _, _, _, .cons r t, s => .cons r (RFs.append t s)
theorem RFs.take {K : PySem.W.Frag} {W : Hp} : ∀ {vs : List V} {ds : List Dt} (n : Nat), RFs K W vs ds → RFs K W (vs.take n) (ds.take n)
  | _, _, 0, _ => .nil
  | _, _, _ + 1, .nil => .nil
  | _, _, n + 1, .cons r t => .cons r (RFs.take n t)
theorem RFs.drop {K : PySem.W.Frag} {W : Hp} : ∀ {vs : List V} {ds : List Dt} (n : Nat), RFs K W vs ds → RFs K W (vs.drop n) (ds.drop n)
  | _, _, 0, r => r
  | _, _, _ + 1, .nil => .nil
  | _, _, n + 1, .cons _ t => RFs.drop n t
theorem RFs.reverse {K : PySem.W.Frag} {W : Hp} : ∀ {vs : List V} {ds : List Dt}, RFs K W vs ds → RFs K W vs.reverse ds.reverse
  | _, _, .nil => .nil
  | _, _, .cons r t => by
    rw [List.reverse_cons, List.reverse_cons]
    exact RFs.append (RFs.reverse t) (.cons r .nil)
theorem RFs.set {K : PySem.W.Frag} {W : Hp} {v : V} {d : Dt} (r : RF K W v d) : ∀ {vs : List V} {ds : List Dt} (i : Nat), RFs K W vs ds → RFs K W (vs.set i v) (ds.set i d)
  | _, _, _, .nil => .nil
  | _, _, 0, .cons _ t => .cons r t
  | _, _, i + 1, .cons q t => .cons q (RFs.set r i t)
theorem RFs.erase {K : PySem.W.Frag} {W : Hp} : ∀ {vs : List V} {ds : List Dt} (i : Nat), RFs K W vs ds → RFs K W (vs.eraseIdx i) (ds.eraseIdx i)
  | _, _, _, .nil => .nil
  | _, _, 0, .cons _ t => t
  | _, _, i + 1, .cons q t => .cons q (RFs.erase i t)
theorem RFs.dropLast {K : PySem.W.Frag} {W : Hp} {vs : List V} {ds : List Dt} (r : RFs K W vs ds) : RFs K W vs.dropLast ds.dropLast := by
  rw [List.dropLast_eq_take, List.dropLast_eq_take, r.length]
  exact r.take _
theorem RFs.rep {K : PySem.W.Frag} {W : Hp} {vs : List V} {ds : List Dt} (r : RFs K W vs ds) : ∀ k : Nat, RFs K W (List.replicate k vs).flatten (List.replicate k ds).flatten
  | 0 => .nil
  | k + 1 => by
    rw [List.replicate_succ, List.replicate_succ, List.flatten_cons, List.flatten_cons]
    exact RFs.append r (RFs.rep r k)
theorem RFs.ints {K : PySem.W.Frag} {W : Hp} : ∀ ns : List Int, RFs K W (ns.map V.int) (ns.map PyData.int)
  | [] => .nil
  | n :: r => .cons (.int n) (RFs.ints r)
theorem RFs.toInts {K : PySem.W.Frag} {W : Hp} : ∀ {vs : List V} {ns : List Int}, RFs K W vs (ns.map PyData.int) → vs = ns.map V.int
  | _, [], .nil => rfl
  | _, n :: r, .cons (.int _) t => by rw [List.map_cons, RFs.toInts t]
theorem RFs.toBls {K : PySem.W.Frag} {W : Hp} : ∀ {vs : List V} {bs : List Bool}, RFs K W vs (bs.map PyData.bool) → vs = bs.map V.bl
  | _, [], .nil => rfl
  | _, n :: r, .cons (.bl _) t => by rw [List.map_cons, RFs.toBls t]

/-- the shape of a root: frozen, or an owned list or dict with items of a shape -/
inductive Sh where
  | F
  | O (s : Sh)
  deriving DecidableEq
def Sh.le : Sh → Sh → Bool
  | .F, _ => true
  | .O s, .O t => s.le t
  | .O _, .F => false

mutual
inductive OW (K : PySem.W.Frag) (H W : Hp) : Sh → V → Dt → List Addr → Prop
  | F {v : V} {d : Dt} : RF K W v d → OW K H W .F v d []
  | lst {s : Sh} {a : Addr} {vs : List V} {ds : List Dt} {fp : List Addr} : H a = some (.lst vs) → W a = none → OWs K H W s vs ds fp → OW K H W (.O s) (.ref a) (.list ds) (a :: fp)
  | dic {s : Sh} {a : Addr} {o : HO} {ks : List Dt} {vs : List V} {ds : List Dt} {fp : List Addr} : H a = some o → W a = none → DicO o (ks.zip vs) → ks.length = vs.length → OWs K H W s vs ds fp →
      OW K H W (.O s) (.ref a) (.dict (ks.zip ds)) (a :: fp)
inductive OWs (K : PySem.W.Frag) (H W : Hp) : Sh → List V → List Dt → List Addr → Prop
  | nil {s : Sh} : OWs K H W s [] [] []
  | cons {s : Sh} {v : V} {vs : List V} {d : Dt} {ds : List Dt} {f1 f2 : List Addr} : OW K H W s v d f1 → OWs K H W s vs ds f2 → OWs K H W s (v :: vs) (d :: ds) (f1 ++ f2)
end

/-- the footprint's objects stand, W grows apart from it -/
def Apart (W' : Hp) (fp : List Addr) : Prop := ∀ a ∈ fp, W' a = none
def SameOn (H H' : Hp) (fp : List Addr) : Prop := ∀ a ∈ fp, H' a = H a

mutual
theorem OW.move {K : PySem.W.Frag} {H H' W W' : Hp} (e : Ex W W') : ∀ {s : Sh} {v : V} {d : Dt} {fp : List Addr}, OW K H W s v d fp → SameOn H H' fp → Apart W' fp → OW K H' W' s v d fp
  | _, _, _, _, .F r, _, _ => .F (r.mono e)
  | _, _, _, _, .lst h w r, q, p => .lst (by rw [q _ List.mem_cons_self]; exact h) (p _ List.mem_cons_self) (OWs.move e r (fun a ha => q a (List.mem_cons_of_mem _ ha)) fun a ha => p a (List.mem_cons_of_mem _ ha))
  | _, _, _, _, .dic h w k l r, q, p => .dic (by rw [q _ List.mem_cons_self]; exact h) (p _ List.mem_cons_self) k l (OWs.move e r (fun a ha => q a (List.mem_cons_of_mem _ ha)) fun a ha => p a (List.mem_cons_of_mem _ ha))
theorem OWs.move {K : PySem.W.Frag} {H H' W W' : Hp} (e : Ex W W') : ∀ {s : Sh} {vs : List V} {ds : List Dt} {fp : List Addr}, OWs K H W s vs ds fp → SameOn H H' fp → Apart W' fp → OWs K H' W' s vs ds fp
  | _, _, _, _, .nil, _, _ => .nil
  | _, _, _, _, .cons r t, q, p => .cons (OW.move e r (fun a ha => q a (List.mem_append_left _ ha)) fun a ha => p a (List.mem_append_left _ ha))
      (OWs.move e t (fun a ha => q a (List.mem_append_right _ ha)) fun a ha => p a (List.mem_append_right _ ha))
end
mutual
theorem OW.apart {K : PySem.W.Frag} {H W : Hp} : ∀ {s : Sh} {v : V} {d : Dt} {fp : List Addr}, OW K H W s v d fp → Apart W fp
  | _, _, _, _, .F _ => fun _ h => nomatch h
  | _, _, _, _, .lst _ w r => fun a ha => (List.mem_cons.mp ha).elim (fun z => by rw [z]; exact w) fun z => OWs.apart r a z
  | _, _, _, _, .dic _ w _ _ r => fun a ha => (List.mem_cons.mp ha).elim (fun z => by rw [z]; exact w) fun z => OWs.apart r a z
theorem OWs.apart {K : PySem.W.Frag} {H W : Hp} : ∀ {s : Sh} {vs : List V} {ds : List Dt} {fp : List Addr}, OWs K H W s vs ds fp → Apart W fp
  | _, _, _, _, .nil => fun _ h => nomatch h
  | _, _, _, _, .cons r t => fun a ha => (List.mem_append.mp ha).elim (fun z => OW.apart r a z) fun z => OWs.apart t a z
end
mutual
theorem OW.there {K : PySem.W.Frag} {H W : Hp} : ∀ {s : Sh} {v : V} {d : Dt} {fp : List Addr}, OW K H W s v d fp → ∀ a ∈ fp, ∃ o, H a = some o
  | _, _, _, _, .F _ => fun _ h => nomatch h
  | _, _, _, _, .lst h _ r => fun a ha => (List.mem_cons.mp ha).elim (fun z => by rw [z]; exact ⟨_, h⟩) fun z => OWs.there r a z
  | _, _, _, _, .dic h _ _ _ r => fun a ha => (List.mem_cons.mp ha).elim (fun z => by rw [z]; exact ⟨_, h⟩) fun z => OWs.there r a z
theorem OWs.there {K : PySem.W.Frag} {H W : Hp} : ∀ {s : Sh} {vs : List V} {ds : List Dt} {fp : List Addr}, OWs K H W s vs ds fp → ∀ a ∈ fp, ∃ o, H a = some o
  | _, _, _, _, .nil => fun _ h => nomatch h
  | _, _, _, _, .cons r t => fun a ha => (List.mem_append.mp ha).elim (fun z => OW.there r a z) fun z => OWs.there t a z
end
/- what is owned is to be read at the heap itself -/
mutual
theorem OW.view {K : PySem.W.Frag} {H W : Hp} (e : Ex W H) : ∀ {s : Sh} {v : V} {d : Dt} {fp : List Addr}, OW K H W s v d fp → RF K H v d
  | _, _, _, _, .F r => r.mono e
  | _, _, _, _, .lst h _ r => .lst (.inl (.inl h)) (OWs.view e r)
  | _, _, _, _, .dic h _ k l r => .dic (.inl h) k l (OWs.view e r)
theorem OWs.view {K : PySem.W.Frag} {H W : Hp} (e : Ex W H) : ∀ {s : Sh} {vs : List V} {ds : List Dt} {fp : List Addr}, OWs K H W s vs ds fp → RFs K H vs ds
  | _, _, _, _, .nil => .nil
  | _, _, _, _, .cons r t => .cons (OW.view e r) (OWs.view e t)
end
theorem OWs.frozen {K : PySem.W.Frag} {H W : Hp} : ∀ {vs : List V} {ds : List Dt} {fp : List Addr}, OWs K H W .F vs ds fp → RFs K W vs ds ∧ fp = []
  | _, _, _, .nil => ⟨.nil, rfl⟩
  | _, _, _, .cons (.F r) t => by
    obtain ⟨h1, h2⟩ := OWs.frozen t
    exact ⟨.cons r h1, by rw [h2]; rfl⟩
theorem OWs.ofF {K : PySem.W.Frag} {H W : Hp} : ∀ {vs : List V} {ds : List Dt}, RFs K W vs ds → OWs K H W .F vs ds []
  | _, _, .nil => .nil
  | _, _, .cons r t => .cons (f1 := []) (.F r) (OWs.ofF t)
theorem OWs.length {K : PySem.W.Frag} {H W : Hp} : ∀ {s : Sh} {vs : List V} {ds : List Dt} {fp : List Addr}, OWs K H W s vs ds fp → vs.length = ds.length
  | _, _, _, _, .nil => rfl
  | _, _, _, _, .cons _ t => congrArg (· + 1) (OWs.length t)

/-- a part of what is owned is frozen: the world grows by it -/
def grow (W H : Hp) (fs : List Addr) : Hp := fun a => if a ∈ fs then H a else W a
theorem grow_ex {W H : Hp} {fs : List Addr} (p : Apart W fs) : Ex W (grow W H fs) := fun a o h => by
  unfold grow
  split
  · next hm => rw [p a hm] at h; cases h
  · exact h
theorem grow_out {W H : Hp} {fs : List Addr} {a : Addr} (h : a ∉ fs) : grow W H fs a = W a := if_neg h
theorem grow_in {W H : Hp} {fs : List Addr} {a : Addr} (h : a ∈ fs) : grow W H fs a = H a := if_pos h

mutual
/-- from a shape to a lesser one: some addresses gs go, fs stay -/
theorem OW.weak {K : PySem.W.Frag} {H W : Hp} : ∀ {s : Sh} {v : V} {d : Dt} {fp : List Addr} (t : Sh), OW K H W s v d fp → t.le s = true → ∃ fs gs : List Addr, (fs ++ gs).Perm fp ∧
    ∀ W', Ex W W' → (∀ a ∈ gs, W' a = H a) → Apart W' fs → OW K H W' t v d fs
  | _, _, _, fp, .F, h, _ => by
    refine ⟨[], fp, List.Perm.refl _, fun W' e g _ => .F ?_⟩
    exact OW.freeze h W' e g
  | _, _, _, _, .O t, .lst h w r, le => by
    obtain ⟨fs, gs, p, q⟩ := OWs.weak t r le
    refine ⟨_ :: fs, gs, List.Perm.cons _ p, fun W' e g ap => .lst h (ap _ List.mem_cons_self) (q W' e g fun a ha => ap a (List.mem_cons_of_mem _ ha))⟩
  | _, _, _, _, .O t, .dic h w k l r, le => by
    obtain ⟨fs, gs, p, q⟩ := OWs.weak t r le
    refine ⟨_ :: fs, gs, List.Perm.cons _ p, fun W' e g ap => .dic h (ap _ List.mem_cons_self) k l (q W' e g fun a ha => ap a (List.mem_cons_of_mem _ ha))⟩
  | _, _, _, _, .O t, .F r, le => by simp [Sh.le] at le
theorem OWs.weak {K : PySem.W.Frag} {H W : Hp} : ∀ {s : Sh} {vs : List V} {ds : List Dt} {fp : List Addr} (t : Sh), OWs K H W s vs ds fp → t.le s = true → ∃ fs gs : List Addr, (fs ++ gs).Perm fp ∧
    ∀ W', Ex W W' → (∀ a ∈ gs, W' a = H a) → Apart W' fs → OWs K H W' t vs ds fs
  | _, _, _, _, t, .nil, _ => ⟨[], [], List.Perm.refl _, fun _ _ _ _ => .nil⟩
  | _, _, _, _, t, .cons r rs, le => by
    obtain ⟨fs, gs, p, q⟩ := OW.weak t r le
    obtain ⟨fs2, gs2, p2, q2⟩ := OWs.weak t rs le
    refine ⟨fs ++ fs2, gs ++ gs2, ?_, fun W' e g ap => .cons (q W' e (fun a ha => g a (List.mem_append_left _ ha)) fun a ha => ap a (List.mem_append_left _ ha)) (q2 W' e (fun a ha => g a (List.mem_append_right _ ha)) fun a ha => ap a (List.mem_append_right _ ha))⟩
    refine List.Perm.trans ?_ (List.Perm.append p p2)
    rw [List.append_assoc, List.append_assoc]
    refine List.Perm.append_left _ ?_
    rw [← List.append_assoc, ← List.append_assoc]
    exact List.Perm.append_right _ List.perm_append_comm
theorem OW.freeze {K : PySem.W.Frag} {H W : Hp} : ∀ {s : Sh} {v : V} {d : Dt} {fp : List Addr}, OW K H W s v d fp → ∀ W', Ex W W' → (∀ a ∈ fp, W' a = H a) → RF K W' v d
  | _, _, _, _, .F r, W', e, _ => r.mono e
  | _, _, _, _, .lst h _ r, W', e, g => .lst (.inl (.inl (by rw [g _ List.mem_cons_self]; exact h))) (OWs.freeze r W' e fun a ha => g a (List.mem_cons_of_mem _ ha))
  | _, _, _, _, .dic h _ k l r, W', e, g => .dic (.inl (by rw [g _ List.mem_cons_self]; exact h)) k l (OWs.freeze r W' e fun a ha => g a (List.mem_cons_of_mem _ ha))
theorem OWs.freeze {K : PySem.W.Frag} {H W : Hp} : ∀ {s : Sh} {vs : List V} {ds : List Dt} {fp : List Addr}, OWs K H W s vs ds fp → ∀ W', Ex W W' → (∀ a ∈ fp, W' a = H a) → RFs K W' vs ds
  | _, _, _, _, .nil, _, _, _ => .nil
  | _, _, _, _, .cons r t, W', e, g => .cons (OW.freeze r W' e fun a ha => g a (List.mem_append_left _ ha)) (OWs.freeze t W' e fun a ha => g a (List.mem_append_right _ ha))
end

/-! ### roots -/
structure Root where
  sh : Sh
  v : Option V
  d : Dt
inductive Roots (K : PySem.W.Frag) (H W : Hp) : List Root → List Addr → Prop
  | nil : Roots K H W [] []
  | cons {s : Sh} {v : V} {d : Dt} {R : List Root} {f1 f2 : List Addr} : OW K H W s v d f1 → Roots K H W R f2 → Roots K H W (⟨s, some v, d⟩ :: R) (f1 ++ f2)
def Good (K : PySem.W.Frag) (H W : Hp) (R : List Root) : Prop := Ex W H ∧ ∃ fp, Roots K H W R fp ∧ fp.Nodup

section
variable {K : PySem.W.Frag} {H H' W W' : Hp} {R R' : List Root} {fp : List Addr} {r : Root}
theorem Roots.move (e : Ex W W') : ∀ {R : List Root} {fp : List Addr}, Roots K H W R fp → SameOn H H' fp → Apart W' fp → Roots K H' W' R fp
  | _, _, .nil, _, _ => .nil
  | _, _, .cons r t, q, p => .cons (r.move e (fun a ha => q a (List.mem_append_left _ ha)) fun a ha => p a (List.mem_append_left _ ha)) (Roots.move e t (fun a ha => q a (List.mem_append_right _ ha)) fun a ha => p a (List.mem_append_right _ ha))
theorem Roots.apart : ∀ {R : List Root} {fp : List Addr}, Roots K H W R fp → Apart W fp
  | _, _, .nil => fun _ h => nomatch h
  | _, _, .cons r t => fun a ha => (List.mem_append.mp ha).elim (fun z => r.apart a z) fun z => Roots.apart t a z
theorem Roots.there : ∀ {R : List Root} {fp : List Addr}, Roots K H W R fp → ∀ a ∈ fp, ∃ o, H a = some o
  | _, _, .nil => fun _ h => nomatch h
  | _, _, .cons r t => fun a ha => (List.mem_append.mp ha).elim (fun z => r.there a z) fun z => Roots.there t a z
theorem Roots.perm (p : R.Perm R') : ∀ {fp : List Addr}, Roots K H W R fp → ∃ fp', fp.Perm fp' ∧ Roots K H W R' fp' := by
  induction p with
  | nil => exact fun {fp} h => ⟨fp, List.Perm.refl _, h⟩
  | cons x _ ih =>
    intro fp h
    cases h with
    | cons a t =>
      obtain ⟨g, q, t'⟩ := ih t
      exact ⟨_, List.Perm.append_left _ q, .cons a t'⟩
  | swap x y l =>
    intro fp h
    cases h with
    | cons a t =>
      cases t with
      | cons b u =>
        refine ⟨_, ?_, .cons b (.cons a u)⟩
        rw [← List.append_assoc, ← List.append_assoc]
        exact List.Perm.append_right _ List.perm_append_comm
  | trans _ _ ih1 ih2 =>
    intro fp h
    obtain ⟨g, q, t⟩ := ih1 h
    obtain ⟨g2, q2, t2⟩ := ih2 t
    exact ⟨g2, q.trans q2, t2⟩
theorem Good.perm (g : Good K H W R) (p : R.Perm R') : Good K H W R' := by
  obtain ⟨e, fp, h, n⟩ := g
  obtain ⟨fp', q, h'⟩ := h.perm p
  exact ⟨e, fp', h', (q.nodup_iff).mp n⟩
theorem Good.tail (g : Good K H W (r :: R)) : Good K H W R := by
  obtain ⟨e, fp, h, n⟩ := g
  cases h with
  | cons a t => exact ⟨e, _, t, (List.nodup_append.mp n).2.1⟩
theorem Good.drop : ∀ {T : List Root}, Good K H W (T ++ R) → Good K H W R
  | [], g => g
  | _ :: _, g => Good.drop (Good.tail g)
theorem Good.head {s : Sh} {v : Option V} {d : Dt} (g : Good K H W (⟨s, v, d⟩ :: R)) : ∃ u fp, v = some u ∧ OW K H W s u d fp := by
  obtain ⟨e, fp, h, n⟩ := g
  cases h with
  | cons a t => exact ⟨_, _, rfl, a⟩
theorem Good.view {s : Sh} {v : V} {d : Dt} (g : Good K H W (⟨s, some v, d⟩ :: R)) : RF K H v d := by
  obtain ⟨u, fp, e, o⟩ := g.head
  cases e
  exact o.view g.1
theorem perm_mem {α : Type} {x : α} : ∀ {l : List α}, x ∈ l → ∃ l', l.Perm (x :: l')
  | y :: l, h => by
    rcases List.mem_cons.mp h with e | h
    · subst e; exact ⟨l, List.Perm.refl _⟩
    · obtain ⟨l', p⟩ := perm_mem h
      exact ⟨y :: l', (List.Perm.cons y p).trans (List.Perm.swap _ _ _)⟩
theorem Good.viewAt {s : Sh} {v : Option V} {d : Dt} (g : Good K H W R) (h : ⟨s, v, d⟩ ∈ R) : ∃ u, v = some u ∧ RF K H u d := by
  obtain ⟨l, p⟩ := perm_mem h
  have g' := g.perm p
  obtain ⟨u, fp, e, o⟩ := g'.head
  exact ⟨u, e, o.view g.1⟩
theorem Good.frozenAt {v : Option V} {d : Dt} (g : Good K H W R) (h : ⟨.F, v, d⟩ ∈ R) : ∃ u, v = some u ∧ RF K W u d := by
  obtain ⟨l, p⟩ := perm_mem h
  have g' := g.perm p
  obtain ⟨u, fp, e, o⟩ := g'.head
  cases o with
  | F r => exact ⟨u, e, r⟩
/-- a frozen root more -/
theorem Good.addF {v : V} {d : Dt} (g : Good K H W R) (r : RF K W v d) : Good K H W (⟨.F, some v, d⟩ :: R) := by
  obtain ⟨e, fp, h, n⟩ := g
  exact ⟨e, fp, .cons (f1 := []) (.F r) h, n⟩
/-- one root is frozen, in part or whole -/
theorem Good.weak {s t : Sh} {v : Option V} {d : Dt} (g : Good K H W (⟨s, v, d⟩ :: R)) (le : t.le s = true) : ∃ W', Ex W W' ∧ Good K H W' (⟨t, v, d⟩ :: R) := by
  obtain ⟨e, fp, h, n⟩ := g
  cases h with
  | cons a tl =>
    rename_i u f1 f2
    obtain ⟨fs, gs, p, q⟩ := OW.weak t a le
    have nd := List.nodup_append.mp n
    have dis : ∀ x ∈ f1, x ∉ f2 := fun x h1 h2 => nd.2.2 x h1 x h2 rfl
    have pm : ∀ x, x ∈ fs ++ gs ↔ x ∈ f1 := fun x => p.mem_iff
    have nfg : (fs ++ gs).Nodup := (p.nodup_iff).mpr nd.1
    have nfg2 := List.nodup_append.mp nfg
    have ap1 : Apart W gs := fun x hx => a.apart x ((pm x).mp (List.mem_append_right _ hx))
    have ew : Ex W (grow W H gs) := grow_ex ap1
    refine ⟨grow W H gs, ew, fun x o hx => ?_, fs ++ f2, .cons (q _ ew (fun x hx => grow_in hx) fun x hx => ?_) (tl.move ew (fun _ _ => rfl) fun x hx => ?_), ?_⟩
    · unfold grow at hx
      split at hx
      · exact hx
      · exact e x o hx
    · have : x ∉ gs := fun z => nfg2.2.2 x hx x z rfl
      rw [grow_out this]
      exact a.apart x ((pm x).mp (List.mem_append_left _ hx))
    · have : x ∉ gs := fun z => dis x ((pm x).mp (List.mem_append_right _ z)) hx
      rw [grow_out this]
      exact tl.apart x hx
    · refine List.nodup_append.mpr ⟨nfg2.1, nd.2.1, fun x hx y hy => fun z => ?_⟩
      subst z
      exact dis x ((pm x).mp (List.mem_append_left _ hx)) hy
/-- a new frozen object -/
theorem Good.newF {p : Addr} {o : HO} {d : Dt} (g : Good K H W R) (n : H p = none) (r : ∀ W', Ex W W' → W' p = some o → RF K W' (.ref p) d) : ∃ W', Ex W W' ∧ Good K (upd H p o) W' (⟨.F, some (.ref p), d⟩ :: R) := by
  obtain ⟨e, fp, h, nd⟩ := g
  have nW : W p = none := e.none n
  have ew : Ex W (upd W p o) := Ex.new nW
  have np : p ∉ fp := fun z => by
    obtain ⟨u, hu⟩ := h.there p z
    rw [n] at hu; cases hu
  refine ⟨upd W p o, ew, fun a u hu => ?_, fp, .cons (f1 := []) (.F (r _ ew upd_same)) (h.move ew (fun a ha => upd_ne fun z => np (by rw [← z]; exact ha)) fun a ha => ?_), nd⟩
  · by_cases z : a = p
    · subst z; rw [upd_same] at hu ⊢; exact hu
    · rw [upd_ne z] at hu ⊢; exact e a u hu
  · rw [upd_ne (fun z : a = p => np (by rw [← z]; exact ha))]
    exact h.apart a ha
/-- a new owned object over frozen items -/
theorem Good.newL {p : Addr} {vs : List V} {ds : List Dt} (g : Good K H W R) (n : H p = none) (r : RFs K W vs ds) : Good K (upd H p (.lst vs)) W (⟨.O .F, some (.ref p), .list ds⟩ :: R) := by
  obtain ⟨e, fp, h, nd⟩ := g
  have nW : W p = none := e.none n
  have np : p ∉ fp := fun z => by
    obtain ⟨u, hu⟩ := h.there p z
    rw [n] at hu; cases hu
  have ee : Ex W (upd H p (.lst vs)) := e.trans (Ex.new n)
  refine ⟨ee, p :: [] ++ fp, .cons (.lst upd_same nW (OWs.ofF r)) (h.move (Ex.refl _) (fun a ha => upd_ne fun z => np (by rw [← z]; exact ha)) h.apart), ?_⟩
  exact List.nodup_cons.mpr ⟨np, nd⟩
theorem Good.newD {p : Addr} {o : HO} {ks : List Dt} {vs : List V} {ds : List Dt} (g : Good K H W R) (n : H p = none) (q : DicO o (ks.zip vs)) (l : ks.length = vs.length) (r : RFs K W vs ds) :
    Good K (upd H p o) W (⟨.O .F, some (.ref p), .dict (ks.zip ds)⟩ :: R) := by
  obtain ⟨e, fp, h, nd⟩ := g
  have nW : W p = none := e.none n
  have np : p ∉ fp := fun z => by
    obtain ⟨u, hu⟩ := h.there p z
    rw [n] at hu; cases hu
  have ee : Ex W (upd H p o) := e.trans (Ex.new n)
  refine ⟨ee, p :: [] ++ fp, .cons (.dic upd_same nW q l (OWs.ofF r)) (h.move (Ex.refl _) (fun a ha => upd_ne fun z => np (by rw [← z]; exact ha)) h.apart), ?_⟩
  exact List.nodup_cons.mpr ⟨np, nd⟩
/-- an owned list with items of any shape is written -/
theorem Good.write {s : Sh} {a : Addr} {ds : List Dt} (g : Good K H W (⟨.O s, some (.ref a), .list ds⟩ :: R)) : ∃ vs fp, H a = some (.lst vs) ∧ OWs K H W s vs ds fp ∧
    ∀ (vs' : List V) (ds' : List Dt) (fp' : List Addr), OWs K H W s vs' ds' fp' → (∀ x ∈ fp', x ∈ fp) → fp'.Nodup → Good K (upd H a (.lst vs')) W (⟨.O s, some (.ref a), .list ds'⟩ :: R) := by
  obtain ⟨e, fp, h, nd⟩ := g
  cases h with
  | cons o tl =>
    cases o with
    | lst h1 h2 h3 =>
      rename_i f2 vs f1
      have nd1 := List.nodup_append.mp nd
      have nd2 := List.nodup_cons.mp nd1.1
      refine ⟨vs, _, h1, h3, fun vs' ds' fp' r sub nf => ?_⟩
      have na : a ∉ fp' := fun z => nd2.1 (sub a z)
      have na2 : a ∉ f2 := fun z => nd1.2.2 a List.mem_cons_self a z rfl
      refine ⟨fun b u hb => ?_, (a :: fp') ++ f2, .cons (.lst upd_same h2 (r.move (Ex.refl _) (fun b hb => upd_ne fun z => na (z ▸ hb)) r.apart)) (tl.move (Ex.refl _) (fun b hb => upd_ne fun z => na2 (z ▸ hb)) tl.apart), ?_⟩
      · have : b ≠ a := fun z => by rw [z, h2] at hb; cases hb
        rw [upd_ne this]
        exact e b u hb
      · refine List.nodup_append.mpr ⟨List.nodup_cons.mpr ⟨na, nf⟩, nd1.2.1, fun x hx y hy z => ?_⟩
        subst z
        rcases List.mem_cons.mp hx with z | z
        · exact na2 (z ▸ hy)
        · exact nd1.2.2 x (List.mem_cons_of_mem _ (sub x z)) x hy rfl
theorem Good.writeF {a : Addr} {ds : List Dt} (g : Good K H W (⟨.O .F, some (.ref a), .list ds⟩ :: R)) : ∃ vs, H a = some (.lst vs) ∧ RFs K W vs ds ∧
    ∀ (vs' : List V) (ds' : List Dt), RFs K W vs' ds' → Good K (upd H a (.lst vs')) W (⟨.O .F, some (.ref a), .list ds'⟩ :: R) := by
  obtain ⟨vs, fp, h1, h2, h3⟩ := g.write
  exact ⟨vs, h1, h2.frozen.1, fun vs' ds' r => h3 vs' ds' [] (OWs.ofF r) (fun _ z => nomatch z) List.nodup_nil⟩
theorem Good.writeD {a : Addr} {kds : List (Dt × Dt)} (g : Good K H W (⟨.O .F, some (.ref a), .dict kds⟩ :: R)) : ∃ (o : HO) (ks : List Dt) (vs : List V) (ds : List Dt), H a = some o ∧ DicO o (ks.zip vs) ∧ ks.length = vs.length ∧ RFs K W vs ds ∧ kds = ks.zip ds ∧
    ∀ (o' : HO) (ks' : List Dt) (vs' : List V) (ds' : List Dt), DicO o' (ks'.zip vs') → ks'.length = vs'.length → RFs K W vs' ds' → Good K (upd H a o') W (⟨.O .F, some (.ref a), .dict (ks'.zip ds')⟩ :: R) := by
  obtain ⟨e, fp, h, nd⟩ := g
  cases h with
  | cons o tl =>
    cases o with
    | dic h1 h2 h3 h4 h5 =>
      obtain ⟨h6, e6⟩ := h5.frozen
      subst e6
      rename_i f2 oo ks vs ds
      have nd1 := List.nodup_append.mp nd
      refine ⟨oo, ks, vs, ds, h1, h3, h4, h6, rfl, fun o' ks' vs' ds' q l r => ?_⟩
      have na2 : a ∉ f2 := fun z => nd1.2.2 a List.mem_cons_self a z rfl
      refine ⟨fun b u hb => ?_, (a :: []) ++ f2, .cons (.dic upd_same h2 q l (OWs.ofF r)) (tl.move (Ex.refl _) (fun b hb => upd_ne fun z => na2 (z ▸ hb)) tl.apart), nd⟩
      have : b ≠ a := fun z => by rw [z, h2] at hb; cases hb
      rw [upd_ne this]
      exact e b u hb
end

/-! ### the frame's slots as roots -/
abbrev Env := List (Option Dt)
def er : St → List Sh → Env → List Root
  | x :: σ, g :: Γ, some d :: ρ => ⟨g, x, d⟩ :: er σ Γ ρ
  | _ :: σ, _ :: Γ, none :: ρ => er σ Γ ρ
  | _, _, _ => []
theorem er_out : ∀ (i : Nat) {σ : St} {Γ : List Sh} {ρ : Env} (x : Option V) (g : Sh), er (σ.set i x) (Γ.set i g) (ρ.set i none) = er σ Γ (ρ.set i none)
  | _, [], Γ, ρ, x, g => by cases Γ <;> simp [er]
  | _, _ :: _, [], ρ, x, g => by simp [er]
  | 0, _ :: _, _ :: _, [], x, g => by simp [er]
  | i + 1, _ :: _, _ :: _, [], x, g => by simp [er]
  | 0, y :: σ, h :: Γ, r :: ρ, x, g => by simp [er]
  | i + 1, y :: σ, h :: Γ, r :: ρ, x, g => by
    have ih := er_out i (σ := σ) (Γ := Γ) (ρ := ρ) x g
    cases r with
    | none => simpa [er] using ih
    | some d => simpa [er] using ih
theorem er_in : ∀ (i : Nat) {σ : St} {Γ : List Sh} {ρ : Env} {x : Option V} {g : Sh} {d : Dt}, σ[i]? = some x → Γ[i]? = some g → ρ[i]? = some (some d) → (er σ Γ ρ).Perm (⟨g, x, d⟩ :: er σ Γ (ρ.set i none))
  | _, [], Γ, ρ, x, g, d, h, _, _ => by simp at h
  | _, _ :: _, [], ρ, x, g, d, _, h, _ => by simp at h
  | _, _ :: _, _ :: _, [], x, g, d, _, _, h => by simp at h
  | 0, y :: σ, h :: Γ, r :: ρ, x, g, d, e1, e2, e3 => by
    simp at e1 e2 e3
    subst e1; subst e2; subst e3
    simp [er]
  | i + 1, y :: σ, h :: Γ, r :: ρ, x, g, d, e1, e2, e3 => by
    have ih := er_in i (σ := σ) (Γ := Γ) (ρ := ρ) (x := x) (g := g) (d := d) (by simpa using e1) (by simpa using e2) (by simpa using e3)
    cases r with
    | none => simpa [er] using ih
    | some d' =>
      simp only [er, List.set_cons_succ]
      exact (List.Perm.cons _ ih).trans (List.Perm.swap _ _ _)
end Vs

/-! part VsB -/
set_option Elab.async false
set_option linter.all false
set_option maxRecDepth 100000
set_option maxHeartbeats 4000000
/-! The meaning of a body as a function on environments of data (M), and what a reading says of it (RdE, RdT, RdA, RdS, RdI, RdG). -/
namespace Vs
open PySem PySem.Spec PyProof.Rows L2

inductive Exn where
  | mk (cls : Str) (fld : Option Dt)
inductive Out (α : Type) where
  | ok (a : α) (ρ : Env)
  | exc (x : Exn) (ρ : Env)
  | bad
abbrev M (α : Type) := Env → Out α
def rt {α : Type} (a : α) : M α := fun ρ => .ok a ρ
def bnd {α β : Type} (m : M α) (k : α → M β) : M β := fun ρ => match m ρ with
  | .ok a ρ' => k a ρ'
  | .exc x ρ' => .exc x ρ'
  | .bad => .bad
inductive Fl where
  | nx
  | ret (d : Dt)
  | bk
  | ct
def optM {α : Type} (o : Option α) : M α := fun ρ => match o with
  | some a => .ok a ρ
  | none => .bad

structure Ctx where
  K : PySem.W.Frag
  n : Nat
  io : List Nat
  Γr : List Sh
  rs : Sh
  Γl : List Sh
  Γx : List Sh
  xr : Exn → Value → Option Addr → Hp → Prop
  W : Value → Option Addr → St → Hp → Prop

structure Stt (K : PySem.W.Frag) (n : Nat) (H W : Hp) (σ : St) (Γ : List Sh) (ρ : Env) (T : List Root) : Prop where
  l1 : σ.length = n
  l2 : Γ.length = n
  l3 : ρ.length = n
  g : Good K H W (er σ Γ ρ ++ T)
def kp (C : Ctx) (σ σ' : St) : Prop := ∀ i ∈ C.io, σ'[i]? = σ[i]?
theorem kp.refl (C : Ctx) (σ : St) : kp C σ σ := fun _ _ => rfl
theorem kp.trans {C : Ctx} {σ σ1 σ2 : St} (a : kp C σ σ1) (b : kp C σ1 σ2) : kp C σ σ2 := fun i hi => (b i hi).trans (a i hi)
theorem kp.set {C : Ctx} {σ : St} {i : Nat} {x : Option V} (h : i ∉ C.io) : kp C σ (σ.set i x) := fun j hj => by
  rw [List.getElem?_set_ne]
  intro e
  exact h (e ▸ hj)
def XC (C : Ctx) (σ : St) (T : List Root) (W : Hp) (x : Exn) (ρ' : Env) : Prop :=
  ∀ cls d σ' H' W', kp C σ σ' → Ex W W' → C.xr x cls d H' → Stt C.K C.n H' W' σ' C.Γx ρ' T → C.W cls d σ' H'
def Thn {α : Type} (C : Ctx) (σ : St) (T : List Root) (W : Hp) (o : Out α) (P : α → Env → Prop) : Prop := match o with
  | .ok a ρ' => P a ρ'
  | .exc x ρ' => XC C σ T W x ρ'
  | .bad => False
section
variable {C : Ctx} {H H' W W' W1 : Hp} {σ σ' σ1 : St} {Γ Γ' : List Sh} {ρ ρ' : Env} {T R : List Root} {x : Exn}
theorem Good.mid {K : PySem.W.Frag} {A : List Root} (g : Good K H W (A ++ (R ++ T))) : Good K H W (A ++ T) := by
  refine Good.drop (T := R) (g.perm ?_)
  rw [← List.append_assoc, ← List.append_assoc]
  exact List.Perm.append_right _ List.perm_append_comm
theorem Good.mid1 {K : PySem.W.Frag} {A : List Root} {r : Root} (g : Good K H W (A ++ (r :: T))) : Good K H W (A ++ T) := Good.mid (R := [r]) g
theorem Good.toHead {K : PySem.W.Frag} {A : List Root} {r : Root} (g : Good K H W (A ++ (r :: T))) : Good K H W (r :: (A ++ T)) := g.perm List.perm_middle
theorem Good.ofHead {K : PySem.W.Frag} {A : List Root} {r : Root} (g : Good K H W (r :: (A ++ T))) : Good K H W (A ++ (r :: T)) := g.perm List.perm_middle.symm
theorem Stt.mid {K : PySem.W.Frag} {n : Nat} (s : Stt K n H W σ Γ ρ (R ++ T)) : Stt K n H W σ Γ ρ T := ⟨s.l1, s.l2, s.l3, s.g.mid⟩
theorem Stt.mid1 {K : PySem.W.Frag} {n : Nat} {r : Root} (s : Stt K n H W σ Γ ρ (r :: T)) : Stt K n H W σ Γ ρ T := ⟨s.l1, s.l2, s.l3, s.g.mid1⟩
theorem XC.up (k : kp C σ σ1) (e : Ex W W1) (h : XC C σ T W x ρ) : XC C σ1 (R ++ T) W1 x ρ := fun cls d σ' H' W' k' e' hx s => h cls d σ' H' W' (k.trans k') (e.trans e') hx s.mid
theorem Thn.up {α : Type} {o : Out α} {P P' : α → Env → Prop} (k : kp C σ σ1) (e : Ex W W1) (h : Thn C σ T W o P) (hp : ∀ a ρ, P a ρ → P' a ρ) : Thn C σ1 (R ++ T) W1 o P' := by
  cases o with
  | ok a ρ => exact hp a ρ h
  | exc x ρ => exact XC.up k e h
  | bad => exact h
theorem Thn.up0 {α : Type} {o : Out α} {P P' : α → Env → Prop} (k : kp C σ σ1) (e : Ex W W1) (h : Thn C σ T W o P) (hp : ∀ a ρ, P a ρ → P' a ρ) : Thn C σ1 T W1 o P' := Thn.up (R := []) k e h hp
theorem Thn.imp {α : Type} {o : Out α} {P P' : α → Env → Prop} (h : Thn C σ T W o P) (hp : ∀ a ρ, P a ρ → P' a ρ) : Thn C σ T W o P' := by
  cases o with
  | ok a ρ => exact hp a ρ h
  | exc x ρ => exact h
  | bad => exact h
theorem Thn.bnd {α β : Type} {m : M α} {k : α → M β} {P : β → Env → Prop} (h : Thn C σ T W (bnd m k ρ) P) : Thn C σ T W (m ρ) (fun a ρ1 => Thn C σ T W (k a ρ1) P) := by
  unfold Vs.bnd at h
  cases e : m ρ with
  | ok a ρ1 => rw [e] at h; exact h
  | exc x ρ1 => rw [e] at h; exact h
  | bad => rw [e] at h; exact h

/-! ### slots -/
theorem er_mem {i : Nat} {g : Sh} {v : Option V} {d : Dt} (h1 : σ[i]? = some v) (h2 : Γ[i]? = some g) (h3 : ρ[i]? = some (some d)) : (⟨g, v, d⟩ : Root) ∈ er σ Γ ρ := (er_in i h1 h2 h3).mem_iff.mpr List.mem_cons_self
theorem Stt.at {K : PySem.W.Frag} {n : Nat} {i : Nat} {d : Dt} (s : Stt K n H W σ Γ ρ T) (h : ρ[i]? = some (some d)) : ∃ v g, σ[i]? = some (some v) ∧ Γ[i]? = some g := by
  have hl : i < ρ.length := (List.getElem?_eq_some_iff.mp h).1
  have h1 : i < σ.length := by rw [s.l1, ← s.l3]; exact hl
  have h2 : i < Γ.length := by rw [s.l2, ← s.l3]; exact hl
  have m := er_mem (List.getElem?_eq_getElem h1) (List.getElem?_eq_getElem h2) h
  obtain ⟨u, e, _⟩ := s.g.viewAt (List.mem_append_left T m)
  refine ⟨u, Γ[i], ?_, List.getElem?_eq_getElem h2⟩
  rw [List.getElem?_eq_getElem h1, e]
theorem er_drop {K : PySem.W.Frag} (i : Nat) (g : Good K H W (er σ Γ ρ ++ T)) : Good K H W (er σ Γ (ρ.set i none) ++ T) := by
  cases e : ρ[i]? with
  | none => rw [List.set_eq_of_length_le (by simpa using List.getElem?_eq_none_iff.mp e)]; exact g
  | some o =>
    cases o with
    | none =>
      have : ρ.set i none = ρ := by
        apply List.ext_getElem?
        intro j
        by_cases hj : i = j
        · subst hj
          rw [List.getElem?_set_self (List.getElem?_eq_some_iff.mp e).1, e]
        · rw [List.getElem?_set_ne hj]
      rw [this]; exact g
    | some d =>
      cases e1 : σ[i]? with
      | none =>
        rw [← er_none1 i e1]; exact g
      | some x =>
        cases e2 : Γ[i]? with
        | none => rw [← er_none2 i e2]; exact g
        | some gs =>
          have p := er_in i e1 e2 e
          have g' := g.perm (List.Perm.append_right T p)
          exact g'.tail
where
  er_none1 : ∀ (i : Nat) {σ : St} {Γ : List Sh} {ρ : Env}, σ[i]? = none → er σ Γ ρ = er σ Γ (ρ.set i none)
    | _, [], Γ, ρ, _ => by cases Γ <;> simp [er]
    | _, _ :: _, [], ρ, _ => by simp [er]
    | _, _ :: _, _ :: _, [], _ => by simp [er]
    | 0, y :: σ, h :: Γ, r :: ρ, e => by simp at e
    | i + 1, y :: σ, h :: Γ, r :: ρ, e => by
      have ih := er_none1 i (σ := σ) (Γ := Γ) (ρ := ρ) (by simpa using e)
      cases r with
      | none => simpa [er] using ih
      | some d => simpa [er] using ih
  er_none2 : ∀ (i : Nat) {σ : St} {Γ : List Sh} {ρ : Env}, Γ[i]? = none → er σ Γ ρ = er σ Γ (ρ.set i none)
    | _, [], Γ, ρ, _ => by cases Γ <;> simp [er]
    | _, _ :: _, [], ρ, _ => by simp [er]
    | _, _ :: _, _ :: _, [], _ => by simp [er]
    | 0, y :: σ, h :: Γ, r :: ρ, e => by simp at e
    | i + 1, y :: σ, h :: Γ, r :: ρ, e => by
      have ih := er_none2 i (σ := σ) (Γ := Γ) (ρ := ρ) (by simpa using e)
      cases r with
      | none => simpa [er] using ih
      | some d => simpa [er] using ih
/-- a slot takes a root -/
theorem Stt.put {K : PySem.W.Frag} {n : Nat} {i : Nat} {sh : Sh} {v : V} {d : Dt} (hi : i < n) (s : Stt K n H W σ Γ ρ (⟨sh, some v, d⟩ :: T)) : Stt K n H W (σ.set i (some v)) (Γ.set i sh) (ρ.set i (some d)) T := by
  have g1 := er_drop i s.g
  rw [← er_out i (some v) sh] at g1
  refine ⟨by rw [List.length_set]; exact s.l1, by rw [List.length_set]; exact s.l2, by rw [List.length_set]; exact s.l3, ?_⟩
  have p := er_in (σ := σ.set i (some v)) (Γ := Γ.set i sh) (ρ := ρ.set i (some d)) i (x := some v) (g := sh) (d := d) (List.getElem?_set_self (by rw [s.l1]; exact hi)) (List.getElem?_set_self (by rw [s.l2]; exact hi)) (List.getElem?_set_self (by rw [s.l3]; exact hi))
  rw [List.set_set] at p
  exact (g1.toHead).perm (List.Perm.append_right T p.symm)
/-- a slot's root is taken out -/
theorem Stt.take {K : PySem.W.Frag} {n : Nat} {i : Nat} {sh : Sh} {v : V} {d : Dt} (s : Stt K n H W σ Γ ρ T) (h1 : σ[i]? = some (some v)) (h2 : Γ[i]? = some sh) (h3 : ρ[i]? = some (some d)) : Stt K n H W σ Γ (ρ.set i none) (⟨sh, some v, d⟩ :: T) :=
  ⟨s.l1, s.l2, by rw [List.length_set]; exact s.l3, Good.ofHead (s.g.perm (List.Perm.append_right T (er_in i h1 h2 h3)))⟩
/-- .. and laid back -/
theorem Stt.back {K : PySem.W.Frag} {n : Nat} {i : Nat} {sh : Sh} {v : V} {d : Dt} (h1 : σ[i]? = some (some v)) (h2 : Γ[i]? = some sh) (s : Stt K n H W σ Γ (ρ.set i none) (⟨sh, some v, d⟩ :: T)) : Stt K n H W σ Γ (ρ.set i (some d)) T := by
  have hi : i < n := by rw [← s.l1]; exact (List.getElem?_eq_some_iff.mp h1).1
  have q := s.put hi
  rw [List.set_set] at q
  have e1 : σ.set i (some v) = σ := by
    apply List.ext_getElem?
    intro j
    by_cases hj : i = j
    · subst hj; rw [List.getElem?_set_self (List.getElem?_eq_some_iff.mp h1).1, h1]
    · rw [List.getElem?_set_ne hj]
  have e2 : Γ.set i sh = Γ := by
    apply List.ext_getElem?
    intro j
    by_cases hj : i = j
    · subst hj; rw [List.getElem?_set_self (List.getElem?_eq_some_iff.mp h2).1, h2]
    · rw [List.getElem?_set_ne hj]
  rw [e1, e2] at q
  exact q

def leS : List Sh → List Sh → Bool
  | [], [] => true
  | a :: r, b :: t => a.le b && leS r t
  | _, _ => false
theorem leS_len : ∀ {a b : List Sh}, leS a b = true → a.length = b.length
  | [], [], _ => rfl
  | x :: r, y :: t, h => by
    simp only [leS, Bool.and_eq_true] at h
    simp [leS_len h.2]
  | [], _ :: _, h => by simp [leS] at h
  | _ :: _, [], h => by simp [leS] at h
theorem er_weak {K : PySem.W.Frag} : ∀ {σ : St} {Γ Γ' : List Sh} {ρ : Env} {W : Hp} {T : List Root}, leS Γ' Γ = true → Good K H W (er σ Γ ρ ++ T) → ∃ W', Ex W W' ∧ Good K H W' (er σ Γ' ρ ++ T)
  | [], Γ, Γ', ρ, W, T, _, g => ⟨W, Ex.refl W, by cases Γ <;> cases Γ' <;> cases ρ <;> simpa [er] using g⟩
  | _ :: _, [], [], ρ, W, T, _, g => ⟨W, Ex.refl W, by simpa [er] using g⟩
  | _ :: _, [], _ :: _, ρ, W, T, h, g => by simp [leS] at h
  | _ :: _, _ :: _, [], ρ, W, T, h, g => by simp [leS] at h
  | _ :: _, _ :: _, _ :: _, [], W, T, _, g => ⟨W, Ex.refl W, by simpa [er] using g⟩
  | x :: σ, a :: Γ, b :: Γ', r :: ρ, W, T, h, g => by
    simp only [leS, Bool.and_eq_true] at h
    cases r with
    | none =>
      simp only [er] at g ⊢
      exact er_weak h.2 g
    | some d =>
      simp only [er] at g ⊢
      obtain ⟨W1, e1, g1⟩ := g.weak h.1
      obtain ⟨W2, e2, g2⟩ := er_weak (σ := σ) (Γ := Γ) (Γ' := Γ') (ρ := ρ) (T := ⟨b, x, d⟩ :: T) h.2 g1.ofHead
      exact ⟨W2, e1.trans e2, g2.toHead⟩
theorem Stt.weak {K : PySem.W.Frag} {n : Nat} (s : Stt K n H W σ Γ ρ T) (h : leS Γ' Γ = true) : ∃ W', Ex W W' ∧ Stt K n H W' σ Γ' ρ T := by
  obtain ⟨W', e, g⟩ := er_weak h s.g
  exact ⟨W', e, s.l1, (leS_len h).trans s.l2, s.l3, g⟩
theorem Stt.weakT {K : PySem.W.Frag} {n : Nat} {s t : Sh} {v : Option V} {d : Dt} (q : Stt K n H W σ Γ ρ (⟨s, v, d⟩ :: T)) (h : t.le s = true) : ∃ W', Ex W W' ∧ Stt K n H W' σ Γ ρ (⟨t, v, d⟩ :: T) := by
  obtain ⟨W', e, g⟩ := (q.g.toHead).weak h
  exact ⟨W', e, q.l1, q.l2, q.l3, g.ofHead⟩
theorem Sh.le_refl : ∀ s : Sh, s.le s = true
  | .F => rfl
  | .O s => Sh.le_refl s
theorem leS_refl : ∀ Γ : List Sh, leS Γ Γ = true
  | [] => rfl
  | a :: r => by simp only [leS, Sh.le_refl, leS_refl r, Bool.and_self]
end

/-! ### readings -/
def RdE (C : Ctx) (Γ : List Sh) (f : M Dt) (sh : Sh) (Γ' : List Sh) : TE := fun σ H Q => ∃ W ρ T, Stt C.K C.n H W σ Γ ρ T ∧ Thn C σ T W (f ρ) fun d ρ' => ∀ v H' W', Ex W W' → Stt C.K C.n H' W' σ Γ' ρ' (⟨sh, some v, d⟩ :: T) → Q v H'
def RdT (C : Ctx) (Γ : List Sh) (f : M Bool) (Γ' : List Sh) : TT := fun σ H Q => ∃ W ρ T, Stt C.K C.n H W σ Γ ρ T ∧ Thn C σ T W (f ρ) fun b ρ' => ∀ H' W', Ex W W' → Stt C.K C.n H' W' σ Γ' ρ' T → Q b H'
def SK (C : Ctx) (σ : St) (W : Hp) (T : List Root) (Γ' : List Sh) (D : Ends) : Fl → Env → Prop
  | .nx, ρ' => ∀ σ' H' W', kp C σ σ' → Ex W W' → Stt C.K C.n H' W' σ' Γ' ρ' T → D.nx σ' H'
  | .ret d, ρ' => ∀ v σ' H' W', kp C σ σ' → Ex W W' → Stt C.K C.n H' W' σ' C.Γr ρ' (⟨C.rs, some v, d⟩ :: T) → D.rt v H'
  | .bk, ρ' => ∀ σ' H' W', kp C σ σ' → Ex W W' → Stt C.K C.n H' W' σ' C.Γl ρ' T → D.bk σ' H'
  | .ct, ρ' => ∀ σ' H' W', kp C σ σ' → Ex W W' → Stt C.K C.n H' W' σ' C.Γl ρ' T → D.ct σ' H'
def RdS (C : Ctx) (Γ : List Sh) (m : M Fl) (Γ' : List Sh) : TS := fun D σ H => ∃ W ρ T, Stt C.K C.n H W σ Γ ρ T ∧ Thn C σ T W (m ρ) (SK C σ W T Γ' D)
/-- a store of a frozen or owned root into a target (names, tuples of names: nothing is raised) -/
abbrev TgF := Dt → Env → Option Env
def RdG (C : Ctx) (Γ : List Sh) (sh : Sh) (t : TgF) (Γ' : List Sh) : TG := fun v σ H Q => ∃ W ρ T d ρ', Stt C.K C.n H W σ Γ ρ (⟨sh, some v, d⟩ :: T) ∧ t d ρ = some ρ' ∧ ∀ σ' H' W', kp C σ σ' → Ex W W' → Stt C.K C.n H' W' σ' Γ' ρ' T → Q σ' H'
/-- what is walked: the items as data -/
def Src (K : PySem.W.Frag) (J : It) (ds : List Dt) (W₀ : Hp) : Prop := ∀ (i : Nat) (H W : Hp), Ex W₀ W → Ex W H →
  (∀ d, ds[i]? = some d → J.go i H ∧ ∀ x H2, J.yld i H x H2 → ∀ R, Good K H W R → ∃ W2, Ex W W2 ∧ Good K H2 W2 (⟨.F, some x, d⟩ :: R)) ∧ (ds.length ≤ i → J.stop i H)
def RdI (C : Ctx) (Γ : List Sh) (f : M (List Dt)) (Γ' : List Sh) : TI := fun σ H R => ∃ W ρ T, Stt C.K C.n H W σ Γ ρ T ∧ Thn C σ T W (f ρ) fun ds ρ' => ∀ J H' W', Ex W W' → Stt C.K C.n H' W' σ Γ' ρ' T → Src C.K J ds W' → R J H'

/-! ### operands: a value, or a name that is read where the operation stands -/
inductive Opd where
  | val (f : M Dt) (sh : Sh)
  | var (i : Nat)
def op1 : Opd → M (Dt ⊕ Nat)
  | .val f _ => bnd f fun d => rt (.inl d)
  | .var i => fun ρ => match ρ[i]? with
    | some (some _) => .ok (.inr i) ρ
    | _ => .bad
def ops1 : List Opd → M (List (Dt ⊕ Nat))
  | [] => rt []
  | o :: r => bnd (op1 o) fun x => bnd (ops1 r) fun xs => rt (x :: xs)
def fillE (ρ : Env) : List (Dt ⊕ Nat) → Option (List Dt)
  | [] => some []
  | .inl d :: r => match fillE ρ r with
    | some ds => some (d :: ds)
    | none => none
  | .inr i :: r => match ρ[i]? with
    | some (some d) => match fillE ρ r with
      | some ds => some (d :: ds)
      | none => none
    | _ => none
def opsM (os : List Opd) : M (List Dt) := bnd (ops1 os) fun xs ρ => match fillE ρ xs with
  | some ds => .ok ds ρ
  | none => .bad
def opM (os : List Opd) (g : List Dt → Option Dt) : M Dt := bnd (opsM os) fun ds => optM (g ds)
def OpdOk (σ : St) (R : List Root) : Opd → Dt ⊕ Nat → V → Prop
  | .val _ s, .inl d, v => (⟨s, some v, d⟩ : Root) ∈ R
  | .var i, .inr j, v => i = j ∧ σ[i]? = some (some v)
  | _, _, _ => False
def OpdsOk (σ : St) (R : List Root) : List Opd → List (Dt ⊕ Nat) → List V → Prop
  | [], [], [] => True
  | o :: os, x :: xs, v :: vs => OpdOk σ R o x v ∧ OpdsOk σ R os xs vs
  | _, _, _ => False
def RdO (C : Ctx) (Γ : List Sh) (o : Opd) (Γ' : List Sh) : TE := fun σ H Q => ∃ W ρ T, Stt C.K C.n H W σ Γ ρ T ∧ Thn C σ T W (op1 o ρ) fun x ρ' => ∀ v H' W' R, Ex W W' → Stt C.K C.n H' W' σ Γ' ρ' (R ++ T) → OpdOk σ R o x v → Q v H'
def RdA (C : Ctx) (Γ : List Sh) (os : List Opd) (Γ' : List Sh) : TA := fun σ H Q => ∃ W ρ T, Stt C.K C.n H W σ Γ ρ T ∧ Thn C σ T W (ops1 os ρ) fun xs ρ' => ∀ vs H' W' R, Ex W W' → Stt C.K C.n H' W' σ Γ' ρ' (R ++ T) → OpdsOk σ R os xs vs → Q vs H'
def shO (Γ : List Sh) : Opd → Sh
  | .val _ s => s
  | .var i => Γ.getD i .F
/-- roots of such shapes, values, data are among R -/
def Mem3 (R : List Root) : List Sh → List V → List Dt → Prop
  | [], [], [] => True
  | s :: ss, v :: vs, d :: ds => (⟨s, some v, d⟩ : Root) ∈ R ∧ Mem3 R ss vs ds
  | _, _, _ => False
/-- an operation on values that answers g -/
def OpSpec (K : PySem.W.Frag) (r : List V → Hp → VK → Prop) (g : List Dt → Option Dt) (shs : List Sh) (so : Sh) : Prop :=
  ∀ (H W : Hp) (R : List Root) (vs : List V) (ds : List Dt) (z : Dt) (Q : VK), Good K H W R → Mem3 R shs vs ds → g ds = some z →
    (∀ w H' W', Ex W W' → Good K H' W' (⟨so, some w, z⟩ :: R) → Q w H') → r vs H Q

section
variable {X : Cx} {C : Ctx} {Γ Γ1 Γ2 Γ' : List Sh} {e : Expr} {es : List Expr} {f : M Dt} {sh : Sh} {o : Opd} {os : List Opd} {pos : Pos}
theorem pe_imp {t t' : TE} (h : PE X e t) (q : ∀ σ H Q, t' σ H Q → t σ H Q) : PE X e t' := ⟨fun pins s σ H Q I x => h.run pins s σ H Q I (q σ H Q x)⟩
theorem pt_imp {t t' : TT} (h : PT X e t) (q : ∀ σ H Q, t' σ H Q → t σ H Q) : PT X e t' := ⟨fun pins s σ H Q I x => h.run pins s σ H Q I (q σ H Q x)⟩
theorem pw_imp {t t' : TT} (h : PW X e t) (q : ∀ σ H Q, t' σ H Q → t σ H Q) : PW X e t' := ⟨fun wh pins s σ H Q I x => h.run wh pins s σ H Q I (q σ H Q x)⟩
theorem pa_imp {t t' : TA} (h : PA X es t) (q : ∀ σ H Q, t' σ H Q → t σ H Q) : PA X es t' := ⟨fun pos pins s σ H Q I x => h.run pos pins s σ H Q I (q σ H Q x)⟩
theorem ps_imp {st : Stmt} {t t' : TS} (h : PS X st t) (q : ∀ D σ H, t' D σ H → t D σ H) : PS X st t' := ⟨fun pins s σ H D I x => h.run pins s σ H D I (q D σ H x)⟩
theorem pss_imp {st : List Stmt} {t t' : TS} (h : PSs X st t) (q : ∀ D σ H, t' D σ H → t D σ H) : PSs X st t' := ⟨fun pins s σ H D I x => h.run pins s σ H D I (q D σ H x)⟩
theorem pi_imp {tg : Expr} {t t' : TI} (h : PI X tg e t) (q : ∀ σ H R, t' σ H R → t σ H R) : PI X tg e t' := ⟨fun pins s σ H R I x => h.run pins s σ H R I (q σ H R x)⟩
theorem pg_imp {t t' : TG} (h : PG X e t) (q : ∀ v σ H Q, t' v σ H Q → t v σ H Q) : PG X e t' := ⟨fun pins s σ H v u Q I r x => h.run pins s σ H v u Q I r (q v σ H Q x)⟩

/-! ### constants, names -/
theorem rd_const {d : Dt} {v : V} (hr : ∀ W, RF C.K W v d) {σ : St} {H : Hp} {Q : VK} (h : RdE C Γ (rt d) .F Γ σ H Q) : tC v σ H Q := by
  obtain ⟨W, ρ, T, s, th⟩ := h
  exact th v H W (Ex.refl W) ⟨s.l1, s.l2, s.l3, (s.g.addF (hr W)).ofHead⟩
theorem c_int {i j pos} : PE X (.Constant (.int i) j pos) (RdE C Γ (rt (.int i)) .F Γ) := pe_imp pe_int fun _ _ _ h => rd_const (fun _ => .int i) h
theorem c_bl {b j pos} : PE X (.Constant (.bool b) j pos) (RdE C Γ (rt (.bool b)) .F Γ) := pe_imp pe_bl fun _ _ _ h => rd_const (fun _ => .bl b) h
theorem c_non {j pos} : PE X (.Constant .none j pos) (RdE C Γ (rt .none) .F Γ) := pe_imp pe_non fun _ _ _ h => rd_const (fun _ => .non) h
theorem c_str {x j pos} : PE X (.Constant (.str x) j pos) (RdE C Γ (rt (.str x)) .F Γ) := pe_imp pe_str fun _ _ _ h => rd_const (fun _ => .str x) h
/-- a whole number of the module's top -/
theorem c_globI {x : Str} {i : Int} {t : Tok} (hg : Gl X x) (hm : X.mg x = some (.int i t)) (hd : (x == ("__debug__" : Str)) = false := by decide) : PE X (.Name x pos) (RdE C Γ (rt (.int i)) .F Γ) :=
  pe_imp (pe_glob hg hm (show RelV (.int i) _ from ⟨t, rfl⟩) hd) fun _ _ _ h => rd_const (fun _ => .int i) h
def getM (i : Nat) : M Dt := fun ρ => match ρ[i]? with
  | some (some d) => .ok d ρ
  | _ => .bad
def takeM (i : Nat) : M Dt := fun ρ => match ρ[i]? with
  | some (some d) => .ok d (ρ.set i none)
  | _ => .bad
theorem c_var (i : Nat) {x : Str} (hv : PE X (.Name x pos) (tVar i)) : PE X (.Name x pos) (RdE C Γ (getM i) .F (Γ.set i .F)) := by
  refine pe_imp hv fun σ H Q h => ?_
  obtain ⟨W, ρ, T, s, th⟩ := h
  unfold getM at th
  cases e : ρ[i]? with
  | none => rw [e] at th; exact th.elim
  | some o =>
    cases o with
    | none => rw [e] at th; exact th.elim
    | some d =>
      rw [e] at th
      obtain ⟨v, g, h1, h2⟩ := s.at e
      have hi : i < C.n := by rw [← s.l1]; exact (List.getElem?_eq_some_iff.mp h1).1
      refine ⟨v, h1, ?_⟩
      obtain ⟨W1, e1, q⟩ := (s.take h1 h2 e).weakT (t := .F) rfl
      obtain ⟨u, eu, r⟩ := q.g.frozenAt (List.mem_append_right _ List.mem_cons_self)
      cases eu
      have q2 : Stt C.K C.n H W1 σ Γ (ρ.set i none) (⟨.F, some v, d⟩ :: ⟨.F, some v, d⟩ :: T) := ⟨q.l1, q.l2, q.l3, (q.g.addF r).ofHead⟩
      have q3 := q2.put hi
      rw [List.set_set] at q3
      have e2 : σ.set i (some v) = σ := by
        apply List.ext_getElem?
        intro j
        by_cases hj : i = j
        · subst hj; rw [List.getElem?_set_self (List.getElem?_eq_some_iff.mp h1).1, h1]
        · rw [List.getElem?_set_ne hj]
      have e3 : ρ.set i (some d) = ρ := by
        apply List.ext_getElem?
        intro j
        by_cases hj : i = j
        · subst hj; rw [List.getElem?_set_self (List.getElem?_eq_some_iff.mp e).1, e]
        · rw [List.getElem?_set_ne hj]
      rw [e2, e3] at q3
      exact th v H W1 e1 q3
/-- a name that gives up what it holds -/
theorem c_mv (i : Nat) {x : Str} (hv : PE X (.Name x pos) (tVar i)) (hs : Γ[i]? = some sh := by rfl) : PE X (.Name x pos) (RdE C Γ (takeM i) sh Γ) := by
  refine pe_imp hv fun σ H Q h => ?_
  obtain ⟨W, ρ, T, s, th⟩ := h
  unfold takeM at th
  cases e : ρ[i]? with
  | none => rw [e] at th; exact th.elim
  | some o =>
    cases o with
    | none => rw [e] at th; exact th.elim
    | some d =>
      rw [e] at th
      obtain ⟨v, g, h1, h2⟩ := s.at e
      exact ⟨v, h1, th v H W (Ex.refl W) (s.take h1 hs e)⟩
/-- a value's shape, the slots' shapes made less -/
theorem c_weak {sh' : Sh} (h : PE X e (RdE C Γ f sh Γ1)) (hs : sh'.le sh = true) (hl : leS Γ2 Γ1 = true) : PE X e (RdE C Γ f sh' Γ2) := by
  refine pe_imp h fun σ H Q q => ?_
  obtain ⟨W, ρ, T, s, th⟩ := q
  refine ⟨W, ρ, T, s, th.imp fun d ρ' k v H' W' e s' => ?_⟩
  obtain ⟨W1, e1, s1⟩ := s'.weakT hs
  obtain ⟨W2, e2, s2⟩ := s1.weak hl
  exact k v H' W2 ((e.trans e1).trans e2) s2

/-! ### operands and argument lists -/
theorem o_val (h : PE X e (RdE C Γ f sh Γ')) : PE X e (RdO C Γ (.val f sh) Γ') := by
  refine pe_imp h fun σ H Q q => ?_
  obtain ⟨W, ρ, T, s, th⟩ := q
  refine ⟨W, ρ, T, s, th.bnd.imp fun d ρ' k v H' W' e s' => ?_⟩
  exact k v H' W' [⟨sh, some v, d⟩] e s' List.mem_cons_self
theorem o_var (i : Nat) {x : Str} (hv : PE X (.Name x pos) (tVar i)) : PE X (.Name x pos) (RdO C Γ (.var i) Γ) := by
  refine pe_imp hv fun σ H Q h => ?_
  obtain ⟨W, ρ, T, s, th⟩ := h
  unfold op1 at th
  cases e : ρ[i]? with
  | none => simp only [e] at th; exact th.elim
  | some o =>
    cases o with
    | none => simp only [e] at th; exact th.elim
    | some d =>
      simp only [e] at th
      obtain ⟨v, g, h1, h2⟩ := s.at e
      exact ⟨v, h1, th v H W [] (Ex.refl W) s ⟨rfl, h1⟩⟩
theorem OpdOk.more {σ : St} {R R' : List Root} {x : Dt ⊕ Nat} {v : V} (hR : ∀ r ∈ R, r ∈ R') : ∀ {o : Opd}, OpdOk σ R o x v → OpdOk σ R' o x v := fun {o} h => by
  cases o <;> cases x <;> first | exact hR _ h | exact h
theorem OpdsOk.more {σ : St} {R R' : List Root} (hR : ∀ r ∈ R, r ∈ R') : ∀ {os : List Opd} {xs : List (Dt ⊕ Nat)} {vs : List V}, OpdsOk σ R os xs vs → OpdsOk σ R' os xs vs
  | [], [], [], h => h
  | _ :: _, _ :: _, _ :: _, h => ⟨h.1.more hR, OpdsOk.more hR h.2⟩
  | [], [], _ :: _, h => h.elim
  | [], _ :: _, _, h => h.elim
  | _ :: _, [], _, h => h.elim
  | _ :: _, _ :: _, [], h => h.elim
theorem rd_cons {σ : St} {H : Hp} {Q : List V → Hp → Prop} (h : RdA C Γ (o :: os) Γ2 σ H Q) : RdO C Γ o Γ1 σ H fun x H1 => RdA C Γ1 os Γ2 σ H1 fun xs H2 => Q (x :: xs) H2 := by
  obtain ⟨W, ρ, T, s, th⟩ := h
  refine ⟨W, ρ, T, s, (Thn.bnd th).imp fun x ρ1 k v H1 W1 R e s1 ok => ?_⟩
  refine ⟨W1, ρ1, R ++ T, s1, (Thn.bnd (k.up (R := R) (kp.refl _ _) e fun _ _ z => z)).imp fun xs ρ2 k2 vs H2 W2 R2 e2 s2 ok2 => ?_⟩
  rw [← List.append_assoc] at s2
  exact k2 (v :: vs) H2 W2 (R2 ++ R) (e.trans e2) s2 ⟨ok.more fun r hr => List.mem_append_right _ hr, ok2.more fun r hr => List.mem_append_left _ hr⟩
theorem rd_nil {σ : St} {H : Hp} {Q : List V → Hp → Prop} (h : RdA C Γ [] Γ σ H Q) : Q [] H := by
  obtain ⟨W, ρ, T, s, th⟩ := h
  exact th [] H W [] (Ex.refl W) s trivial
theorem a_nil : PA X [] (RdA C Γ [] Γ) := pa_imp pa_nil fun _ _ _ h => rd_nil h
theorem a_cons (h1 : PE X e (RdO C Γ o Γ1)) (h2 : PA X es (RdA C Γ1 os Γ2)) (hs : starEach (e :: es) X.env = (false, eval e X.env) :: starEach es X.env := by rfl) : PA X (e :: es) (RdA C Γ (o :: os) Γ2) :=
  pa_imp (pa_cons h1 h2 hs) fun _ _ _ h => rd_cons h
theorem rd_two {o1 o2 : Opd} {σ : St} {H : Hp} {Q : List V → Hp → Prop} (h : RdA C Γ [o1, o2] Γ2 σ H Q) : RdO C Γ o1 Γ1 σ H fun x H1 => RdO C Γ1 o2 Γ2 σ H1 fun y H2 => Q [x, y] H2 := by
  obtain ⟨W, ρ, T, s, th⟩ := rd_cons (Γ1 := Γ1) h
  refine ⟨W, ρ, T, s, th.imp fun x ρ1 k v H1 W1 R e s1 ok => ?_⟩
  obtain ⟨W', ρ', T', s', th'⟩ := rd_cons (Γ1 := Γ2) (k v H1 W1 R e s1 ok)
  exact ⟨W', ρ', T', s', th'.imp fun x2 ρ2 k2 v2 H2 W2 R2 e2 s2 ok2 => rd_nil (k2 v2 H2 W2 R2 e2 s2 ok2)⟩
theorem rd_one {σ : St} {H : Hp} {Q : List V → Hp → Prop} (h : RdA C Γ [o] Γ1 σ H Q) : RdO C Γ o Γ1 σ H fun x H1 => Q [x] H1 := by
  obtain ⟨W, ρ, T, s, th⟩ := rd_cons (Γ1 := Γ1) h
  exact ⟨W, ρ, T, s, th.imp fun x ρ1 k v H1 W1 R e s1 ok => rd_nil (k v H1 W1 R e s1 ok)⟩
theorem mem3_of {σ : St} {H W : Hp} {ρ : Env} {T R : List Root} (s : Stt C.K C.n H W σ Γ ρ (R ++ T)) : ∀ {os : List Opd} {xs : List (Dt ⊕ Nat)} {vs : List V} {ds : List Dt}, OpdsOk σ R os xs vs → fillE ρ xs = some ds → Mem3 (er σ Γ ρ ++ (R ++ T)) (os.map (shO Γ)) vs ds
  | [], [], [], ds, _, h => by
    simp only [fillE, Option.some.injEq] at h
    subst h
    trivial
  | .val f sh :: os, .inl d :: xs, v :: vs, ds, ok, h => by
    simp only [fillE] at h
    cases e : fillE ρ xs with
    | none => rw [e] at h; cases h
    | some ds' =>
      rw [e] at h
      simp only [Option.some.injEq] at h
      subst h
      exact ⟨List.mem_append_right _ (List.mem_append_left _ ok.1), mem3_of s ok.2 e⟩
  | .var i :: os, .inr j :: xs, v :: vs, ds, ok, h => by
    obtain ⟨⟨hij, hv⟩, ok2⟩ := ok
    subst hij
    simp only [fillE] at h
    cases e1 : ρ[i]? with
    | none => rw [e1] at h; cases h
    | some o =>
      cases o with
      | none => rw [e1] at h; cases h
      | some d =>
        rw [e1] at h
        cases e : fillE ρ xs with
        | none => rw [e] at h; cases h
        | some ds' =>
          rw [e] at h
          simp only [Option.some.injEq] at h
          subst h
          obtain ⟨v', g, h1, h2⟩ := s.at e1
          refine ⟨List.mem_append_left _ ?_, mem3_of s ok2 e⟩
          have eg : shO Γ (.var i) = g := by show Γ.getD i .F = g; rw [List.getD_eq_getElem?_getD, h2]; rfl
          rw [eg]
          exact er_mem hv h2 e1
  | .val _ _ :: _, .inr _ :: _, _ :: _, _, ok, _ => ok.1.elim
  | .var _ :: _, .inl _ :: _, _ :: _, _, ok, _ => ok.1.elim
  | [], [], _ :: _, _, ok, _ => ok.elim
  | [], _ :: _, _, _, ok, _ => ok.elim
  | _ :: _, [], _, _, ok, _ => ok.elim
  | _ :: _, _ :: _, [], _, ok, _ => ok.elim
/-- an operation upon operands -/
theorem rd_op {r : List V → Hp → VK → Prop} {g : List Dt → Option Dt} {shs : List Sh} {so : Sh} (sp : OpSpec C.K r g shs so) (hs : os.map (shO Γ') = shs) {σ : St} {H : Hp} {Q : VK} (h : RdE C Γ (opM os g) so Γ' σ H Q) :
    RdA C Γ os Γ' σ H fun vs H1 => r vs H1 Q := by
  obtain ⟨W, ρ, T, s, th⟩ := h
  refine ⟨W, ρ, T, s, (Thn.bnd (Thn.bnd th)).imp fun xs ρ1 k vs H1 W1 R e s1 ok => ?_⟩
  cases ef : fillE ρ1 xs with
  | none => simp only [ef] at k; exact k.elim
  | some ds =>
    simp only [ef] at k
    have k : Thn C σ T W (optM (g ds) ρ1) _ := k
    unfold optM at k
    cases eg : g ds with
    | none => simp only [eg] at k; exact k.elim
    | some z =>
      simp only [eg] at k
      have m := mem3_of s1 ok ef
      rw [hs] at m
      exact sp H1 W1 _ vs ds z Q s1.g m eg fun w H2 W2 e2 g2 => k w H2 W2 (e.trans e2) ⟨s1.l1, s1.l2, s1.l3, Good.ofHead (Good.mid (A := ⟨so, some w, z⟩ :: er σ Γ' ρ1) g2)⟩
/-- .. as a call of a built-in, of a type, an operator, a subscript, a method -/
theorem c_callB {id : String} {x : Str} {p : Pos} {r : List V → Hp → VK → Prop} {g : List Dt → Option Dt} {shs : List Sh} {so : Sh} (hc : CallR X (.builtin id) r) (sp : OpSpec C.K r g shs so) (hg : Gl X x) (hm : X.mg x = none) (hv : bootBuiltins x = some (.builtin id))
    (ha : PA X (e :: es) (RdA C Γ os Γ')) (hs : os.map (shO Γ') = shs := by rfl) (hn : x ≠ "__name__" := by decide) (hdb : (x == ("__debug__" : Str)) = false := by decide)
    (he : starEach (e :: es) X.env = (false, eval e X.env) :: starEach es X.env := by rfl) (hpl : (backTo pos (starEach es X.env)).any (·.1) = false := by rfl) : PE X (.Call (.Name x p) (e :: es) [] pos) (RdE C Γ (opM os g) so Γ') :=
  pe_imp (pe_callB hc hg hm hv ha hn hdb he hpl) fun _ _ _ h => rd_op sp hs h
theorem c_callTy {T : String} {x : Str} {p : Pos} {r : List V → Hp → VK → Prop} {g : List Dt → Option Dt} {shs : List Sh} {so : Sh} (hc : CallR X (.type T) r) (sp : OpSpec C.K r g shs so) (hg : Gl X x) (hm : X.mg x = none) (hv : bootBuiltins x = some (.type T))
    (ha : PA X (e :: es) (RdA C Γ os Γ')) (hs : os.map (shO Γ') = shs := by rfl) (hn : x ≠ "__name__" := by decide) (hdb : (x == ("__debug__" : Str)) = false := by decide)
    (he : starEach (e :: es) X.env = (false, eval e X.env) :: starEach es X.env := by rfl) (hpl : (backTo pos (starEach es X.env)).any (·.1) = false := by rfl) : PE X (.Call (.Name x p) (e :: es) [] pos) (RdE C Γ (opM os g) so Γ') :=
  pe_imp (pe_callTy hc hg hm hv ha hn hdb he hpl) fun _ _ _ h => rd_op sp hs h
/-- a two-place reading on values -/
def r2L (r : R2) : List V → Hp → VK → Prop := fun vs H Q => ∃ x y, vs = [x, y] ∧ r x y H Q
theorem rd_op2 {a b : Opd} {r : R2} {g : List Dt → Option Dt} {shs : List Sh} {so : Sh} (sp : OpSpec C.K (r2L r) g shs so) (hs : [a, b].map (shO Γ2) = shs) {σ : St} {H : Hp} {Q : VK} (h : RdE C Γ (opM [a, b] g) so Γ2 σ H Q) :
    tOp r (RdO C Γ a Γ1) (RdO C Γ1 b Γ2) σ H Q := by
  obtain ⟨W, ρ, T, s, th⟩ := rd_two (Γ1 := Γ1) (rd_op sp hs h)
  refine ⟨W, ρ, T, s, th.imp fun x ρ1 k v H1 W1 R e s1 ok => ?_⟩
  obtain ⟨W', ρ', T', s', th'⟩ := k v H1 W1 R e s1 ok
  refine ⟨W', ρ', T', s', th'.imp fun x2 ρ2 k2 v2 H2 W2 R2 e2 s2 ok2 => ?_⟩
  obtain ⟨_, _, ev, q⟩ := k2 v2 H2 W2 R2 e2 s2 ok2
  cases ev
  exact q
variable {ea eb : Expr} {oa ob : Opd}
theorem c_op {op : Operator} {r : R2} {g : List Dt → Option Dt} {shs : List Sh} {so : Sh} (ho : OpR X (binaryOp op) r) (sp : OpSpec C.K (r2L r) g shs so) (ha : PE X ea (RdO C Γ oa Γ1)) (hb : PE X eb (RdO C Γ1 ob Γ2)) (hs : [oa, ob].map (shO Γ2) = shs := by rfl) :
    PE X (.BinOp ea op eb pos) (RdE C Γ (opM [oa, ob] g) so Γ2) := pe_imp (pe_op ho ha hb) fun _ _ _ h => rd_op2 sp hs h
theorem c_cmp {op : CmpOp} {r : R2} {g : List Dt → Option Dt} {shs : List Sh} {so : Sh} (ho : OpR X (compareOp op) r) (sp : OpSpec C.K (r2L r) g shs so) (ha : PE X ea (RdO C Γ oa Γ1)) (hb : PE X eb (RdO C Γ1 ob Γ2)) (hm : behindInMarks op eb = false) (hs : [oa, ob].map (shO Γ2) = shs := by rfl) :
    PE X (.Compare ea [op] [eb] pos) (RdE C Γ (opM [oa, ob] g) so Γ2) := pe_imp (pe_cmpR ho ha hb hm) fun _ _ _ h => rd_op2 sp hs h
theorem c_ix {r : R2} {g : List Dt → Option Dt} {shs : List Sh} {so : Sh} (ho : IxR X r) (sp : OpSpec C.K (r2L r) g shs so) (ha : PE X ea (RdO C Γ oa Γ1)) (hb : PE X eb (RdO C Γ1 ob Γ2)) (hp : PlainIx eb) (hs : [oa, ob].map (shO Γ2) = shs := by rfl) :
    PE X (.Subscript ea eb pos) (RdE C Γ (opM [oa, ob] g) so Γ2) := pe_imp (pe_ix ho ha hb hp) fun _ _ _ h => rd_op2 sp hs h

/-! ### tests -/
def blM (m : M Dt) : M Bool := bnd m fun d => match d with
  | .bool b => rt b
  | _ => fun _ => .bad
theorem rd_bl {σ : St} {H : Hp} {Q : Bool → Hp → Prop} (h : RdT C Γ (blM f) Γ1 σ H Q) : RdE C Γ f sh Γ1 σ H fun x H1 => ∃ c, x = .bl c ∧ Q c H1 := by
  obtain ⟨W, ρ, T, s, th⟩ := h
  refine ⟨W, ρ, T, s, (Thn.bnd th).imp fun d ρ1 k v H1 W1 e s1 => ?_⟩
  obtain ⟨u, eu, r⟩ := s1.g.viewAt (List.mem_append_right _ List.mem_cons_self)
  cases eu
  cases r with
  | bl b => exact ⟨b, rfl, k H1 W1 e s1.mid1⟩
  | non => exact k.elim
  | int => exact k.elim
  | str => exact k.elim
  | tup => exact k.elim
  | lst => exact k.elim
  | dic => exact k.elim
theorem t_val (h : PE X e (RdE C Γ f sh Γ1)) (he : ∀ whole, isTrue e X.env whole = (do let v ← whole; standAt e.pos; holding [v] (truthy v)) := by intro _; rfl) : PT X e (RdT C Γ (blM f) Γ1) :=
  pt_imp (pt_val h he) fun _ _ _ h => rd_bl h
theorem t_cmp {op : CmpOp} {r : R2} {g : List Dt → Option Dt} {shs : List Sh} {so : Sh} (ho : OpR X (compareOp op) r) (sp : OpSpec C.K (r2L r) g shs so) (ha : PE X ea (RdO C Γ oa Γ1)) (hb : PE X eb (RdO C Γ1 ob Γ2)) (hm : behindInMarks op eb = false) (hs : [oa, ob].map (shO Γ2) = shs := by rfl) :
    PT X (.Compare ea [op] [eb] pos) (RdT C Γ (blM (opM [oa, ob] g)) Γ2) := pt_imp (pt_cmpR ho ha hb hm) fun _ _ _ h => rd_op2 sp hs (rd_bl h)
def andM (a b : M Bool) : M Bool := bnd a fun c => match c with
  | true => b
  | false => rt false
def orM (a b : M Bool) : M Bool := bnd a fun c => match c with
  | true => rt true
  | false => b
def notM (a : M Bool) : M Bool := bnd a fun c => rt (!c)
variable {fa fb : M Bool} {b : Expr} {rest : List Expr}
theorem w_and1 (ha : PT X ea (RdT C Γ fa Γ1)) : PW X (.BoolOp .And [ea] pos) (RdT C Γ fa Γ1) := pw_and1 ha
theorem w_or1 (ha : PT X ea (RdT C Γ fa Γ1)) : PW X (.BoolOp .Or [ea] pos) (RdT C Γ fa Γ1) := pw_or1 ha
/-- both ways end with the lesser shapes Γ1 (the first's) made Γ2's -/
theorem w_and (ha : PT X ea (RdT C Γ fa Γ1)) (hb : PW X (.BoolOp .And (b :: rest) pos) (RdT C Γ1 fb Γ2)) (hl : leS Γ2 Γ1 = true := by rfl) : PW X (.BoolOp .And (ea :: b :: rest) pos) (RdT C Γ (andM fa fb) Γ2) := by
  refine pw_imp (pw_and ha hb) fun σ H Q h => ?_
  obtain ⟨W, ρ, T, s, th⟩ := h
  refine ⟨W, ρ, T, s, (Thn.bnd th).imp fun c ρ1 k H1 W1 e s1 => ?_⟩
  cases c with
  | true =>
    rw [if_pos rfl]
    exact ⟨W1, ρ1, T, s1, Thn.up0 (kp.refl _ _) e k fun d ρ2 k2 H2 W2 e2 s2 => k2 H2 W2 (e.trans e2) s2⟩
  | false =>
    rw [if_neg Bool.false_ne_true]
    obtain ⟨W2, e2, s2⟩ := s1.weak hl
    exact k H1 W2 (e.trans e2) s2
theorem w_or (ha : PT X ea (RdT C Γ fa Γ1)) (hb : PW X (.BoolOp .Or (b :: rest) pos) (RdT C Γ1 fb Γ2)) (hl : leS Γ2 Γ1 = true := by rfl) : PW X (.BoolOp .Or (ea :: b :: rest) pos) (RdT C Γ (orM fa fb) Γ2) := by
  refine pw_imp (pw_or ha hb) fun σ H Q h => ?_
  obtain ⟨W, ρ, T, s, th⟩ := h
  refine ⟨W, ρ, T, s, (Thn.bnd th).imp fun c ρ1 k H1 W1 e s1 => ?_⟩
  cases c with
  | false =>
    rw [if_neg Bool.false_ne_true]
    exact ⟨W1, ρ1, T, s1, Thn.up0 (kp.refl _ _) e k fun d ρ2 k2 H2 W2 e2 s2 => k2 H2 W2 (e.trans e2) s2⟩
  | true =>
    rw [if_pos rfl]
    obtain ⟨W2, e2, s2⟩ := s1.weak hl
    exact k H1 W2 (e.trans e2) s2
theorem t_not (ha : PT X ea (RdT C Γ fa Γ1)) : PT X (.UnaryOp .Not ea pos) (RdT C Γ (notM fa) Γ1) := by
  refine pt_imp (pt_not ha) fun σ H Q h => ?_
  obtain ⟨W, ρ, T, s, th⟩ := h
  exact ⟨W, ρ, T, s, (Thn.bnd th).imp fun c ρ1 k H1 W1 e s1 => k H1 W1 e s1⟩
end
end Vs

/-! part VsC -/
set_option Elab.async false
set_option linter.all false
set_option maxRecDepth 100000
set_option maxHeartbeats 4000000
/-! Constructs: and, or, not, if as values; chains; displays; calls of defs; statements, loops, comprehensions; a def by its body. -/
namespace Vs
open PySem PySem.Spec PyProof.Rows L2

section
variable {X : Cx} {C : Ctx} {Γ Γ1 Γ2 Γ3 Γ' : List Sh} {e ea eb ec b : Expr} {es rest : List Expr} {f fa fb : M Dt} {g : M Bool} {sh sa sb : Sh} {pos : Pos}

/-! ### and, or, not, if as values (bools but the last) -/
def andV (a b : M Dt) : M Dt := bnd a fun d => match d with
  | .bool true => b
  | .bool false => rt (.bool false)
  | _ => fun _ => .bad
def orV (a b : M Dt) : M Dt := bnd a fun d => match d with
  | .bool true => rt (.bool true)
  | .bool false => b
  | _ => fun _ => .bad
def notV (a : M Dt) : M Dt := bnd a fun d => match d with
  | .bool c => rt (.bool (!c))
  | _ => fun _ => .bad
def ifV (t : M Bool) (a b : M Dt) : M Dt := bnd t fun c => match c with
  | true => a
  | false => b
theorem c_one {op} (h : PE X ea (RdE C Γ fa sa Γ1)) : PE X (.BoolOp op [ea] pos) (RdE C Γ fa sa Γ1) := pe_one h
theorem root_bl {H W : Hp} {σ : St} {ρ : Env} {T : List Root} {v : V} {d : Dt} (s : Stt C.K C.n H W σ Γ ρ (⟨sh, some v, d⟩ :: T)) : RF C.K H v d := by
  obtain ⟨u, eu, r⟩ := s.g.viewAt (List.mem_append_right _ List.mem_cons_self)
  cases eu
  exact r
theorem c_and (ha : PE X ea (RdE C Γ fa sa Γ1)) (hb : PE X (.BoolOp .And (b :: rest) pos) (RdE C Γ1 fb .F Γ2)) (hl : leS Γ2 Γ1 = true := by rfl) : PE X (.BoolOp .And (ea :: b :: rest) pos) (RdE C Γ (andV fa fb) .F Γ2) := by
  refine pe_imp (pe_and ha hb) fun σ H Q h => ?_
  obtain ⟨W, ρ, T, s, th⟩ := h
  refine ⟨W, ρ, T, s, (Thn.bnd th).imp fun d ρ1 k v H1 W1 e s1 => ?_⟩
  cases (root_bl s1) with
  | bl c =>
    refine ⟨c, rfl, ?_⟩
    cases c with
    | true =>
      rw [if_pos rfl]
      exact ⟨W1, ρ1, T, s1.mid1, Thn.up0 (kp.refl _ _) e k fun d ρ2 k2 v2 H2 W2 e2 s2 => k2 v2 H2 W2 (e.trans e2) s2⟩
    | false =>
      rw [if_neg Bool.false_ne_true]
      obtain ⟨W2, e2, s2⟩ := s1.mid1.weak hl
      exact k (.bl false) H1 W2 (e.trans e2) ⟨s2.l1, s2.l2, s2.l3, (s2.g.addF (.bl false)).ofHead⟩
  | non => exact k.elim
  | int => exact k.elim
  | str => exact k.elim
  | tup => exact k.elim
  | lst => exact k.elim
  | dic => exact k.elim
theorem c_or (ha : PE X ea (RdE C Γ fa sa Γ1)) (hb : PE X (.BoolOp .Or (b :: rest) pos) (RdE C Γ1 fb .F Γ2)) (hl : leS Γ2 Γ1 = true := by rfl) : PE X (.BoolOp .Or (ea :: b :: rest) pos) (RdE C Γ (orV fa fb) .F Γ2) := by
  refine pe_imp (pe_or ha hb) fun σ H Q h => ?_
  obtain ⟨W, ρ, T, s, th⟩ := h
  refine ⟨W, ρ, T, s, (Thn.bnd th).imp fun d ρ1 k v H1 W1 e s1 => ?_⟩
  cases (root_bl s1) with
  | bl c =>
    refine ⟨c, rfl, ?_⟩
    cases c with
    | false =>
      rw [if_neg Bool.false_ne_true]
      exact ⟨W1, ρ1, T, s1.mid1, Thn.up0 (kp.refl _ _) e k fun d ρ2 k2 v2 H2 W2 e2 s2 => k2 v2 H2 W2 (e.trans e2) s2⟩
    | true =>
      rw [if_pos rfl]
      obtain ⟨W2, e2, s2⟩ := s1.mid1.weak hl
      exact k (.bl true) H1 W2 (e.trans e2) ⟨s2.l1, s2.l2, s2.l3, (s2.g.addF (.bl true)).ofHead⟩
  | non => exact k.elim
  | int => exact k.elim
  | str => exact k.elim
  | tup => exact k.elim
  | lst => exact k.elim
  | dic => exact k.elim
theorem c_not (ha : PE X ea (RdE C Γ fa sa Γ1)) : PE X (.UnaryOp .Not ea pos) (RdE C Γ (notV fa) .F Γ1) := by
  refine pe_imp (pe_not ha) fun σ H Q h => ?_
  obtain ⟨W, ρ, T, s, th⟩ := h
  refine ⟨W, ρ, T, s, (Thn.bnd th).imp fun d ρ1 k v H1 W1 e s1 => ?_⟩
  cases (root_bl s1) with
  | bl c => exact ⟨c, rfl, k (.bl (!c)) H1 W1 e ⟨s1.l1, s1.l2, s1.l3, (s1.mid1.g.addF (.bl (!c))).ofHead⟩⟩
  | non => exact k.elim
  | int => exact k.elim
  | str => exact k.elim
  | tup => exact k.elim
  | lst => exact k.elim
  | dic => exact k.elim
def negM (a : M Dt) : M Dt := bnd a fun d => match d with
  | .int i => rt (.int (-i))
  | _ => fun _ => .bad
theorem c_neg (ha : PE X ea (RdE C Γ fa sa Γ1)) : PE X (.UnaryOp .USub ea pos) (RdE C Γ (negM fa) .F Γ1) := by
  refine pe_imp (pe_un un_neg ha) fun σ H Q h => ?_
  obtain ⟨W, ρ, T, s, th⟩ := h
  refine ⟨W, ρ, T, s, (Thn.bnd th).imp fun d ρ1 k v H1 W1 e s1 => ?_⟩
  cases (root_bl s1) with
  | int i => exact ⟨i, rfl, k (.int (-i)) H1 W1 e ⟨s1.l1, s1.l2, s1.l3, (s1.mid1.g.addF (.int (-i))).ofHead⟩⟩
  | non => exact k.elim
  | bl => exact k.elim
  | str => exact k.elim
  | tup => exact k.elim
  | lst => exact k.elim
  | dic => exact k.elim
theorem c_if {c : Expr} (hc : PT X c (RdT C Γ g Γ1)) (ha : PE X ea (RdE C Γ1 fa sh Γ2)) (hb : PE X eb (RdE C Γ1 fb sh Γ2)) : PE X (.IfExp c ea eb pos) (RdE C Γ (ifV g fa fb) sh Γ2) := by
  refine pe_imp (pe_ifExp hc ha hb) fun σ H Q h => ?_
  obtain ⟨W, ρ, T, s, th⟩ := h
  refine ⟨W, ρ, T, s, (Thn.bnd th).imp fun c ρ1 k H1 W1 e s1 => ?_⟩
  cases c with
  | true =>
    rw [if_pos rfl]
    exact ⟨W1, ρ1, T, s1, Thn.up0 (kp.refl _ _) e k fun d ρ2 k2 v2 H2 W2 e2 s2 => k2 v2 H2 W2 (e.trans e2) s2⟩
  | false =>
    rw [if_neg Bool.false_ne_true]
    exact ⟨W1, ρ1, T, s1, Thn.up0 (kp.refl _ _) e k fun d ρ2 k2 v2 H2 W2 e2 s2 => k2 v2 H2 W2 (e.trans e2) s2⟩

/-! ### chains of two comparisons of whole numbers (frozen operands) -/
def cmpI (p : Int → Int → Bool) : Dt → Dt → Option Bool
  | .int i, .int j => some (p i j)
  | _, _ => none
theorem cmpI_some {p : Int → Int → Bool} {x y : Dt} (h : cmpI p x y ≠ none) : ∃ i j, x = .int i ∧ y = .int j := by
  cases x <;> cases y <;> first | exact ⟨_, _, rfl, rfl⟩ | exact absurd rfl h
def chainM (p q : Int → Int → Bool) (a b c : M Dt) : M Dt := bnd a fun x => bnd b fun y => match cmpI p x y with
  | some true => bnd c fun z => match cmpI q y z with
    | some r => rt (.bool r)
    | none => fun _ => .bad
  | some false => rt (.bool false)
  | none => fun _ => .bad
theorem rd_chain {p q : Int → Int → Bool} {fc : M Dt} {σ : St} {H : Hp} {Q : VK} (hl : leS Γ3 Γ2 = true) (h : RdE C Γ (chainM p q fa fb fc) .F Γ3 σ H Q) :
    tChain (rI0 fun i j => .bl (p i j)) (rI0 fun i j => .bl (q i j)) (RdE C Γ fa .F Γ1) (RdE C Γ1 fb .F Γ2) (RdE C Γ2 fc .F Γ3) σ H Q := by
  obtain ⟨W, ρ, T, s, th⟩ := h
  refine ⟨W, ρ, T, s, (Thn.bnd th).imp fun x ρ1 k v H1 W1 e s1 => ⟨W1, ρ1, _ :: T, s1, (Thn.bnd (Thn.up (R := [_]) (kp.refl _ _) e k fun _ _ z => z)).imp fun y ρ2 k2 v2 H2 W2 e2 s2 => ?_⟩⟩
  have r2 := root_bl s2
  have r1 : RF C.K H2 v x := by
    obtain ⟨u, eu, r⟩ := s2.g.viewAt (List.mem_append_right _ (List.mem_cons_of_mem _ List.mem_cons_self))
    cases eu
    exact r
  have k3 : Thn C σ (_ :: T) W1 ((match cmpI p x y with
      | some true => bnd fc fun z => match cmpI q y z with
        | some r => rt (PyData.bool r)
        | none => fun _ => Out.bad
      | some false => rt (PyData.bool false)
      | none => fun _ => Out.bad) ρ2) _ := k2
  have ne : cmpI p x y ≠ none := fun z => by rw [z] at k3; exact k3.elim
  obtain ⟨i, j, ex, ey⟩ := cmpI_some ne
  subst ex
  subst ey
  cases r1
  cases r2
  refine ⟨i, j, rfl, rfl, p i j, rfl, ?_⟩
  simp only [cmpI] at k3
  cases hp : p i j with
  | true =>
    simp only [hp] at k3
    rw [if_pos rfl]
    refine ⟨W2, ρ2, _ :: _ :: T, s2, (Thn.bnd (Thn.up (R := [_]) (kp.refl _ _) e2 k3 fun _ _ z => z)).imp fun z ρ3 k4 v3 H3 W3 e3 s3 => ?_⟩
    have r3 := root_bl s3
    cases r3 with
    | int l => exact ⟨j, l, rfl, rfl, k4 _ H3 W3 ((e.trans e2).trans e3) ⟨s3.l1, s3.l2, s3.l3, (s3.mid1.mid1.mid1.g.addF (.bl _)).ofHead⟩⟩
    | non => exact k4.elim
    | bl => exact k4.elim
    | str => exact k4.elim
    | tup => exact k4.elim
    | lst => exact k4.elim
    | dic => exact k4.elim
  | false =>
    simp only [hp] at k3
    rw [if_neg Bool.false_ne_true]
    obtain ⟨W3, e3, s3⟩ := s2.mid1.mid1.weak hl
    exact k3 _ H2 W3 ((e.trans e2).trans e3) ⟨s3.l1, s3.l2, s3.l3, (s3.g.addF (.bl false)).ofHead⟩
theorem c_chain {p q : Int → Int → Bool} {op op' : CmpOp} {fc : M Dt} (ho : OpR X (compareOp op) (rI0 fun i j => .bl (p i j))) (ho' : OpR X (compareOp op') (rI0 fun i j => .bl (q i j))) (ha : PE X ea (RdE C Γ fa .F Γ1)) (hb : PE X eb (RdE C Γ1 fb .F Γ2)) (hc : PE X ec (RdE C Γ2 fc .F Γ3))
    (hl : leS Γ3 Γ2 = true := by rfl) (hm : lastMarks [op, op'] [eb, ec] = false := by with_unfolding_all rfl) : PE X (.Compare ea [op, op'] [eb, ec] pos) (RdE C Γ (chainM p q fa fb fc) .F Γ3) :=
  pe_imp (pe_chain ho ho' ha hb hc hm) fun _ _ _ h => rd_chain hl h
theorem t_chain {p q : Int → Int → Bool} {op op' : CmpOp} {fc : M Dt} (ho : OpR X (compareOp op) (rI0 fun i j => .bl (p i j))) (ho' : OpR X (compareOp op') (rI0 fun i j => .bl (q i j))) (ha : PE X ea (RdE C Γ fa .F Γ1)) (hb : PE X eb (RdE C Γ1 fb .F Γ2)) (hc : PE X ec (RdE C Γ2 fc .F Γ3))
    (hl : leS Γ3 Γ2 = true := by rfl) (hm : lastMarks [op, op'] [eb, ec] = false := by with_unfolding_all rfl) : PT X (.Compare ea [op, op'] [eb, ec] pos) (RdT C Γ (blM (chainM p q fa fb fc)) Γ3) :=
  pt_imp (pt_chain ho ho' ha hb hc hm) fun _ _ _ h => rd_chain hl (rd_bl h)

/-! ### lists of values with one shape -/
def valsM : List (M Dt) → M (List Dt)
  | [] => rt []
  | m :: r => bnd m fun d => bnd (valsM r) fun ds => rt (d :: ds)
def rootsOf (s : Sh) : List V → List Dt → List Root
  | v :: vs, d :: ds => ⟨s, some v, d⟩ :: rootsOf s vs ds
  | _, _ => []
def RdV (C : Ctx) (Γ : List Sh) (ms : List (M Dt)) (s : Sh) (Γ' : List Sh) : TA := fun σ H Q => ∃ W ρ T, Stt C.K C.n H W σ Γ ρ T ∧ Thn C σ T W (valsM ms ρ) fun ds ρ' => ∀ vs H' W', Ex W W' → vs.length = ds.length → Stt C.K C.n H' W' σ Γ' ρ' (rootsOf s vs ds ++ T) → Q vs H'
variable {ms : List (M Dt)} {s : Sh}
theorem v_nil : PA X [] (RdV C Γ [] s Γ) := pa_imp pa_nil fun σ H Q h => by
  obtain ⟨W, ρ, T, s, th⟩ := h
  exact th [] H W (Ex.refl W) rfl s
theorem v_cons (h1 : PE X e (RdE C Γ f s Γ1)) (h2 : PA X es (RdV C Γ1 ms s Γ2)) (hs : starEach (e :: es) X.env = (false, eval e X.env) :: starEach es X.env := by rfl) : PA X (e :: es) (RdV C Γ (f :: ms) s Γ2) :=
  pa_imp (pa_cons h1 h2 hs) fun σ H Q h => by
    obtain ⟨W, ρ, T, st, th⟩ := h
    refine ⟨W, ρ, T, st, (Thn.bnd th).imp fun d ρ1 k v H1 W1 e s1 => ⟨W1, ρ1, _ :: T, s1, (Thn.bnd (Thn.up (R := [_]) (kp.refl _ _) e k fun _ _ z => z)).imp fun ds ρ2 k2 vs H2 W2 e2 hl s2 => ?_⟩⟩
    refine k2 (v :: vs) H2 W2 (e.trans e2) (by rw [List.length_cons, List.length_cons, hl]) ⟨s2.l1, s2.l2, s2.l3, s2.g.perm ?_⟩
    exact List.Perm.append_left _ List.perm_middle
theorem valsM_len : ∀ {ms : List (M Dt)} {ρ ρ' : Env} {ds : List Dt}, valsM ms ρ = .ok ds ρ' → ds.length = ms.length
  | [], ρ, ρ', ds, h => by
    simp only [valsM, rt, Out.ok.injEq] at h
    rw [← h.1]
    rfl
  | m :: r, ρ, ρ', ds, h => by
    simp only [valsM, bnd] at h
    cases e : m ρ with
    | ok d ρ1 =>
      simp only [e] at h
      cases e2 : valsM r ρ1 with
      | ok ds2 ρ2 =>
        simp only [e2, rt, Out.ok.injEq] at h
        rw [← h.1, List.length_cons, List.length_cons, valsM_len e2]
      | exc x ρ2 => simp only [e2] at h; cases h
      | bad => simp only [e2] at h; cases h
    | exc x ρ1 => simp only [e] at h; cases h
    | bad => simp only [e] at h; cases h
/-- roots of one shape as items -/
theorem Good.items {K : PySem.W.Frag} {H W : Hp} {R : List Root} {s : Sh} : ∀ {vs : List V} {ds : List Dt}, vs.length = ds.length → Good K H W (rootsOf s vs ds ++ R) → ∃ f1 f2, OWs K H W s vs ds f1 ∧ Roots K H W R f2 ∧ (f1 ++ f2).Nodup ∧ Ex W H := fun {vs ds} hl g => by
  obtain ⟨e, fp, h, nd⟩ := g
  have : ∀ {vs : List V} {ds : List Dt} {fp : List Addr}, vs.length = ds.length → Roots K H W (rootsOf s vs ds ++ R) fp → ∃ f1 f2, OWs K H W s vs ds f1 ∧ Roots K H W R f2 ∧ fp = f1 ++ f2 := by
    intro vs
    induction vs with
    | nil =>
      intro ds fp hl h
      cases ds with
      | nil => exact ⟨[], fp, .nil, h, rfl⟩
      | cons => simp at hl
    | cons v vs ih =>
      intro ds fp hl h
      cases ds with
      | nil => simp at hl
      | cons d ds =>
        cases h with
        | cons a t =>
          obtain ⟨f1, f2, o, r, e⟩ := ih (by simpa using hl) t
          refine ⟨_, f2, .cons a o, r, ?_⟩
          rw [e, List.append_assoc]
  obtain ⟨f1, f2, o, r, e'⟩ := this hl h
  subst e'
  exact ⟨f1, f2, o, r, nd, e⟩
theorem Good.itemsF {K : PySem.W.Frag} {H W : Hp} {R : List Root} {vs : List V} {ds : List Dt} (hl : vs.length = ds.length) (g : Good K H W (rootsOf .F vs ds ++ R)) : RFs K W vs ds := by
  obtain ⟨f1, f2, o, _⟩ := g.items hl
  exact o.frozen.1
theorem Good.newLs {K : PySem.W.Frag} {H W : Hp} {R : List Root} {s : Sh} {p : Addr} {vs : List V} {ds : List Dt} (hl : vs.length = ds.length) (g : Good K H W (rootsOf s vs ds ++ R)) (n : H p = none) : Good K (upd H p (.lst vs)) W (⟨.O s, some (.ref p), .list ds⟩ :: R) := by
  obtain ⟨f1, f2, o, r, nd, e⟩ := g.items hl
  have nW : W p = none := e.none n
  have n1 : p ∉ f1 := fun z => by
    obtain ⟨u, hu⟩ := o.there p z
    rw [n] at hu; cases hu
  have n2 : p ∉ f2 := fun z => by
    obtain ⟨u, hu⟩ := r.there p z
    rw [n] at hu; cases hu
  have ee : Ex W (upd H p (.lst vs)) := e.trans (Ex.new n)
  refine ⟨ee, (p :: f1) ++ f2, .cons (.lst upd_same nW (o.move (Ex.refl _) (fun a ha => upd_ne fun z => n1 (z ▸ ha)) o.apart)) (r.move (Ex.refl _) (fun a ha => upd_ne fun z => n2 (z ▸ ha)) r.apart), ?_⟩
  rw [List.cons_append]
  refine List.nodup_cons.mpr ⟨fun z => ?_, nd⟩
  rcases List.mem_append.mp z with z | z
  · exact n1 z
  · exact n2 z
def listM (ms : List (M Dt)) : M Dt := bnd (valsM ms) fun ds => rt (.list ds)
def tupleM (ms : List (M Dt)) : M Dt := bnd (valsM ms) fun ds => rt (.tuple ds)
theorem Thn.len {σ : St} {T : List Root} {W : Hp} {ρ : Env} {P : List Dt → Env → Prop} (h : Thn C σ T W (valsM ms ρ) P) : Thn C σ T W (valsM ms ρ) (fun ds ρ' => ds.length = ms.length ∧ P ds ρ') := by
  cases e : valsM ms ρ with
  | ok ds ρ' => rw [e] at h; exact ⟨valsM_len e, h⟩
  | exc x ρ' => rw [e] at h; exact h
  | bad => rw [e] at h; exact h
theorem c_list (h : PA X es (RdV C Γ ms s Γ1)) (hl : ms.length ≤ 16777216 := by exact of_decide_eq_true rfl) : PE X (.List es pos) (RdE C Γ (listM ms) (.O s) Γ1) := by
  refine pe_imp (pe_lst h) fun σ H Q h => ?_
  obtain ⟨W, ρ, T, st, th⟩ := h
  refine ⟨W, ρ, T, st, (Thn.bnd th).len.imp fun ds ρ1 ⟨hn, k⟩ vs H1 W1 e hv s1 => ⟨by rw [hv, hn, sizeLine_eq]; exact hl, fun p np => ?_⟩⟩
  have g1 : Good C.K H1 W1 (rootsOf s vs ds ++ (er σ Γ1 ρ1 ++ T)) := s1.g.perm (by rw [← List.append_assoc, ← List.append_assoc]; exact List.Perm.append_right _ List.perm_append_comm)
  exact k (.ref p) _ W1 e ⟨s1.l1, s1.l2, s1.l3, (g1.newLs hv np).ofHead⟩
theorem c_tuple {x1} (h : PA X es (RdV C Γ ms .F Γ1)) (hl : ms.length ≤ 16777216 := by exact of_decide_eq_true rfl) : PE X (.Tuple es x1 pos) (RdE C Γ (tupleM ms) .F Γ1) := by
  refine pe_imp (pe_tup h) fun σ H Q h => ?_
  obtain ⟨W, ρ, T, st, th⟩ := h
  refine ⟨W, ρ, T, st, (Thn.bnd th).len.imp fun ds ρ1 ⟨hn, k⟩ vs H1 W1 e hv s1 => ⟨by rw [hv, hn, sizeLine_eq]; exact hl, fun p np => ?_⟩⟩
  have g1 : Good C.K H1 W1 (rootsOf .F vs ds ++ (er σ Γ1 ρ1 ++ T)) := s1.g.perm (by rw [← List.append_assoc, ← List.append_assoc]; exact List.Perm.append_right _ List.perm_append_comm)
  have r := g1.itemsF hv
  obtain ⟨W2, e2, g2⟩ := (Good.drop g1).newF np (d := .tuple ds) fun W' ew hp => .tup (.inl (.inl hp)) (r.mono ew)
  exact k (.ref p) _ W2 (e.trans e2) ⟨s1.l1, s1.l2, s1.l3, g2.ofHead⟩
end

/-! ### a def's meaning, its promise -/
inductive FO (α : Type) where
  | ok (a : α)
  | exc (x : Exn)
  | bad
abbrev XR := Exn → Value → Option Addr → Hp → Prop
/-- a def that changes none of its arguments -/
def spF (K : PySem.W.Frag) (xr : XR) (n : Nat) (rs : Sh) (F : List Dt → FO Dt) : Sp := fun vs H Q E => vs.length = n ∧ ∃ W ds T, vs.length = ds.length ∧ Good K H W (rootsOf .F vs ds ++ T) ∧ match F ds with
  | .ok d => ∀ v H' W', Ex W W' → Good K H' W' (⟨rs, some v, d⟩ :: T) → Q v H'
  | .exc x => ∀ cls dx H' W', Ex W W' → xr x cls dx H' → Good K H' W' T → E cls dx H'
  | .bad => False
/-- a def that changes the list that is its first argument -/
def spG (K : PySem.W.Frag) (xr : XR) (n : Nat) (rs : Sh) (F : Dt → List Dt → FO (Dt × Dt)) : Sp := fun us H Q E => us.length = n + 1 ∧ ∃ W v0 vs d0 ds T, us = v0 :: vs ∧ vs.length = ds.length ∧ Good K H W (⟨.O .F, some v0, d0⟩ :: (rootsOf .F vs ds ++ T)) ∧ match F d0 ds with
  | .ok (d, d1) => ∀ v H' W', Ex W W' → Good K H' W' (⟨rs, some v, d⟩ :: ⟨.O .F, some v0, d1⟩ :: T) → Q v H'
  | .exc x => ∀ cls dx H' W', Ex W W' → xr x cls dx H' → Good K H' W' T → E cls dx H'
  | .bad => False
def callM (F : List Dt → FO Dt) (ms : List (M Dt)) : M Dt := bnd (valsM ms) fun ds ρ => match F ds with
  | .ok d => .ok d ρ
  | .exc x => .exc x ρ
  | .bad => .bad
/-- .. the first argument the list that slot i holds -/
def callG (F : Dt → List Dt → FO (Dt × Dt)) (i : Nat) (ms : List (M Dt)) : M Dt := bnd (fun ρ => match ρ[i]? with
  | some (some _) => .ok () ρ
  | _ => .bad) fun _ => bnd (valsM ms) fun ds ρ => match ρ[i]? with
  | some (some d0) => match F d0 ds with
    | .ok (d, d1) => .ok d (ρ.set i (some d1))
    | .exc x => .exc x (ρ.set i none)
    | .bad => .bad
  | _ => .bad
section
variable {X : Cx} {C : Ctx} {Γ Γ1 Γ2 Γ' : List Sh} {e : Expr} {es : List Expr} {ms : List (M Dt)} {sh rs : Sh} {pos p : Pos}
variable {CX : CXT} {k : Nat} {fA : Addr} {fd : FuncData} {ps : List Str} {x : Str}
theorem c_call {n : Nat} {F : List Dt → FO Dt} (G : FnOk X.prog X.w X.K X.mg X.base CX k fA fd ps (spF C.K C.xr n rs F)) (hr : Room k X.A) (hg : Gl X x) (hm : X.mg x = some (.ref fA)) (hk : PySem.W.keepIn X.K (.ref fA) = true) (hb : Binds X.K fd ps [])
    (hx : ∀ σ, PassesAt CX X σ (fun cls d H => C.W cls d σ H)) (ha : PA X (e :: es) (RdV C Γ ms .F Γ')) (hn : ms.length = n := by rfl) (hw : leS C.Γx Γ' = true := by rfl) (hdb : (x == ("__debug__" : Str)) = false := by decide)
    (he : starEach (e :: es) X.env = (false, eval e X.env) :: starEach es X.env := by rfl) (hpl : (backTo pos (starEach es X.env)).any (·.1) = false := by rfl) : PE X (.Call (.Name x p) (e :: es) [] pos) (RdE C Γ (callM F ms) rs Γ') := by
  refine pe_imp (pe_callSD (E := fun σ cls d H => C.W cls d σ H) G hr hg hm hk hb .nil hx ha hdb he hpl) fun σ H Q h => ?_
  obtain ⟨W, ρ, T, st, th⟩ := h
  refine ⟨W, ρ, T, st, (Thn.bnd th).len.imp fun ds ρ1 ⟨hn', kk⟩ vs H1 W1 ee hv s1 => ?_⟩
  show spF C.K C.xr n rs F (vs ++ []) H1 Q (fun cls d H => C.W cls d σ H)
  rw [List.append_nil]
  have g1 : Good C.K H1 W1 (rootsOf .F vs ds ++ (er σ Γ' ρ1 ++ T)) := s1.g.perm (by rw [← List.append_assoc, ← List.append_assoc]; exact List.Perm.append_right _ List.perm_append_comm)
  refine ⟨by rw [hv, hn', hn], W1, ds, er σ Γ' ρ1 ++ T, hv, g1, ?_⟩
  cases eF : F ds with
  | ok d =>
    simp only [eF] at kk
    exact fun v H' W' e' g' => kk v H' W' (ee.trans e') ⟨s1.l1, s1.l2, s1.l3, g'.ofHead⟩
  | exc x =>
    simp only [eF] at kk
    intro cls dx H' W' e' hxr g'
    obtain ⟨W2, e2, s2⟩ := Stt.weak (K := C.K) (n := C.n) (Γ := Γ') (Γ' := C.Γx) ⟨s1.l1, s1.l2, s1.l3, g'⟩ hw
    exact kk cls dx σ H' W2 (kp.refl _ _) ((ee.trans e').trans e2) hxr s2
  | bad =>
    simp only [eF] at kk
    exact kk
theorem c_callG {n : Nat} {F : Dt → List Dt → FO (Dt × Dt)} (i : Nat) {y : Str} {py : Pos} (G : FnOk X.prog X.w X.K X.mg X.base CX k fA fd ps (spG C.K C.xr n rs F)) (hr : Room k X.A) (hg : Gl X x) (hm : X.mg x = some (.ref fA)) (hk : PySem.W.keepIn X.K (.ref fA) = true) (hb : Binds X.K fd ps [])
    (hx : ∀ σ, PassesAt CX X σ (fun cls d H => C.W cls d σ H)) (hv : PE X (.Name y py) (tVar i)) (ha : PA X es (RdV C Γ ms .F Γ')) (hi : Γ'[i]? = some (.O .F) := by rfl) (hn : ms.length = n := by rfl) (hw : leS C.Γx Γ' = true := by rfl) (hdb : (x == ("__debug__" : Str)) = false := by decide)
    (hs : starEach (.Name y py :: es) X.env = (false, eval (.Name y py) X.env) :: starEach es X.env := by rfl) (hpl : (backTo pos (starEach es X.env)).any (·.1) = false := by rfl) : PE X (.Call (.Name x p) (.Name y py :: es) [] pos) (RdE C Γ (callG F i ms) rs Γ') := by
  refine pe_imp (pe_callSD (E := fun σ cls d H => C.W cls d σ H) G hr hg hm hk hb .nil hx (pa_cons hv ha hs) hdb hs hpl) fun σ H Q h => ?_
  obtain ⟨W, ρ, T, st, th⟩ := h
  have th0 := Thn.bnd th
  cases e0 : ρ[i]? with
  | none => simp only [e0] at th0; exact th0.elim
  | some o0 =>
  cases o0 with
  | none => simp only [e0] at th0; exact th0.elim
  | some dd0 =>
  simp only [e0] at th0
  have th0 : Thn C σ T W (bnd (valsM ms) _ ρ) _ := th0
  have bd := (Thn.bnd th0).len
  obtain ⟨v0, g0, hv0, _⟩ := st.at e0
  refine ⟨v0, hv0, ?_⟩
  refine ⟨W, ρ, T, st, bd.imp fun ds ρ1 ⟨hn', kk⟩ vs H1 W1 ee hvl s1 => ?_⟩
  show spG C.K C.xr n rs F ((v0 :: vs) ++ []) H1 Q (fun cls d H => C.W cls d σ H)
  rw [List.append_nil]
  cases e1 : ρ1[i]? with
  | none => simp only [e1] at kk; exact kk.elim
  | some o =>
    cases o with
    | none => simp only [e1] at kk; exact kk.elim
    | some d0 =>
      simp only [e1] at kk
      have s2 := s1.take hv0 hi e1
      have g1 : Good C.K H1 W1 (⟨.O .F, some v0, d0⟩ :: (rootsOf .F vs ds ++ (er σ Γ' (ρ1.set i none) ++ T))) := by
        refine s2.g.perm ?_
        refine List.perm_middle.trans (List.Perm.cons _ ?_)
        rw [← List.append_assoc, ← List.append_assoc]
        exact List.Perm.append_right _ List.perm_append_comm
      refine ⟨by rw [List.length_cons, hvl, hn', hn], W1, v0, vs, d0, ds, er σ Γ' (ρ1.set i none) ++ T, rfl, hvl, g1, ?_⟩
      cases eF : F d0 ds with
      | ok dd =>
        obtain ⟨d, d1⟩ := dd
        simp only [eF] at kk
        intro v H' W' e' g'
        have s3 : Stt C.K C.n H' W' σ Γ' (ρ1.set i none) (⟨.O .F, some v0, d1⟩ :: ⟨rs, some v, d⟩ :: T) := ⟨s2.l1, s2.l2, s2.l3, by
          refine g'.perm ?_
          refine (List.Perm.swap _ _ _).trans ?_
          refine List.Perm.trans ?_ List.perm_middle.symm
          exact List.Perm.cons _ List.perm_middle.symm⟩
        exact kk v H' W' (ee.trans e') (s3.back hv0 hi)
      | exc x =>
        simp only [eF] at kk
        intro cls dx H' W' e' hxr g'
        obtain ⟨W2, e2, s2'⟩ := Stt.weak (K := C.K) (n := C.n) (Γ := Γ') (Γ' := C.Γx) ⟨s2.l1, s2.l2, s2.l3, g'⟩ hw
        exact kk cls dx σ H' W2 (kp.refl _ _) ((ee.trans e').trans e2) hxr s2'
      | bad =>
        simp only [eF] at kk
        exact kk
end
end Vs

/-! part VsD -/
set_option Elab.async false
set_option linter.all false
set_option maxRecDepth 100000
set_option maxHeartbeats 4000000
/-! Statements, loops, comprehensions, a def by its body. -/
namespace Vs
open PySem PySem.Spec PyProof.Rows L2

section
variable {X : Cx} {C : Ctx} {Γ Γ1 Γ2 Γ3 Γ' : List Sh} {e ea eb : Expr} {es rest : List Expr} {f : M Dt} {g : M Bool} {m m1 m2 : M Fl} {sh : Sh} {pos : Pos} {st : Stmt} {sts : List Stmt}

/-! ### blocks -/
def nopM : M Fl := rt .nx
def seqM (a b : M Fl) : M Fl := bnd a fun fl => match fl with
  | .nx => b
  | .ret d => rt (.ret d)
  | .bk => rt .bk
  | .ct => rt .ct
theorem SK.up {σ σ1 : St} {W W1 : Hp} {T : List Root} {Γ' : List Sh} {D : Ends} {fl : Fl} {ρ : Env} (k : kp C σ σ1) (e : Ex W W1) (h : SK C σ W T Γ' D fl ρ) : SK C σ1 W1 T Γ' D fl ρ := by
  cases fl with
  | nx => exact fun σ' H' W' k' e' s => h σ' H' W' (k.trans k') (e.trans e') s
  | ret d => exact fun v σ' H' W' k' e' s => h v σ' H' W' (k.trans k') (e.trans e') s
  | bk => exact fun σ' H' W' k' e' s => h σ' H' W' (k.trans k') (e.trans e') s
  | ct => exact fun σ' H' W' k' e' s => h σ' H' W' (k.trans k') (e.trans e') s
theorem s_nil : PSs X [] (RdS C Γ nopM Γ) := pss_imp pss_nil fun D σ H h => by
  obtain ⟨W, ρ, T, s, th⟩ := h
  exact th σ H W (kp.refl _ _) (Ex.refl W) s
theorem s_cons (h1 : PS X st (RdS C Γ m1 Γ1)) (h2 : PSs X sts (RdS C Γ1 m2 Γ2)) : PSs X (st :: sts) (RdS C Γ (seqM m1 m2) Γ2) := pss_imp (pss_cons h1 h2) fun D σ H h => by
  obtain ⟨W, ρ, T, s, th⟩ := h
  refine ⟨W, ρ, T, s, (Thn.bnd th).imp fun fl ρ1 k => ?_⟩
  cases fl with
  | nx => exact fun σ' H' W' kk e s1 => ⟨W', ρ1, T, s1, Thn.up0 kk e k fun fl2 ρ2 k2 => SK.up kk e k2⟩
  | ret d => exact k
  | bk => exact k
  | ct => exact k
theorem s_one (h1 : PS X st (RdS C Γ m Γ1)) : PSs X [st] (RdS C Γ m Γ1) := pss_one h1
/-- shapes made less behind a block -/
theorem s_weak (h : PSs X sts (RdS C Γ m Γ1)) (hl : leS Γ2 Γ1 = true) : PSs X sts (RdS C Γ m Γ2) := pss_imp h fun D σ H h => by
  obtain ⟨W, ρ, T, s, th⟩ := h
  refine ⟨W, ρ, T, s, th.imp fun fl ρ1 k => ?_⟩
  cases fl with
  | nx =>
    intro σ' H' W' kk e s1
    obtain ⟨W2, e2, s2⟩ := s1.weak hl
    exact k σ' H' W2 kk (e.trans e2) s2
  | ret d => exact k
  | bk => exact k
  | ct => exact k
/-- .. ahead of it -/
theorem s_weak0 (h : PSs X sts (RdS C Γ1 m Γ2)) (hl : leS Γ1 Γ = true) : PSs X sts (RdS C Γ m Γ2) := pss_imp h fun D σ H h => by
  obtain ⟨W, ρ, T, s, th⟩ := h
  obtain ⟨W2, e2, s2⟩ := s.weak hl
  exact ⟨W2, ρ, T, s2, Thn.up0 (kp.refl _ _) e2 th fun fl ρ1 k => SK.up (kp.refl _ _) e2 k⟩
theorem q_weak0 (h : PS X st (RdS C Γ1 m Γ2)) (hl : leS Γ1 Γ = true) : PS X st (RdS C Γ m Γ2) := ps_imp h fun D σ H h => by
  obtain ⟨W, ρ, T, s, th⟩ := h
  obtain ⟨W2, e2, s2⟩ := s.weak hl
  exact ⟨W2, ρ, T, s2, Thn.up0 (kp.refl _ _) e2 th fun fl ρ1 k => SK.up (kp.refl _ _) e2 k⟩

/-! ### small statements -/
theorem s_pass : PS X (.Pass pos) (RdS C Γ nopM Γ) := ps_imp ps_pass fun D σ H h => by
  obtain ⟨W, ρ, T, s, th⟩ := h
  exact th σ H W (kp.refl _ _) (Ex.refl W) s
def dropM (f : M Dt) : M Fl := bnd f fun _ => rt .nx
theorem s_expr (he : PE X e (RdE C Γ f sh Γ1)) (hs : swapsWith e none pos.line X.env = pure false := by rfl) : PS X (.Expr e pos) (RdS C Γ (dropM f) Γ1) := ps_imp (ps_expr he hs) fun D σ H h => by
  obtain ⟨W, ρ, T, s, th⟩ := h
  exact ⟨W, ρ, T, s, (Thn.bnd th).imp fun d ρ1 k v H1 W1 e s1 => k σ H1 W1 (kp.refl _ _) e s1.mid1⟩
def retM (f : M Dt) : M Fl := bnd f fun d => rt (.ret d)
theorem s_ret (he : PE X e (RdE C Γ f sh Γ1)) (h1 : C.rs.le sh = true := by rfl) (h2 : leS C.Γr Γ1 = true := by rfl) : PS X (.Return (some e) pos) (RdS C Γ (retM f) Γ2) := ps_imp (ps_ret he) fun D σ H h => by
  obtain ⟨W, ρ, T, s, th⟩ := h
  refine ⟨W, ρ, T, s, (Thn.bnd th).imp fun d ρ1 k v H1 W1 e s1 => ?_⟩
  obtain ⟨W2, e2, s2⟩ := s1.weakT h1
  obtain ⟨W3, e3, s3⟩ := s2.weak h2
  exact k v σ H1 W3 (kp.refl _ _) ((e.trans e2).trans e3) s3
theorem s_retN (h1 : C.rs = .F := by rfl) (h2 : leS C.Γr Γ = true := by rfl) : PS X (.Return none pos) (RdS C Γ (retM (rt .none)) Γ2) := ps_imp ps_retN fun D σ H h => by
  obtain ⟨W, ρ, T, s, th⟩ := h
  obtain ⟨W3, e3, s3⟩ := s.weak h2
  refine th .non σ H W3 (kp.refl _ _) e3 ⟨s3.l1, s3.l2, s3.l3, ?_⟩
  rw [h1]
  exact (s3.g.addF .non).ofHead
theorem s_break (h : leS C.Γl Γ = true := by rfl) : PS X (.Break pos) (RdS C Γ (rt .bk) Γ2) := ps_imp ps_break fun D σ H q => by
  obtain ⟨W, ρ, T, s, th⟩ := q
  obtain ⟨W3, e3, s3⟩ := s.weak h
  exact th σ H W3 (kp.refl _ _) e3 s3
theorem s_continue (h : leS C.Γl Γ = true := by rfl) : PS X (.Continue pos) (RdS C Γ (rt .ct) Γ2) := ps_imp ps_continue fun D σ H q => by
  obtain ⟨W, ρ, T, s, th⟩ := q
  obtain ⟨W3, e3, s3⟩ := s.weak h
  exact th σ H W3 (kp.refl _ _) e3 s3
def iteM (c : M Bool) (a b : M Fl) : M Fl := bnd c fun t => match t with
  | true => a
  | false => b
theorem s_if {c : Expr} {a b : List Stmt} (hc : PT X c (RdT C Γ g Γ1)) (ha : PSs X a (RdS C Γ1 m1 Γ2)) (hb : PSs X b (RdS C Γ1 m2 Γ2)) : PS X (.If c a b pos) (RdS C Γ (iteM g m1 m2) Γ2) := ps_imp (ps_if hc ha hb) fun D σ H h => by
  obtain ⟨W, ρ, T, s, th⟩ := h
  refine ⟨W, ρ, T, s, (Thn.bnd th).imp fun t ρ1 k H1 W1 e s1 => ?_⟩
  cases t with
  | true =>
    rw [if_pos rfl]
    exact ⟨W1, ρ1, T, s1, Thn.up0 (kp.refl _ _) e k fun fl ρ2 k2 => SK.up (kp.refl _ _) e k2⟩
  | false =>
    rw [if_neg Bool.false_ne_true]
    exact ⟨W1, ρ1, T, s1, Thn.up0 (kp.refl _ _) e k fun fl ρ2 k2 => SK.up (kp.refl _ _) e k2⟩

/-! ### targets and stores -/
def setT (i : Nat) : TgF := fun d ρ => some (ρ.set i (some d))
theorem g_name (i : Nat) {x : Str} (hg : PG X (.Name x pos) (gName i)) (hi : i < C.n := by exact of_decide_eq_true rfl) (ho : i ∉ C.io := by exact of_decide_eq_true rfl) : PG X (.Name x pos) (RdG C Γ sh (setT i) (Γ.set i sh)) := pg_imp hg fun v σ H Q h => by
  obtain ⟨W, ρ, T, d, ρ', s, e, k⟩ := h
  simp only [setT, Option.some.injEq] at e
  subst e
  exact k _ H W (kp.set ho) (Ex.refl W) (s.put hi)
def stoM (t : TgF) (d : Dt) : M Fl := fun ρ => match t d ρ with
  | some ρ' => .ok .nx ρ'
  | none => .bad
def asgM (f : M Dt) (t : TgF) : M Fl := bnd f (stoM t)
theorem rd_asg {t : TgF} {D : Ends} {σ : St} {H : Hp} (h : RdS C Γ (asgM f t) Γ2 D σ H) : RdE C Γ f sh Γ1 σ H fun x H1 => RdG C Γ1 sh t Γ2 x σ H1 D.nx := by
  obtain ⟨W, ρ, T, s, th⟩ := h
  refine ⟨W, ρ, T, s, (Thn.bnd th).imp fun d ρ1 k v H1 W1 e s1 => ?_⟩
  unfold stoM at k
  cases et : t d ρ1 with
  | none => simp only [et] at k; exact k.elim
  | some ρ2 =>
    simp only [et] at k
    exact ⟨W1, ρ1, T, d, ρ2, s1, et, fun σ' H' W' kk e' s' => k σ' H' W' kk (e.trans e') s'⟩
/-- name = value -/
theorem s_set (i : Nat) {x : Str} {pos' : Pos} (hs : ∀ {te : TE}, PE X e te → PS X (.Assign [.Name x pos'] e pos) (tAsg te (gName i))) (he : PE X e (RdE C Γ f sh Γ1)) (hi : i < C.n := by exact of_decide_eq_true rfl) (ho : i ∉ C.io := by exact of_decide_eq_true rfl) :
    PS X (.Assign [.Name x pos'] e pos) (RdS C Γ (asgM f (setT i)) (Γ1.set i sh)) := ps_imp (hs he) fun D σ H h => by
  obtain ⟨W, ρ, T, s, th⟩ := rd_asg (sh := sh) (Γ1 := Γ1) h
  refine ⟨W, ρ, T, s, th.imp fun d ρ1 k v H1 W1 e s1 => ?_⟩
  obtain ⟨W', ρ', T', d', ρ2, s', et, k'⟩ := k v H1 W1 e s1
  simp only [setT, Option.some.injEq] at et
  subst et
  exact k' _ H1 W' (kp.set ho) (Ex.refl _) (s'.put hi)
/-- target = value -/
theorem s_asg {tg : Expr} {t : TgF} (hs : ∀ {te : TE} {tt : TG}, PE X e te → PG X tg tt → PS X (.Assign [tg] e pos) (tAsg te tt)) (he : PE X e (RdE C Γ f sh Γ1)) (hg : PG X tg (RdG C Γ1 sh t Γ2)) :
    PS X (.Assign [tg] e pos) (RdS C Γ (asgM f t) Γ2) := ps_imp (hs he hg) fun D σ H h => rd_asg h
/-- a, b, .. from a tuple: each item a frozen root -/
def tgsT : List TgF → List Dt → Env → Option Env
  | [], [], ρ => some ρ
  | t :: ts, d :: ds, ρ => match t d ρ with
    | some ρ' => tgsT ts ds ρ'
    | none => none
  | _, _, _ => none
def tupT (ts : List TgF) : TgF := fun d ρ => match d with
  | .tuple ds => tgsT ts ds ρ
  | _ => none
def RdGs (C : Ctx) (Γ : List Sh) (ts : List TgF) (Γ' : List Sh) : TGs := fun vs σ H Q => ∃ W ρ T ds ρ', vs.length = ds.length ∧ Stt C.K C.n H W σ Γ ρ (rootsOf .F vs ds ++ T) ∧ tgsT ts ds ρ = some ρ' ∧ ∀ σ' H' W', kp C σ σ' → Ex W W' → Stt C.K C.n H' W' σ' Γ' ρ' T → Q σ' H'
theorem gs_nil : PGs X [] (RdGs C Γ [] Γ) := ⟨fun pins s σ H vs us Q I r h => pgs_nil.run pins s σ H vs us Q I r (by
  obtain ⟨W, ρ, T, ds, ρ', hl, st, et, k⟩ := h
  cases ds with
  | nil =>
    cases vs with
    | nil =>
      simp only [tgsT, Option.some.injEq] at et
      subst et
      exact ⟨rfl, k σ H W (kp.refl _ _) (Ex.refl W) st⟩
    | cons => simp at hl
  | cons => simp [tgsT] at et)⟩
theorem gs_cons {t : TgF} {ts : List TgF} (h1 : PG X e (RdG C Γ .F t Γ1)) (h2 : PGs X es (RdGs C Γ1 ts Γ2)) (hs : (assignEach (e :: es) X.env).map (·.2) = assign e X.env :: (assignEach es X.env).map (·.2) := by rfl) : PGs X (e :: es) (RdGs C Γ (t :: ts) Γ2) :=
  ⟨fun pins s σ H vs us Q I r h => (pgs_cons h1 h2 hs).run pins s σ H vs us Q I r (by
    obtain ⟨W, ρ, T, ds, ρ', hl, st, et, k⟩ := h
    cases ds with
    | nil => simp [tgsT] at et
    | cons d ds =>
      cases vs with
      | nil => simp at hl
      | cons v vs =>
        have hl' : vs.length = ds.length := by simpa using hl
        simp only [tgsT] at et
        cases e1 : t d ρ with
        | none => rw [e1] at et; cases et
        | some ρ1 =>
          rw [e1] at et
          exact ⟨v, vs, rfl, W, ρ, rootsOf .F vs ds ++ T, d, ρ1, st, e1, fun σ1 H1 W1 kk ee s1 => ⟨W1, ρ1, T, ds, ρ', hl', s1, et, fun σ' H' W' kk' e' s' => k σ' H' W' (kk.trans kk') (ee.trans e') s'⟩⟩)⟩
/-- a frozen tuple's items are roots -/
theorem Good.untuple {K : PySem.W.Frag} {H W : Hp} {R : List Root} : ∀ {vs : List V} {ds : List Dt}, RFs K W vs ds → Good K H W R → Good K H W (rootsOf .F vs ds ++ R)
  | _, _, .nil, g => g
  | _, _, .cons r t, g => (Good.untuple t g).addF r
theorem g_tuple {k : Nat} {ts : List TgF} (hg : ∀ {tt : TGs}, PGs X es tt → PG X (.Tuple es k pos) (gTup X.K n tt)) (h : PGs X es (RdGs C Γ ts Γ1)) (hK : X.K = C.K := by rfl) (hn : ts.length = n := by rfl) (hsh : sh = .F := by rfl) : PG X (.Tuple es k pos) (RdG C Γ sh (tupT ts) Γ1) := pg_imp (hg h) fun v σ H Q h => by
  obtain ⟨W, ρ, T, d, ρ', s, et, kk⟩ := h
  subst hsh
  unfold tupT at et
  cases d with
  | tuple ds =>
    simp only at et
    obtain ⟨u, eu, r⟩ := s.g.frozenAt (List.mem_append_right _ List.mem_cons_self)
    cases eu
    cases r with
    | tup hq hr =>
      rename_i a vs
      refine ⟨a, vs, rfl, ?_, ?_, W, ρ, T, ds, ρ', hr.length, ⟨s.l1, s.l2, s.l3, ?_⟩, et, kk⟩
      · rw [hK]; exact ex_t s.g.1 hq
      · rw [hr.length, tgs_len et, hn]
      · have g1 := Good.untuple hr s.mid1.g
        exact g1.perm (by rw [← List.append_assoc, ← List.append_assoc]; exact List.Perm.append_right _ List.perm_append_comm)
  | none => cases et
  | bool => cases et
  | int => cases et
  | str => cases et
  | list => cases et
  | dict => cases et
where
  tgs_len : ∀ {ts : List TgF} {ds : List Dt} {ρ ρ' : Env}, tgsT ts ds ρ = some ρ' → ds.length = ts.length
    | [], [], _, _, _ => rfl
    | t :: ts, d :: ds, ρ, ρ', h => by
      simp only [tgsT] at h
      cases e1 : t d ρ with
      | none => rw [e1] at h; cases h
      | some ρ1 => rw [e1] at h; simp [tgs_len h]
    | [], _ :: _, _, _, h => by simp [tgsT] at h
    | _ :: _, [], _, _, h => by simp [tgsT] at h
/-- a, b = x, y: two plain local names, values of any shapes -/
def par2 (i j : Nat) (fa fb : M Dt) : M Fl := bnd fa fun a => bnd fb fun b ρ => .ok .nx ((ρ.set i (some a)).set j (some b))
def par3 (i j l : Nat) (fa fb fc : M Dt) : M Fl := bnd fa fun a => bnd fb fun b => bnd fc fun c ρ => .ok .nx (((ρ.set i (some a)).set j (some b)).set l (some c))
variable {fa fb fc : M Dt} {sa sb sc : Sh} {ec : Expr} {i j l : Nat}
theorem s_par2 (hs : ∀ {ta : TA}, PA X [ea, eb] ta → PS X st (tPar i j ta)) (ha : PE X ea (RdE C Γ fa sa Γ1)) (hb : PE X eb (RdE C Γ1 fb sb Γ2)) (h1 : starEach [ea, eb] X.env = (false, eval ea X.env) :: starEach [eb] X.env := by rfl) (h2 : starEach [eb] X.env = (false, eval eb X.env) :: starEach [] X.env := by rfl)
    (hi : i < C.n := by exact of_decide_eq_true rfl) (hj : j < C.n := by exact of_decide_eq_true rfl) (oi : i ∉ C.io := by exact of_decide_eq_true rfl) (oj : j ∉ C.io := by exact of_decide_eq_true rfl) : PS X st (RdS C Γ (par2 i j fa fb) ((Γ2.set i sa).set j sb)) := ps_imp (hs (pa_cons ha (pa_cons hb pa_nil h2) h1)) fun D σ H h => by
  obtain ⟨W, ρ, T, s, th⟩ := h
  refine ⟨W, ρ, T, s, (Thn.bnd th).imp fun a ρ1 k v H1 W1 e s1 => ⟨W1, ρ1, _ :: T, s1, (Thn.bnd (Thn.up (R := [_]) (kp.refl _ _) e k fun _ _ z => z)).imp fun b ρ2 k2 v2 H2 W2 e2 s2 => ⟨v, v2, rfl, ?_⟩⟩⟩
  have s3 : Stt C.K C.n H2 W2 σ Γ2 ρ2 (⟨sa, some v, a⟩ :: ⟨sb, some v2, b⟩ :: T) := ⟨s2.l1, s2.l2, s2.l3, s2.g.perm (List.Perm.append_left _ (List.Perm.swap _ _ _))⟩
  exact k2 _ H2 W2 ((kp.set oi).trans (kp.set oj)) (e.trans e2) ((s3.put hi).put hj)
theorem s_par3 (hs : ∀ {ta : TA}, PA X [ea, eb, ec] ta → PS X st (tPar3 i j l ta)) (ha : PE X ea (RdE C Γ fa sa Γ1)) (hb : PE X eb (RdE C Γ1 fb sb Γ2)) (hc : PE X ec (RdE C Γ2 fc sc Γ3)) (h1 : starEach [ea, eb, ec] X.env = (false, eval ea X.env) :: starEach [eb, ec] X.env := by rfl) (h2 : starEach [eb, ec] X.env = (false, eval eb X.env) :: starEach [ec] X.env := by rfl) (h3 : starEach [ec] X.env = (false, eval ec X.env) :: starEach [] X.env := by rfl)
    (hi : i < C.n := by exact of_decide_eq_true rfl) (hj : j < C.n := by exact of_decide_eq_true rfl) (hl : l < C.n := by exact of_decide_eq_true rfl) (oi : i ∉ C.io := by exact of_decide_eq_true rfl) (oj : j ∉ C.io := by exact of_decide_eq_true rfl) (ol : l ∉ C.io := by exact of_decide_eq_true rfl) : PS X st (RdS C Γ (par3 i j l fa fb fc) (((Γ3.set i sa).set j sb).set l sc)) := ps_imp (hs (pa_cons ha (pa_cons hb (pa_cons hc pa_nil h3) h2) h1)) fun D σ H h => by
  obtain ⟨W, ρ, T, s, th⟩ := h
  refine ⟨W, ρ, T, s, (Thn.bnd th).imp fun a ρ1 k v H1 W1 e s1 => ⟨W1, ρ1, _ :: T, s1, (Thn.bnd (Thn.up (R := [_]) (kp.refl _ _) e k fun _ _ z => z)).imp fun b ρ2 k2 v2 H2 W2 e2 s2 => ⟨W2, ρ2, _ :: _ :: T, s2, (Thn.bnd (Thn.up (R := [_]) (kp.refl _ _) e2 k2 fun _ _ z => z)).imp fun c ρ3 k3 v3 H3 W3 e3 s3 => ⟨v, v2, v3, rfl, ?_⟩⟩⟩⟩
  have s4 : Stt C.K C.n H3 W3 σ Γ3 ρ3 (⟨sa, some v, a⟩ :: ⟨sb, some v2, b⟩ :: ⟨sc, some v3, c⟩ :: T) := ⟨s3.l1, s3.l2, s3.l3, s3.g.perm (List.Perm.append_left _ (by
    refine (List.Perm.swap _ _ _).trans ((List.Perm.cons _ (List.Perm.swap _ _ _)).trans ?_)
    refine (List.Perm.swap _ _ _).trans ?_
    exact List.Perm.refl _))⟩
  exact k3 _ H3 W3 (((kp.set oi).trans (kp.set oj)).trans (kp.set ol)) ((e.trans e2).trans e3) (((s4.put hi).put hj).put hl)
end
end Vs

/-! part VsE -/
set_option Elab.async false
set_option linter.all false
set_option maxRecDepth 100000
set_option maxHeartbeats 4000000
/-! Appending, loops, comprehensions, a def by its body. -/
namespace Vs
open PySem PySem.Spec PyProof.Rows L2

/-! ### an item appended to an owned list -/
theorem OWs.snoc {K : PySem.W.Frag} {H W : Hp} {s : Sh} {y : V} {d : Dt} {f2 : List Addr} (r : OW K H W s y d f2) : ∀ {vs : List V} {ds : List Dt} {f1 : List Addr}, OWs K H W s vs ds f1 → OWs K H W s (vs ++ [y]) (ds ++ [d]) (f1 ++ f2)
  | _, _, _, .nil => by
    have : ([] : List Addr) ++ f2 = f2 ++ [] := by simp
    rw [this]
    exact .cons r .nil
  | _, _, _, .cons a t => by
    rw [List.append_assoc]
    exact .cons a (OWs.snoc r t)
theorem Good.push {K : PySem.W.Frag} {H W : Hp} {R : List Root} {s : Sh} {a : Addr} {ds : List Dt} {y : V} {d : Dt} (g : Good K H W (⟨.O s, some (.ref a), .list ds⟩ :: ⟨s, some y, d⟩ :: R)) : ∃ vs, H a = some (.lst vs) ∧ vs.length = ds.length ∧ Good K (upd H a (.lst (vs ++ [y]))) W (⟨.O s, some (.ref a), .list (ds ++ [d])⟩ :: R) := by
  obtain ⟨e, fp, h, nd⟩ := g
  cases h with
  | cons o tl =>
    cases o with
    | lst h1 h2 h3 =>
      cases tl with
      | cons o2 t2 =>
        rename_i vs f1 f2 f3
        rw [List.cons_append] at nd
        have nd1 := List.nodup_cons.mp nd
        have na1 : a ∉ f1 := fun z => nd1.1 (List.mem_append_left _ z)
        have na2 : a ∉ f2 := fun z => nd1.1 (List.mem_append_right _ (List.mem_append_left _ z))
        have na3 : a ∉ f3 := fun z => nd1.1 (List.mem_append_right _ (List.mem_append_right _ z))
        refine ⟨vs, h1, h3.length, fun b u hb => ?_, (a :: (f1 ++ f2)) ++ f3, .cons (.lst upd_same h2 ((h3.snoc o2).move (Ex.refl _) (fun b hb => upd_ne fun z => ?_) ?_)) (t2.move (Ex.refl _) (fun b hb => upd_ne fun z => na3 (z ▸ hb)) t2.apart), ?_⟩
        · have : b ≠ a := fun z => by rw [z, h2] at hb; cases hb
          rw [upd_ne this]
          exact e b u hb
        · subst z
          rcases List.mem_append.mp hb with z | z
          · exact na1 z
          · exact na2 z
        · exact (h3.snoc o2).apart
        · rw [List.cons_append, List.append_assoc]
          exact nd
section
variable {X : Cx} {C : Ctx} {Γ Γ1 Γ2 Γ3 Γ' Γh Γt Γe Γc : List Sh} {e ea eb : Expr} {es rest : List Expr} {f : M Dt} {g : M Bool} {m m1 m2 : M Fl} {sh s : Sh} {pos apos : Pos} {st : Stmt} {sts : List Stmt}
def chkL (i : Nat) : M Unit := fun ρ => match ρ[i]? with
  | some (some (.list _)) => .ok () ρ
  | _ => .bad
def appM (i : Nat) (f : M Dt) : M Fl := bnd (chkL i) fun _ => bnd f fun d ρ => match ρ[i]? with
  | some (some (.list ds)) => if ds.length < 16777216 then .ok .nx (ρ.set i (some (.list (ds ++ [d])))) else .bad
  | _ => .bad
theorem s_append (i : Nat) {x : Str} {px pos2 : Pos} (hv : PE X (.Name x px) (tVar i)) (he : PE X e (RdE C Γ f s Γ1)) (hi : Γ[i]? = some (.O s) := by rfl) (hi1 : Γ1[i]? = some (.O s) := by rfl) (hK : X.K = C.K := by rfl)
    (hs : starEach [e] X.env = (false, eval e X.env) :: starEach [] X.env := by rfl)
    (hp : ∀ {t : TE}, PE X (.Call (.Attribute (.Name x px) "append" apos) [e] [] pos2) t → PS X (.Expr (.Call (.Attribute (.Name x px) "append" apos) [e] [] pos2) pos) (tDrop t))
    (hb : ∀ {to : TE} {t : TA}, PE X (.Name x px) to → PA X [e] t → PE X (.Call (.Attribute (.Name x px) "append" apos) [e] [] pos2) (tBM X.K "list" rAppend to t)) :
    PS X (.Expr (.Call (.Attribute (.Name x px) "append" apos) [e] [] pos2) pos) (RdS C Γ (appM i f) Γ1) := ps_imp (hp (hb hv (pa_cons he pa_nil hs))) fun D σ H h => by
  obtain ⟨W, ρ, T, s0, th⟩ := h
  have th := Thn.bnd th
  unfold chkL at th
  cases e0 : ρ[i]? with
  | none => simp only [e0] at th; exact th.elim
  | some o =>
  cases o with
  | none => simp only [e0] at th; exact th.elim
  | some dd =>
  cases dd with
  | list ds0 =>
    simp only [e0] at th
    have th : Thn C σ T W (bnd f _ ρ) _ := th
    obtain ⟨v0, g0, hv0, _⟩ := s0.at e0
    have q0 := (s0.take hv0 hi e0).g.toHead
    obtain ⟨u, fp, eu, ow⟩ := q0.head
    cases eu
    cases ow with
    | lst ha hb' hc' =>
      rename_i a vs0 f1
      refine ⟨.ref a, hv0, .inl ⟨rfl, vs0, .inl (.inl ha)⟩, W, ρ, T, s0, (Thn.bnd th).imp fun d ρ1 k v H1 W1 e1 s1 => ?_⟩
      cases e2 : ρ1[i]? with
      | none => simp only [e2] at k; exact k.elim
      | some o =>
      cases o with
      | none => simp only [e2] at k; exact k.elim
      | some dd =>
      cases dd with
      | list ds =>
        simp only [e2] at k
        by_cases hl : ds.length < 16777216
        · rw [if_pos hl] at k
          have k : SK C σ W T Γ1 D .nx _ := k
          have s2 := s1.take hv0 hi1 e2
          obtain ⟨vs, h1, h2, g2⟩ := Good.push (s2.g.toHead.perm (List.Perm.cons _ List.perm_middle))
          refine ⟨a, vs, v, rfl, rfl, h1, by rw [h2, sizeLine_eq]; exact hl, ?_⟩
          have s3 : Stt C.K C.n (upd H1 a (.lst (vs ++ [v]))) W1 σ Γ1 (ρ1.set i none) (⟨.O s, some (.ref a), .list (ds ++ [d])⟩ :: T) := ⟨s2.l1, s2.l2, s2.l3, g2.ofHead⟩
          exact k σ _ W1 (kp.refl _ _) e1 (s3.back hv0 hi1)
        · rw [if_neg hl] at k; exact k.elim
      | none => simp only [e2] at k; exact k.elim
      | bool => simp only [e2] at k; exact k.elim
      | int => simp only [e2] at k; exact k.elim
      | str => simp only [e2] at k; exact k.elim
      | tuple => simp only [e2] at k; exact k.elim
      | dict => simp only [e2] at k; exact k.elim
  | none => simp only [e0] at th; exact th.elim
  | bool => simp only [e0] at th; exact th.elim
  | int => simp only [e0] at th; exact th.elim
  | str => simp only [e0] at th; exact th.elim
  | tuple => simp only [e0] at th; exact th.elim
  | dict => simp only [e0] at th; exact th.elim

/-! ### for -/
abbrev Ctx.lp (C : Ctx) (Γ : List Sh) : Ctx := { C with Γl := Γ }
def forM (t : TgF) (b : M Fl) : List Dt → M Fl
  | [] => rt .nx
  | d :: ds => bnd (stoM t d) fun _ => bnd b fun fl => match fl with
    | .nx => forM t b ds
    | .ct => forM t b ds
    | .bk => rt .nx
    | .ret r => rt (.ret r)
def forS (it : M (List Dt)) (t : TgF) (b : M Fl) : M Fl := bnd it (forM t b)
theorem s_for {iter tg : Expr} {body : List Stmt} {it : M (List Dt)} {t : TgF} {b : M Fl} (hp : PassesOwn (model X.prog X.w) X.A X.env X.xe) (hc : X.calm = true) (hi : PI X tg iter (RdI C Γ it Γ1)) (hg : PG X tg (RdG C Γh .F t Γt)) (hb : PSs X body (RdS (C.lp Γh) Γt b Γe))
    (l1 : leS Γh Γ1 = true := by rfl) (l2 : leS Γh Γe = true := by rfl) (hf : ∀ x, foldedSetIterable iter X.env x = pure x := by intro _; rfl) : PS X (.For tg iter body [] pos) (RdS C Γ (forS it t b) Γh) := ps_imp (ps_for hp hc hi hg hb hf) fun D σ H h => by
  obtain ⟨W, ρ, T, s0, th⟩ := h
  refine ⟨W, ρ, T, s0, (Thn.bnd th).imp fun ds ρ1 k J H1 W1 e1 s1 src => ?_⟩
  obtain ⟨W2, e2, s2⟩ := s1.weak l1
  refine ⟨fun i m σ' H' => m = ds.length - i ∧ i ≤ ds.length ∧ ∃ W' ρ', kp C σ σ' ∧ Ex W1 W' ∧ Stt C.K C.n H' W' σ' Γh ρ' T ∧ Thn C σ' T W' (forM t b (ds.drop i) ρ') (SK C σ' W' T Γh D),
    ⟨_, rfl, Nat.zero_le _, W2, ρ1, kp.refl _ _, e2, s2, Thn.up0 (kp.refl _ _) (e1.trans e2) k fun _ _ z => SK.up (kp.refl _ _) (e1.trans e2) z⟩, ?_⟩
  rintro i m σ' H' ⟨rfl, hi, W', ρ', kk, ew, s', th'⟩
  have sr := src i H' W' ew s'.g.1
  by_cases hlt : i < ds.length
  · have hd : ds[i]? = some ds[i] := List.getElem?_eq_getElem hlt
    obtain ⟨go, yl⟩ := sr.1 _ hd
    rw [List.drop_eq_getElem_cons hlt] at th'
    refine .inr ⟨go, fun σ'' H'' => ∃ W'' ρ'', kp C σ σ'' ∧ Ex W1 W'' ∧ Stt C.K C.n H'' W'' σ'' Γh ρ'' T ∧ Thn C σ'' T W'' (forM t b (ds.drop (i + 1)) ρ'') (SK C σ'' W'' T Γh D),
      fun σ'' H'' ⟨W'', ρ'', q1, q2, q3, q4⟩ => ⟨ds.length - (i + 1), by omega, rfl, hlt, W'', ρ'', q1, q2, q3, q4⟩, fun x H2 hy => ?_⟩
    obtain ⟨W3, e3, g3⟩ := yl x H2 hy _ s'.g
    have s3 : Stt C.K C.n H2 W3 σ' Γh ρ' (⟨.F, some x, ds[i]⟩ :: T) := ⟨s'.l1, s'.l2, s'.l3, g3.ofHead⟩
    have th2 := Thn.bnd (show Thn C σ' T W' (bnd (stoM t ds[i]) _ ρ') _ from th')
    unfold stoM at th2
    cases et : t ds[i] ρ' with
    | none => simp only [et] at th2; exact th2.elim
    | some ρ2 =>
      simp only [et] at th2
      refine ⟨W3, ρ', T, ds[i], ρ2, s3, et, fun σ2 H4 W4 k4 e4 s4 => ?_⟩
      have th3 := Thn.bnd (show Thn C σ' T W' (bnd b _ ρ2) _ from th2)
      refine ⟨W4, ρ2, T, s4, Thn.up0 (C := C) k4 (e3.trans e4) th3 fun fl ρ3 k5 => ?_⟩
      cases fl with
      | nx =>
        intro σ5 H5 W5 kk5 e5 s5
        obtain ⟨W6, e6, s6⟩ := s5.weak l2
        have e7 := ((e3.trans e4).trans e5).trans e6
        exact ⟨W6, ρ3, (kk.trans k4).trans kk5, ew.trans e7, s6, Thn.up0 (k4.trans kk5) e7 k5 fun _ _ z => SK.up (k4.trans kk5) e7 z⟩
      | ct =>
        intro σ5 H5 W5 kk5 e5 s5
        have e7 := (e3.trans e4).trans e5
        exact ⟨W5, ρ3, (kk.trans k4).trans kk5, ew.trans e7, s5, Thn.up0 (k4.trans kk5) e7 k5 fun _ _ z => SK.up (k4.trans kk5) e7 z⟩
      | bk =>
        intro σ5 H5 W5 kk5 e5 s5
        have k5 : SK C σ' W' T Γh D .nx ρ3 := k5
        exact k5 σ5 H5 W5 (k4.trans kk5) ((e3.trans e4).trans e5) s5
      | ret d =>
        intro v σ5 H5 W5 kk5 e5 s5
        have k5 : SK C σ' W' T Γh D (.ret d) ρ3 := k5
        exact k5 v σ5 H5 W5 (k4.trans kk5) ((e3.trans e4).trans e5) s5
  · have ei : i = ds.length := by omega
    subst ei
    rw [List.drop_length] at th'
    have th' : SK C σ' W' T Γh D .nx ρ' := th'
    exact .inl ⟨sr.2 (Nat.le_refl _), th' σ' H' W' (kp.refl _ _) (Ex.refl _) s'⟩

/-! ### while -/
def whileM (c : M Bool) (b : M Fl) : Nat → M Fl
  | 0 => fun _ => .bad
  | n + 1 => bnd c fun t => match t with
    | true => bnd b fun fl => match fl with
      | .nx => whileM c b n
      | .ct => whileM c b n
      | .bk => rt .nx
      | .ret d => rt (.ret d)
    | false => rt .nx
theorem s_while {c : Expr} {body : List Stmt} {fc : M Bool} {b : M Fl} (n : Nat) (hp : PassesOwn (model X.prog X.w) X.A X.env X.xe) (hc : PT X c (RdT C Γh fc Γc)) (hb : PSs X body (RdS (C.lp Γh) Γc b Γe))
    (l1 : leS Γh Γ = true := by rfl) (l2 : leS Γh Γe = true := by rfl) (l3 : leS Γh Γc = true := by rfl) : PS X (.While c body [] pos) (RdS C Γ (whileM fc b n) Γh) := ps_imp (ps_while hp hc hb) fun D σ H h => by
  obtain ⟨W, ρ, T, s0, th⟩ := h
  obtain ⟨W2, e2, s2⟩ := s0.weak l1
  refine ⟨fun m σ' H' => ∃ W' ρ', kp C σ σ' ∧ Stt C.K C.n H' W' σ' Γh ρ' T ∧ Thn C σ' T W' (whileM fc b m ρ') (SK C σ' W' T Γh D),
    ⟨n, W2, ρ, kp.refl _ _, s2, Thn.up0 (kp.refl _ _) e2 th fun _ _ z => SK.up (kp.refl _ _) e2 z⟩, ?_⟩
  rintro m σ' H' ⟨W', ρ', kk, s', th'⟩
  cases m with
  | zero => exact th'.elim
  | succ m =>
    refine ⟨W', ρ', T, s', (Thn.bnd (show Thn C σ' T W' (bnd fc _ ρ') _ from th')).imp fun t ρ1 k H1 W1 e1 s1 => ?_⟩
    cases t with
    | true =>
      rw [if_pos rfl]
      refine ⟨fun σ'' H'' => ∃ W'' ρ'', kp C σ σ'' ∧ Stt C.K C.n H'' W'' σ'' Γh ρ'' T ∧ Thn C σ'' T W'' (whileM fc b m ρ'') (SK C σ'' W'' T Γh D),
        fun σ'' H'' q => ⟨m, Nat.lt_succ_self m, q⟩, W1, ρ1, T, s1, Thn.up0 (C := C) (kp.refl _ _) e1 (Thn.bnd (show Thn C σ' T W' (bnd b _ ρ1) _ from k)) fun fl ρ2 k5 => ?_⟩
      cases fl with
      | nx =>
        intro σ5 H5 W5 kk5 e5 s5
        obtain ⟨W6, e6, s6⟩ := s5.weak l2
        have e7 := (e1.trans e5).trans e6
        exact ⟨W6, ρ2, kk.trans kk5, s6, Thn.up0 kk5 e7 k5 fun _ _ z => SK.up kk5 e7 z⟩
      | ct =>
        intro σ5 H5 W5 kk5 e5 s5
        have e7 := e1.trans e5
        exact ⟨W5, ρ2, kk.trans kk5, s5, Thn.up0 kk5 e7 k5 fun _ _ z => SK.up kk5 e7 z⟩
      | bk =>
        intro σ5 H5 W5 kk5 e5 s5
        have k5 : SK C σ' W' T Γh D .nx ρ2 := k5
        exact k5 σ5 H5 W5 kk5 (e1.trans e5) s5
      | ret d =>
        intro v σ5 H5 W5 kk5 e5 s5
        have k5 : SK C σ' W' T Γh D (.ret d) ρ2 := k5
        exact k5 v σ5 H5 W5 kk5 (e1.trans e5) s5
    | false =>
      rw [if_neg Bool.false_ne_true]
      have k : SK C σ' W' T Γh D .nx ρ1 := k
      obtain ⟨W3, e3, s3⟩ := s1.weak l3
      exact k σ' H1 W3 (kp.refl _ _) (e1.trans e3) s3
end

/-! ### comprehensions -/
def wipeE : List Nat → Env → Env
  | [], ρ => ρ
  | v :: vs, ρ => (wipeE vs ρ).set v none
def backE : List Nat → Env → Env → Env
  | [], _, ρ' => ρ'
  | v :: vs, ρ, ρ' => backE vs ρ (ρ'.set v ((wipeE vs ρ).getD v none))
def lcGo (vs : List Nat) (t : TgF) (c : M Bool) (e : M Dt) : List Dt → Env → Option (List Dt × Env)
  | [], ρ => some ([], ρ)
  | d :: ds, ρ => match t d ρ with
    | none => none
    | some ρ1 => match c ρ1 with
      | .ok true ρ2 => match e ρ2 with
        | .ok x ρ3 => match lcGo vs t c e ds (wipeE vs ρ3) with
          | some (xs, ρ4) => some (x :: xs, ρ4)
          | none => none
        | _ => none
      | .ok false ρ2 => lcGo vs t c e ds (wipeE vs ρ2)
      | _ => none
def lcM (vs : List Nat) (it : M (List Dt)) (t : TgF) (c : M Bool) (e : M Dt) : M Dt := bnd it fun ds ρ => if ds.length ≤ 16777216 then match lcGo vs t c e ds (wipeE vs ρ) with
  | some (xs, ρ') => .ok (.list xs) (backE vs ρ ρ')
  | none => .bad
  else .bad
def rootAt (σ : St) (Γ : List Sh) (ρ : Env) (v : Nat) : List Root := match ρ[v]?, σ[v]?, Γ[v]? with
  | some (some d), some x, some g => [⟨g, x, d⟩]
  | _, _, _ => []
def ownR (σ : St) (Γ : List Sh) (ρ : Env) : List Nat → List Root
  | [] => []
  | v :: vs => rootAt σ Γ (wipeE vs ρ) v ++ ownR σ Γ ρ vs
section
variable {K : PySem.W.Frag} {n : Nat} {H W : Hp} {σ : St} {Γ : List Sh} {ρ ρ' : Env} {T : List Root}
theorem wipeE_len (ρ : Env) : ∀ vs : List Nat, (wipeE vs ρ).length = ρ.length
  | [] => rfl
  | v :: vs => by unfold wipeE; rw [List.length_set, wipeE_len ρ vs]
theorem wipeE_none {i : Nat} : ∀ {vs : List Nat}, i ∈ vs → i < ρ.length → (wipeE vs ρ)[i]? = some none
  | v :: vs, h, hl => by
    unfold wipeE
    by_cases hv : v = i
    · subst hv; rw [List.getElem?_set_self (by rw [wipeE_len]; exact hl)]
    · rw [List.getElem?_set_ne hv]
      exact wipeE_none ((List.mem_cons.mp h).resolve_left fun z => hv z.symm) hl
theorem er_perm1 (v : Nat) : (er σ Γ ρ).Perm (rootAt σ Γ ρ v ++ er σ Γ (ρ.set v none)) := by
  unfold rootAt
  cases e3 : ρ[v]? with
  | none =>
    rw [List.set_eq_of_length_le (by simpa using List.getElem?_eq_none_iff.mp e3)]
    exact List.Perm.refl _
  | some o =>
    cases o with
    | none =>
      have : ρ.set v none = ρ := by
        apply List.ext_getElem?
        intro j
        by_cases hj : v = j
        · subst hj
          rw [List.getElem?_set_self (List.getElem?_eq_some_iff.mp e3).1, e3]
        · rw [List.getElem?_set_ne hj]
      rw [this]
      exact List.Perm.refl _
    | some d =>
      cases e1 : σ[v]? with
      | none =>
        rw [er_drop.er_none1 v e1]
        exact List.Perm.refl _
      | some x =>
        cases e2 : Γ[v]? with
        | none =>
          rw [er_drop.er_none2 v e2]
          exact List.Perm.refl _
        | some gg => exact er_in v e1 e2 e3
theorem own_out : ∀ vs : List Nat, (er σ Γ ρ).Perm (ownR σ Γ ρ vs ++ er σ Γ (wipeE vs ρ))
  | [] => List.Perm.refl _
  | v :: vs => by
    refine (own_out vs).trans ?_
    show (ownR σ Γ ρ vs ++ er σ Γ (wipeE vs ρ)).Perm ((rootAt σ Γ (wipeE vs ρ) v ++ ownR σ Γ ρ vs) ++ er σ Γ ((wipeE vs ρ).set v none))
    refine (List.Perm.append_left _ (er_perm1 v)).trans ?_
    rw [← List.append_assoc]
    exact List.Perm.append_right _ List.perm_append_comm
theorem own_back : ∀ {vs : List Nat} {ρ' : Env}, ρ'.length = ρ.length → (∀ i ∈ vs, i < ρ.length → ρ'[i]? = some none) → vs.Nodup → (ownR σ Γ ρ vs ++ er σ Γ ρ').Perm (er σ Γ (backE vs ρ ρ'))
  | [], ρ', _, _, _ => List.Perm.refl _
  | v :: vs, ρ', hl, hn, nd => by
    unfold ownR backE
    have nd' := List.nodup_cons.mp nd
    have key : (rootAt σ Γ (wipeE vs ρ) v ++ er σ Γ ρ').Perm (er σ Γ (ρ'.set v ((wipeE vs ρ).getD v none))) := by
      by_cases hv : v < ρ.length
      · have e0 : ρ'[v]? = some none := hn v List.mem_cons_self hv
        have e1 : v < (wipeE vs ρ).length := by rw [wipeE_len]; exact hv
        have e2 : (wipeE vs ρ).getD v none = (wipeE vs ρ)[v] := by rw [List.getD_eq_getElem?_getD, List.getElem?_eq_getElem e1]; rfl
        rw [e2]
        have eq0 : (ρ'.set v ((wipeE vs ρ)[v])).set v none = ρ' := by
          rw [List.set_set]
          apply List.ext_getElem?
          intro j
          by_cases hj : v = j
          · subst hj
            rw [List.getElem?_set_self (by rw [hl]; exact hv), e0]
          · rw [List.getElem?_set_ne hj]
        have p := er_perm1 (σ := σ) (Γ := Γ) (ρ := ρ'.set v ((wipeE vs ρ)[v])) v
        rw [eq0] at p
        have er : rootAt σ Γ (ρ'.set v ((wipeE vs ρ)[v])) v = rootAt σ Γ (wipeE vs ρ) v := by
          unfold rootAt
          rw [List.getElem?_set_self (by rw [hl]; exact hv), List.getElem?_eq_getElem e1]
        rw [er] at p
        exact p.symm
      · have e1 : (wipeE vs ρ)[v]? = none := List.getElem?_eq_none_iff.mpr (by rw [wipeE_len]; omega)
        unfold rootAt
        rw [e1]
        rw [List.set_eq_of_length_le (by rw [hl]; omega)]
        exact List.Perm.refl _
    refine List.Perm.trans ?_ (own_back (vs := vs) (ρ' := ρ'.set v ((wipeE vs ρ).getD v none)) (by rw [List.length_set]; exact hl) (fun i hi hlt => ?_) nd'.2)
    · rw [List.append_assoc]
      refine List.perm_append_comm.trans ?_
      rw [List.append_assoc]
      refine List.Perm.append_left _ ?_
      exact List.perm_append_comm.trans key
    · have : v ≠ i := fun z => nd'.1 (z ▸ hi)
      rw [List.getElem?_set_ne this]
      exact hn i (List.mem_cons_of_mem _ hi) hlt
theorem er_wipe : ∀ vs : List Nat, er (wipe σ vs) Γ (wipeE vs ρ) = er σ Γ (wipeE vs ρ)
  | [] => rfl
  | v :: vs => by
    unfold wipe wipeE
    have h1 : er ((wipe σ vs).set v none) (Γ.set v (Γ.getD v .F)) ((wipeE vs ρ).set v none) = er (wipe σ vs) Γ ((wipeE vs ρ).set v none) := er_out v _ _
    have hΓ : Γ.set v (Γ.getD v .F) = Γ := by
      apply List.ext_getElem?
      intro j
      by_cases hj : v = j
      · subst hj
        by_cases hv : v < Γ.length
        · rw [List.getElem?_set_self hv, List.getD_eq_getElem?_getD, List.getElem?_eq_getElem hv]; rfl
        · rw [List.getElem?_eq_none_iff.mpr (by rw [List.length_set]; omega), List.getElem?_eq_none_iff.mpr (by omega)]
      · rw [List.getElem?_set_ne hj]
    rw [hΓ] at h1
    rw [h1]
    -- both read at an environment with v's slot empty
    have : ∀ (σ1 σ2 : St) (ρ1 : Env), er σ1 Γ ρ1 = er σ2 Γ ρ1 → σ1.length = σ2.length → er σ1 Γ (ρ1.set v none) = er σ2 Γ (ρ1.set v none) := fun σ1 σ2 ρ1 => er_same v
    exact this _ _ _ (er_wipe vs) (wipe_length _ _)
where
  er_same : ∀ (v : Nat) {σ1 σ2 : St} {Γ : List Sh} {ρ1 : Env}, er σ1 Γ ρ1 = er σ2 Γ ρ1 → σ1.length = σ2.length → er σ1 Γ (ρ1.set v none) = er σ2 Γ (ρ1.set v none)
    | _, [], [], Γ, ρ1, _, _ => rfl
    | _, [], _ :: _, Γ, ρ1, _, hl => by simp at hl
    | _, _ :: _, [], Γ, ρ1, _, hl => by simp at hl
    | _, a :: σ1, b :: σ2, [], ρ1, _, _ => by simp [er]
    | _, a :: σ1, b :: σ2, g :: Γ, [], _, _ => by simp [er]
    | 0, a :: σ1, b :: σ2, g :: Γ, r :: ρ1, h, hl => by
      cases r with
      | none => simpa [er] using h
      | some d =>
        simp only [er, List.cons.injEq] at h
        simpa [er] using h.2
    | v + 1, a :: σ1, b :: σ2, g :: Γ, r :: ρ1, h, hl => by
      have hl' : σ1.length = σ2.length := by simpa using hl
      cases r with
      | none =>
        simp only [er, List.set_cons_succ] at h ⊢
        exact er_same v h hl'
      | some d =>
        simp only [er, List.set_cons_succ, List.cons.injEq] at h ⊢
        exact ⟨h.1, er_same v h.2 hl'⟩
end

/-- the context of a comprehension's block: its own slots at vs -/
abbrev Ctx.blk (C : Ctx) (vs : List Nat) : Ctx := { C with io := (List.range C.n).filter (fun i => decide (i ∉ vs)), W := fun _ _ _ _ => False }
theorem kp_wipe {C : Ctx} {vs : List Nat} {σ σ2 : St} (h1 : σ.length = C.n) (h2 : σ2.length = C.n) (k : kp (C.blk vs) (wipe σ vs) σ2) : wipe σ2 vs = wipe σ vs := by
  apply List.ext_getElem?
  intro j
  by_cases hj : j < C.n
  · by_cases hv : j ∈ vs
    · have w : ∀ {τ : St}, τ.length = C.n → (wipe τ vs)[j]? = some none := fun {τ} ht => by
        have : ∀ {us : List Nat}, j ∈ us → (wipe τ us)[j]? = some none := by
          intro us
          induction us with
          | nil => intro h; cases h
          | cons u us ih =>
            intro h
            unfold wipe
            by_cases hu : u = j
            · subst hu; rw [List.getElem?_set_self (by rw [wipe_length, ht]; exact hj)]
            · rw [List.getElem?_set_ne hu]
              exact ih ((List.mem_cons.mp h).resolve_left fun z => hu z.symm)
        exact this hv
      rw [w h1, w h2]
    · have q := k j (List.mem_filter.mpr ⟨List.mem_range.mpr hj, by simpa using hv⟩)
      rw [wipe_out hv, q]
  · rw [List.getElem?_eq_none_iff.mpr (by rw [wipe_length, h2]; omega), List.getElem?_eq_none_iff.mpr (by rw [wipe_length, h1]; omega)]
section
variable {X : Cx} {C : Ctx} {Γ Γ1 Γ2 Γ3 Γ' Γh Γt Γe Γc : List Sh} {s : Sh}
theorem rd_lc {it : M (List Dt)} {t : TgF} {fc : M Bool} {fe : M Dt} {vs : List Nat} (nd : vs.Nodup) (l1 : leS Γh Γ1 = true) (l2 : leS Γh Γc = true) (l3 : leS Γh Γe = true) (hvn : ∀ v ∈ vs, v < C.n) {σ : St} {H : Hp} {Q : VK}
    (h : RdE C Γ (lcM vs it t fc fe) (.O s) Γh σ H Q) : tLc (RdI C Γ it Γ1) (RdG (C.blk vs) Γh .F t Γt) (RdT (C.blk vs) Γt fc Γc) (RdE (C.blk vs) Γc fe s Γe) vs σ H Q := by
  obtain ⟨W, ρ, T, s0, th⟩ := h
  refine ⟨W, ρ, T, s0, (Thn.bnd th).imp fun ds ρ1 k J H1 W1 e1 s1 src D nD => ?_⟩
  by_cases hz : ds.length ≤ 16777216
  · simp only [if_pos hz] at k
    cases el : lcGo vs t fc fe ds (wipeE vs ρ1) with
    | none => simp only [el] at k; exact k.elim
    | some r =>
      obtain ⟨total, ρf⟩ := r
      simp only [el] at k
      have k : ∀ v H' W', Ex W W' → Stt C.K C.n H' W' σ Γh (backE vs ρ1 ρf) (⟨.O s, some v, .list total⟩ :: T) → Q v H' := k
      obtain ⟨W2, e2, s2⟩ := s1.weak l1
      -- the own slots put aside, the new list
      have g2 : Good C.K H1 W2 (er σ Γh (wipeE vs ρ1) ++ (ownR σ Γh ρ1 vs ++ T)) := s2.g.perm (by
        rw [← List.append_assoc]
        exact List.Perm.append_right _ ((own_out vs).trans List.perm_append_comm))
      have g3 := Good.newLs (s := s) (vs := []) (ds := []) rfl g2 nD
      refine ⟨fun i m H' => m = ds.length - i ∧ i ≤ ds.length ∧ ∃ W' ρ' acc xs, Ex W1 W' ∧ ρ'.length = C.n ∧ (∀ v ∈ vs, v < C.n → ρ'[v]? = some none) ∧ wipeE vs ρ' = ρ' ∧
          Good C.K H' W' (er σ Γh ρ' ++ (⟨.O s, some (.ref D), .list acc⟩ :: (ownR σ Γh ρ1 vs ++ T))) ∧ acc.length ≤ i ∧ lcGo vs t fc fe (ds.drop i) ρ' = some (xs, ρf) ∧ acc ++ xs = total,
        ⟨_, rfl, Nat.zero_le _, W2, wipeE vs ρ1, [], total, e2, by rw [wipeE_len]; exact s1.l3, fun v hv hn => wipeE_none hv (by rw [s1.l3]; exact hn), wipe2 ρ1 vs, g3.ofHead, Nat.le_refl _, el, rfl⟩, ?_⟩
      rintro i m H' ⟨rfl, hi, W', ρ', acc, xs, ew, hl', hn', hw', g', ha, eg, et⟩
      have sr := src i H' W' ew g'.1
      by_cases hlt : i < ds.length
      · have hd : ds[i]? = some ds[i] := List.getElem?_eq_getElem hlt
        obtain ⟨go, yl⟩ := sr.1 _ hd
        rw [List.drop_eq_getElem_cons hlt] at eg
        simp only [lcGo] at eg
        refine .inr ⟨go, fun H'' => ∃ W'' ρ'' acc' xs', Ex W1 W'' ∧ ρ''.length = C.n ∧ (∀ v ∈ vs, v < C.n → ρ''[v]? = some none) ∧ wipeE vs ρ'' = ρ'' ∧
          Good C.K H'' W'' (er σ Γh ρ'' ++ (⟨.O s, some (.ref D), .list acc'⟩ :: (ownR σ Γh ρ1 vs ++ T))) ∧ acc'.length ≤ i + 1 ∧ lcGo vs t fc fe (ds.drop (i + 1)) ρ'' = some (xs', ρf) ∧ acc' ++ xs' = total,
          fun H'' q => ⟨ds.length - (i + 1), by omega, rfl, hlt, q⟩, fun x H2 hy => ?_⟩
        cases e4 : t ds[i] ρ' with
        | none => simp only [e4] at eg; cases eg
        | some ρ2 =>
        simp only [e4] at eg
        obtain ⟨W3, e3, gy⟩ := yl x H2 hy _ g'
        have sw : Stt C.K C.n H2 W3 (wipe σ vs) Γh ρ' (⟨.F, some x, ds[i]⟩ :: ⟨.O s, some (.ref D), .list acc⟩ :: (ownR σ Γh ρ1 vs ++ T)) := ⟨by rw [wipe_length]; exact s1.l1, s2.l2, hl', by
          have ee : er (wipe σ vs) Γh ρ' = er σ Γh ρ' := by
            have q := er_wipe (σ := σ) (Γ := Γh) (ρ := ρ') vs
            rw [hw'] at q
            exact q
          rw [ee]
          exact gy.ofHead⟩
        refine ⟨W3, ρ', _, ds[i], ρ2, sw, e4, fun σ2 H4 W4 k4 e5 s4 => ⟨kp_wipe s1.l1 s4.l1 k4, W4, ρ2, _, s4, ?_⟩⟩
        have hσ2 := kp_wipe s1.l1 s4.l1 k4
        -- behind a turn: back to the wiped slots
        have fin : ∀ {H5 W5 : Hp} {ρ5 : Env} {acc' : List Dt} {Γ5 : List Sh}, leS Γh Γ5 = true → Ex W4 W5 → Stt C.K C.n H5 W5 σ2 Γ5 ρ5 (⟨.O s, some (.ref D), .list acc'⟩ :: (ownR σ Γh ρ1 vs ++ T)) →
            ∃ W6, Ex W1 W6 ∧ (wipeE vs ρ5).length = C.n ∧ (∀ v ∈ vs, v < C.n → (wipeE vs ρ5)[v]? = some none) ∧ wipeE vs (wipeE vs ρ5) = wipeE vs ρ5 ∧ Good C.K H5 W6 (er σ Γh (wipeE vs ρ5) ++ (⟨.O s, some (.ref D), .list acc'⟩ :: (ownR σ Γh ρ1 vs ++ T))) := by
          intro H5 W5 ρ5 acc' Γ5 l5 e6 s5
          obtain ⟨W6, e7, s6⟩ := s5.weak l5
          refine ⟨W6, (((ew.trans e3).trans e5).trans e6).trans e7, by rw [wipeE_len]; exact s6.l3, fun v hv hn => wipeE_none hv (by rw [s6.l3]; exact hn), wipe2 ρ5 vs, ?_⟩
          have g6 : Good C.K H5 W6 (er σ2 Γh (wipeE vs ρ5) ++ (⟨.O s, some (.ref D), .list acc'⟩ :: (ownR σ Γh ρ1 vs ++ T))) := by
            have p := List.Perm.append_right (⟨.O s, some (.ref D), .list acc'⟩ :: (ownR σ Γh ρ1 vs ++ T)) (own_out (σ := σ2) (Γ := Γh) (ρ := ρ5) vs)
            have q := s6.g.perm p
            rw [List.append_assoc] at q
            exact Good.drop q
          rw [← er_wipe vs, hσ2, er_wipe vs] at g6
          exact g6
        cases e6 : fc ρ2 with
        | bad => simp only [e6] at eg; cases eg
        | exc x ρ3 => simp only [e6] at eg; cases eg
        | ok b ρ3 =>
          simp only [e6] at eg
          show ∀ H' W', Ex W4 W' → _ → _
          intro H5 W5 e7 s5
          cases b with
          | false =>
            simp only at eg
            rw [if_neg Bool.false_ne_true]
            obtain ⟨W6, q1, q2, q3, q4, q5⟩ := fin l2 e7 s5
            exact ⟨W6, wipeE vs ρ3, acc, xs, q1, q2, q3, q4, q5, by omega, eg, et⟩
          | true =>
            simp only at eg
            rw [if_pos rfl]
            refine ⟨W5, ρ3, _, s5, ?_⟩
            cases e8 : fe ρ3 with
            | bad => simp only [e8] at eg; cases eg
            | exc x ρ4 => simp only [e8] at eg; cases eg
            | ok dx ρ4 =>
              simp only [e8] at eg
              cases e9 : lcGo vs t fc fe (ds.drop (i + 1)) (wipeE vs ρ4) with
              | none => simp only [e9] at eg; cases eg
              | some r2 =>
                obtain ⟨xs2, ρf2⟩ := r2
                simp only [e9, Option.some.injEq, Prod.mk.injEq] at eg
                obtain ⟨ex, ef⟩ := eg
                subst ef
                show ∀ v H' W', Ex W5 W' → _ → _
                intro y H7 W7 e10 s7
                obtain ⟨avs, h1, h2, g7⟩ := Good.push (s := s) (s7.g.toHead.perm ((List.Perm.cons _ List.perm_middle).trans (List.Perm.swap _ _ _)))
                refine ⟨avs, h1, by rw [h2, sizeLine_eq]; omega, ?_⟩
                have s8 : Stt C.K C.n (upd H7 D (.lst (avs ++ [y]))) W7 σ2 Γe ρ4 (⟨.O s, some (.ref D), .list (acc ++ [dx])⟩ :: (ownR σ Γh ρ1 vs ++ T)) := ⟨s7.l1, s7.l2, s7.l3, g7.ofHead⟩
                obtain ⟨W6, q1, q2, q3, q4, q5⟩ := fin l3 (e7.trans e10) s8
                refine ⟨W6, wipeE vs ρ4, acc ++ [dx], xs2, q1, q2, q3, q4, q5, by rw [List.length_append]; simp; omega, e9, ?_⟩
                rw [List.append_assoc]
                show acc ++ (dx :: xs2) = total
                rw [ex]; exact et
      · have ei : i = ds.length := by omega
        subst ei
        rw [List.drop_length] at eg
        simp only [lcGo, Option.some.injEq, Prod.mk.injEq] at eg
        obtain ⟨ex, ef⟩ := eg
        subst ex
        subst ef
        rw [List.append_nil] at et
        subst et
        refine .inl ⟨sr.2 (Nat.le_refl _), k (.ref D) H' W' (e1.trans ew) ⟨s1.l1, s2.l2, ?_, ?_⟩⟩
        · rw [backE_len, hl']
        · have q : (er σ Γh ρ' ++ (⟨.O s, some (.ref D), .list acc⟩ :: (ownR σ Γh ρ1 vs ++ T))).Perm (er σ Γh (backE vs ρ1 ρ') ++ (⟨.O s, some (.ref D), .list acc⟩ :: T)) := by
            have p := own_back (σ := σ) (Γ := Γh) (ρ := ρ1) (vs := vs) (ρ' := ρ') (hl'.trans s1.l3.symm) (fun v hv hn => hn' v hv (by rw [← s1.l3]; exact hn)) nd
            refine List.Perm.trans ?_ (List.Perm.append_right _ p)
            rw [List.append_assoc]
            refine List.Perm.trans ?_ List.perm_append_comm
            rw [List.append_assoc]
            refine List.Perm.append_left _ ?_
            show (_ :: (ownR σ Γh ρ1 vs ++ T)).Perm (_ :: T ++ ownR σ Γh ρ1 vs)
            exact List.Perm.cons _ List.perm_append_comm
          exact g'.perm q
  · simp only [if_neg hz] at k
    exact k.elim
where
  wipe2 (ρ : Env) : ∀ vs : List Nat, wipeE vs (wipeE vs ρ) = wipeE vs ρ := fun vs => by
    apply List.ext_getElem?
    intro j
    by_cases hv : j ∈ vs
    · by_cases hl : j < ρ.length
      · rw [wipeE_none hv (by rw [wipeE_len]; exact hl), wipeE_none hv hl]
      · rw [List.getElem?_eq_none_iff.mpr (by rw [wipeE_len, wipeE_len]; omega), List.getElem?_eq_none_iff.mpr (by rw [wipeE_len]; omega)]
    · have out : ∀ {τ : Env} {us : List Nat}, j ∉ us → (wipeE us τ)[j]? = τ[j]? := by
        intro τ us
        induction us with
        | nil => intro _; rfl
        | cons u us ih =>
          intro h
          unfold wipeE
          rw [List.getElem?_set_ne fun z => h (by rw [z]; exact List.mem_cons_self)]
          exact ih fun z => h (List.mem_cons_of_mem _ z)
      rw [out hv]
  backE_len {ρ : Env} : ∀ {vs : List Nat} {ρ' : Env}, (backE vs ρ ρ').length = ρ'.length
    | [], _ => rfl
    | v :: vs, ρ' => by unfold backE; rw [backE_len, List.length_set]
end
end Vs

/-! part VsF -/
set_option Elab.async false
set_option linter.all false
set_option maxRecDepth 100000
set_option maxHeartbeats 4000000
/-! Comprehensions as rules, what is walked, a def by its body. -/
namespace Vs
open PySem PySem.Spec PyProof.Rows L2

section
variable {X : Cx} {C : Ctx} {Γ Γ1 Γ2 Γ3 Γ' Γh Γt Γe Γc : List Sh} {e ea eb elt tg iter : Expr} {f fa fb fe : M Dt} {fc : M Bool} {it : M (List Dt)} {t : TgF} {sh s : Sh} {pos p spos tpos : Pos} {vs : List Nat}

theorem ts_nil : PTs X [] (RdT C Γ (rt true) Γ) := ⟨fun pins s σ H Q I h => pts_nil.run pins s σ H Q I (by
  obtain ⟨W, ρ, T, st, th⟩ := h
  exact th H W (Ex.refl W) st)⟩
/-- [e for x in it if c]: own, the block's own names with their slots -/
theorem c_lc {ifs : List Expr} {scope : Scope} {own : List (Str × Nat)} (hc : X.calm = true) (hN : X.N.Nodup) (ok : BlkOk X.N X.env.scope scope own) (hi : PI X tg iter (RdI C Γ it Γ1))
    (hg : ∀ (s : Shared) (H : Hp) (c : Addr) (cl : List (Str × Addr)) (fp : List Addr), PG (X.blk s H scope (compEnvC scope cl c X.env) fp) tg (RdG (C.blk (own.map (·.2))) Γh .F t Γt))
    (ht : ∀ (s : Shared) (H : Hp) (c : Addr) (cl : List (Str × Addr)) (fp : List Addr), PTs (X.blk s H scope (compEnvC scope cl c X.env) fp) ifs (RdT (C.blk (own.map (·.2))) Γt fc Γc))
    (he : ∀ (s : Shared) (H : Hp) (c : Addr) (cl : List (Str × Addr)) (fp : List Addr), PE (X.blk s H scope (compEnvC scope cl c X.env) fp) elt (RdE (C.blk (own.map (·.2))) Γc fe sh Γe))
    (nd : (own.map (·.2)).Nodup := by decide) (hvn : ∀ v ∈ own.map (·.2), v < C.n := by exact of_decide_eq_true rfl) (l1 : leS Γh Γ1 = true := by rfl) (l2 : leS Γh Γc = true := by rfl) (l3 : leS Γh Γe = true := by rfl)
    (hs : ∀ x, foldedSetIterable iter X.env x = pure x := by intro _; rfl) : PE X (.ListComp elt [⟨tg, iter, ifs, 0⟩] scope pos) (RdE C Γ (lcM (own.map (·.2)) it t fc fe) (.O sh) Γh) :=
  pe_imp (pe_lc hc hN hi ok hg ht he hs) fun σ H Q h => rd_lc nd l1 l2 l3 hvn h
/-- x = [e for x in it if c] on one line -/
theorem s_setLc {i : Nat} {y : Str} {py : Pos} {ifs : List Expr} {scope : Scope} {own : List (Str × Nat)} (hy : X.N[i]? = some y) (hyl : X.env.scope.names.lookup y = some .local)
    (hsw : swapsWith (.ListComp elt [⟨tg, iter, ifs, 0⟩] scope pos) (some (.Name y py)) spos.line X.env = pure true) (hc : X.calm = true) (hN : X.N.Nodup) (ok : BlkOk X.N X.env.scope scope own) (hi : PI X tg iter (RdI C Γ it Γ1))
    (hg : ∀ (s : Shared) (H : Hp) (c : Addr) (cl : List (Str × Addr)) (fp : List Addr), PG (X.blk s H scope (compEnvC scope cl c X.env) fp) tg (RdG (C.blk (own.map (·.2))) Γh .F t Γt))
    (ht : ∀ (s : Shared) (H : Hp) (c : Addr) (cl : List (Str × Addr)) (fp : List Addr), PTs (X.blk s H scope (compEnvC scope cl c X.env) fp) ifs (RdT (C.blk (own.map (·.2))) Γt fc Γc))
    (he : ∀ (s : Shared) (H : Hp) (c : Addr) (cl : List (Str × Addr)) (fp : List Addr), PE (X.blk s H scope (compEnvC scope cl c X.env) fp) elt (RdE (C.blk (own.map (·.2))) Γc fe sh Γe))
    (nd : (own.map (·.2)).Nodup := by decide) (hvn : ∀ v ∈ own.map (·.2), v < C.n := by exact of_decide_eq_true rfl) (l1 : leS Γh Γ1 = true := by rfl) (l2 : leS Γh Γc = true := by rfl) (l3 : leS Γh Γe = true := by rfl)
    (hin : i < C.n := by exact of_decide_eq_true rfl) (hio : i ∉ C.io := by exact of_decide_eq_true rfl)
    (hs : ∀ x, foldedSetIterable iter X.env x = pure x := by intro _; rfl) : PS X (.Assign [.Name y py] (.ListComp elt [⟨tg, iter, ifs, 0⟩] scope pos) spos) (RdS C Γ (asgM (lcM (own.map (·.2)) it t fc fe) (setT i)) (Γh.set i (.O sh))) :=
  ps_imp (ps_setLc hc hN hy hyl hsw hi ok hg ht he hs) fun D σ H h => by
    have q := rd_asg (sh := .O sh) (Γ1 := Γh) h
    refine rd_lc nd l1 l2 l3 hvn ?_
    obtain ⟨W, ρ, T, s0, th⟩ := q
    refine ⟨W, ρ, T, s0, th.imp fun d ρ1 k v H1 W1 e s1 => ?_⟩
    obtain ⟨W', ρ', T', d', ρ2, s', et, k'⟩ := k v H1 W1 e s1
    simp only [setT, Option.some.injEq] at et
    subst et
    exact k' _ H1 W' (kp.set hio) (Ex.refl _) (s'.put hin)

/-! ### what is walked -/
theorem src_list {K : PySem.W.Frag} {W : Hp} {a : Addr} {us : List V} {ds : List Dt} (h : SqL K W a us) (r : RFs K W us ds) : Src K (Itl K a) ds W := fun i H W' e e' => by
  have hH := ex_l e' (ex_l e h)
  refine ⟨fun d hd => ?_, fun hl => ⟨us, hH, by rw [r.length]; exact hl⟩⟩
  obtain ⟨v, hv, rv⟩ := r.get hd
  refine ⟨⟨us, v, hH, hv⟩, fun x H2 hy R g => ?_⟩
  obtain ⟨e2, q⟩ := hy
  subst e2
  have ex := q us hH
  rw [hv] at ex
  cases ex
  exact ⟨W', Ex.refl _, g.addF (rv.mono e)⟩
theorem src_tup {K : PySem.W.Frag} {W : Hp} {a : Addr} {us : List V} {ds : List Dt} (h : SqT K W a us) (r : RFs K W us ds) : Src K (Itt K a) ds W := fun i H W' e e' => by
  have hH := ex_t e' (ex_t e h)
  refine ⟨fun d hd => ?_, fun hl => ⟨us, hH, by rw [r.length]; exact hl⟩⟩
  obtain ⟨v, hv, rv⟩ := r.get hd
  refine ⟨⟨us, v, hH, hv⟩, fun x H2 hy R g => ?_⟩
  obtain ⟨e2, q⟩ := hy
  subst e2
  have ex := q us hH
  rw [hv] at ex
  cases ex
  exact ⟨W', Ex.refl _, g.addF (rv.mono e)⟩
def intsR (lo hi : Int) : List Dt := (List.range (hi - lo).toNat).map fun i => PyData.int (lo + (i : Nat))
theorem src_rng {K : PySem.W.Frag} {W : Hp} {lo : Int} {n : Nat} : Src K (Itr lo n) ((List.range n).map fun i => PyData.int (lo + (i : Nat))) W := fun i H W' e e' => by
  refine ⟨fun d hd => ?_, fun hl => (by simpa using hl : n ≤ i)⟩
  have hi : i < n := by
    have := (List.getElem?_eq_some_iff.mp hd).1
    simpa using this
  have ed : d = .int (lo + (i : Nat)) := by
    rw [List.getElem?_map, List.getElem?_range hi] at hd
    simpa using hd.symm
  subst ed
  refine ⟨hi, fun x H2 hy R g => ?_⟩
  obtain ⟨e2, q⟩ := hy
  subst e2
  subst q
  exact ⟨W', Ex.refl _, g.addF (.int _)⟩
theorem src_rngC {K : PySem.W.Frag} {W : Hp} {lo c : Int} {n : Nat} : Src K (Itc lo c n) ((List.range n).map fun i => PyData.int (lo + (i : Nat) * c)) W := fun i H W' e e' => by
  refine ⟨fun d hd => ?_, fun hl => (by simpa using hl : n ≤ i)⟩
  have hi : i < n := by
    have := (List.getElem?_eq_some_iff.mp hd).1
    simpa using this
  have ed : d = .int (lo + (i : Nat) * c) := by
    rw [List.getElem?_map, List.getElem?_range hi] at hd
    simpa using hd.symm
  subst ed
  refine ⟨hi, fun x H2 hy R g => ?_⟩
  obtain ⟨e2, q⟩ := hy
  subst e2
  subst q
  exact ⟨W', Ex.refl _, g.addF (.int _)⟩
/-- new pairs -/
theorem pair_new {K : PySem.W.Frag} {H W : Hp} {T : Addr} {x y : V} {d d' : Dt} (r1 : RF K W x d) (r2 : RF K W y d') (n : H T = none) (R : List Root) (g : Good K H W R) : ∃ W2, Ex W W2 ∧ Good K (upd H T (.tup [x, y])) W2 (⟨.F, some (.ref T), .tuple [d, d']⟩ :: R) :=
  g.newF n fun W' ew hp => .tup (.inl (.inl hp)) (.cons (r1.mono ew) (.cons (r2.mono ew) .nil))
def zipD (xs ys : List Dt) : List Dt := (xs.zip ys).map fun p => PyData.tuple [p.1, p.2]
theorem zipD_get {xs ys : List Dt} {i : Nat} {d : Dt} (h : (zipD xs ys)[i]? = some d) : ∃ x y, xs[i]? = some x ∧ ys[i]? = some y ∧ d = .tuple [x, y] := by
  unfold zipD at h
  rw [List.getElem?_map] at h
  cases e : (xs.zip ys)[i]? with
  | none => rw [e] at h; cases h
  | some p =>
    rw [e] at h
    obtain ⟨h1, h2⟩ := List.getElem?_zip_eq_some.mp e
    exact ⟨p.1, p.2, h1, h2, by simpa using h.symm⟩
theorem src_zip {K : PySem.W.Frag} {W : Hp} {a b : Addr} {us ws : List V} {ds es : List Dt} (h : SqL K W a us) (r : RFs K W us ds) (h' : SqL K W b ws) (r' : RFs K W ws es) : Src K (Itz K a b) (zipD ds es) W := fun i H W' e e' => by
  have hH := ex_l e' (ex_l e h)
  have hH' := ex_l e' (ex_l e h')
  refine ⟨fun d hd => ?_, fun hl => ⟨us, ws, hH, hH', ?_⟩⟩
  · obtain ⟨x, y, h1, h2, ed⟩ := zipD_get hd
    subst ed
    obtain ⟨v, hv, rv⟩ := r.get h1
    obtain ⟨w, hw, rw'⟩ := r'.get h2
    refine ⟨⟨us, ws, v, w, hH, hH', hv, hw⟩, fun x' H2 hy R g => ?_⟩
    obtain ⟨T, x1, y1, ex, nT, e2, q1, q2⟩ := hy
    subst ex
    subst e2
    have e1 := q1 us hH
    rw [hv] at e1
    cases e1
    have e3 := q2 ws hH'
    rw [hw] at e3
    cases e3
    exact pair_new (rv.mono e) (rw'.mono e) nT R g
  · rw [r.length, r'.length]
    unfold zipD at hl
    rw [List.length_map, List.length_zip] at hl
    omega
theorem src_zipT {K : PySem.W.Frag} {W : Hp} {a b : Addr} {us ws : List V} {ds es : List Dt} (h : SqT K W a us) (r : RFs K W us ds) (h' : SqT K W b ws) (r' : RFs K W ws es) : Src K (RZ.ItzT K a b) (zipD ds es) W := fun i H W' e e' => by
  have hH := ex_t e' (ex_t e h)
  have hH' := ex_t e' (ex_t e h')
  refine ⟨fun d hd => ?_, fun hl => ⟨us, ws, hH, hH', ?_⟩⟩
  · obtain ⟨x, y, h1, h2, ed⟩ := zipD_get hd
    subst ed
    obtain ⟨v, hv, rv⟩ := r.get h1
    obtain ⟨w, hw, rw'⟩ := r'.get h2
    refine ⟨⟨us, ws, v, w, hH, hH', hv, hw⟩, fun x' H2 hy R g => ?_⟩
    obtain ⟨T, x1, y1, ex, nT, e2, q1, q2⟩ := hy
    subst ex
    subst e2
    have e1 := q1 us hH
    rw [hv] at e1
    cases e1
    have e3 := q2 ws hH'
    rw [hw] at e3
    cases e3
    exact pair_new (rv.mono e) (rw'.mono e) nT R g
  · rw [r.length, r'.length]
    unfold zipD at hl
    rw [List.length_map, List.length_zip] at hl
    omega
def enumFrom : Nat → List Dt → List Dt
  | _, [] => []
  | i, d :: ds => .tuple [.int (i : Nat), d] :: enumFrom (i + 1) ds
theorem enumFrom_get : ∀ {ds : List Dt} {k i : Nat} {d : Dt}, (enumFrom k ds)[i]? = some d → ∃ x, ds[i]? = some x ∧ d = .tuple [.int ((k + i : Nat) : Int), x]
  | [], k, i, d, h => by simp [enumFrom] at h
  | x :: ds, k, 0, d, h => by simp [enumFrom] at h; exact ⟨x, rfl, by simp [← h]⟩
  | x :: ds, k, i + 1, d, h => by
    simp only [enumFrom, List.getElem?_cons_succ] at h
    obtain ⟨y, h1, h2⟩ := enumFrom_get h
    exact ⟨y, by simpa using h1, by rw [h2]; simp; omega⟩
theorem enumFrom_len : ∀ {ds : List Dt} {k : Nat}, (enumFrom k ds).length = ds.length
  | [], _ => rfl
  | _ :: ds, k => by simp [enumFrom, enumFrom_len (ds := ds)]
theorem src_enum {K : PySem.W.Frag} {W : Hp} {a : Addr} {us : List V} {ds : List Dt} (h : SqL K W a us) (r : RFs K W us ds) : Src K (Ite K a) (enumFrom 0 ds) W := fun i H W' e e' => by
  have hH := ex_l e' (ex_l e h)
  refine ⟨fun d hd => ?_, fun hl => ⟨us, hH, by rw [r.length]; rw [enumFrom_len] at hl; exact hl⟩⟩
  obtain ⟨x, h1, ed⟩ := enumFrom_get hd
  rw [Nat.zero_add] at ed
  subst ed
  obtain ⟨v, hv, rv⟩ := r.get h1
  refine ⟨⟨us, v, hH, hv⟩, fun x' H2 hy R g => ?_⟩
  obtain ⟨T, x1, ex, nT, e2, q1⟩ := hy
  subst ex
  subst e2
  have e1 := q1 us hH
  rw [hv] at e1
  cases e1
  exact pair_new (.int _) (rv.mono e) nT R g

/-- a list or a tuple -/
def iSeq (K : PySem.W.Frag) (tl : TE) : TI := fun σ H R => tl σ H fun x H1 => ∃ a, x = .ref a ∧ (((∃ xs, SqL K H1 a xs) ∧ R (Itl K a) H1) ∨ ((∃ xs, SqT K H1 a xs) ∧ R (Itt K a) H1))
theorem pi_seq {l : Expr} {tl : TE} (hl : PE X l tl) : PI X tg l (iSeq X.K tl) := by
  refine ⟨fun pins s σ H R I h => ?_⟩
  refine thn (hl.run pins s σ H _ I h) fun v s1 ⟨x, H1, I1, r1, q1⟩ => ?_
  obtain ⟨a, e, q⟩ := q1
  subst e
  cases r1
  rcases q with ⟨⟨xs, hq⟩, q⟩ | ⟨⟨xs, hq⟩, q⟩
  · obtain ⟨its, rv, p, hz⟩ := I1.list hq
    refine wpAny_pyIter_list p.isList ?_
    refine ⟨s1.heap.objs.size, [s1.heap.objs.size], _, _, H1, rfl, I1.kept (t' := s1.toks) fun b o e => Heap.get?_push_of_some _ e, turn_list a _, ⟨_, Heap.get?_push_size _ rfl, rfl, rfl⟩, fun b hb => ?_, q⟩
    have e : b = s1.heap.objs.size := by simpa using hb
    subst e
    exact I1.fpOk (Nat.le_refl _) (I1.hok.fresh (Nat.le_refl _))
  · obtain ⟨its, rv, p, hz⟩ := I1.tuple hq
    refine wpAny_pyIter_tuple (show s1.heap.IsTuple a its.toArray from p) ?_
    refine ⟨s1.heap.objs.size, [s1.heap.objs.size], _, _, H1, rfl, I1.kept (t' := s1.toks) fun b o e => Heap.get?_push_of_some _ e, turn_tuple a _, ⟨_, Heap.get?_push_size _ rfl, rfl, rfl⟩, fun b hb => ?_, q⟩
    have e : b = s1.heap.objs.size := by simpa using hb
    subst e
    exact I1.fpOk (Nat.le_refl _) (I1.hok.fresh (Nat.le_refl _))
def itemsOf : Dt → Option (List Dt)
  | .list ds => some ds
  | .tuple ds => some ds
  | _ => none
def seqI (f : M Dt) : M (List Dt) := bnd f fun d => optM (itemsOf d)
theorem Stt.frozen {K : PySem.W.Frag} {n : Nat} {H W : Hp} {σ : St} {ρ : Env} {T : List Root} {v : V} {d : Dt} (s : Stt K n H W σ Γ ρ (⟨.F, some v, d⟩ :: T)) : RF K W v d := by
  obtain ⟨u, eu, r⟩ := s.g.frozenAt (List.mem_append_right _ List.mem_cons_self)
  cases eu
  exact r
theorem i_seq (h : PE X e (RdE C Γ f .F Γ1)) (hK : X.K = C.K := by rfl) : PI X tg e (RdI C Γ (seqI f) Γ1) := pi_imp (pi_seq h) fun σ H R q => by
  obtain ⟨W, ρ, T, s, th⟩ := q
  refine ⟨W, ρ, T, s, (Thn.bnd th).imp fun d ρ1 k v H1 W1 e s1 => ?_⟩
  have r := s1.frozen
  rw [hK]
  cases d with
  | list ds =>
    cases r with
    | lst hq hr => exact ⟨_, rfl, .inl ⟨⟨_, ex_l s1.g.1 hq⟩, k _ H1 W1 e s1.mid1 (src_list hq hr)⟩⟩
  | tuple ds =>
    cases r with
    | tup hq hr => exact ⟨_, rfl, .inr ⟨⟨_, ex_t s1.g.1 hq⟩, k _ H1 W1 e s1.mid1 (src_tup hq hr)⟩⟩
  | none => exact k.elim
  | bool => exact k.elim
  | int => exact k.elim
  | str => exact k.elim
  | dict => exact k.elim
def rng1 : List Dt → Option (List Dt)
  | [.int j] => if -(2 ^ 62) ≤ j ∧ j < 2 ^ 62 then some (intsR 0 j) else none
  | _ => none
def rng2 : List Dt → Option (List Dt)
  | [.int i, .int j] => if (-(2 ^ 62) ≤ i ∧ i < 2 ^ 62) ∧ (-(2 ^ 62) ≤ j ∧ j < 2 ^ 62) then some (intsR i j) else none
  | _ => none
def rng3 : List Dt → Option (List Dt)
  | [.int i, .int j, .int c] => if c = -1 ∧ (-(2 ^ 62) ≤ i ∧ i < 2 ^ 62) ∧ (-(2 ^ 62) ≤ j ∧ j < 2 ^ 62) then some ((List.range (i - j).toNat).map fun k => PyData.int (i + (k : Nat) * (-1))) else none
  | _ => none
def rngI (g : List Dt → Option (List Dt)) (ms : List (M Dt)) : M (List Dt) := bnd (valsM ms) fun ds => optM (g ds)
theorem i_range1 {a : Expr} {ms : List (M Dt)} (hg : Gl X "range") (hm : X.mg "range" = none) (ha : PA X [a] (RdV C Γ ms .F Γ1)) (hs : starEach [a] X.env = [(false, eval a X.env)] := by rfl) : PI X tg (.Call (.Name "range" p) [a] [] pos) (RdI C Γ (rngI rng1 ms) Γ1) :=
  pi_imp (pi_range1 hg hm ha hs) fun σ H R q => by
    obtain ⟨W, ρ, T, s, th⟩ := q
    refine ⟨W, ρ, T, s, (Thn.bnd th).imp fun ds ρ1 k vs H1 W1 e hl s1 => ?_⟩
    have k : Thn C σ T W (optM (rng1 ds) ρ1) _ := k
    unfold optM rng1 at k
    split at k
    · next ds' he =>
      split at he
      · next j =>
        split at he
        · next hj =>
          cases he
          match vs, hl with
          | [v], _ =>
            have r : RF C.K H1 v (.int j) := root_bl s1
            cases r
            refine ⟨j, rfl, hj.1, hj.2, ?_⟩
            have sr := src_rng (K := C.K) (W := W1) (lo := 0) (n := j.toNat)
            refine k _ H1 W1 e s1.mid1 ?_
            unfold intsR
            rw [Int.sub_zero]
            exact sr
        · cases he
      · cases he
    · exact k.elim
theorem i_range2 {a b : Expr} {ms : List (M Dt)} (hg : Gl X "range") (hm : X.mg "range" = none) (ha : PA X [a, b] (RdV C Γ ms .F Γ1)) (hs : starEach [a, b] X.env = [(false, eval a X.env), (false, eval b X.env)] := by rfl) (hs2 : starEach [b] X.env = [(false, eval b X.env)] := by rfl) :
    PI X tg (.Call (.Name "range" p) [a, b] [] pos) (RdI C Γ (rngI rng2 ms) Γ1) :=
  pi_imp (pi_range2 hg hm ha hs hs2) fun σ H R q => by
    obtain ⟨W, ρ, T, s, th⟩ := q
    refine ⟨W, ρ, T, s, (Thn.bnd th).imp fun ds ρ1 k vs H1 W1 e hl s1 => ?_⟩
    have k : Thn C σ T W (optM (rng2 ds) ρ1) _ := k
    unfold optM rng2 at k
    split at k
    · next ds' he =>
      split at he
      · next i j =>
        split at he
        · next hj =>
          cases he
          match vs, hl with
          | [v, w], _ =>
            have r : RF C.K H1 v (.int i) := root_bl s1
            have r' : RF C.K H1 w (.int j) := root_bl s1.mid1
            cases r
            cases r'
            exact ⟨i, j, rfl, ⟨hj.1.1, hj.1.2, hj.2.1, hj.2.2⟩, k _ H1 W1 e s1.mid1.mid1 src_rng⟩
        · cases he
      · cases he
    · exact k.elim
theorem i_range3 {a b c : Expr} {ms : List (M Dt)} (hp : ∀ {ta : TA}, PA X [a, b, c] ta → PI X tg (.Call (.Name "range" p) [a, b, c] [] pos) (iRng3 ta)) (ha : PA X [a, b, c] (RdV C Γ ms .F Γ1)) : PI X tg (.Call (.Name "range" p) [a, b, c] [] pos) (RdI C Γ (rngI rng3 ms) Γ1) :=
  pi_imp (hp ha) fun σ H R q => by
    obtain ⟨W, ρ, T, s, th⟩ := q
    refine ⟨W, ρ, T, s, (Thn.bnd th).imp fun ds ρ1 k vs H1 W1 e hl s1 => ?_⟩
    have k3 : Thn C σ T W (optM (rng3 ds) ρ1) _ := k
    clear k
    unfold optM rng3 at k3
    split at k3
    · next ds' he =>
      split at he
      · next i j c =>
        split at he
        · next hj =>
          cases he
          match vs, hl with
          | [v, w, z], _ =>
            have r : RF C.K H1 v (.int i) := root_bl s1
            have r' : RF C.K H1 w (.int j) := root_bl s1.mid1
            have r'' : RF C.K H1 z (.int c) := root_bl s1.mid1.mid1
            cases r
            cases r'
            cases r''
            obtain ⟨hc, h1, h2⟩ := hj
            subst hc
            exact ⟨i, j, -1, (i - j).toNat, rfl, RgC.neg h1.1 h1.2 h2.1 h2.2, k3 _ H1 W1 e s1.mid1.mid1.mid1 src_rngC⟩
        · cases he
      · cases he
    · exact k3.elim
def zip2 : List Dt → Option (List Dt)
  | [.list xs, .list ys] => some (zipD xs ys)
  | [.tuple xs, .tuple ys] => some (zipD xs ys)
  | _ => none
theorem i_zip {a b : Expr} {elts : List Expr} {kk : Nat} {ms : List (M Dt)} (hg : Gl X "zip") (hm : X.mg "zip" = none) (ha : PA X [a, b] (RdV C Γ ms .F Γ1)) (hK : X.K = C.K := by rfl) (hs : starEach [a, b] X.env = (false, eval a X.env) :: starEach [b] X.env := by rfl) (hpl : (backTo pos (starEach [b] X.env)).any (·.1) = false := by rfl) :
    PI X (.Tuple elts kk tpos) (.Call (.Name "zip" p) [a, b] [] pos) (RdI C Γ (rngI zip2 ms) Γ1) :=
  pi_imp (RZ.pi_zipA hg hm ha hs hpl) fun σ H R q => by
    obtain ⟨W, ρ, T, s, th⟩ := q
    refine ⟨W, ρ, T, s, (Thn.bnd th).imp fun ds ρ1 k vs H1 W1 e hl s1 => ?_⟩
    have k : Thn C σ T W (optM (zip2 ds) ρ1) _ := k
    rw [hK]
    unfold optM zip2 at k
    split at k
    · next ds' he =>
      split at he
      · next xs ys =>
        cases he
        match vs, hl with
        | [v, w], _ =>
          have r : RF C.K W1 v (.list xs) := s1.frozen
          have r' : RF C.K W1 w (.list ys) := s1.mid1.frozen
          cases r with
          | lst q1 q2 =>
            cases r' with
            | lst q3 q4 => exact ⟨_, _, _, _, rfl, .inl ⟨ex_l s1.g.1 q1, ex_l s1.g.1 q3, k _ H1 W1 e s1.mid1.mid1 (src_zip q1 q2 q3 q4)⟩⟩
      · next xs ys =>
        cases he
        match vs, hl with
        | [v, w], _ =>
          have r : RF C.K W1 v (.tuple xs) := s1.frozen
          have r' : RF C.K W1 w (.tuple ys) := s1.mid1.frozen
          cases r with
          | tup q1 q2 =>
            cases r' with
            | tup q3 q4 => exact ⟨_, _, _, _, rfl, .inr ⟨ex_t s1.g.1 q1, ex_t s1.g.1 q3, k _ H1 W1 e s1.mid1.mid1 (src_zipT q1 q2 q3 q4)⟩⟩
      · cases he
    · exact k.elim
end

/-! ### a def by its body -/
def runF (b : M Fl) (n : Nat) (ds : List Dt) : FO Dt := match b (ds.map some ++ List.replicate (n - ds.length) none) with
  | .ok (.ret d) _ => .ok d
  | .ok .nx _ => .ok .none
  | .exc x _ => .exc x
  | _ => .bad
def runG (b : M Fl) (n : Nat) (d0 : Dt) (ds : List Dt) : FO (Dt × Dt) := match b (some d0 :: (ds.map some ++ List.replicate (n - (ds.length + 1)) none)) with
  | .ok (.ret d) ρ => match ρ with
    | some d1 :: _ => .ok (d, d1)
    | _ => .bad
  | .ok .nx ρ => match ρ with
    | some d1 :: _ => .ok (.none, d1)
    | _ => .bad
  | .exc x _ => .exc x
  | _ => .bad
def shF (n : Nat) : List Sh := List.replicate n .F
abbrev ctxF (K : PySem.W.Frag) (xr : XR) (n : Nat) (rs : Sh) (E : XK) : Ctx := { K := K, n := n, io := [], Γr := shF n, rs := rs, Γl := [], Γx := shF n, xr := xr, W := fun cls d _ H => E cls d H }
abbrev ctxG (K : PySem.W.Frag) (xr : XR) (n : Nat) (rs : Sh) (E : XK) : Ctx := { K := K, n := n, io := [0], Γr := .O .F :: shF (n - 1), rs := rs, Γl := [], Γx := shF n, xr := xr, W := fun cls d _ H => E cls d H }
section
variable {P : Program} {w : World} {K : PySem.W.Frag} {mg : Str → Option Value} {base : Heap} {xr : XR}
theorem er_start : ∀ {vs : List V} {ds : List Dt} {m : Nat}, vs.length = ds.length → er (vs.map some ++ List.replicate m none) (shF (vs.length + m)) (ds.map some ++ List.replicate m none) = rootsOf .F vs ds
  | [], [], m, _ => by
    have : ∀ m : Nat, er (List.replicate m none) (shF m) (List.replicate m none) = [] := fun m => by
      induction m with
      | zero => rfl
      | succ m ih =>
        unfold shF at ih ⊢
        simp only [List.replicate_succ, er]
        exact ih
    simpa [rootsOf] using this m
  | v :: vs, d :: ds, m, h => by
    have ih := er_start (vs := vs) (ds := ds) (m := m) (by simpa using h)
    have e : (v :: vs).length + m = (vs.length + m) + 1 := by simp; omega
    rw [e]
    unfold shF at ih ⊢
    rw [List.replicate_succ]
    simp only [List.map_cons, List.cons_append, er, rootsOf]
    rw [ih]
  | [], _ :: _, _, h => by simp at h
  | _ :: _, [], _, h => by simp at h
theorem fn_ok {x qual : Str} {st : Stmt} {f : Addr} {fd : FuncData} {N ps : List Str} {k : Nat} {b : M Fl} {rs : Sh} {Γe : List Sh} (F : Fun K x qual st f fd) (S : FnScope N ps (defScope st))
    (hrs : (∀ {ρ ρ'}, b ρ ≠ .ok .nx ρ') ∨ rs = .F) (hle : leS (shF N.length) Γe = true)
    (hbody : ∀ (cdv : Value) (A : Around) (outer : List PySem.Env) (s : Shared) (H : Hp) (E : XK), Room k (A.deeper (envOfC qual (defScope st) s.heap.objs.size f cdv)) →
      PSs (cxOf (L2.CX P w) P w K mg base N qual (defScope st) f cdv A outer s H E) (defBody st) (RdS (ctxF K xr N.length rs E) (shF N.length) b Γe)) : FnOk P w K mg base (L2.CX P w) (k + 1) f fd ps (spF K xr ps.length rs (runF b N.length)) := by
  refine F.okX S (fun vs H Q E h => h.1) fun cdv A outer s H vs Q E hr h => ⟨_, hbody cdv A outer s H E hr, ?_⟩
  obtain ⟨hl, W, ds, T, hv, g, q⟩ := h
  have hpl : ps.length ≤ N.length := by have := congrArg List.length S.pre; rw [List.length_take] at this; omega
  have en : vs.length + (N.length - vs.length) = N.length := by omega
  refine ⟨W, ds.map some ++ List.replicate (N.length - ds.length) none, T, ⟨?_, ?_, ?_, ?_⟩, ?_⟩
  · unfold L2.start; simp; omega
  · unfold shF; simp
  · simp; omega
  · have e := er_start (vs := vs) (ds := ds) (m := N.length - vs.length) hv
    rw [en] at e
    show Good K H W (er (L2.start N vs) (shF N.length) _ ++ T)
    unfold L2.start
    rw [← hv, e]
    exact g
  · unfold runF at q
    cases eb : b (ds.map some ++ List.replicate (N.length - ds.length) none) with
    | bad => rw [eb] at q; exact q.elim
    | exc x ρ' =>
      rw [eb] at q
      intro cls d σ' H' W' _ e hx s'
      exact q cls d H' W' e hx (Good.drop s'.g)
    | ok fl ρ' =>
      rw [eb] at q
      cases fl with
      | ret d => exact fun v σ' H' W' _ e s' => q v H' W' e (Good.drop (s'.g.perm (by
          show (er σ' (shF N.length) ρ' ++ (⟨rs, some v, d⟩ :: T)).Perm (er σ' (shF N.length) ρ' ++ (⟨rs, some v, d⟩ :: T))
          exact List.Perm.refl _)))
      | nx =>
        intro σ' H' W' _ e s'
        rcases hrs with z | z
        · exact absurd eb z
        · subst z
          exact q .non H' W' e ((Good.drop s'.g).addF .non)
      | bk => exact q.elim
      | ct => exact q.elim
theorem fn_okG {x qual : Str} {st : Stmt} {f : Addr} {fd : FuncData} {N ps : List Str} {k : Nat} {b : M Fl} {rs : Sh} {Γe : List Sh} {n : Nat} (hps : ps.length = n + 1) (F : Fun K x qual st f fd) (S : FnScope N ps (defScope st))
    (hrs : (∀ {ρ ρ'}, b ρ ≠ .ok .nx ρ') ∨ (rs = .F ∧ leS (.O .F :: shF (N.length - 1)) Γe = true))
    (hbody : ∀ (cdv : Value) (A : Around) (outer : List PySem.Env) (s : Shared) (H : Hp) (E : XK), Room k (A.deeper (envOfC qual (defScope st) s.heap.objs.size f cdv)) →
      PSs (cxOf (L2.CX P w) P w K mg base N qual (defScope st) f cdv A outer s H E) (defBody st) (RdS (ctxG K xr N.length rs E) (.O .F :: shF (N.length - 1)) b Γe)) : FnOk P w K mg base (L2.CX P w) (k + 1) f fd ps (spG K xr n rs (runG b N.length)) := by
  refine F.okX S (fun vs H Q E h => by rw [h.1, hps]) fun cdv A outer s H us Q E hr h => ⟨_, hbody cdv A outer s H E hr, ?_⟩
  obtain ⟨hl, W, v0, vs, d0, ds, T, eu, hv, g, q⟩ := h
  subst eu
  have hpl : ps.length ≤ N.length := by have := congrArg List.length S.pre; rw [List.length_take] at this; omega
  have hl' : vs.length = n := by simpa using hl
  have en : vs.length + (N.length - (vs.length + 1)) = N.length - 1 := by omega
  refine ⟨W, some d0 :: (ds.map some ++ List.replicate (N.length - (ds.length + 1)) none), T, ⟨?_, ?_, ?_, ?_⟩, ?_⟩
  · unfold L2.start; simp; omega
  · unfold shF; simp; omega
  · simp; omega
  · have e := er_start (vs := vs) (ds := ds) (m := N.length - (vs.length + 1)) hv
    rw [en] at e
    show Good K H W (er (L2.start N (v0 :: vs)) (.O .F :: shF (N.length - 1)) _ ++ T)
    unfold L2.start
    simp only [List.map_cons, List.cons_append, List.length_cons, er]
    rw [← hv, e]
    exact g
  · have fin : ∀ {d : Dt} {ρ' : Env} {v : V} {σ' : St} {H' W' : Hp} {T' : List Root}, kp (ctxG K xr N.length rs E) (L2.start N (v0 :: vs)) σ' → ∀ d1 ρ2, ρ' = some d1 :: ρ2 → Good K H' W' (er σ' (.O .F :: shF (N.length - 1)) ρ' ++ T') → Good K H' W' (⟨.O .F, some v0, d1⟩ :: T') := by
      intro d ρ' v σ' H' W' T' kk d1 ρ2 e1 g'
      have k0 := kk 0 (by simp)
      have e0 : σ'[0]? = some (some v0) := by rw [k0]; unfold L2.start; rfl
      cases σ' with
      | nil => simp at e0
      | cons a σ'' =>
        simp at e0
        subst e0
        subst e1
        simp only [er, List.cons_append] at g'
        exact (Good.mid (A := [_]) g')
    unfold runG at q
    cases eb : b (some d0 :: (ds.map some ++ List.replicate (N.length - (ds.length + 1)) none)) with
    | bad => rw [eb] at q; exact q.elim
    | exc x ρ' =>
      rw [eb] at q
      intro cls d σ' H' W' _ e hx s'
      exact q cls d H' W' e hx (Good.drop s'.g)
    | ok fl ρ' =>
      rw [eb] at q
      cases fl with
      | ret d =>
        intro v σ' H' W' kk e s'
        match ρ', q, s' with
        | some d1 :: ρ2, q, s' =>
          have q : ∀ v H' W', Ex W W' → Good K H' W' (⟨rs, some v, d⟩ :: ⟨.O .F, some v0, d1⟩ :: T) → Q v H' := q
          have g1 := fin (d := d) (v := v) kk d1 ρ2 rfl s'.g
          exact q v H' W' e (g1.perm (List.Perm.swap _ _ _))
        | none :: _, q, _ => exact q.elim
        | [], q, _ => exact q.elim
      | nx =>
        intro σ' H' W' kk e s'
        rcases hrs with z | ⟨z, hle⟩
        · exact absurd eb z
        · subst z
          obtain ⟨W2, e2, s2⟩ := s'.weak hle
          match ρ', q, s2 with
          | some d1 :: ρ2, q, s2 =>
            have q : ∀ v H' W', Ex W W' → Good K H' W' (⟨.F, some v, .none⟩ :: ⟨.O .F, some v0, d1⟩ :: T) → Q v H' := q
            have g1 := fin (d := .none) (v := .non) kk d1 ρ2 rfl s2.g
            exact q .non H' W2 (e.trans e2) (g1.addF .non)
          | none :: _, q, _ => exact q.elim
          | [], q, _ => exact q.elim
      | bk => exact q.elim
      | ct => exact q.elim
end
end Vs

/-! part VsG -/
set_option Elab.async false
set_option linter.all false
set_option maxRecDepth 100000
set_option maxHeartbeats 4000000
/-! Operations on data: arithmetic, comparisons, lengths, sums, new lists and tuples, items. -/
namespace Vs
open PySem PySem.Spec PyProof.Rows L2

/-! ### data as the library reads it -/
mutual
theorem RF.dp {K : PySem.W.Frag} {H : Hp} : ∀ {v : V} {d : Dt}, RF K H v d → d.plain = true → Dp K H v d
  | _, _, .non, _ => .non
  | _, _, .bl b, _ => .bl b
  | _, _, .int i, _ => .int i
  | _, _, .str x, _ => .str x
  | _, _, .tup h r, p => .tup h (RFs.dp r (by simpa [PyData.plain] using p))
  | _, _, .lst h r, p => .lst h (RFs.dp r (by simpa [PyData.plain] using p))
  | _, _, .dic .., p => by simp [PyData.plain] at p
theorem RFs.dp {K : PySem.W.Frag} {H : Hp} : ∀ {vs : List V} {ds : List Dt}, RFs K H vs ds → PyData.plainAll ds = true → DpAll K H vs ds
  | _, _, .nil, _ => .nil
  | _, _, .cons r t, p => by
    simp only [PyData.plainAll, Bool.and_eq_true] at p
    exact .cons (RF.dp r p.1) (RFs.dp t p.2)
end
theorem RF.reads {X : Cx} {pins : List (Addr × Obj)} {σ : St} {H : Hp} {s : Shared} (I : Inv X pins σ H s) {v : V} {d : Dt} {u : Value} (r : RF X.K H v d) (p : d.plain = true) (ru : RelV v u) : ∃ as, Reads s.heap u d as := Dp.reads I d v u (r.dp p) ru
theorem RFs.readsAll {X : Cx} {pins : List (Addr × Obj)} {σ : St} {H : Hp} {s : Shared} (I : Inv X pins σ H s) {vs : List V} {ds : List Dt} {us : List Value} (r : RFs X.K H vs ds) (p : PyData.plainAll ds = true) (ru : Vals vs us) : ∃ as, ReadsAll s.heap us ds as := Dp.readsAll I ds vs us (r.dp p) ru

/-! ### scalars as answers -/
def scV : Dt → Option V
  | .int i => some (.int i)
  | .bool b => some (.bl b)
  | .none => some .non
  | .str x => some (.str x)
  | _ => none
theorem scV_rf {K : PySem.W.Frag} {W : Hp} : ∀ {d : Dt} {w : V}, scV d = some w → RF K W w d
  | .int i, _, h => by cases h; exact .int i
  | .bool i, _, h => by cases h; exact .bl i
  | .none, _, h => by cases h; exact .non
  | .str x, _, h => by cases h; exact .str x
  | .list _, _, h => by cases h
  | .tuple _, _, h => by cases h
  | .dict _, _, h => by cases h
def rS2 (K : PySem.W.Frag) (g : Dt → Dt → Option Dt) : R2 := fun x y H Q => ∃ d e z w, RF K H x d ∧ RF K H y e ∧ g d e = some z ∧ scV z = some w ∧ Q w H
def rS1 (K : PySem.W.Frag) (g : Dt → Option Dt) : List V → Hp → VK → Prop := fun xs H Q => ∃ x d z w, xs = [x] ∧ RF K H x d ∧ g d = some z ∧ scV z = some w ∧ Q w H
def on1 (g : Dt → Option Dt) : List Dt → Option Dt
  | [d] => g d
  | _ => none
def on2 (g : Dt → Dt → Option Dt) : List Dt → Option Dt
  | [d, e] => g d e
  | _ => none
theorem mem3_1 {R : List Root} {s1 : Sh} {vs : List V} {ds : List Dt} (m : Mem3 R [s1] vs ds) : ∃ v d, vs = [v] ∧ ds = [d] ∧ (⟨s1, some v, d⟩ : Root) ∈ R := by
  match vs, ds with
  | [v], [d] => exact ⟨v, d, rfl, rfl, m.1⟩
  | [], _ => exact m.elim
  | _ :: _, [] => exact m.elim
  | _ :: _ :: _, _ :: _ => exact m.2.elim
  | [_], _ :: _ :: _ => exact m.2.elim
theorem mem3_2 {R : List Root} {s1 s2 : Sh} {vs : List V} {ds : List Dt} (m : Mem3 R [s1, s2] vs ds) : ∃ v w d e, vs = [v, w] ∧ ds = [d, e] ∧ (⟨s1, some v, d⟩ : Root) ∈ R ∧ (⟨s2, some w, e⟩ : Root) ∈ R := by
  match vs, ds with
  | v :: vs, d :: ds =>
    obtain ⟨w, e, h1, h2, h3⟩ := mem3_1 (vs := vs) (ds := ds) m.2
    subst h1
    subst h2
    exact ⟨v, w, d, e, rfl, rfl, m.1, h3⟩
  | [], _ => exact m.elim
  | _ :: _, [] => exact m.elim
theorem spec_S2 {K : PySem.W.Frag} {g : Dt → Dt → Option Dt} {s1 s2 : Sh} (hg : ∀ d e z, g d e = some z → (scV z).isSome = true) : OpSpec K (r2L (rS2 K g)) (on2 g) [s1, s2] .F := by
  intro H W R vs ds z Q gd m hz q
  obtain ⟨v, w, d, e, ev, ed, m1, m2⟩ := mem3_2 m
  subst ev
  subst ed
  obtain ⟨u1, e1, r1⟩ := gd.viewAt m1
  obtain ⟨u2, e2, r2⟩ := gd.viewAt m2
  cases e1
  cases e2
  obtain ⟨x, hx⟩ := Option.isSome_iff_exists.mp (hg d e z hz)
  exact ⟨v, w, rfl, d, e, z, x, r1, r2, hz, hx, q x H W (Ex.refl W) (gd.addF (scV_rf hx))⟩
theorem spec_S1 {K : PySem.W.Frag} {g : Dt → Option Dt} {s1 : Sh} (hg : ∀ d z, g d = some z → (scV z).isSome = true) : OpSpec K (rS1 K g) (on1 g) [s1] .F := by
  intro H W R vs ds z Q gd m hz q
  obtain ⟨v, d, ev, ed, m1⟩ := mem3_1 m
  subst ev
  subst ed
  obtain ⟨u1, e1, r1⟩ := gd.viewAt m1
  cases e1
  obtain ⟨x, hx⟩ := Option.isSome_iff_exists.mp (hg d z hz)
  exact ⟨v, d, z, x, rfl, r1, hz, hx, q x H W (Ex.refl W) (gd.addF (scV_rf hx))⟩

section
variable {X : Cx}
/-! ### arithmetic -/
def intC (C : Int → Int → Bool) (f : Int → Int → Int) : Dt → Dt → Option Dt
  | .int i, .int j => if C i j = true then some (.int (f i j)) else none
  | _, _ => none
theorem intC_sc {C : Int → Int → Bool} {f : Int → Int → Int} (d e z : Dt) (h : intC C f d e = some z) : (scV z).isSome = true := by
  unfold intC at h
  split at h
  · split at h
    · cases h; rfl
    · cases h
  · cases h
theorem opr_int {op : Operator} {C : Int → Int → Bool} {C' : Int → Int → Prop} {f : Int → Int → Int} (h : OpR X (binaryOp op) (rI C' fun i j => .int (f i j))) (hc : ∀ i j, C i j = true → C' i j) : OpR X (binaryOp op) (rS2 X.K (intC C f)) := by
  intro pins s σ H x y v u Q I rx ry q
  obtain ⟨d, e, z, w, r1, r2, hg, hs, q⟩ := q
  unfold intC at hg
  split at hg
  · next i j =>
    split at hg
    · next hcc =>
      cases hg
      cases hs
      cases r1
      cases r2
      exact h pins s σ H _ _ v u Q I rx ry ⟨i, j, rfl, rfl, hc i j hcc, q⟩
    · cases hg
  · cases hg
def addI := intC (fun _ _ => true) fun i j => i + j
def subI := intC (fun _ _ => true) fun i j => i - j
def mulI := intC (fun i j => (decide (i.natAbs < 18446744073709551616)) || (decide (j.natAbs < 18446744073709551616)) || decide (i.natAbs.log2 + j.natAbs.log2 < 1000000)) fun i j => i * j
def fdivI := intC (fun _ j => (j != 0) && decide (j.natAbs.log2 < 9000)) fun i j => i.fdiv j
def modI := intC (fun _ j => j != 0) fun i j => i.fmod j
def powI := intC (fun i j => decide (0 ≤ j) && decide (j ≤ 1000000) && decide (i.natAbs < 18446744073709551616)) fun i j => i ^ j.toNat
theorem o_add : OpR X (binaryOp .Add) (rS2 X.K addI) := opr_int (C' := fun _ _ => True) (opI fun _ _ _ _ _ _ _ _ q => add_int q) fun _ _ _ => trivial
theorem o_sub : OpR X (binaryOp .Sub) (rS2 X.K subI) := opr_int (C' := fun _ _ => True) (opI fun _ _ _ _ _ _ _ _ q => sub_int q) fun _ _ _ => trivial
theorem o_mul : OpR X (binaryOp .Mult) (rS2 X.K mulI) := opr_int (C' := fun i j => CMul i j ∨ CMulW i j) (opI fun _ _ _ _ _ _ _ hc q => hc.elim (fun c => mul_int q c.ok) fun c => mul_int q c.ok) fun i j h => by
  simp only [Bool.or_eq_true, decide_eq_true_eq] at h
  rcases h with h | h
  · refine .inl ?_
    unfold CMul
    have e : (2 : Int) ^ 64 = 18446744073709551616 := by decide
    rw [e]
    omega
  · exact .inr h
theorem o_fdiv : OpR X (binaryOp .FloorDiv) (rS2 X.K fdivI) := opr_int (C' := fun i j => j ≠ 0 ∧ j.natAbs.log2 < 9000) (opI fun _ _ _ _ _ _ _ hc q => floordiv_int hc.1 q (.inl (PyProof.noPylong_of_log2 hc.2))) fun i j h => by
  simp only [Bool.and_eq_true, decide_eq_true_eq, bne_iff_ne] at h
  exact h
theorem o_mod : OpR X (binaryOp .Mod) (rS2 X.K modI) := opr_int op_modN fun i j h => by
  simp only [bne_iff_ne] at h
  exact h
theorem o_pow : OpR X (binaryOp .Pow) (rS2 X.K powI) := opr_int op_pow fun i j h => by
  simp only [Bool.and_eq_true, decide_eq_true_eq] at h
  unfold CPow
  have e : (2 : Nat) ^ 64 = 18446744073709551616 := by decide
  rw [e]
  exact ⟨h.1.1, h.1.2, h.2⟩

def nonB : Dt → Bool
  | .none => true
  | _ => false
/-! ### comparisons -/
def eqD : Dt → Dt → Option Dt
  | .int i, .int j => some (.bool (decide (i = j)))
  | d, e => if d.plain && e.plain && decide (min d.depth e.depth ≤ 60) then some (.bool (PyData.eqv d e)) else none
def neD : Dt → Dt → Option Dt
  | .int i, .int j => some (.bool (!decide (i = j)))
  | d, e => if d.plain && e.plain && decide (min d.depth e.depth ≤ 60) then some (.bool (!PyData.eqv d e)) else none
theorem eqD_def (d e : Dt) : eqD d e = if d.plain && e.plain && decide (min d.depth e.depth ≤ 60) then some (.bool (PyData.eqv d e)) else none := by
  unfold eqD
  split
  · simp [PyData.plain, PyData.depth, PyData.eqv, Bool.beq_eq_decide_eq]
  · rfl
theorem neD_def (d e : Dt) : neD d e = if d.plain && e.plain && decide (min d.depth e.depth ≤ 60) then some (.bool (!PyData.eqv d e)) else none := by
  unfold neD
  split
  · simp [PyData.plain, PyData.depth, PyData.eqv, Bool.beq_eq_decide_eq]
  · rfl
theorem eqD_sc (d e z : Dt) (h : eqD d e = some z) : (scV z).isSome = true := by
  rw [eqD_def] at h
  split at h
  · cases h; rfl
  · cases h
theorem neD_sc (d e z : Dt) (h : neD d e = some z) : (scV z).isSome = true := by
  rw [neD_def] at h
  split at h
  · cases h; rfl
  · cases h
theorem o_eq (hu : X.A.units + 64 < cLine) : OpR X (compareOp .Eq) (rS2 X.K eqD) := by
  intro pins s σ H x y v u Q I rx ry q
  obtain ⟨d, e, z, w, r1, r2, hg, hs, q⟩ := q
  rw [eqD_def] at hg
  split at hg
  · next h =>
    simp only [Bool.and_eq_true, decide_eq_true_eq] at h
    obtain ⟨as, q1⟩ := r1.reads I h.1.1 rx
    obtain ⟨bs, q2⟩ := r2.reads I h.1.2 ry
    cases hg
    cases hs
    exact SeqAt.eq_plain q1 q2 h.1.1 h.1.2 (by omega) ⟨.bl _, H, I, rfl, q⟩
  · cases hg
theorem o_ne (hu : X.A.units + 64 < cLine) : OpR X (compareOp .NotEq) (rS2 X.K neD) := by
  intro pins s σ H x y v u Q I rx ry q
  obtain ⟨d, e, z, w, r1, r2, hg, hs, q⟩ := q
  rw [neD_def] at hg
  split at hg
  · next h =>
    simp only [Bool.and_eq_true, decide_eq_true_eq] at h
    obtain ⟨as, q1⟩ := r1.reads I h.1.1 rx
    obtain ⟨bs, q2⟩ := r2.reads I h.1.2 ry
    cases hg
    cases hs
    exact SeqAt.ne_plain q1 q2 h.1.1 h.1.2 (by omega) ⟨.bl _, H, I, rfl, q⟩
  · cases hg
/-- order: whole numbers, or alike data -/
def cmpOk (d e : Dt) : Bool := d.plain && e.plain && PySem.W.alike d e && decide (min d.depth e.depth ≤ 60) && !nonB d
def cmpD (p : Int → Int → Bool) (g : Dt → Dt → Bool) : Dt → Dt → Option Dt
  | .int i, .int j => some (.bool (p i j))
  | d, e => if cmpOk d e then some (.bool (g d e)) else none
theorem cmpD_sc {p : Int → Int → Bool} {g : Dt → Dt → Bool} (d e z : Dt) (h : cmpD p g d e = some z) : (scV z).isSome = true := by
  unfold cmpD at h
  split at h
  · cases h; rfl
  · split at h
    · cases h; rfl
    · cases h
theorem o_cmp {op : CmpOp} {p : Int → Int → Bool} {g : Dt → Dt → Bool} (hu : X.A.units + 64 < cLine) (hi : OpR X (compareOp op) (rI0 fun i j => .bl (p i j)))
    (hd : ∀ {s : Shared} {a b : Value} {da db : Dt} {as bs : List Addr} {Q : Value → Shared → Prop}, Reads s.heap a da as → Reads s.heap b db bs → PySem.W.alike da db = true → da ≠ .none → X.A.units + min da.depth db.depth < cLine → Q (.bool (g da db)) s → wpAny (model X.prog X.w) X.A (compareOp op a b) Q X.xe s) :
    OpR X (compareOp op) (rS2 X.K (cmpD p g)) := by
  intro pins s σ H x y v u Q I rx ry q
  obtain ⟨d, e, z, w, r1, r2, hg, hs, q⟩ := q
  unfold cmpD at hg
  split at hg
  · next i j =>
    cases hg
    cases hs
    cases r1
    cases r2
    exact hi pins s σ H _ _ v u Q I rx ry ⟨i, j, rfl, rfl, q⟩
  · split at hg
    · next h =>
      simp only [cmpOk, Bool.and_eq_true, decide_eq_true_eq] at h
      obtain ⟨⟨⟨⟨h1, h2⟩, h3⟩, h4⟩, h5⟩ := h
      obtain ⟨as, q1⟩ := r1.reads I h1 rx
      obtain ⟨bs, q2⟩ := r2.reads I h2 ry
      cases hg
      cases hs
      exact hd q1 q2 h3 (fun z => by rw [z] at h5; cases h5) (by omega) ⟨.bl _, H, I, rfl, q⟩
    · cases hg
def ltD := cmpD (fun i j => decide (i < j)) PySem.W.dataLt
def leD := cmpD (fun i j => decide (i ≤ j)) fun d e => !PySem.W.dataLt e d
def gtD := cmpD (fun i j => decide (j < i)) fun d e => PySem.W.dataLt e d
def geD := cmpD (fun i j => decide (j ≤ i)) fun d e => !PySem.W.dataLt d e
theorem o_lt (hu : X.A.units + 64 < cLine) : OpR X (compareOp .Lt) (rS2 X.K ltD) := o_cmp hu op_lt fun r1 r2 h1 h2 h3 q => PySem.W.lt_data r1 r2 h1 h2 h3 q
theorem o_le (hu : X.A.units + 64 < cLine) : OpR X (compareOp .LtE) (rS2 X.K leD) := o_cmp hu op_le fun r1 r2 h1 h2 h3 q => PySem.W.le_data r1 r2 h1 h2 h3 q
theorem o_gt (hu : X.A.units + 64 < cLine) : OpR X (compareOp .Gt) (rS2 X.K gtD) := o_cmp hu op_gt fun r1 r2 h1 h2 h3 q => PySem.W.gt_data r1 r2 h1 h2 h3 q
theorem o_ge (hu : X.A.units + 64 < cLine) : OpR X (compareOp .GtE) (rS2 X.K geD) := o_cmp hu op_ge fun r1 r2 h1 h2 h3 q => PySem.W.ge_data r1 r2 h1 h2 h3 q
/-- x in a list or a tuple -/
def inC (f : Bool → Bool) (d : Dt) (ds : List Dt) : Option Dt := if PyData.plainAll ds && d.plain && decide (min (PyData.depthAll ds) d.depth ≤ 60) then some (.bool (f (ds.any fun y => PyData.eqv y d))) else none
def inD (d : Dt) : Dt → Option Dt
  | .list ds => inC (fun b => b) d ds
  | .tuple ds => inC (fun b => b) d ds
  | _ => none
def ninD (d : Dt) : Dt → Option Dt
  | .list ds => inC (fun b => !b) d ds
  | .tuple ds => inC (fun b => !b) d ds
  | _ => none
theorem inC_sc {f : Bool → Bool} {d : Dt} {ds : List Dt} {z : Dt} (h : inC f d ds = some z) : (scV z).isSome = true := by
  unfold inC at h
  split at h
  · cases h; rfl
  · cases h
theorem inD_sc (d e z : Dt) (h : inD d e = some z) : (scV z).isSome = true := by
  unfold inD at h
  split at h
  · exact inC_sc h
  · exact inC_sc h
  · cases h
theorem ninD_sc (d e z : Dt) (h : ninD d e = some z) : (scV z).isSome = true := by
  unfold ninD at h
  split at h
  · exact inC_sc h
  · exact inC_sc h
  · cases h
theorem inC_ok {f : Bool → Bool} {d : Dt} {ds : List Dt} {z : Dt} (h : inC f d ds = some z) : PyData.plainAll ds = true ∧ d.plain = true ∧ min (PyData.depthAll ds) d.depth ≤ 60 ∧ z = .bool (f (ds.any fun y => PyData.eqv y d)) := by
  unfold inC at h
  split at h
  · next hh =>
    simp only [Bool.and_eq_true, decide_eq_true_eq] at hh
    cases h
    exact ⟨hh.1.1, hh.1.2, hh.2, rfl⟩
  · cases h
theorem o_in (hu : X.A.units + 64 < cLine) : OpR X (compareOp .In) (rS2 X.K inD) := by
  intro pins s σ H x y v u Q I rx ry q
  obtain ⟨d, e, z, w, r1, r2, hg, hs, q⟩ := q
  cases e with
  | list ds =>
    obtain ⟨h1, h2, h3, ez⟩ := inC_ok (f := fun b => b) (d := d) (ds := ds) hg
    subst ez
    cases hs
    obtain ⟨as, q1⟩ := r1.reads I h2 rx
    obtain ⟨bs, q2⟩ := r2.reads I (by simpa [PyData.plain] using h1) ry
    exact SeqAt.in_list_data q2 q1 h1 h2 (by omega) ⟨.bl _, H, I, rfl, q⟩
  | tuple ds =>
    obtain ⟨h1, h2, h3, ez⟩ := inC_ok (f := fun b => b) (d := d) (ds := ds) hg
    subst ez
    cases hs
    obtain ⟨as, q1⟩ := r1.reads I h2 rx
    obtain ⟨bs, q2⟩ := r2.reads I (by simpa [PyData.plain] using h1) ry
    exact SeqAt.in_tuple_data q2 q1 h1 h2 (by omega) ⟨.bl _, H, I, rfl, q⟩
  | none => cases hg
  | bool => cases hg
  | int => cases hg
  | str => cases hg
  | dict => cases hg
theorem o_nin (hu : X.A.units + 64 < cLine) : OpR X (compareOp .NotIn) (rS2 X.K ninD) := by
  intro pins s σ H x y v u Q I rx ry q
  obtain ⟨d, e, z, w, r1, r2, hg, hs, q⟩ := q
  cases e with
  | list ds =>
    obtain ⟨h1, h2, h3, ez⟩ := inC_ok (f := fun b => !b) (d := d) (ds := ds) hg
    subst ez
    cases hs
    obtain ⟨as, q1⟩ := r1.reads I h2 rx
    obtain ⟨bs, q2⟩ := r2.reads I (by simpa [PyData.plain] using h1) ry
    exact SeqAt.notIn_list_data q2 q1 h1 h2 (by omega) ⟨.bl _, H, I, rfl, q⟩
  | tuple ds =>
    obtain ⟨h1, h2, h3, ez⟩ := inC_ok (f := fun b => !b) (d := d) (ds := ds) hg
    subst ez
    cases hs
    obtain ⟨as, q1⟩ := r1.reads I h2 rx
    obtain ⟨bs, q2⟩ := r2.reads I (by simpa [PyData.plain] using h1) ry
    exact SeqAt.notIn_tuple_data q2 q1 h1 h2 (by omega) ⟨.bl _, H, I, rfl, q⟩
  | none => cases hg
  | bool => cases hg
  | int => cases hg
  | str => cases hg
  | dict => cases hg
def isN : Dt → Dt → Option Dt
  | d, .none => some (.bool (nonB d))
  | _, _ => none
def isNotN : Dt → Dt → Option Dt
  | d, .none => some (.bool (!nonB d))
  | _, _ => none
theorem isN_sc (d e z : Dt) (h : isN d e = some z) : (scV z).isSome = true := by
  unfold isN at h
  split at h
  · cases h; rfl
  · cases h
theorem isNotN_sc (d e z : Dt) (h : isNotN d e = some z) : (scV z).isSome = true := by
  unfold isNotN at h
  split at h
  · cases h; rfl
  · cases h
theorem none_dec {K : PySem.W.Frag} {H : Hp} {x : V} {d : Dt} (r : RF K H x d) : decide (x = .non) = nonB d := by
  cases r <;> rfl
theorem o_is : OpR X (compareOp .Is) (rS2 X.K isN) := by
  intro pins s σ H x y v u Q I rx ry q
  obtain ⟨d, e, z, w, r1, r2, hg, hs, q⟩ := q
  unfold isN at hg
  split at hg
  · cases hg
    cases hs
    cases r2
    refine op_isN pins s σ H _ _ v u Q I rx ry ⟨rfl, ?_⟩
    rw [none_dec r1]
    exact q
  · cases hg
theorem o_isNot : OpR X (compareOp .IsNot) (rS2 X.K isNotN) := by
  intro pins s σ H x y v u Q I rx ry q
  obtain ⟨d, e, z, w, r1, r2, hg, hs, q⟩ := q
  unfold isNotN at hg
  split at hg
  · next d' =>
    cases hg
    cases hs
    cases r2
    refine op_notN pins s σ H _ _ v u Q I rx ry ⟨rfl, ?_⟩
    rw [none_dec r1]
    exact q
  · cases hg

/-! ### built-ins with scalars as answers -/
def lenD : Dt → Option Dt
  | .list ds => some (.int ds.length)
  | .tuple ds => some (.int ds.length)
  | .str x => if x.length ≤ 16777216 then some (.int x.length) else none
  | _ => none
theorem lenD_sc (d z : Dt) (h : lenD d = some z) : (scV z).isSome = true := by
  unfold lenD at h
  split at h
  · cases h; rfl
  · cases h; rfl
  · split at h
    · cases h; rfl
    · cases h
  · cases h
theorem b_len : CallR X (.builtin "len") (rS1 X.K lenD) := by
  intro pins s σ H xs us Q I r h
  obtain ⟨x, d, z, w, ex, r1, hg, hs, q⟩ := h
  subst ex
  cases r1 with
  | lst h1 h2 =>
    cases hg
    cases hs
    exact call_len_seq pins s σ H _ us Q I r ⟨_, _, rfl, .inl h1, by rw [h2.length]; exact q⟩
  | tup h1 h2 =>
    cases hg
    cases hs
    exact call_len_seq pins s σ H _ us Q I r ⟨_, _, rfl, .inr h1, by rw [h2.length]; exact q⟩
  | str y =>
    unfold lenD at hg
    simp only at hg
    split at hg
    · next hy =>
      cases hg
      cases hs
      exact call_len_str pins s σ H _ us Q I r ⟨y, rfl, by rw [sizeLine_eq]; exact hy, q⟩
    · cases hg
  | non => cases hg
  | bl => cases hg
  | int => cases hg
  | dic => cases hg
/-- whole numbers out of data -/
def intsOf : List Dt → Option (List Int)
  | [] => some []
  | .int i :: r => match intsOf r with
    | some is => some (i :: is)
    | none => none
  | _ :: _ => none
theorem intsOf_eq : ∀ {ds : List Dt} {ns : List Int}, intsOf ds = some ns → ds = ns.map PyData.int
  | [], ns, h => by cases h; rfl
  | d :: ds, ns, h => by
    cases d with
    | int i =>
      simp only [intsOf] at h
      cases e : intsOf ds with
      | none => rw [e] at h; cases h
      | some is =>
        rw [e] at h
        cases h
        rw [intsOf_eq e]
        rfl
    | none => cases h
    | bool => cases h
    | str => cases h
    | list => cases h
    | tuple => cases h
    | dict => cases h
@[simp] theorem intsOf_map : ∀ ns : List Int, intsOf (ns.map PyData.int) = some ns
  | [] => rfl
  | n :: r => by simp [intsOf, intsOf_map r]
def blsOf : List Dt → Option (List Bool)
  | [] => some []
  | .bool i :: r => match blsOf r with
    | some is => some (i :: is)
    | none => none
  | _ :: _ => none
theorem blsOf_eq : ∀ {ds : List Dt} {ns : List Bool}, blsOf ds = some ns → ds = ns.map PyData.bool
  | [], ns, h => by cases h; rfl
  | d :: ds, ns, h => by
    cases d with
    | bool i =>
      simp only [blsOf] at h
      cases e : blsOf ds with
      | none => rw [e] at h; cases h
      | some is =>
        rw [e] at h
        cases h
        rw [blsOf_eq e]
        rfl
    | none => cases h
    | int => cases h
    | str => cases h
    | list => cases h
    | tuple => cases h
    | dict => cases h
@[simp] theorem blsOf_map : ∀ ns : List Bool, blsOf (ns.map PyData.bool) = some ns
  | [] => rfl
  | n :: r => by simp [blsOf, blsOf_map r]
def sumD (d : Dt) : Option Dt := match itemsOf d with
  | some ds => match intsOf ds with
    | some ns => some (.int ns.sum)
    | none => none
  | none => none
theorem sumD_sc (d z : Dt) (h : sumD d = some z) : (scV z).isSome = true := by
  unfold sumD at h
  split at h
  · split at h
    · cases h; rfl
    · cases h
  · cases h
theorem sum_tup {prog : Program} {w : World} {A : Around} {E : Value → Shared → Prop} {s : Shared} {l : Addr} {its : List Value} {ns : List Int} {Q : Value → Shared → Prop} (hh : A.handled = none) (hl : IsTup s.heap l its.toArray) (hi : IntsAre its ns)
    (h : ∀ h' tk t', (∀ b o, s.heap.get? b = some o → h'.get? b = some o) → Q (.int ns.sum t') { s with heap := h', toks := tk }) : wpAny (model prog w) A (call (.builtin "sum") [.ref l]) Q E s := by
  obtain ⟨o, ho, hc, n, hd⟩ := hl
  refine call_sum_walkG (wpAny_pyIter_tuple (show s.heap.IsTuple l its.toArray from ⟨o, ho, hc, n, hd⟩) ?_)
  have hlt := Heap.lt_size ho
  refine ⟨s.heap.objs.size, [s.heap.objs.size, l], [s.heap.objs.size], its.toArray.size, _, _, (fun i => (ns[i]?).getD 0), rfl, Walks.tuple (A := A.in1) hh s.heap.objs.size l (Nat.ne_of_lt hlt) its.toArray, ⟨⟨_, Heap.get?_push_size _ rfl, rfl, rfl⟩, ⟨o, Heap.get?_push_of_some _ ho, hc, n, hd⟩⟩, fun b hb => ?_, fun i v hv => ?_, fun h' tk t' hk => ?_⟩
  · have hb' : b = s.heap.objs.size ∨ b = l := by simpa using hb
    rcases hb' with e | e
    · rw [e, Heap.size_push]; exact Nat.lt_succ_self _
    · rw [e, Heap.size_push]; exact Nat.lt_succ_of_lt hlt
  · have : its[i]? = some v := by simpa using hv
    exact ints_at hi this
  · have e : preSum (fun i => (ns[i]?).getD 0) its.toArray.size = ns.sum := by
      rw [List.size_toArray, hi.length]
      exact preSum_list ns
    rw [e]
    exact h h' tk t' fun b o hb => hk b o (fun hm => by
      have : b = s.heap.objs.size := by simpa using hm
      exact absurd (this ▸ Heap.lt_size hb) (Nat.lt_irrefl _)) (Heap.get?_push_of_some _ hb)
where
  ints_at : ∀ {its : List Value} {ns : List Int} {i : Nat} {v : Value}, IntsAre its ns → its[i]? = some v → ∃ t, v = .int ((ns[i]?).getD 0) t
    | _, _, _, _, .nil, h => by simp at h
    | _, _, 0, _, .cons n t r, h => by simp at h; exact ⟨t, by simp [← h]⟩
    | _, _, i + 1, v, .cons n t r, h => by
      obtain ⟨t', e⟩ := ints_at (i := i) (v := v) r (by simpa using h)
      exact ⟨t', by simpa using e⟩
  preSum_list : ∀ ns : List Int, preSum (fun i => (ns[i]?).getD 0) ns.length = ns.sum := fun ns => by
    have : ∀ k, k ≤ ns.length → preSum (fun i => (ns[i]?).getD 0) k = (ns.take k).sum := fun k => by
      induction k with
      | zero => intro _; simp [preSum]
      | succ k ih =>
        intro hk
        have hk' : k < ns.length := hk
        rw [preSum, ih (Nat.le_of_lt hk), List.take_succ, List.sum_append, List.getElem?_eq_getElem hk']
        simp
    rw [this _ (Nat.le_refl _), List.take_length]
theorem b_sum (hc : X.calm = true) : CallR X (.builtin "sum") (rS1 X.K sumD) := by
  intro pins s σ H xs us Q I r h
  obtain ⟨x, d, z, w, ex, r1, hg, hs, q⟩ := h
  subst ex
  unfold sumD at hg
  split at hg
  · next ds hi =>
    split at hg
    · next ns hn =>
      cases hg
      cases hs
      have ed := intsOf_eq hn
      cases r1 with
      | lst h1 h2 =>
        cases hi
        rw [ed] at h2
        rw [h2.toInts] at h1
        exact cr_sum hc pins s σ H _ us Q I r ⟨_, ns, rfl, h1, q⟩
      | tup h1 h2 =>
        cases hi
        rw [ed] at h2
        rw [h2.toInts] at h1
        obtain ⟨its, rv, ht, _⟩ := I.tuple h1
        rw [Vals.ref1 r]
        exact sum_tup (I.ok.hd hc) ht rv.ints fun h' tk t' hk => ⟨.int _, H, I.kept hk, ⟨_, rfl⟩, q⟩
      | non => cases hi
      | bl => cases hi
      | int => cases hi
      | str => cases hi
      | dic => cases hi
    · cases hg
  · cases hg
def allD : Dt → Option Dt
  | .list ds => match blsOf ds with
    | some bs => some (.bool (bs.all id))
    | none => none
  | _ => none
def anyD : Dt → Option Dt
  | .list ds => match blsOf ds with
    | some bs => some (.bool (bs.any id))
    | none => none
  | _ => none
theorem allD_sc (d z : Dt) (h : allD d = some z) : (scV z).isSome = true := by
  unfold allD at h
  split at h
  · split at h
    · cases h; rfl
    · cases h
  · cases h
theorem anyD_sc (d z : Dt) (h : anyD d = some z) : (scV z).isSome = true := by
  unfold anyD at h
  split at h
  · split at h
    · cases h; rfl
    · cases h
  · cases h
theorem b_all (hc : X.calm = true) : CallR X (.builtin "all") (rS1 X.K allD) := by
  intro pins s σ H xs us Q I r h
  obtain ⟨x, d, z, w, ex, r1, hg, hs, q⟩ := h
  subst ex
  unfold allD at hg
  split at hg
  · next ds =>
    split at hg
    · next bs hb =>
      cases hg
      cases hs
      cases r1 with
      | lst h1 h2 =>
        rw [blsOf_eq hb] at h2
        rw [h2.toBls] at h1
        exact cr_all hc pins s σ H _ us Q I r ⟨_, bs, rfl, h1, q⟩
    · cases hg
  · cases hg
theorem b_any (hc : X.calm = true) : CallR X (.builtin "any") (rS1 X.K anyD) := by
  intro pins s σ H xs us Q I r h
  obtain ⟨x, d, z, w, ex, r1, hg, hs, q⟩ := h
  subst ex
  unfold anyD at hg
  split at hg
  · next ds =>
    split at hg
    · next bs hb =>
      cases hg
      cases hs
      cases r1 with
      | lst h1 h2 =>
        rw [blsOf_eq hb] at h2
        rw [h2.toBls] at h1
        exact cr_any hc pins s σ H _ us Q I r ⟨_, bs, rfl, h1, q⟩
    · cases hg
  · cases hg
def absD : Dt → Option Dt
  | .int i => some (.int (if i < 0 then -i else i))
  | _ => none
theorem absD_sc (d z : Dt) (h : absD d = some z) : (scV z).isSome = true := by
  cases d <;> first | (cases h; rfl) | cases h
theorem b_abs : CallR X (.builtin "abs") (rS1 X.K absD) := by
  intro pins s σ H xs us Q I r h
  obtain ⟨x, d, z, w, ex, r1, hg, hs, q⟩ := h
  subst ex
  cases r1 with
  | int i =>
    cases hg
    cases hs
    exact call_abs pins s σ H _ us Q I r ⟨i, rfl, q⟩
  | lst => cases hg
  | tup => cases hg
  | str => cases hg
  | non => cases hg
  | bl => cases hg
  | dic => cases hg
def intD : Dt → Option Dt
  | .int i => some (.int i)
  | .bool b => some (.int (if b then 1 else 0))
  | _ => none
theorem intD_sc (d z : Dt) (h : intD d = some z) : (scV z).isSome = true := by
  cases d <;> first | (cases h; rfl) | cases h
theorem y_int : CallR X (.type "int") (rS1 X.K intD) := by
  intro pins s σ H xs us Q I r h
  obtain ⟨x, d, z, w, ex, r1, hg, hs, q⟩ := h
  subst ex
  cases r1 with
  | int i =>
    cases hg
    cases hs
    exact call_int1 pins s σ H _ us Q I r (.inl ⟨i, rfl, q⟩)
  | bl b =>
    cases hg
    cases hs
    exact call_int1 pins s σ H _ us Q I r (.inr ⟨b, rfl, q⟩)
  | lst => cases hg
  | tup => cases hg
  | str => cases hg
  | non => cases hg
  | dic => cases hg
def rS2L (K : PySem.W.Frag) (g : Dt → Dt → Option Dt) : List V → Hp → VK → Prop := r2L (rS2 K g)
def max2D : Dt → Dt → Option Dt
  | .int i, .int j => some (.int (if j > i then j else i))
  | _, _ => none
def min2D : Dt → Dt → Option Dt
  | .int i, .int j => some (.int (if j < i then j else i))
  | _, _ => none
theorem max2D_sc (d e z : Dt) (h : max2D d e = some z) : (scV z).isSome = true := by
  unfold max2D at h
  split at h
  · cases h; rfl
  · cases h
theorem min2D_sc (d e z : Dt) (h : min2D d e = some z) : (scV z).isSome = true := by
  unfold min2D at h
  split at h
  · cases h; rfl
  · cases h
theorem b_max2 (hc : X.calm = true) : CallR X (.builtin "max") (r2L (rS2 X.K max2D)) := by
  intro pins s σ H xs us Q I r h
  obtain ⟨x, y, ex, d, e, z, w, r1, r2, hg, hs, q⟩ := h
  subst ex
  unfold max2D at hg
  split at hg
  · next i j =>
    cases hg
    cases hs
    cases r1
    cases r2
    exact call_max2 hc pins s σ H _ us Q I r ⟨i, j, rfl, q⟩
  · cases hg
theorem b_min2 (hc : X.calm = true) : CallR X (.builtin "min") (r2L (rS2 X.K min2D)) := by
  intro pins s σ H xs us Q I r h
  obtain ⟨x, y, ex, d, e, z, w, r1, r2, hg, hs, q⟩ := h
  subst ex
  unfold min2D at hg
  split at hg
  · next i j =>
    cases hg
    cases hs
    cases r1
    cases r2
    exact call_min2 hc pins s σ H _ us Q I r ⟨i, j, rfl, q⟩
  · cases hg
end
end Vs

/-! part VsH -/
set_option Elab.async false
set_option linter.all false
set_option maxRecDepth 100000
set_option maxHeartbeats 4000000
/-! Operations that make lists and tuples, items, slices, isinstance, sorted. -/
namespace Vs
open PySem PySem.Spec PyProof.Rows L2

def flatS : Sh → Bool
  | .F => true
  | .O .F => true
  | _ => false
section
variable {K : PySem.W.Frag} {H W : Hp} {R : List Root}
theorem Good.ownL {v : Option V} {ds : List Dt} (gd : Good K H W R) (m : (⟨.O .F, v, .list ds⟩ : Root) ∈ R) : ∃ a vs, v = some (.ref a) ∧ H a = some (.lst vs) ∧ RFs K W vs ds := by
  obtain ⟨l, p⟩ := perm_mem m
  obtain ⟨u, fp, e, o⟩ := (gd.perm p).head
  subst e
  cases o with
  | lst h1 h2 h3 => exact ⟨_, _, rfl, h1, h3.frozen.1⟩
theorem Good.flatL {s : Sh} {v : Option V} {ds : List Dt} (gd : Good K H W R) (m : (⟨s, v, .list ds⟩ : Root) ∈ R) (hs : flatS s = true) : ∃ a vs, v = some (.ref a) ∧ SqL K H a vs ∧ RFs K W vs ds := by
  cases s with
  | F =>
    obtain ⟨u, e, r⟩ := gd.frozenAt m
    subst e
    cases r with
    | lst h1 h2 => exact ⟨_, _, rfl, ex_l gd.1 h1, h2⟩
  | O s' =>
    cases s' with
    | F =>
      obtain ⟨a, vs, e, h, r⟩ := gd.ownL m
      exact ⟨a, vs, e, .inl (.inl h), r⟩
    | O s2 => cases hs
theorem Good.flatT {v : Option V} {ds : List Dt} (gd : Good K H W R) (m : (⟨.F, v, .tuple ds⟩ : Root) ∈ R) : ∃ a vs, v = some (.ref a) ∧ SqT K W a vs ∧ RFs K W vs ds := by
  obtain ⟨u, e, r⟩ := gd.frozenAt m
  subst e
  cases r with
  | tup h1 h2 => exact ⟨_, _, rfl, h1, h2⟩
theorem mem3_3 {s1 s2 s3 : Sh} {vs : List V} {ds : List Dt} (m : Mem3 R [s1, s2, s3] vs ds) : ∃ v w x d e f, vs = [v, w, x] ∧ ds = [d, e, f] ∧ (⟨s1, some v, d⟩ : Root) ∈ R ∧ (⟨s2, some w, e⟩ : Root) ∈ R ∧ (⟨s3, some x, f⟩ : Root) ∈ R := by
  match vs, ds with
  | v :: vs, d :: ds =>
    obtain ⟨w, x, e, f, h1, h2, h3, h4⟩ := mem3_2 (vs := vs) (ds := ds) m.2
    subst h1
    subst h2
    exact ⟨v, w, x, d, e, f, rfl, rfl, m.1, h3, h4⟩
  | [], _ => exact m.elim
  | _ :: _, [] => exact m.elim
theorem Good.int {s : Sh} {v : V} {i : Int} (gd : Good K H W R) (m : (⟨s, some v, .int i⟩ : Root) ∈ R) : v = .int i := by
  obtain ⟨u, e, r⟩ := gd.viewAt m
  cases e
  cases r
  rfl
end

section
variable {X : Cx}
/-! ### list + list, tuple + tuple, list * int, tuple * int -/
theorem add_anyList {prog : Program} {w : World} {A : Around} {E : Value → Shared → Prop} {s : Shared} {l b : Addr} {vs ws : List Value} {Q : Value → Shared → Prop} (hl : s.heap.IsList l vs.toArray) (hb : s.heap.IsList b ws.toArray)
    (h : Q (.ref s.heap.objs.size) { s with heap := s.heap.push { cls := .type "list", data := .seq (vs ++ ws).toArray } }) (hsz : vs.length + ws.length ≤ sizeLine) : wpAny (model prog w) A (binaryOp .Add (.ref l) (.ref b)) Q E s := by
  obtain ⟨⟨cls, dd, data, sl⟩, ho, hc, n, hd⟩ := id hl
  obtain ⟨⟨cls2, dd2, data2, sl2⟩, ho2, hc2, n2, hd2⟩ := id hb
  simp only at hc hd hc2 hd2
  subst hc hd hc2 hd2
  have e : vs.toArray ++ ws.toArray = (vs ++ ws).toArray := by simp
  refine concat_meets ⟨_, ho, rfl⟩ ⟨_, ho2, rfl⟩ noFill_list_add seq_list_add PySem.F.slot_list_add PySem.F.entry_list_add (PySem.F.args_list_add_2 _ _) (list_addW l b vs.toArray ws.toArray n n2 dd dd2 sl sl2 (by simpa using hsz)) ⟨ho, ho2, ?_⟩
  rw [e]
  exact h
def rCatS (K : PySem.W.Frag) : R2 := fun x y H Q => ∃ l b xs zs, x = .ref l ∧ y = .ref b ∧ SqL K H l xs ∧ SqL K H b zs ∧ xs.length + zs.length ≤ sizeLine ∧ ∀ p, H p = none → Q (.ref p) (upd H p (.lst (xs ++ zs)))
theorem op_catS : OpR X (binaryOp .Add) (rCatS X.K) := by
  intro pins s σ H x y v u Q I rx ry h
  obtain ⟨l, b, xs, zs, rfl, rfl, hH, hB, hz, q⟩ := h
  cases rx
  cases ry
  obtain ⟨its, r, p1, _⟩ := I.list hH
  obtain ⟨its2, r2, p2, _⟩ := I.list hB
  refine add_anyList p1.isList p2.isList ?_ (by rw [← r.length, ← r2.length]; exact hz)
  exact ⟨.ref _, _, I.lnew (t' := s.toks) (r.append r2) (by rw [List.length_append]; exact hz), rfl, q _ I.fresh⟩
def catL : Dt → Dt → Option Dt
  | .list xs, .list ys => if xs.length + ys.length ≤ 16777216 then some (.list (xs ++ ys)) else none
  | _, _ => none
def catT : Dt → Dt → Option Dt
  | .tuple xs, .tuple ys => if xs.length + ys.length ≤ 16777216 then some (.tuple (xs ++ ys)) else none
  | _, _ => none
variable {K : PySem.W.Frag}
theorem spec_catL {s1 s2 : Sh} (h1 : flatS s1 = true) (h2 : flatS s2 = true) : OpSpec K (r2L (rCatS K)) (on2 catL) [s1, s2] (.O .F) := by
  intro H W R vs ds z Q gd m hz q
  obtain ⟨v, w, d, e, ev, ed, m1, m2⟩ := mem3_2 m
  subst ev
  subst ed
  have hz : catL d e = some z := hz
  unfold catL at hz
  split at hz
  · rename_i xs ys _
    split at hz
    · next hl =>
      cases hz
      obtain ⟨a, us, e1, q1, r1⟩ := gd.flatL m1 h1
      obtain ⟨b, ws, e2, q2, r2⟩ := gd.flatL m2 h2
      cases e1
      cases e2
      exact ⟨_, _, rfl, a, b, us, ws, rfl, rfl, q1, q2, by rw [r1.length, r2.length, sizeLine_eq]; exact hl, fun p np => q _ _ W (Ex.refl W) (gd.newL np (r1.append r2))⟩
    · cases hz
  · cases hz
theorem spec_catT : OpSpec K (r2L (rCatA K)) (on2 catT) [.F, .F] .F := by
  intro H W R vs ds z Q gd m hz q
  obtain ⟨v, w, d, e, ev, ed, m1, m2⟩ := mem3_2 m
  subst ev
  subst ed
  have hz : catT d e = some z := hz
  unfold catT at hz
  split at hz
  · rename_i xs ys _
    split at hz
    · next hl =>
      cases hz
      obtain ⟨a, us, e1, q1, r1⟩ := gd.flatT m1
      obtain ⟨b, ws, e2, q2, r2⟩ := gd.flatT m2
      cases e1
      cases e2
      refine ⟨_, _, rfl, a, b, us, ws, rfl, rfl, ex_t gd.1 q1, ex_t gd.1 q2, by rw [r1.length, r2.length, sizeLine_eq]; exact hl, fun e => ?_, fun _ e => ?_, fun _ _ p np => ?_⟩
      · subst e
        cases r1
        exact q _ _ W (Ex.refl W) (gd.addF (.tup q2 r2))
      · subst e
        cases r2
        rw [List.append_nil] at q
        exact q _ _ W (Ex.refl W) (gd.addF (.tup q1 r1))
      · obtain ⟨W2, e2, g2⟩ := gd.newF np (d := .tuple (xs ++ ys)) fun W' ew hp => .tup (.inl (.inl hp)) ((r1.append r2).mono ew)
        exact q _ _ W2 e2 g2
    · cases hz
  · cases hz
def repL : Dt → Dt → Option Dt
  | .list xs, .int k => if decide (-9223372036854775808 ≤ k) && decide (k < 9223372036854775808) && decide (xs.length * k.toNat ≤ 16777216) then some (.list (List.replicate k.toNat xs).flatten) else none
  | _, _ => none
theorem spec_repL {s2 : Sh} : OpSpec K (r2L rRep) (on2 repL) [.O .F, s2] (.O .F) := by
  intro H W R vs ds z Q gd m hz q
  obtain ⟨v, w, d, e, ev, ed, m1, m2⟩ := mem3_2 m
  subst ev
  subst ed
  have hz : repL d e = some z := hz
  unfold repL at hz
  split at hz
  · rename_i xs k _
    split at hz
    · next hl =>
      simp only [Bool.and_eq_true, decide_eq_true_eq] at hl
      cases hz
      obtain ⟨a, us, e1, q1, r1⟩ := gd.ownL m1
      cases e1
      have e2 := gd.int m2
      subst e2
      exact ⟨_, _, rfl, a, k, us, rfl, rfl, q1, hl.1.1, hl.1.2, by rw [r1.length, sizeLine_eq]; exact hl.2, fun p np => q _ _ W (Ex.refl W) (gd.newL np (r1.rep _))⟩
    · cases hz
  · cases hz
def repT : Dt → Dt → Option Dt
  | .tuple xs, .int k => if decide (xs ≠ []) && decide (2 ≤ k) && decide (k ≤ 1000) && decide (xs.length ≤ 1000) then some (.tuple (List.replicate k.toNat xs).flatten) else none
  | _, _ => none
theorem spec_repT {s2 : Sh} : OpSpec K (r2L (rRepT K)) (on2 repT) [.F, s2] .F := by
  intro H W R vs ds z Q gd m hz q
  obtain ⟨v, w, d, e, ev, ed, m1, m2⟩ := mem3_2 m
  subst ev
  subst ed
  have hz : repT d e = some z := hz
  unfold repT at hz
  split at hz
  · rename_i xs k _
    split at hz
    · next hl =>
      simp only [Bool.and_eq_true, decide_eq_true_eq] at hl
      cases hz
      obtain ⟨a, us, e1, q1, r1⟩ := gd.flatT m1
      cases e1
      have e2 := gd.int m2
      subst e2
      refine ⟨_, _, rfl, a, k, us, rfl, rfl, ex_t gd.1 q1, fun z => ?_, hl.1.1.2, hl.1.2, by rw [r1.length]; exact hl.2, fun p np => ?_⟩
      · subst z
        cases r1
        exact hl.1.1.1 rfl
      · obtain ⟨W2, e2, g2⟩ := gd.newF np (d := .tuple (List.replicate k.toNat xs).flatten) fun W' ew hp => .tup (.inl (.inl hp)) ((r1.rep _).mono ew)
        exact q _ _ W2 e2 g2
    · cases hz
  · cases hz

/-! ### items -/
theorem atI_rf {W : Hp} {vs : List V} {ds : List Dt} {i : Int} {d : Dt} (r : RFs K W vs ds) (h : atI ds i = some d) : ∃ v, atI vs i = some v ∧ RF K W v d := by
  unfold atI at h ⊢
  rw [r.length]
  cases e : ixN ds.length i with
  | none => rw [e] at h; cases h
  | some j =>
    rw [e] at h
    exact r.get h
def ixD : Dt → Dt → Option Dt
  | .list ds, .int i => atI ds i
  | .tuple ds, .int i => atI ds i
  | _, _ => none
theorem spec_ixL {s1 s2 : Sh} (h1 : flatS s1 = true) : OpSpec K (r2L (rIx K)) (on2 ixD) [s1, s2] .F := by
  intro H W R vs ds z Q gd m hz q
  obtain ⟨v, w, d, e, ev, ed, m1, m2⟩ := mem3_2 m
  subst ev
  subst ed
  have hz : ixD d e = some z := hz
  unfold ixD at hz
  split at hz
  · rename_i ds i _
    obtain ⟨a, us, e1, q1, r1⟩ := gd.flatL m1 h1
    cases e1
    have e2 := gd.int m2
    subst e2
    obtain ⟨x, hx, rx⟩ := atI_rf r1 hz
    exact ⟨_, _, rfl, .inl ⟨a, us, i, x, rfl, rfl, q1, hx, q x H W (Ex.refl W) (gd.addF rx)⟩⟩
  · rename_i ds i _
    have : s1 = .F := by
      cases s1 with
      | F => rfl
      | O s' =>
        obtain ⟨l, p⟩ := perm_mem m1
        obtain ⟨u, fp, e, o⟩ := (gd.perm p).head
        cases o
    subst this
    obtain ⟨a, us, e1, q1, r1⟩ := gd.flatT m1
    cases e1
    have e2 := gd.int m2
    subst e2
    obtain ⟨x, hx, rx⟩ := atI_rf r1 hz
    exact ⟨_, _, rfl, .inr (.inl ⟨a, us, i, x, rfl, rfl, ex_t gd.1 q1, hx, q x H W (Ex.refl W) (gd.addF rx)⟩)⟩
  · cases hz

/-! ### slices -/
def cutA {α : Type} (xs : List α) (lo hi : Option Int) : List α := (xs.drop (HT.sIx xs.length 0 lo)).take (HT.sIx xs.length xs.length hi - HT.sIx xs.length 0 lo)
theorem RFs.cut {W : Hp} {vs : List V} {ds : List Dt} (r : RFs K W vs ds) (lo hi : Option Int) : RFs K W (cutV vs lo hi) (cutA ds lo hi) := by
  unfold cutV cutA
  rw [r.length]
  exact (r.drop _).take _
theorem cutA_whole {α : Type} (xs : List α) {lo hi : Option Int} (h : HT.sIx xs.length 0 lo = 0 ∧ HT.sIx xs.length xs.length hi = xs.length) : cutA xs lo hi = xs := by
  unfold cutA
  rw [h.1, h.2]
  simp
abbrev RSl := V → Option Int → Option Int → Hp → VK → Prop
def rSl1 (r : RSl) : List V → Hp → VK → Prop := fun vs H Q => ∃ x, vs = [x] ∧ r x none none H Q
def rSlA1 (r : RSl) : List V → Hp → VK → Prop := fun vs H Q => ∃ x i, vs = [x, .int i] ∧ r x (some i) none H Q
def rSlB1 (r : RSl) : List V → Hp → VK → Prop := fun vs H Q => ∃ x i, vs = [x, .int i] ∧ r x none (some i) H Q
def rSl2 (r : RSl) : List V → Hp → VK → Prop := fun vs H Q => ∃ x i j, vs = [x, .int i, .int j] ∧ r x (some i) (some j) H Q
/-- what a slice is of a datum -/
def slD (k : List Dt → Dt) (pick : Dt → Option (List Dt)) (d : Dt) (lo hi : Option Int) : Option Dt := match pick d with
  | some ds => some (k (cutA ds lo hi))
  | none => none
def asL : Dt → Option (List Dt)
  | .list ds => some ds
  | _ => none
def asT : Dt → Option (List Dt)
  | .tuple ds => some ds
  | _ => none
def sl1 (g : Dt → Option Int → Option Int → Option Dt) : List Dt → Option Dt
  | [d] => g d none none
  | _ => none
def slA1 (g : Dt → Option Int → Option Int → Option Dt) : List Dt → Option Dt
  | [d, .int i] => g d (some i) none
  | _ => none
def slB1 (g : Dt → Option Int → Option Int → Option Dt) : List Dt → Option Dt
  | [d, .int i] => g d none (some i)
  | _ => none
def sl2 (g : Dt → Option Int → Option Int → Option Dt) : List Dt → Option Dt
  | [d, .int i, .int j] => g d (some i) (some j)
  | _ => none
def sliceL := slD .list asL
def sliceT := slD .tuple asT
/-- what one slice rule says -/
def SlOk (K : PySem.W.Frag) (r : RSl) (g : Dt → Option Int → Option Int → Option Dt) (s1 so : Sh) : Prop := ∀ (H W : Hp) (R : List Root) (v : V) (d z : Dt) (lo hi : Option Int) (Q : VK), Good K H W R → (⟨s1, some v, d⟩ : Root) ∈ R → g d lo hi = some z →
  (∀ w H' W', Ex W W' → Good K H' W' (⟨so, some w, z⟩ :: R) → Q w H') → r v lo hi H Q
theorem slok_L {s1 : Sh} (h1 : flatS s1 = true) : SlOk K (rSlL K) sliceL s1 (.O .F) := by
  intro H W R v d z lo hi Q gd m hz q
  unfold sliceL slD asL at hz
  cases d with
  | list ds =>
    cases hz
    obtain ⟨a, us, e1, q1, r1⟩ := gd.flatL m h1
    cases e1
    exact ⟨a, us, rfl, q1, fun p np => q _ _ W (Ex.refl W) (gd.newL np (r1.cut lo hi))⟩
  | none => cases hz
  | bool => cases hz
  | int => cases hz
  | str => cases hz
  | tuple => cases hz
  | dict => cases hz
theorem slok_T : SlOk K (rSlA K) sliceT .F .F := by
  intro H W R v d z lo hi Q gd m hz q
  unfold sliceT slD asT at hz
  cases d with
  | tuple ds =>
    cases hz
    obtain ⟨a, us, e1, q1, r1⟩ := gd.flatT m
    cases e1
    refine ⟨a, us, rfl, ex_t gd.1 q1, fun hw => ?_, fun hw p np => ?_⟩
    · rw [r1.length] at hw
      rw [cutA_whole ds hw] at q
      exact q _ _ W (Ex.refl W) (gd.addF (.tup q1 r1))
    · obtain ⟨W2, e2, g2⟩ := gd.newF np (d := .tuple (cutA ds lo hi)) fun W' ew hp => .tup (.inl (.inl hp)) ((r1.cut lo hi).mono ew)
      exact q _ _ W2 e2 g2
  | none => cases hz
  | bool => cases hz
  | int => cases hz
  | str => cases hz
  | list => cases hz
  | dict => cases hz
variable {r : RSl} {g : Dt → Option Int → Option Int → Option Dt} {s1 so : Sh}
theorem spec_sl1 (h : SlOk K r g s1 so) : OpSpec K (rSl1 r) (sl1 g) [s1] so := by
  intro H W R vs ds z Q gd m hz q
  obtain ⟨v, d, ev, ed, m1⟩ := mem3_1 m
  subst ev
  subst ed
  exact ⟨v, rfl, h H W R v d z none none Q gd m1 hz q⟩
theorem spec_slA {s2 : Sh} (h : SlOk K r g s1 so) : OpSpec K (rSlA1 r) (slA1 g) [s1, s2] so := by
  intro H W R vs ds z Q gd m hz q
  obtain ⟨v, w, d, e, ev, ed, m1, m2⟩ := mem3_2 m
  subst ev
  subst ed
  cases e with
  | int i =>
    have e2 := gd.int m2
    subst e2
    exact ⟨v, i, rfl, h H W R v d z (some i) none Q gd m1 hz q⟩
  | none => cases hz
  | bool => cases hz
  | list => cases hz
  | str => cases hz
  | tuple => cases hz
  | dict => cases hz
theorem spec_slB {s2 : Sh} (h : SlOk K r g s1 so) : OpSpec K (rSlB1 r) (slB1 g) [s1, s2] so := by
  intro H W R vs ds z Q gd m hz q
  obtain ⟨v, w, d, e, ev, ed, m1, m2⟩ := mem3_2 m
  subst ev
  subst ed
  cases e with
  | int i =>
    have e2 := gd.int m2
    subst e2
    exact ⟨v, i, rfl, h H W R v d z none (some i) Q gd m1 hz q⟩
  | none => cases hz
  | bool => cases hz
  | list => cases hz
  | str => cases hz
  | tuple => cases hz
  | dict => cases hz
theorem spec_sl2 {s2 s3 : Sh} (h : SlOk K r g s1 so) : OpSpec K (rSl2 r) (sl2 g) [s1, s2, s3] so := by
  intro H W R vs ds z Q gd m hz q
  obtain ⟨v, w, x, d, e, f, ev, ed, m1, m2, m3⟩ := mem3_3 m
  subst ev
  subst ed
  unfold sl2 at hz
  split at hz
  · next d' i j he =>
    cases he
    have e2 := gd.int m2
    have e3 := gd.int m3
    subst e2
    subst e3
    exact ⟨v, i, j, rfl, h H W R v d z (some i) (some j) Q gd m1 hz q⟩
  · cases hz
variable {C : Ctx} {Γ Γ1 Γ2 Γ3 : List Sh} {e el eh : Expr} {o ol oh : Opd} {pos p2 : Pos} {sl shh : Sh}
theorem c_sl1 (hr : SlR X r) (sp : SlOk C.K r g s1 so) (he : PE X e (RdO C Γ o Γ1)) (hs : [o].map (shO Γ1) = [s1] := by rfl) : PE X (.Subscript e (.Slice none none none p2) pos) (RdE C Γ (opM [o] (sl1 g)) so Γ1) :=
  pe_imp (pe_slice hr he po_none po_none) fun σ H Q h => by
    obtain ⟨W, ρ, T, s, th⟩ := rd_one (rd_op (spec_sl1 sp) hs h)
    refine ⟨W, ρ, T, s, th.imp fun x ρ1 k v H1 W1 R e1 st ok => ?_⟩
    obtain ⟨_, ev, q⟩ := k v H1 W1 R e1 st ok
    cases ev
    exact q
theorem c_slA (hr : SlR X r) (sp : SlOk C.K r g s1 so) (he : PE X e (RdO C Γ o Γ1)) (hl : PE X el (RdO C Γ1 ol Γ2)) (hs : [o, ol].map (shO Γ2) = [s1, sl] := by rfl) : PE X (.Subscript e (.Slice (some el) none none p2) pos) (RdE C Γ (opM [o, ol] (slA1 g)) so Γ2) :=
  pe_imp (pe_slice hr he (po_some hl) po_none) fun σ H Q h => by
    obtain ⟨W, ρ, T, s, th⟩ := rd_two (Γ1 := Γ1) (rd_op (spec_slA sp) hs h)
    refine ⟨W, ρ, T, s, th.imp fun x ρ1 k v H1 W1 R e1 st ok => ?_⟩
    obtain ⟨W', ρ', T', s', th'⟩ := k v H1 W1 R e1 st ok
    refine ⟨W', ρ', T', s', th'.imp fun x2 ρ2 k2 v2 H2 W2 R2 e2 s2 ok2 => ?_⟩
    obtain ⟨_, i, ev, q⟩ := k2 v2 H2 W2 R2 e2 s2 ok2
    cases ev
    exact ⟨i, rfl, q⟩
theorem c_slB (hr : SlR X r) (sp : SlOk C.K r g s1 so) (he : PE X e (RdO C Γ o Γ1)) (hh : PE X eh (RdO C Γ1 oh Γ2)) (hs : [o, oh].map (shO Γ2) = [s1, shh] := by rfl) : PE X (.Subscript e (.Slice none (some eh) none p2) pos) (RdE C Γ (opM [o, oh] (slB1 g)) so Γ2) :=
  pe_imp (pe_slice hr he po_none (po_some hh)) fun σ H Q h => by
    obtain ⟨W, ρ, T, s, th⟩ := rd_two (Γ1 := Γ1) (rd_op (spec_slB sp) hs h)
    refine ⟨W, ρ, T, s, th.imp fun x ρ1 k v H1 W1 R e1 st ok => ?_⟩
    obtain ⟨W', ρ', T', s', th'⟩ := k v H1 W1 R e1 st ok
    refine ⟨W', ρ', T', s', th'.imp fun x2 ρ2 k2 v2 H2 W2 R2 e2 s2 ok2 => ?_⟩
    obtain ⟨_, i, ev, q⟩ := k2 v2 H2 W2 R2 e2 s2 ok2
    cases ev
    exact ⟨i, rfl, q⟩
end
end Vs

/-! part VsI -/
set_option Elab.async false
set_option linter.all false
set_option maxRecDepth 100000
set_option maxHeartbeats 4000000
/-! isinstance, list(), tuple(), sorted(), [::-1]. -/
namespace Vs
open PySem PySem.Spec PyProof.Rows L2 PySem.W

def rIsa (K : PySem.W.Frag) (T : String) (p : Dt → Bool) : List V → Hp → VK → Prop := fun xs H Q => ∃ x d, xs = [x, .ty T] ∧ RF K H x d ∧ (∀ kvs, d ≠ .dict kvs) ∧ Q (.bl (p d)) H
section
variable {X : Cx}
theorem b_isa_bool : CallR X (.builtin "isinstance") (rIsa X.K "bool" fun d => d.isBool) := by
  intro pins s σ H xs us Q I r h
  obtain ⟨x, d, ex, rx, nd, q⟩ := h
  subst ex
  obtain ⟨u, u2, eu, r1, r2⟩ := vals2 r
  subst eu
  cases (show u2 = Value.type "bool" from r2)
  cases rx with
  | non =>
    cases r1
    exact IsiPair.NoneType_bool ⟨.bl _, H, I.tok _, rfl, q⟩
  | bl i =>
    cases r1
    exact IsiPair.bool_bool ⟨.bl _, H, I, rfl, q⟩
  | int i =>
    obtain ⟨t, et⟩ := r1
    subst et
    exact IsiPair.int_bool ⟨.bl _, H, I.tok _, rfl, q⟩
  | str i =>
    obtain ⟨t, et⟩ := r1
    subst et
    exact IsiPair.str_bool ⟨.bl _, H, I.tok _, rfl, q⟩
  | tup h1 h2 =>
    cases r1
    obtain ⟨its, rv, ⟨o, ho, hc, _⟩, _⟩ := I.tuple h1
    exact IsiPair.tuple_bool ho hc ⟨.bl _, H, I.tok _, rfl, q⟩
  | lst h1 h2 =>
    cases r1
    obtain ⟨its, rv, pl, _⟩ := I.list h1
    obtain ⟨o, ho, hc, _⟩ := pl.isList
    exact IsiPair.list_bool ho hc ⟨.bl _, H, I.tok _, rfl, q⟩
  | dic h1 h2 h3 => exact (nd _ rfl).elim
theorem b_isa_int : CallR X (.builtin "isinstance") (rIsa X.K "int" fun d => d.isInt) := by
  intro pins s σ H xs us Q I r h
  obtain ⟨x, d, ex, rx, nd, q⟩ := h
  subst ex
  obtain ⟨u, u2, eu, r1, r2⟩ := vals2 r
  subst eu
  cases (show u2 = Value.type "int" from r2)
  cases rx with
  | non =>
    cases r1
    exact IsiPair.NoneType_int ⟨.bl _, H, I.tok _, rfl, q⟩
  | bl i =>
    cases r1
    exact IsiPair.bool_int ⟨.bl _, H, I, rfl, q⟩
  | int i =>
    obtain ⟨t, et⟩ := r1
    subst et
    exact IsiPair.int_int ⟨.bl _, H, I, rfl, q⟩
  | str i =>
    obtain ⟨t, et⟩ := r1
    subst et
    exact IsiPair.str_int ⟨.bl _, H, I.tok _, rfl, q⟩
  | tup h1 h2 =>
    cases r1
    obtain ⟨its, rv, ⟨o, ho, hc, _⟩, _⟩ := I.tuple h1
    exact IsiPair.tuple_int ho hc ⟨.bl _, H, I.tok _, rfl, q⟩
  | lst h1 h2 =>
    cases r1
    obtain ⟨its, rv, pl, _⟩ := I.list h1
    obtain ⟨o, ho, hc, _⟩ := pl.isList
    exact IsiPair.list_int ho hc ⟨.bl _, H, I.tok _, rfl, q⟩
  | dic h1 h2 h3 => exact (nd _ rfl).elim
theorem b_isa_str : CallR X (.builtin "isinstance") (rIsa X.K "str" fun d => d.isStr) := by
  intro pins s σ H xs us Q I r h
  obtain ⟨x, d, ex, rx, nd, q⟩ := h
  subst ex
  obtain ⟨u, u2, eu, r1, r2⟩ := vals2 r
  subst eu
  cases (show u2 = Value.type "str" from r2)
  cases rx with
  | non =>
    cases r1
    exact IsiPair.NoneType_str ⟨.bl _, H, I.tok _, rfl, q⟩
  | bl i =>
    cases r1
    exact IsiPair.bool_str ⟨.bl _, H, I.tok _, rfl, q⟩
  | int i =>
    obtain ⟨t, et⟩ := r1
    subst et
    exact IsiPair.int_str ⟨.bl _, H, I.tok _, rfl, q⟩
  | str i =>
    obtain ⟨t, et⟩ := r1
    subst et
    exact IsiPair.str_str ⟨.bl _, H, I, rfl, q⟩
  | tup h1 h2 =>
    cases r1
    obtain ⟨its, rv, ⟨o, ho, hc, _⟩, _⟩ := I.tuple h1
    exact IsiPair.tuple_str ho hc ⟨.bl _, H, I.tok _, rfl, q⟩
  | lst h1 h2 =>
    cases r1
    obtain ⟨its, rv, pl, _⟩ := I.list h1
    obtain ⟨o, ho, hc, _⟩ := pl.isList
    exact IsiPair.list_str ho hc ⟨.bl _, H, I.tok _, rfl, q⟩
  | dic h1 h2 h3 => exact (nd _ rfl).elim
theorem b_isa_list : CallR X (.builtin "isinstance") (rIsa X.K "list" fun d => d.isList) := by
  intro pins s σ H xs us Q I r h
  obtain ⟨x, d, ex, rx, nd, q⟩ := h
  subst ex
  obtain ⟨u, u2, eu, r1, r2⟩ := vals2 r
  subst eu
  cases (show u2 = Value.type "list" from r2)
  cases rx with
  | non =>
    cases r1
    exact IsiPair.NoneType_list ⟨.bl _, H, I.tok _, rfl, q⟩
  | bl i =>
    cases r1
    exact IsiPair.bool_list ⟨.bl _, H, I.tok _, rfl, q⟩
  | int i =>
    obtain ⟨t, et⟩ := r1
    subst et
    exact IsiPair.int_list ⟨.bl _, H, I.tok _, rfl, q⟩
  | str i =>
    obtain ⟨t, et⟩ := r1
    subst et
    exact IsiPair.str_list ⟨.bl _, H, I.tok _, rfl, q⟩
  | tup h1 h2 =>
    cases r1
    obtain ⟨its, rv, ⟨o, ho, hc, _⟩, _⟩ := I.tuple h1
    exact IsiPair.tuple_list ho hc ⟨.bl _, H, I.tok _, rfl, q⟩
  | lst h1 h2 =>
    cases r1
    obtain ⟨its, rv, pl, _⟩ := I.list h1
    obtain ⟨o, ho, hc, _⟩ := pl.isList
    exact IsiPair.list_list ho hc ⟨.bl _, H, I, rfl, q⟩
  | dic h1 h2 h3 => exact (nd _ rfl).elim
theorem b_isa_tuple : CallR X (.builtin "isinstance") (rIsa X.K "tuple" fun d => d.isTuple) := by
  intro pins s σ H xs us Q I r h
  obtain ⟨x, d, ex, rx, nd, q⟩ := h
  subst ex
  obtain ⟨u, u2, eu, r1, r2⟩ := vals2 r
  subst eu
  cases (show u2 = Value.type "tuple" from r2)
  cases rx with
  | non =>
    cases r1
    exact IsiPair.NoneType_tuple ⟨.bl _, H, I.tok _, rfl, q⟩
  | bl i =>
    cases r1
    exact IsiPair.bool_tuple ⟨.bl _, H, I.tok _, rfl, q⟩
  | int i =>
    obtain ⟨t, et⟩ := r1
    subst et
    exact IsiPair.int_tuple ⟨.bl _, H, I.tok _, rfl, q⟩
  | str i =>
    obtain ⟨t, et⟩ := r1
    subst et
    exact IsiPair.str_tuple ⟨.bl _, H, I.tok _, rfl, q⟩
  | tup h1 h2 =>
    cases r1
    obtain ⟨its, rv, ⟨o, ho, hc, _⟩, _⟩ := I.tuple h1
    exact IsiPair.tuple_tuple ho hc ⟨.bl _, H, I, rfl, q⟩
  | lst h1 h2 =>
    cases r1
    obtain ⟨its, rv, pl, _⟩ := I.list h1
    obtain ⟨o, ho, hc, _⟩ := pl.isList
    exact IsiPair.list_tuple ho hc ⟨.bl _, H, I.tok _, rfl, q⟩
  | dic h1 h2 h3 => exact (nd _ rfl).elim
def isaD (p : Dt → Bool) : Dt → Option Dt
  | .dict _ => none
  | d => some (.bool (p d))
variable {C : Ctx} {Γ Γ' : List Sh} {e : Expr} {o : Opd} {pos p1 p2 : Pos}
theorem spec_isa {K : PySem.W.Frag} {T : String} {p : Dt → Bool} {s1 : Sh} : OpSpec K (fun vs H Q => ∃ x, vs = [x] ∧ rIsa K T p [x, .ty T] H Q) (on1 (isaD p)) [s1] .F := by
  intro H W R vs ds z Q gd m hz q
  obtain ⟨v, d, ev, ed, m1⟩ := mem3_1 m
  subst ev
  subst ed
  obtain ⟨u, eu, r⟩ := gd.viewAt m1
  cases eu
  have hz : isaD p d = some z := hz
  unfold isaD at hz
  split at hz
  · cases hz
  · next nd =>
    cases hz
    exact ⟨_, rfl, _, d, rfl, r, nd, q _ H W (Ex.refl W) (gd.addF (.bl _))⟩
theorem c_isa {T : String} {x : Str} {p : Dt → Bool} (hc : CallR X (.builtin "isinstance") (rIsa C.K T p)) (hg : Gl X "isinstance") (hm : X.mg "isinstance" = none) (hg2 : Gl X x) (hm2 : X.mg x = none) (hv2 : bootBuiltins x = some (.type T))
    (he : PE X e (RdO C Γ o Γ')) (hs : starEach [e, .Name x p2] X.env = (false, eval e X.env) :: starEach [.Name x p2] X.env := by rfl) (hs2 : starEach [.Name x p2] X.env = (false, eval (.Name x p2) X.env) :: starEach [] X.env := by rfl) (hpl : (backTo pos (starEach [.Name x p2] X.env)).any (·.1) = false := by rfl) (hdb : (x == ("__debug__" : Str)) = false := by decide) (hn2 : x ≠ "__name__" := by decide) :
    PE X (.Call (.Name "isinstance" p1) [e, .Name x p2] [] pos) (RdE C Γ (opM [o] (on1 (isaD p))) .F Γ') :=
  pe_imp (pe_callB hc hg hm (by rfl) (pa_cons he (pa_cons (pe_bltn hg2 hm2 hv2 (show RelV (.ty T) _ from rfl) hn2 hdb) pa_nil hs2) hs) (by decide) (by decide) hs hpl) fun σ H Q h => by
    obtain ⟨W, ρ, T', s, th⟩ := rd_one (rd_op (spec_isa (T := T)) (by rfl) h)
    refine ⟨W, ρ, T', s, th.imp fun x ρ1 k v H1 W1 R e1 st ok => ?_⟩
    obtain ⟨_, ev, q⟩ := k v H1 W1 R e1 st ok
    cases ev
    exact q

/-! ### list(x), tuple(x) -/
def listD : Dt → Option Dt
  | .list ds => some (.list ds)
  | .tuple ds => some (.list ds)
  | _ => none
def tupleD : Dt → Option Dt
  | .list ds => some (.tuple ds)
  | .tuple ds => some (.tuple ds)
  | _ => none
def rLst (K : PySem.W.Frag) : List V → Hp → VK → Prop := fun xs H Q => ∃ p ys, xs = [.ref p] ∧ (SqL K H p ys ∨ SqT K H p ys) ∧ ∀ l, H l = none → Q (.ref l) (upd H l (.lst ys))
def rTpl (K : PySem.W.Frag) : List V → Hp → VK → Prop := fun xs H Q => ∃ p ys, xs = [.ref p] ∧ ((SqL K H p ys ∧ ∀ l, H l = none → Q (.ref l) (upd H l (.tup ys))) ∨ (SqT K H p ys ∧ Q (.ref p) H))
theorem y_list : CallR X (.type "list") (rLst X.K) := call_list_of
theorem y_tuple : CallR X (.type "tuple") (rTpl X.K) := call_tuple_of
theorem Good.tupF {K : PySem.W.Frag} {H W : Hp} {R : List Root} {s : Sh} {v : Option V} {ds : List Dt} (gd : Good K H W R) (m : (⟨s, v, .tuple ds⟩ : Root) ∈ R) : (⟨.F, v, .tuple ds⟩ : Root) ∈ R := by
  cases s with
  | F => exact m
  | O s' =>
    obtain ⟨l, p⟩ := perm_mem m
    obtain ⟨u, fp, e, o⟩ := (gd.perm p).head
    cases o
variable {K : PySem.W.Frag}
theorem spec_list {s1 : Sh} (h1 : flatS s1 = true) : OpSpec K (rLst K) (on1 listD) [s1] (.O .F) := by
  intro H W R vs ds z Q gd m hz q
  obtain ⟨v, d, ev, ed, m1⟩ := mem3_1 m
  subst ev
  subst ed
  have hz : listD d = some z := hz
  unfold listD at hz
  split at hz
  · next ds =>
    cases hz
    obtain ⟨a, us, e1, q1, r1⟩ := gd.flatL m1 h1
    cases e1
    exact ⟨a, us, rfl, .inl q1, fun p np => q _ _ W (Ex.refl W) (gd.newL np r1)⟩
  · next ds =>
    cases hz
    obtain ⟨a, us, e1, q1, r1⟩ := gd.flatT (gd.tupF m1)
    cases e1
    exact ⟨a, us, rfl, .inr (ex_t gd.1 q1), fun p np => q _ _ W (Ex.refl W) (gd.newL np r1)⟩
  · cases hz
theorem spec_tuple {s1 : Sh} (h1 : flatS s1 = true) : OpSpec K (rTpl K) (on1 tupleD) [s1] .F := by
  intro H W R vs ds z Q gd m hz q
  obtain ⟨v, d, ev, ed, m1⟩ := mem3_1 m
  subst ev
  subst ed
  have hz : tupleD d = some z := hz
  unfold tupleD at hz
  split at hz
  · rename_i ds _
    cases hz
    obtain ⟨a, us, e1, q1, r1⟩ := gd.flatL m1 h1
    cases e1
    refine ⟨a, us, rfl, .inl ⟨q1, fun p np => ?_⟩⟩
    obtain ⟨W2, e2, g2⟩ := gd.newF np (d := .tuple ds) fun W' ew hp => .tup (.inl (.inl hp)) (r1.mono ew)
    exact q _ _ W2 e2 g2
  · rename_i ds _
    cases hz
    obtain ⟨a, us, e1, q1, r1⟩ := gd.flatT (gd.tupF m1)
    cases e1
    exact ⟨a, us, rfl, .inr ⟨ex_t gd.1 q1, q _ _ W (Ex.refl W) (gd.addF (.tup q1 r1))⟩⟩
  · cases hz

/-! ### sorted(xs) -/
def srtOk (ds : List Dt) : Bool := PyData.plainAll ds && (ds.all fun d => ds.all fun e => alike d e) && decide (PyData.depthAll ds ≤ 60) &&
  ((ds.all fun d => match d with | .tuple (_ :: _) => true | _ => false) || (ds.all fun d => match d with | .none => false | .tuple _ => false | _ => true) || (decide (ds.length ≤ 1) && ds.all fun d => !nonB d))
def srt (ds : List Dt) : List Dt := ds.mergeSort (dataLe false id)
def rSrt (K : PySem.W.Frag) : List V → Hp → VK → Prop := fun vs H Q => ∃ (a : Addr) (us : List V) (ds : List Dt) (W : Hp), vs = [.ref a] ∧ SqL K H a us ∧ Ex W H ∧ RFs K W us ds ∧ srtOk ds = true ∧ ∀ ys p, RFs K W ys (srt ds) → H p = none → Q (.ref p) (upd H p (.lst ys))
theorem eachF {W : Hp} : ∀ {us : List V} {ds : List Dt} {its : List Value}, RFs K W us ds → Vals us its → EachIs (fun v d => ∃ x, RelV x v ∧ RF K W x d) its ds
  | _, _, _, .nil, .nil => .nil
  | _, _, _, .cons r t, .cons r2 t2 => .cons ⟨_, r2, r⟩ (eachF t t2)
theorem eachB {W : Hp} : ∀ {ds : List Dt} {its : List Value}, EachIs (fun v d => ∃ x, RelV x v ∧ RF K W x d) its ds → ∃ us, RFs K W us ds ∧ Vals us its
  | _, _, .nil => ⟨[], .nil, .nil⟩
  | _, _, .cons ⟨x, r2, r⟩ t => by
    obtain ⟨us, h1, h2⟩ := eachB t
    exact ⟨x :: us, .cons r h1, .cons r2 h2⟩
theorem depth_mem : ∀ {ds : List Dt} {d : Dt}, d ∈ ds → d.depth ≤ PyData.depthAll ds
  | x :: r, d, h => by
    simp only [PyData.depthAll]
    rcases List.mem_cons.mp h with e | m
    · subst e; omega
    · have := depth_mem m; omega
theorem srt_1 {ds : List Dt} (h : ds.length ≤ 1) : srt ds = ds := by
  match ds, h with
  | [], _ => simp [srt]
  | [x], _ => simp [srt]
theorem b_sorted (hu : X.A.units + 64 < cLine) : CallR X (.builtin "sorted") (rSrt X.K) := by
  intro pins s σ H xs us Q I r h
  obtain ⟨a, vs, ds, W, ex, hq, ew, rf, ok, q⟩ := h
  subst ex
  obtain ⟨u, eu, rx⟩ := vals1 r
  subst eu
  cases rx
  obtain ⟨its, rv, pl, hz⟩ := I.list hq
  simp only [srtOk, Bool.and_eq_true, decide_eq_true_eq] at ok
  obtain ⟨⟨⟨hp, hal⟩, hd⟩, hk⟩ := ok
  have hal' : AllAlike ds := fun d hd d' hd' => List.all_eq_true.mp (List.all_eq_true.mp hal d hd) d' hd'
  obtain ⟨as, ra⟩ := RFs.readsAll I (rf.mono ew) hp rv
  have er := readsAll_each id (h := s.heap) (bs := ds) (by rw [List.map_id]; exact ra)
  have fin : ∀ out, out.length = ds.length → EachIs (fun v d => ∃ x, RelV x v ∧ RF X.K W x d) out (srt ds) → EP X pins σ Q (.ref (s.heap.objs.size + 1)) { s with heap := sortedAll s.heap its out.toArray } := fun out ho eo => by
    obtain ⟨ys, r1, r2⟩ := eachB eo
    obtain ⟨c, hc⟩ := sortedAll_at s.heap its out.toArray
    refine ⟨.ref (s.heap.objs.size + 1), _, I.laid (t' := s.toks) (o := .lst ys) (fun b ob qq => sortedAll_old qq) (Nat.le_succ _) ?_, rfl, q ys _ r1 (I.hok.fresh (Nat.le_succ _))⟩
    exact ⟨by rw [r2.length, ho, ← rf.length]; exact hz, out, c, r2, hc⟩
  rcases Bool.or_eq_true _ _ ▸ hk with hk | hk
  · have hs : Sortable ds := by
      rcases Bool.or_eq_true _ _ ▸ hk with hk | hk
      · refine .inl fun d hd => ?_
        have := List.all_eq_true.mp hk d hd
        revert this
        split
        · intro _; exact ⟨_, _, rfl⟩
        · intro z; cases z
      · refine .inr fun d hd => ?_
        have := List.all_eq_true.mp hk d hd
        revert this
        split
        · intro z; cases z
        · intro z; cases z
        · next h1 h2 => intro _; exact ⟨fun e => h1 e, fun xs e => h2 xs e⟩
    exact sorted_data (enc := id) pl.isList (eachF rf rv) er (by rw [List.map_id]; exact hal') (by rw [List.map_id]; exact hs) (by rw [← rf.length]; exact hz) (fun b hb => by
      have := depth_mem hb
      show X.A.units + 2 + b.depth < cLine
      omega) fun out ho eo => fin out ho eo
  · simp only [Bool.and_eq_true, decide_eq_true_eq] at hk
    obtain ⟨hk, hn⟩ := hk
    have hl : its.length ≤ 1 := by rw [← rv.length, rf.length]; exact hk
    have er2 : EachIs (fun v b => ∃ as, Reads (sortingHeap (copyHeap s.heap its) (s.heap.objs.size + 1) its) v (id b) as) its ds := er.mono fun _ _ ⟨as, r⟩ => ⟨as, PyProof.Rows.Reads.keeps (fun _ _ => sorting_copy_old) r⟩
    refine sorted_vals (κ := dataKind (sortingHeap (copyHeap s.heap its) (s.heap.objs.size + 1) its) ds) pl.isList ⟨fun v hv => ?_, general', fun E x y a b Q ha hb hq => ?_, fun z => absurd z (by omega)⟩ (by rw [← rv.length]; exact hz) ?_
    · obtain ⟨d, hd, as, r⟩ := er2.left v hv
      exact ⟨_, dataKind_some hal' hd r⟩
    · obtain ⟨d, as, hd, ra, e1⟩ := dataKind_inv ha
      obtain ⟨d', as', hd', rb, e2⟩ := dataKind_inv hb
      subst e1
      subst e2
      show wpAny _ _ (oneLt' false x y) _ _ _
      have h1 := depth_mem hd
      exact oneLt_alike (f := false) (fun z => by cases z) ra rb (hal' d hd d' hd') (fun z => by
        have := List.all_eq_true.mp hn d hd
        rw [z] at this
        cases this) (by
        show X.A.units + 2 + _ < cLine
        omega) hq
    · refine fin _ ?_ ?_
      · rw [sortVals_length false rfl, ← rv.length, rf.length]
      · have := sortVals_data (enc := id) false (eachF rf rv) er2 (by rw [List.map_id]; exact hal')
        rw [List.map_id] at this
        exact this
def sortedD : Dt → Option Dt
  | .list ds => if srtOk ds then some (.list (srt ds)) else none
  | _ => none
theorem spec_sorted {s1 : Sh} (h1 : flatS s1 = true) : OpSpec K (rSrt K) (on1 sortedD) [s1] (.O .F) := by
  intro H W R vs ds z Q gd m hz q
  obtain ⟨v, d, ev, ed, m1⟩ := mem3_1 m
  subst ev
  subst ed
  have hz : sortedD d = some z := hz
  unfold sortedD at hz
  split at hz
  · split at hz
    · next hk =>
      cases hz
      obtain ⟨a, us, e1, q1, r1⟩ := gd.flatL m1 h1
      cases e1
      exact ⟨a, us, _, W, rfl, q1, gd.1, r1, hk, fun ys p ry np => q _ _ W (Ex.refl W) (gd.newL np ry)⟩
    · cases hz
  · cases hz
end
end Vs

/-! part VsJ -/
set_option Elab.async false
set_option linter.all false
set_option maxRecDepth 100000
set_option maxHeartbeats 4000000
/-! Dead code; [::-1]. -/
namespace Vs
open PySem PySem.Spec PyProof.Rows L2 PySem.W
section
variable {X : Cx} {C : Ctx} {Γ Γ1 Γ' : List Sh} {e : Expr} {o : Opd} {sh : Sh} {pos p1 p2 p3 : Pos}
/-! ### what is never reached: its meaning is bad, so nothing is to be shown of it -/
def badE : M Dt := fun _ => .bad
def badS : M Fl := fun _ => .bad
theorem c_bad : PE X e (RdE C Γ badE sh Γ') := ⟨fun _ _ _ _ _ _ h => by
  obtain ⟨W, ρ, T, s, th⟩ := h
  exact th.elim⟩
theorem s_bad {st : Stmt} : PS X st (RdS C Γ badS Γ') := ⟨fun _ _ _ _ _ _ h => by
  obtain ⟨W, ρ, T, s, th⟩ := h
  exact th.elim⟩
theorem q_bad {st : List Stmt} : PSs X st (RdS C Γ badS Γ') := ⟨fun _ _ _ _ _ _ h => by
  obtain ⟨W, ρ, T, s, th⟩ := h
  exact th.elim⟩

/-! ### xs[::-1] -/
def revD : Dt → Option Dt
  | .list ds => some (.list ds.reverse)
  | _ => none
def revT : Dt → Option Dt
  | .tuple ds => some (.tuple ds.reverse)
  | _ => none
theorem RFs.rev {K : PySem.W.Frag} {W : Hp} : ∀ {vs : List V} {ds : List Dt}, RFs K W vs ds → RFs K W vs.reverse ds.reverse
  | _, _, .nil => .nil
  | _, _, .cons r t => by
    simp only [List.reverse_cons]
    exact (RFs.rev t).append (.cons r .nil)
theorem spec_revL {K : PySem.W.Frag} {s1 : Sh} (h1 : flatS s1 = true) : OpSpec K (fun vs H Q => ∃ x, vs = [x] ∧ ∃ a xs, x = .ref a ∧ SqL K H a xs ∧ ∀ p, H p = none → Q (.ref p) (upd H p (.lst xs.reverse))) (on1 revD) [s1] (.O .F) := by
  intro H W R vs ds z Q gd m hz q
  obtain ⟨v, d, ev, ed, m1⟩ := mem3_1 m
  subst ev
  subst ed
  have hz : revD d = some z := hz
  unfold revD at hz
  split at hz
  · cases hz
    obtain ⟨a, us, e1, q1, r1⟩ := gd.flatL m1 h1
    cases e1
    exact ⟨_, rfl, a, us, rfl, q1, fun p np => q _ _ W (Ex.refl W) (gd.newL np r1.rev)⟩
  · cases hz
theorem c_revL {k : Nat} {s1 : Sh} (h1 : flatS s1 = true) (he : PE X e (RdO C Γ o Γ')) (hK : C.K = X.K := by rfl) (hs : [o].map (shO Γ') = [s1] := by rfl) :
    PE X (.Subscript e (.Slice none none (some (.UnaryOp .USub (.Constant (.int 1) k p1) p2)) p3) pos) (RdE C Γ (opM [o] (on1 revD)) (.O .F) Γ') :=
  pe_imp (pe_revL he) fun σ H Q h => by
    obtain ⟨W, ρ, T, s, th⟩ := rd_one (rd_op (spec_revL h1) hs h)
    refine ⟨W, ρ, T, s, th.imp fun x ρ1 k v H1 W1 R e1 st ok => ?_⟩
    obtain ⟨_, ev, q⟩ := k v H1 W1 R e1 st ok
    cases ev
    rw [← hK]
    exact q
end
section
variable {prog : Program} {w : World} {A : Around} {E : Value → Shared → Prop} {s : Shared}
theorem adjust_rev (n : Nat) : Builtin.Slice.sliceAdjust none none (-1) (n : Int) = ((n : Int) - 1, -1) := by
  unfold Builtin.Slice.sliceAdjust
  simp
theorem places_rev (n : Nat) : Builtin.Slice.slicePlaces ((n : Int) - 1) (-1) (-1) = n := by
  unfold Builtin.Slice.slicePlaces
  have h1 : ¬ ((-1 : Int) > 0) := by omega
  simp only [h1, if_false]
  split
  · have : -(-1 : Int) = 1 := by omega
    rw [this, Int.ediv_one]
    omega
  · omega
theorem sliceApplied_rev {sl : Addr} {n : Nat} {vs : Value} {Q : Int × Int × Nat → Shared → Prop} (hs : s.heap.IsSliceOf sl .none .none vs) (ps : IsPart vs (some (-1)))
    (h : Q ((n : Int) - 1, -1, n) s) : wpAny (model prog w) A (Builtin.Slice.sliceApplied (.ref sl) (pure (n : Int))) Q E s := by
  obtain ⟨os, hos, hcs, hds⟩ := id hs
  unfold Builtin.Slice.sliceApplied Builtin.Slice.sliceFields
  refine wpAny_bind (wpAny_bind (wpAny_field hos hds (x := .none) rfl (wpAny_bind (wpAny_field hos hds (x := .none) rfl (wpAny_bind (wpAny_field hos hds (x := vs) rfl (wpAny_pure ?_)))))))
  refine wpAny_bind (HT.slicePart_ ps ?_)
  show wpAny _ _ (if ((-1 : Int) == 0) = true then _ else _) _ _ s
  rw [if_neg (by decide)]
  refine wpAny_bind (HT.slicePart_ .none (wpAny_bind (HT.slicePart_ .none (wpAny_bind (wpAny_pure ?_)))))
  show wpAny _ _ (match Builtin.Slice.sliceAdjust none none (-1) (n : Int) with | (lo, hi) => pure (lo, (-1 : Int), Builtin.Slice.slicePlaces lo hi (-1))) _ _ s
  rw [adjust_rev n]
  show wpAny _ _ (pure (((n : Int) - 1), (-1 : Int), Builtin.Slice.slicePlaces ((n : Int) - 1) (-1) (-1))) _ _ s
  rw [places_rev]
  exact wpAny_pure h
theorem pick_rev (xs : Array Value) : ((List.range xs.size).filterMap fun (m : Nat) => xs[(((xs.size : Int) - 1) + (m : Int) * (-1)).toNat]?).toArray = xs.toList.reverse.toArray := by
  congr 1
  have key : ∀ (zs : List Value) (f : Nat → Option Value) (n : Nat), n ≤ zs.length → (∀ m, m < n → f m = zs[m]?) → (List.range n).filterMap f = zs.take n := by
    intro zs f n
    induction n with
    | zero => intro _ _; simp
    | succ n ih =>
      intro hn hf
      rw [List.range_succ, List.filterMap_append, ih (by omega) fun m hm => hf m (by omega), List.take_add_one]
      congr 1
      rw [← hf n (by omega)]
      cases e : f n <;> simp [e]
  have := key xs.toList.reverse (fun (m : Nat) => xs[(((xs.size : Int) - 1) + (m : Int) * (-1)).toNat]?) xs.size (by simp) fun m hm => by
    have e : ((((xs.size : Int) - 1) + (m : Int) * (-1)).toNat) = xs.size - 1 - m := by omega
    rw [e, List.getElem?_reverse (by simpa using hm)]
    simp
  rw [this, List.take_of_length_le (by simp)]
theorem getItem_tuple_rev {t sl : Addr} {items : Array Value} {vs : Value} {Q : Value → Shared → Prop} (ht : IsTup s.heap t items) (hs : s.heap.IsSliceOf sl .none .none vs) (ps : IsPart vs (some (-1)))
    (h : Q (.ref s.heap.objs.size) { s with heap := s.heap.push { cls := .type "tuple", data := .seq (items.toList.reverse.toArray) } }) (hsz : items.size ≤ sizeLine) : wpAny (model prog w) A (getItem (.ref t) (.ref sl)) Q E s := by
  have htake : sizeOk (.seq items.toList.reverse.toArray) := by
    show items.toList.reverse.toArray.size ≤ sizeLine
    rw [List.size_toArray, List.length_reverse, Array.length_toList]
    exact hsz
  obtain ⟨os, hos, hcs, hds⟩ := id hs
  have hTs : s.TypeIs (.ref sl) "slice" := ⟨os, hos, hcs⟩
  unfold getItem
  try with_reducible refine wpAny_holding ?_
  first | refine wpAny_bind (wpAny_pure ?_) | skip
  refine wpAny_bind (wpAny_sequenceKey ht.typeIs (by decide) ?_)
  refine wpAny_bind (wpAny_callSpecial?_slot (name := Str.ofString "__getitem__") ht.typeIs PyProof.Rows.slot_tuple_getitem
    (wpAny_call_entry PyProof.Rows.slot_tuple_getitem ht.typeIs entry_tuple_getitem ?_ (args_tuple_getitem _ _)))
  show wpAny _ _ (Builtin.Tuple.tupleItemsOf (.ref t) >>= _) _ _ s
  refine wpAny_bind (tupleItemsOf_ ht ?_)
  refine wpAny_bind (wpAny_typeOf hTs ?_)
  rw [if_pos (by decide)]
  refine wpAny_bind (sliceApplied_rev hs ps ?_)
  show wpAny _ _ (if (((items.size : Int) - 1) == 0 && (-1 : Int) == 1 && items.size == items.size) = true then _ else _) _ _ s
  rw [if_neg (by simp), pick_rev]
  first
    | exact wpAny_bind (m := Builtin.Tuple.tupleExact _) (wpAny_newObj_type (wpAny_pure ⟨_, rfl, wpAny_pure h⟩) htake)
    | exact wpAny_bind (m := Builtin.Tuple.tupleExact _) (wpAny_newObj_type (wpAny_bind (wpAny_pure (wpAny_pure ⟨_, rfl, wpAny_pure h⟩))) htake)
end
section
variable {X : Cx} {C : Ctx} {Γ Γ1 Γ' : List Sh} {e : Expr} {o : Opd} {sh : Sh} {pos p1 p2 p3 : Pos}
def tRevT (K : PySem.W.Frag) (te : TE) : TE := fun σ H Q => te σ H fun x H1 => ∃ a xs, x = .ref a ∧ SqT K H1 a xs ∧ ∀ p, H1 p = none → Q (.ref p) (upd H1 p (.tup xs.reverse))
theorem pe_revT {te : TE} {k : Nat} (he : PE X e te) : PE X (.Subscript e (.Slice none none (some (.UnaryOp .USub (.Constant (.int 1) k p1) p2)) p3) pos) (tRevT X.K te) := by
  refine ⟨fun pins s σ H Q I h => ?_⟩
  refine Subscript_ (thn (he.run pins s σ H _ I h) fun v s1 ⟨x, H1, I1, r1, q1⟩ => ?_)
  obtain ⟨a, xs, ex, hx, q⟩ := q1
  subst ex
  cases r1
  have hst : PO X (some (.UnaryOp .USub (.Constant (.int 1) k p1) p2)) (tPart (tUn (rU fun i => .int (-i)) (tC (.int 1)))) := po_some (pe_un un_neg pe_int)
  refine wpAny_Slice (thn (po_none.run pins s1 σ H1 (fun o H2 => o = none ∧ H2 = H1) I1 ⟨rfl, rfl⟩) fun vl s2 ⟨l, H2, I2, pl, el, e2⟩ => ?_)
  subst el e2
  refine thn (po_none.run pins s2 σ H2 (fun o H3 => o = none ∧ H3 = H2) I2 ⟨rfl, rfl⟩) fun vu s3 ⟨u, H3, I3, pu, eu, e3⟩ => ?_
  subst eu e3
  refine thn (hst.run pins s3 σ H3 (fun o H4 => o = some (-1) ∧ H4 = H3) I3 ⟨1, rfl, -1, rfl, rfl, rfl⟩) fun vs s4 ⟨o, H4, I4, ps, eo, e4⟩ => ?_
  subst eo e4
  have I5 : Inv X pins σ H4 { s4 with heap := s4.heap.push { cls := .type "slice", data := .fields #[vl, vu, vs] } } := I4.kept (t' := s4.toks) fun b ob q => Heap.get?_push_of_some _ q
  obtain ⟨its, r, ht, hz⟩ := I5.tuple hx
  have hlen := r.length
  show wpAny (model X.prog X.w) X.A (subscriptTail e (.Slice none none (some (.UnaryOp .USub (.Constant (.int 1) k p1) p2)) p3) (.ref a) (.ref s4.heap.objs.size)) (EP X pins σ Q) X.xe { s4 with heap := s4.heap.push { cls := .type "slice", data := .fields #[vl, vu, vs] } }
  cases pl
  cases pu
  refine tail_any (ops := [.ref a, .ref s4.heap.objs.size]) ht.typeIs (PyProof.Rows.slot_tuple_getitem.lookup) ?_ (by with_unfolding_all rfl)
  refine getItem_tuple_rev ht (Heap.IsSliceOf.new _ _ _ vs) ps ?_ (by rw [List.size_toArray]; omega)
  refine ⟨.ref _, _, I5.laid (t' := s4.toks) (o := .tup xs.reverse) (fun b ob q => Heap.get?_push_of_some _ q) (Nat.le_refl _) ?_, rfl, q _ (I5.hok.fresh (Nat.le_refl _))⟩
  exact ⟨by rw [List.length_reverse]; exact hz, _, r.reverse, IsTup.new _ _⟩
theorem spec_revT {K : PySem.W.Frag} {s1 : Sh} : OpSpec K (fun vs H Q => ∃ x, vs = [x] ∧ ∃ a xs, x = .ref a ∧ SqT K H a xs ∧ ∀ p, H p = none → Q (.ref p) (upd H p (.tup xs.reverse))) (on1 revT) [s1] .F := by
  intro H W R vs ds z Q gd m hz q
  obtain ⟨v, d, ev, ed, m1⟩ := mem3_1 m
  subst ev
  subst ed
  have hz : revT d = some z := hz
  unfold revT at hz
  split at hz
  · next ds' _ =>
    cases hz
    obtain ⟨a, us, e1, q1, r1⟩ := gd.flatT (gd.tupF m1)
    cases e1
    refine ⟨_, rfl, a, us, rfl, ex_t gd.1 q1, fun p np => ?_⟩
    obtain ⟨W2, e2, g2⟩ := gd.newF np (d := _) fun W' ew hp => .tup (.inl (.inl hp)) (r1.rev.mono ew)
    exact q _ _ W2 e2 g2
  · cases hz
theorem c_revT {k : Nat} {s1 : Sh} (he : PE X e (RdO C Γ o Γ')) (hK : C.K = X.K := by rfl) (hs : [o].map (shO Γ') = [s1] := by rfl) :
    PE X (.Subscript e (.Slice none none (some (.UnaryOp .USub (.Constant (.int 1) k p1) p2)) p3) pos) (RdE C Γ (opM [o] (on1 revT)) .F Γ') :=
  pe_imp (pe_revT he) fun σ H Q h => by
    obtain ⟨W, ρ, T, s, th⟩ := rd_one (rd_op (spec_revT (s1 := s1)) hs h)
    refine ⟨W, ρ, T, s, th.imp fun x ρ1 k v H1 W1 R e1 st ok => ?_⟩
    obtain ⟨_, ev, q⟩ := k v H1 W1 R e1 st ok
    cases ev
    rw [← hK]
    exact q
end
end Vs

/-! part VsK -/
set_option Elab.async false
set_option linter.all false
set_option maxRecDepth 100000
set_option maxHeartbeats 4000000
/-! xs[i] = e for a list that a slot owns. -/
namespace Vs
open PySem PySem.Spec PyProof.Rows L2 PySem.W
section
variable {X : Cx} {C : Ctx} {Γ Γ1 Γ2 Γ' : List Sh} {e ei : Expr} {f fi : M Dt} {sh si : Sh} {pos p1 p2 p3 : Pos}
def setIx (ds : List Dt) (k d : Dt) : Option (List Dt) := match k with
  | .int z => match ixN ds.length z with
    | some j => some (ds.set j d)
    | none => none
  | _ => none
def stoIx (i : Nat) (f fi : M Dt) : M Fl := bnd f fun d => bnd (chkL i) fun _ => bnd fi fun k ρ => match ρ[i]? with
  | some (some (.list ds)) => match setIx ds k d with
    | some ds' => .ok .nx (ρ.set i (some (.list ds')))
    | none => .bad
  | _ => .bad
theorem chk_list {i : Nat} {ρ : Env} {P : Unit → Env → Prop} {σ : St} {T : List Root} {W : Hp} (h : Thn C σ T W (chkL i ρ) P) : ∃ ds, ρ[i]? = some (some (.list ds)) ∧ P () ρ := by
  unfold chkL at h
  split at h
  · next ds e => exact ⟨ds, e, h⟩
  · exact h.elim
theorem s_stoIx (i : Nat) {x : Str} {px : Pos} (hs : ∀ {te : TE} {tt : TG}, PE X e te → PG X (.Subscript (.Name x px) ei p2) tt → PS X (.Assign [.Subscript (.Name x px) ei p2] e pos) (tAsg te tt))
    (hv : PE X (.Name x px) (tVar i)) (he : PE X e (RdE C Γ f .F Γ1)) (hx : PE X ei (RdE C Γ1 fi si Γ2)) (hi : Γ2[i]? = some (.O .F) := by rfl)
    (ha : ∀ v, assign (.Subscript (.Name x px) ei p2) X.env v = (do
      let ov ← holding [v] (eval (.Name x px) X.env)
      let iv ← holding [v, ov] (eval ei X.env)
      standAt p2
      holding [v, ov, iv] (setItem ov iv v)
      release [v, ov, iv] []) := by intro _; rfl) : PS X (.Assign [.Subscript (.Name x px) ei p2] e pos) (RdS C Γ (stoIx i f fi) Γ2) := ps_imp (hs he (pg_sub hv hx set_list ha)) fun D σ H h => by
  obtain ⟨W, ρ, T, s0, th⟩ := h
  refine ⟨W, ρ, T, s0, (Thn.bnd th).imp fun d ρ1 k v H1 W1 e1 s1 => ?_⟩
  obtain ⟨ds0, ed0, k⟩ := chk_list (Thn.bnd k)
  obtain ⟨v0, g0, hv0, _⟩ := s1.at ed0
  refine ⟨v0, hv0, W1, ρ1, _, s1, Thn.up (R := [_]) (kp.refl _ _) e1 (Thn.bnd k) fun kd ρ2 k2 v2 H2 W2 e2 s2 => ?_⟩
  split at k2
  · next ds ed =>
    split at k2
    · next ds' hset =>
      have k2 : SK C σ W T Γ2 D .nx _ := k2
      unfold setIx at hset
      split at hset
      · rename_i z
        split at hset
        · next j hj =>
          cases hset
          have s3 := s2.take hv0 hi ed
          have g3 : Good C.K H2 W2 (⟨.O .F, some v0, .list ds⟩ :: ⟨si, some v2, .int z⟩ :: ⟨.F, some v, d⟩ :: (er σ Γ2 (ρ2.set i none) ++ T)) := s3.g.perm (by
            refine (List.perm_append_comm).trans ?_
            simp only [List.cons_append]
            exact List.Perm.cons _ (List.Perm.cons _ (List.Perm.cons _ List.perm_append_comm)))
          have e4 := (g3.tail).int List.mem_cons_self
          subst e4
          obtain ⟨a, us, ea, _, _⟩ := g3.ownL List.mem_cons_self
          cases ea
          obtain ⟨us, h1, h2, h3⟩ := g3.writeF
          obtain ⟨u, eu, rv⟩ := g3.frozenAt (List.mem_cons_of_mem _ (List.mem_cons_of_mem _ List.mem_cons_self))
          cases eu
          refine ⟨a, us, z, j, rfl, rfl, h1, by rw [h2.length]; exact hj, ?_⟩
          have g4 := h3 (us.set j v) (ds.set j d) (RFs.set rv j h2)
          have g5 : Good C.K (upd H2 a (.lst (us.set j v))) W2 (er σ Γ2 (ρ2.set i none) ++ (⟨.O .F, some (.ref a), .list (ds.set j d)⟩ :: T)) := Good.ofHead (Good.drop (T := [_, _]) (g4.perm (by
            show (_ :: _ :: _ :: _ : List Root).Perm ([_, _] ++ (_ :: _))
            exact (List.Perm.swap _ _ _).trans (List.Perm.cons _ (List.Perm.swap _ _ _)))))
          exact k2 σ _ W2 (kp.refl _ _) (e1.trans e2) (Stt.back hv0 hi ⟨s3.l1, s3.l2, s3.l3, g5⟩)
        · cases hset
      · cases hset
    · exact k2.elim
  · exact k2.elim
end
end Vs

/-! part VsL -/
set_option Elab.async false
set_option linter.all false
set_option maxRecDepth 100000
set_option maxHeartbeats 4000000
/-! + and * by kind; calls that let nothing out; bodies that always return. -/
namespace Vs
open PySem PySem.Spec PyProof.Rows L2 PySem.W
section
variable {X : Cx} {K : PySem.W.Frag}
theorem OpR.either {op : Value → Value → Sem Value} {r r' : R2} (h : OpR X op r) (h' : OpR X op r') : OpR X op (fun x y H Q => r x y H Q ∨ r' x y H Q) := fun pins s σ H x y v u Q I rx ry q => q.elim (h pins s σ H x y v u Q I rx ry) (h' pins s σ H x y v u Q I rx ry)
def orD (g g' : Dt → Dt → Option Dt) (d e : Dt) : Option Dt := match g d e with
  | some z => some z
  | none => g' d e
theorem spec_either {r r' : R2} {g g' : Dt → Dt → Option Dt} {shs : List Sh} {so : Sh} (h : OpSpec K (r2L r) (on2 g) shs so) (h' : OpSpec K (r2L r') (on2 g') shs so) : OpSpec K (r2L fun x y H Q => r x y H Q ∨ r' x y H Q) (on2 (orD g g')) shs so := by
  intro H W R vs ds z Q gd m hz q
  match ds, hz, m with
  | [d, e], hz, m =>
    have hz : orD g g' d e = some z := hz
    unfold orD at hz
    cases e1 : g d e with
    | some z' =>
      rw [e1] at hz
      cases hz
      obtain ⟨x, y, ev, hr⟩ := h H W R vs [d, e] z Q gd m e1 q
      exact ⟨x, y, ev, .inl hr⟩
    | none =>
      rw [e1] at hz
      obtain ⟨x, y, ev, hr⟩ := h' H W R vs [d, e] z Q gd m hz q
      exact ⟨x, y, ev, .inr hr⟩
  | [], hz, _ => cases hz
  | [_], hz, _ => cases hz
  | _ :: _ :: _ :: _, hz, _ => cases hz
def plusD := orD addI catT
theorem o_plus : OpR X (binaryOp .Add) (fun x y H Q => rS2 X.K addI x y H Q ∨ rCatA X.K x y H Q) := OpR.either o_add op_catA
theorem spec_plus : OpSpec K (r2L fun x y H Q => rS2 K addI x y H Q ∨ rCatA K x y H Q) (on2 plusD) [.F, .F] .F := spec_either (spec_S2 intC_sc) spec_catT
def timesD := orD mulI repT
theorem o_times : OpR X (binaryOp .Mult) (fun x y H Q => rS2 X.K mulI x y H Q ∨ rRepT X.K x y H Q) := OpR.either o_mul op_repT
theorem spec_times : OpSpec K (r2L fun x y H Q => rS2 K mulI x y H Q ∨ rRepT K x y H Q) (on2 timesD) [.F, .F] .F := spec_either (spec_S2 intC_sc) spec_repT
end
theorem pass_no {P : Program} {w : World} {X : Cx} (σ : St) : PassesAt (L2.CX P w) X σ (fun _ _ _ => False) := fun _ _ _ _ _ _ c => by
  obtain ⟨_, _, _, _, _, _, _, _, _, _, _, _, h⟩ := c
  exact h.elim
/-! ### bodies that never fall through -/
def NoNx (b : M Fl) : Prop := ∀ {ρ ρ' : Env}, b ρ ≠ .ok .nx ρ'
theorem nn_ret {f : M Dt} : NoNx (retM f) := fun {ρ ρ'} h => by
  unfold retM bnd at h
  split at h
  · cases h
  · cases h
  · cases h
theorem nn_bad : NoNx badS := fun {ρ ρ'} h => by cases h
theorem nn_seq {a b : M Fl} (hb : NoNx b) : NoNx (seqM a b) := fun {ρ ρ'} h => by
  unfold seqM bnd at h
  split at h
  · next fl ρ1 _ =>
    cases fl with
    | nx => exact hb h
    | ret => cases h
    | bk => cases h
    | ct => cases h
  · cases h
  · cases h
theorem nn_ite {c : M Bool} {a b : M Fl} (ha : NoNx a) (hb : NoNx b) : NoNx (iteM c a b) := fun {ρ ρ'} h => by
  unfold iteM bnd at h
  split at h
  · next t ρ1 _ =>
    cases t with
    | true => exact ha h
    | false => exact hb h
  · cases h
  · cases h
end Vs

/-! part VsM -/
set_option Elab.async false
set_option linter.all false
set_option maxRecDepth 100000
/-! The built-in names. -/
namespace Vs
open PySem PySem.Spec PyProof.Rows L2 PySem.W
theorem bb_len : bootBuiltins "len" = some (.builtin "len") := by decide +kernel
theorem bb_sum : bootBuiltins "sum" = some (.builtin "sum") := by decide +kernel
theorem bb_all : bootBuiltins "all" = some (.builtin "all") := by decide +kernel
theorem bb_any : bootBuiltins "any" = some (.builtin "any") := by decide +kernel
theorem bb_abs : bootBuiltins "abs" = some (.builtin "abs") := by decide +kernel
theorem bb_max : bootBuiltins "max" = some (.builtin "max") := by decide +kernel
theorem bb_min : bootBuiltins "min" = some (.builtin "min") := by decide +kernel
theorem bb_sorted : bootBuiltins "sorted" = some (.builtin "sorted") := by decide +kernel
theorem bb_isinstance : bootBuiltins "isinstance" = some (.builtin "isinstance") := by decide +kernel
theorem bb_int : bootBuiltins "int" = some (.type "int") := by decide +kernel
theorem bb_bool : bootBuiltins "bool" = some (.type "bool") := by decide +kernel
theorem bb_str : bootBuiltins "str" = some (.type "str") := by decide +kernel
theorem bb_list : bootBuiltins "list" = some (.type "list") := by decide +kernel
theorem bb_tuple : bootBuiltins "tuple" = some (.type "tuple") := by decide +kernel
theorem bb_dict : bootBuiltins "dict" = some (.type "dict") := by decide +kernel
theorem bb_set : bootBuiltins "set" = some (.type "set") := by decide +kernel
section
variable {P : Program} {w : World} {K : PySem.W.Frag} {mg : Str → Option Value} {base : Heap} {xr : XR}
theorem fn_okN {x qual : Str} {st : Stmt} {f : Addr} {fd : FuncData} {N ps : List Str} {k : Nat} {b : M Fl} {rs : Sh} {Γe : List Sh} {n np : Nat} (hn : N.length = n) (hp : ps.length = np) (F : Fun K x qual st f fd) (S : FnScope N ps (defScope st))
    (hrs : (∀ {ρ ρ'}, b ρ ≠ .ok .nx ρ') ∨ rs = .F) (hle : leS (shF n) Γe = true)
    (hbody : ∀ (cdv : Value) (A : Around) (outer : List PySem.Env) (s : Shared) (H : Hp) (E : XK), Room k (A.deeper (envOfC qual (defScope st) s.heap.objs.size f cdv)) →
      PSs (cxOf (L2.CX P w) P w K mg base N qual (defScope st) f cdv A outer s H E) (defBody st) (RdS (ctxF K xr n rs E) (shF n) b Γe)) : FnOk P w K mg base (L2.CX P w) (k + 1) f fd ps (spF K xr np rs (runF b n)) := by
  subst hn
  subst hp
  exact fn_ok F S hrs hle hbody
theorem fn_okGN {x qual : Str} {st : Stmt} {f : Addr} {fd : FuncData} {N ps : List Str} {k : Nat} {b : M Fl} {rs : Sh} {Γe : List Sh} {n np : Nat} (hn : N.length = n) (hps : ps.length = np + 1) (F : Fun K x qual st f fd) (S : FnScope N ps (defScope st))
    (hrs : (∀ {ρ ρ'}, b ρ ≠ .ok .nx ρ') ∨ (rs = .F ∧ leS (.O .F :: shF (n - 1)) Γe = true))
    (hbody : ∀ (cdv : Value) (A : Around) (outer : List PySem.Env) (s : Shared) (H : Hp) (E : XK), Room k (A.deeper (envOfC qual (defScope st) s.heap.objs.size f cdv)) →
      PSs (cxOf (L2.CX P w) P w K mg base N qual (defScope st) f cdv A outer s H E) (defBody st) (RdS (ctxG K xr n rs E) (.O .F :: shF (n - 1)) b Γe)) : FnOk P w K mg base (L2.CX P w) (k + 1) f fd ps (spG K xr np rs (runG b n)) := by
  subst hn
  exact fn_okG hps F S hrs hbody
end
section
variable {X : Cx} {C : Ctx} {Γ : List Sh} {rs : Sh} {pos p : Pos} {CX : CXT} {k : Nat} {fA : Addr} {fd : FuncData} {ps : List Str} {x : Str}
theorem pe_callSD0 {sp : Sp} {E : St → XK} (F : FnOk X.prog X.w X.K X.mg X.base CX k fA fd ps sp) (hr : Room k X.A) (hg : Gl X x) (hm : X.mg x = some (.ref fA)) (hk : PySem.W.keepIn X.K (.ref fA) = true) (hb : Binds X.K fd ps []) (hx : ∀ σ, PassesAt CX X σ (E σ))
    (hdb : (x == ("__debug__" : Str)) = false := by decide) : PE X (.Call (.Name x p) [] [] pos) (fun σ H Q => sp [] H Q (E σ)) := by
  refine ⟨fun pins s σ H Q I h => ?_⟩
  refine wpAny_Call_Name_kw (ld_glob I hg hm ?_ hdb)
  exact PySem.W.callWith_K0 I.kIn hk (run_fnSD (us := []) (vs := []) (dvs := []) (ds := []) F hr hb .nil (hx σ) I .nil h)
theorem c_call0 {F : List Dt → FO Dt} (G : FnOk X.prog X.w X.K X.mg X.base CX k fA fd ps (spF C.K C.xr 0 rs F)) (hr : Room k X.A) (hg : Gl X x) (hm : X.mg x = some (.ref fA)) (hk : PySem.W.keepIn X.K (.ref fA) = true) (hb : Binds X.K fd ps [])
    (hx : ∀ σ, PassesAt CX X σ (fun cls d H => C.W cls d σ H)) (hw : leS C.Γx Γ = true := by rfl) (hdb : (x == ("__debug__" : Str)) = false := by decide) : PE X (.Call (.Name x p) [] [] pos) (RdE C Γ (callM F []) rs Γ) := by
  refine pe_imp (pe_callSD0 (E := fun σ cls d H => C.W cls d σ H) G hr hg hm hk hb hx hdb) fun σ H Q h => ?_
  obtain ⟨W, ρ, T, st, th⟩ := h
  have kk := Thn.bnd th
  refine ⟨rfl, W, [], er σ Γ ρ ++ T, rfl, st.g, ?_⟩
  have kk : Thn C σ T W (match F [] with
    | .ok d => Out.ok d ρ
    | .exc x => .exc x ρ
    | .bad => .bad) _ := kk
  cases eF : F [] with
  | ok d =>
    simp only [eF] at kk
    exact fun v H' W' e' g' => kk v H' W' e' ⟨st.l1, st.l2, st.l3, g'.ofHead⟩
  | exc x =>
    simp only [eF] at kk
    intro cls dx H' W' e' hxr g'
    obtain ⟨W2, e2, s2⟩ := Stt.weak (K := C.K) (n := C.n) (Γ := Γ) (Γ' := C.Γx) ⟨st.l1, st.l2, st.l3, g'⟩ hw
    exact kk cls dx σ H' W2 (kp.refl _ _) (e'.trans e2) hxr s2
  | bad =>
    simp only [eF] at kk
    exact kk
end
end Vs

/-! part VsP -/
set_option Elab.async false
set_option linter.all false
set_option maxRecDepth 100000
set_option maxHeartbeats 4000000
/-! What the meanings compute: rules for simp (each a true rewriting step), loops by what they keep. -/
namespace Vs
open PySem PySem.Spec PyProof.Rows L2 PySem.W
section
variable {α β γ : Type}
def obnd (o : Out α) (k : α → Env → Out β) : Out β := match o with
  | .ok a ρ => k a ρ
  | .exc x ρ => .exc x ρ
  | .bad => .bad
def oseq (o : Out Fl) (k : Env → Out Fl) : Out Fl := match o with
  | .ok .nx ρ => k ρ
  | .ok (.ret d) ρ => .ok (.ret d) ρ
  | .ok .bk ρ => .ok .bk ρ
  | .ok .ct ρ => .ok .ct ρ
  | .exc x ρ => .exc x ρ
  | .bad => .bad
def obl (o : Out Bool) (kt kf : Env → Out β) : Out β := match o with
  | .ok b ρ => if b = true then kt ρ else kf ρ
  | .exc x ρ => .exc x ρ
  | .bad => .bad
def obd (o : Out Dt) (k : Bool → Env → Out β) : Out β := match o with
  | .ok (.bool b) ρ => k b ρ
  | .ok _ _ => .bad
  | .exc x ρ => .exc x ρ
  | .bad => .bad
def oin (o : Out Dt) (k : Int → Env → Out β) : Out β := match o with
  | .ok (.int b) ρ => k b ρ
  | .ok _ _ => .bad
  | .exc x ρ => .exc x ρ
  | .bad => .bad
def oop (o : Option α) (k : α → Out β) : Out β := match o with
  | some a => k a
  | none => .bad
def ofo (o : FO α) (ρ : Env) (k : α → Out β) : Out β := match o with
  | .ok a => k a
  | .exc x => .exc x ρ
  | .bad => .bad
def oge (ρ : Env) (i : Nat) (k : Dt → Out β) : Out β := match ρ[i]? with
  | some (some d) => k d
  | _ => .bad
def ogo (ρ : Env) (i : Nat) (k : Dt → Option β) : Option β := match ρ[i]? with
  | some (some d) => k d
  | _ => none
def ods (d : Dt) (k : List Dt → Out β) : Out β := match d with
  | .list ds => k ds
  | _ => .bad
def ofin (o : Out Fl) : FO Dt := match o with
  | .ok (.ret d) _ => .ok d
  | .ok .nx _ => .ok .none
  | .exc x _ => .exc x
  | _ => .bad
def ofinG (o : Out Fl) : FO (Dt × Dt) := match o with
  | .ok (.ret d) (some d1 :: _) => .ok (d, d1)
  | .ok .nx (some d1 :: _) => .ok (.none, d1)
  | .exc x _ => .exc x
  | _ => .bad
@[simp] theorem obnd_ok (a : α) (ρ : Env) (k : α → Env → Out β) : obnd (.ok a ρ) k = k a ρ := (rfl)
@[simp] theorem obnd_exc (x : Exn) (ρ : Env) (k : α → Env → Out β) : obnd (.exc x ρ) k = .exc x ρ := (rfl)
@[simp] theorem obnd_bad (k : α → Env → Out β) : obnd .bad k = .bad := (rfl)
@[simp] theorem oseq_nx (ρ : Env) (k : Env → Out Fl) : oseq (.ok .nx ρ) k = k ρ := (rfl)
@[simp] theorem oseq_ret (d : Dt) (ρ : Env) (k : Env → Out Fl) : oseq (.ok (.ret d) ρ) k = .ok (.ret d) ρ := (rfl)
@[simp] theorem oseq_bk (ρ : Env) (k : Env → Out Fl) : oseq (.ok .bk ρ) k = .ok .bk ρ := (rfl)
@[simp] theorem oseq_ct (ρ : Env) (k : Env → Out Fl) : oseq (.ok .ct ρ) k = .ok .ct ρ := (rfl)
@[simp] theorem oseq_exc (x : Exn) (ρ : Env) (k : Env → Out Fl) : oseq (.exc x ρ) k = .exc x ρ := (rfl)
@[simp] theorem oseq_bad (k : Env → Out Fl) : oseq .bad k = .bad := (rfl)
theorem obl_ok (b : Bool) (ρ : Env) (kt kf : Env → Out β) : obl (.ok b ρ) kt kf = if b = true then kt ρ else kf ρ := (rfl)
@[simp] theorem obl_t (ρ : Env) (kt kf : Env → Out β) : obl (.ok true ρ) kt kf = kt ρ := (rfl)
@[simp] theorem obl_f (ρ : Env) (kt kf : Env → Out β) : obl (.ok false ρ) kt kf = kf ρ := (rfl)
@[simp] theorem obl_exc (x : Exn) (ρ : Env) (kt kf : Env → Out β) : obl (.exc x ρ) kt kf = .exc x ρ := (rfl)
@[simp] theorem obl_bad (kt kf : Env → Out β) : obl .bad kt kf = .bad := (rfl)
@[simp] theorem obd_ok (b : Bool) (ρ : Env) (k : Bool → Env → Out β) : obd (.ok (.bool b) ρ) k = k b ρ := (rfl)
@[simp] theorem obd_exc (x : Exn) (ρ : Env) (k : Bool → Env → Out β) : obd (.exc x ρ) k = .exc x ρ := (rfl)
@[simp] theorem obd_bad (k : Bool → Env → Out β) : obd .bad k = .bad := (rfl)
@[simp] theorem oin_ok (b : Int) (ρ : Env) (k : Int → Env → Out β) : oin (.ok (.int b) ρ) k = k b ρ := (rfl)
@[simp] theorem oop_some (a : α) (k : α → Out β) : oop (some a) k = k a := (rfl)
@[simp] theorem oop_none (k : α → Out β) : oop none k = .bad := (rfl)
@[simp] theorem ofo_ok (a : α) (ρ : Env) (k : α → Out β) : ofo (.ok a) ρ k = k a := (rfl)
@[simp] theorem ofo_exc (x : Exn) (ρ : Env) (k : α → Out β) : ofo (.exc x) ρ k = .exc x ρ := (rfl)
@[simp] theorem ofo_bad (ρ : Env) (k : α → Out β) : ofo .bad ρ k = .bad := (rfl)
@[simp] theorem oge_0 (d : Dt) (ρ : Env) (k : Dt → Out β) : oge (some d :: ρ) 0 k = k d := (rfl)
@[simp] theorem oge_s (o : Option Dt) (ρ : Env) (i : Nat) (k : Dt → Out β) : oge (o :: ρ) (i + 1) k = oge ρ i k := (rfl)
@[simp] theorem ogo_0 (d : Dt) (ρ : Env) (k : Dt → Option β) : ogo (some d :: ρ) 0 k = k d := (rfl)
@[simp] theorem ogo_s (o : Option Dt) (ρ : Env) (i : Nat) (k : Dt → Option β) : ogo (o :: ρ) (i + 1) k = ogo ρ i k := (rfl)
@[simp] theorem ods_l (ds : List Dt) (k : List Dt → Out β) : ods (.list ds) k = k ds := (rfl)
@[simp] theorem ofin_ret (d : Dt) (ρ : Env) : ofin (.ok (.ret d) ρ) = .ok d := (rfl)
@[simp] theorem ofin_nx (ρ : Env) : ofin (.ok .nx ρ) = .ok .none := (rfl)
@[simp] theorem ofin_exc (x : Exn) (ρ : Env) : ofin (.exc x ρ) = .exc x := (rfl)
@[simp] theorem ofin_bad : ofin .bad = .bad := (rfl)
@[simp] theorem ofinG_ret (d d1 : Dt) (ρ : Env) : ofinG (.ok (.ret d) (some d1 :: ρ)) = .ok (d, d1) := (rfl)
@[simp] theorem ofinG_nx (d1 : Dt) (ρ : Env) : ofinG (.ok .nx (some d1 :: ρ)) = .ok (.none, d1) := (rfl)
@[simp] theorem ofinG_exc (x : Exn) (ρ : Env) : ofinG (.exc x ρ) = .exc x := (rfl)
@[simp] theorem ofinG_bad : ofinG .bad = .bad := (rfl)
end
section
variable {α β : Type} {a b : M Fl} {f f2 f3 : M Dt} {ρ ρ' : Env} {c c2 : M Bool} {ms : List (M Dt)} {os : List Opd} {t : TgF}
@[simp] theorem rt_a (x : α) : rt x ρ = .ok x ρ := (rfl)
@[simp] theorem bnd_a (m : M α) (k : α → M β) : bnd m k ρ = obnd (m ρ) k := by
  unfold bnd obnd
  cases m ρ <;> rfl
@[simp] theorem seq_a : seqM a b ρ = oseq (a ρ) b := by
  simp only [seqM, bnd_a]
  cases a ρ with
  | ok x ρ1 => cases x <;> rfl
  | exc => rfl
  | bad => rfl
@[simp] theorem ite_a : iteM c a b ρ = obl (c ρ) a b := by
  simp only [iteM, bnd_a]
  cases c ρ with
  | ok x ρ1 => cases x <;> rfl
  | exc => rfl
  | bad => rfl
@[simp] theorem get_a (i : Nat) : getM i ρ = oge ρ i fun d => .ok d ρ := (rfl)
@[simp] theorem take_a (i : Nat) : takeM i ρ = oge ρ i fun d => .ok d (ρ.set i none) := (rfl)
@[simp] theorem nop_a : nopM ρ = .ok .nx ρ := (rfl)
@[simp] theorem ret_a : retM f ρ = obnd (f ρ) fun d ρ' => .ok (.ret d) ρ' := by simp only [retM, bnd_a]; rfl
@[simp] theorem drop_a : dropM f ρ = obnd (f ρ) fun _ ρ' => .ok .nx ρ' := by simp only [dropM, bnd_a]; rfl
@[simp] theorem asg_a : asgM f t ρ = obnd (f ρ) fun d ρ' => stoM t d ρ' := by simp only [asgM, bnd_a]
@[simp] theorem sto_a {d : Dt} : stoM t d ρ = oop (t d ρ) fun ρ' => .ok .nx ρ' := by
  simp only [stoM, oop]
  cases t d ρ <;> rfl
@[simp] theorem setT_a (i : Nat) (d : Dt) : setT i d ρ = some (ρ.set i (some d)) := (rfl)
@[simp] theorem tupT_a (ts : List TgF) (ds : List Dt) : tupT ts (.tuple ds) ρ = tgsT ts ds ρ := (rfl)
@[simp] theorem tgs_nil : tgsT [] [] ρ = some ρ := (rfl)
@[simp] theorem tgs_cons (t : TgF) (ts : List TgF) (d : Dt) (ds : List Dt) : tgsT (t :: ts) (d :: ds) ρ = (t d ρ).bind fun ρ' => tgsT ts ds ρ' := by
  simp only [tgsT]
  cases t d ρ <;> rfl
@[simp] theorem blM_a : blM f ρ = obd (f ρ) fun x ρ' => .ok x ρ' := by
  simp only [blM, bnd_a]
  cases f ρ with
  | ok x ρ1 => cases x <;> rfl
  | exc => rfl
  | bad => rfl
@[simp] theorem notM_a : notM c ρ = obnd (c ρ) fun x ρ' => .ok (!x) ρ' := by simp only [notM, bnd_a]; rfl
@[simp] theorem andM_a : andM c c2 ρ = obl (c ρ) c2 fun ρ' => .ok false ρ' := by
  simp only [andM, bnd_a]
  cases c ρ with
  | ok x ρ1 => cases x <;> rfl
  | exc => rfl
  | bad => rfl
@[simp] theorem orM_a : orM c c2 ρ = obl (c ρ) (fun ρ' => .ok true ρ') c2 := by
  simp only [orM, bnd_a]
  cases c ρ with
  | ok x ρ1 => cases x <;> rfl
  | exc => rfl
  | bad => rfl
@[simp] theorem andV_a : andV f f2 ρ = obl (obd (f ρ) fun x ρ' => .ok x ρ') f2 fun ρ' => .ok (.bool false) ρ' := by
  simp only [andV, bnd_a]
  cases f ρ with
  | ok x ρ1 =>
    cases x with
    | bool t => cases t <;> rfl
    | _ => rfl
  | exc => rfl
  | bad => rfl
@[simp] theorem orV_a : orV f f2 ρ = obl (obd (f ρ) fun x ρ' => .ok x ρ') (fun ρ' => .ok (.bool true) ρ') f2 := by
  simp only [orV, bnd_a]
  cases f ρ with
  | ok x ρ1 =>
    cases x with
    | bool t => cases t <;> rfl
    | _ => rfl
  | exc => rfl
  | bad => rfl
@[simp] theorem notV_a : notV f ρ = obd (f ρ) fun x ρ' => .ok (.bool (!x)) ρ' := by
  simp only [notV, bnd_a]
  cases f ρ with
  | ok x ρ1 => cases x <;> rfl
  | exc => rfl
  | bad => rfl
@[simp] theorem negM_a : negM f ρ = oin (f ρ) fun x ρ' => .ok (.int (-x)) ρ' := by
  simp only [negM, bnd_a]
  cases f ρ with
  | ok x ρ1 => cases x <;> rfl
  | exc => rfl
  | bad => rfl
@[simp] theorem ifV_a : ifV c f f2 ρ = obl (c ρ) f f2 := by
  simp only [ifV, bnd_a]
  cases c ρ with
  | ok x ρ1 => cases x <;> rfl
  | exc => rfl
  | bad => rfl
@[simp] theorem vals_nil : valsM [] ρ = .ok [] ρ := (rfl)
@[simp] theorem vals_cons : valsM (f :: ms) ρ = obnd (f ρ) fun d ρ' => obnd (valsM ms ρ') fun ds ρ2 => .ok (d :: ds) ρ2 := by simp only [valsM, bnd_a]; rfl
@[simp] theorem list_a : listM ms ρ = obnd (valsM ms ρ) fun ds ρ' => .ok (.list ds) ρ' := by simp only [listM, bnd_a]; rfl
@[simp] theorem tuple_a : tupleM ms ρ = obnd (valsM ms ρ) fun ds ρ' => .ok (.tuple ds) ρ' := by simp only [tupleM, bnd_a]; rfl
@[simp] theorem call_a {F : List Dt → FO Dt} : callM F ms ρ = obnd (valsM ms ρ) fun ds ρ' => ofo (F ds) ρ' fun d => .ok d ρ' := by
  simp only [callM, bnd_a]
  cases valsM ms ρ with
  | exc => rfl
  | bad => rfl
  | ok ds ρ1 =>
    simp only [obnd_ok]
    cases F ds <;> rfl
@[simp] theorem callG_a {F : Dt → List Dt → FO (Dt × Dt)} {i : Nat} : callG F i ms ρ = oge ρ i fun _ => obnd (valsM ms ρ) fun ds ρ' => oge ρ' i fun d0 => ofo (F d0 ds) (ρ'.set i none) fun p => .ok p.1 (ρ'.set i (some p.2)) := by
  simp only [callG, bnd_a, oge]
  cases e : ρ[i]? with
  | none => rfl
  | some o =>
    cases o with
    | none => rfl
    | some d =>
      simp only [obnd_ok, bnd_a]
      cases valsM ms ρ with
      | exc => rfl
      | bad => rfl
      | ok ds ρ' =>
        simp only [obnd_ok]
        cases ρ'[i]? with
        | none => rfl
        | some o =>
          cases o with
          | none => rfl
          | some d0 =>
            simp only
            cases F d0 ds <;> rfl
@[simp] theorem ops_nil : ops1 [] ρ = .ok [] ρ := (rfl)
@[simp] theorem ops_var {i : Nat} : ops1 (.var i :: os) ρ = oge ρ i fun _ => obnd (ops1 os ρ) fun xs ρ2 => .ok (.inr i :: xs) ρ2 := by
  simp only [ops1, op1, bnd_a, oge]
  cases ρ[i]? with
  | none => rfl
  | some o =>
    cases o with
    | none => rfl
    | some d => rfl
@[simp] theorem ops_val {s : Sh} : ops1 (.val f s :: os) ρ = obnd (f ρ) fun d ρ1 => obnd (ops1 os ρ1) fun xs ρ2 => .ok (.inl d :: xs) ρ2 := by
  simp only [ops1, op1, bnd_a]
  cases f ρ <;> rfl
@[simp] theorem op_a {g : List Dt → Option Dt} : opM os g ρ = obnd (ops1 os ρ) fun xs ρ1 => oop (fillE ρ1 xs) fun ds => oop (g ds) fun d => .ok d ρ1 := by
  simp only [opM, opsM, bnd_a]
  cases ops1 os ρ with
  | ok xs ρ1 =>
    simp only [obnd_ok]
    cases fillE ρ1 xs with
    | none => rfl
    | some ds =>
      simp only [optM, obnd_ok, oop_some]
      cases g ds <;> rfl
  | exc => rfl
  | bad => rfl
@[simp] theorem par2_a {i j : Nat} : par2 i j f f2 ρ = obnd (f ρ) fun a ρ1 => obnd (f2 ρ1) fun b ρ2 => .ok .nx ((ρ2.set i (some a)).set j (some b)) := by simp only [par2, bnd_a]; rfl
@[simp] theorem par3_a {i j l : Nat} : par3 i j l f f2 f3 ρ = obnd (f ρ) fun a ρ1 => obnd (f2 ρ1) fun b ρ2 => obnd (f3 ρ2) fun c ρ3 => .ok .nx (((ρ3.set i (some a)).set j (some b)).set l (some c)) := by simp only [par3, bnd_a]; rfl
def appO (ds : List Dt) (d : Dt) (ρ : Env) (i : Nat) : Out Fl := if ds.length < 16777216 then .ok .nx (ρ.set i (some (.list (ds ++ [d])))) else .bad
theorem appO_ok {ds : List Dt} {d : Dt} {i : Nat} (h : ds.length < 16777216) : appO ds d ρ i = .ok .nx (ρ.set i (some (.list (ds ++ [d])))) := if_pos h
@[simp] theorem app_a {i : Nat} : appM i f ρ = oge ρ i fun d0 => ods d0 fun _ => obnd (f ρ) fun d ρ1 => oge ρ1 i fun d1 => ods d1 fun ds => appO ds d ρ1 i := by
  simp only [appM, bnd_a, chkL, oge]
  cases ρ[i]? with
  | none => rfl
  | some o =>
    cases o with
    | none => rfl
    | some d =>
      cases d with
      | list ds =>
        simp only [obnd_ok, ods_l, bnd_a]
        cases f ρ with
        | exc => rfl
        | bad => rfl
        | ok d ρ1 =>
          simp only [obnd_ok]
          cases ρ1[i]? with
          | none => rfl
          | some o =>
            cases o with
            | none => rfl
            | some d => cases d <;> rfl
      | _ => rfl
@[simp] theorem stoIx_a {i : Nat} : stoIx i f f2 ρ = obnd (f ρ) fun d ρ1 => oge ρ1 i fun d0 => ods d0 fun _ => obnd (f2 ρ1) fun k ρ2 => oge ρ2 i fun d1 => ods d1 fun ds => oop (setIx ds k d) fun ds' => .ok .nx (ρ2.set i (some (.list ds'))) := by
  simp only [stoIx, bnd_a, chkL, oge]
  cases f ρ with
  | exc => rfl
  | bad => rfl
  | ok d ρ1 =>
    simp only [obnd_ok, bnd_a, chkL]
    cases ρ1[i]? with
    | none => rfl
    | some o =>
      cases o with
      | none => rfl
      | some d0 =>
        cases d0 with
        | list ds =>
          simp only [obnd_ok, ods_l, bnd_a]
          cases f2 ρ1 with
          | exc => rfl
          | bad => rfl
          | ok k ρ2 =>
            simp only [obnd_ok]
            cases ρ2[i]? with
            | none => rfl
            | some o =>
              cases o with
              | none => rfl
              | some d1 =>
                cases d1 with
                | list ds' =>
                  simp only [ods_l]
                  cases setIx ds' k d <;> rfl
                | _ => rfl
        | _ => rfl
@[simp] theorem seqI_a : seqI f ρ = obnd (f ρ) fun d ρ1 => oop (itemsOf d) fun ds => .ok ds ρ1 := by
  simp only [seqI, bnd_a]
  cases f ρ with
  | ok d ρ1 =>
    simp only [obnd_ok, optM]
    cases itemsOf d <;> rfl
  | exc => rfl
  | bad => rfl
@[simp] theorem rngI_a {g : List Dt → Option (List Dt)} : rngI g ms ρ = obnd (valsM ms ρ) fun ds ρ' => oop (g ds) fun xs => .ok xs ρ' := by
  simp only [rngI, bnd_a]
  cases valsM ms ρ with
  | ok x1 ρ1 =>
    simp only [obnd_ok, optM]
    cases g x1 <;> rfl
  | exc => rfl
  | bad => rfl
@[simp] theorem for_a {it : M (List Dt)} : forS it t b ρ = obnd (it ρ) fun ds ρ' => forM t b ds ρ' := by simp only [forS, bnd_a]
def ocb (b : Bool) (x y : Out Dt) : Out Dt := if b = true then x else y
@[simp] theorem ocb_t (x y : Out Dt) : ocb true x y = x := (rfl)
@[simp] theorem ocb_f (x y : Out Dt) : ocb false x y = y := (rfl)
@[simp] theorem chain_a {p q : Int → Int → Bool} : chainM p q f f2 f3 ρ = obnd (f ρ) fun x ρ1 => obnd (f2 ρ1) fun y ρ2 => oop (cmpI p x y) fun r => ocb r (obnd (f3 ρ2) fun z ρ3 => oop (cmpI q y z) fun r => .ok (.bool r) ρ3) (.ok (.bool false) ρ2) := by
  simp only [chainM, bnd_a]
  cases f ρ with
  | ok x ρ1 =>
    simp only [obnd_ok, bnd_a]
    cases f2 ρ1 with
    | ok y ρ2 =>
      simp only [obnd_ok]
      cases cmpI p x y with
      | none => rfl
      | some t =>
        cases t with
        | false => rfl
        | true =>
          simp only [bnd_a, oop_some, ocb_t]
          cases f3 ρ2 with
          | ok z ρ3 =>
            simp only [obnd_ok]
            cases cmpI q y z <;> rfl
          | exc => rfl
          | bad => rfl
    | exc => rfl
    | bad => rfl
  | exc => rfl
  | bad => rfl
@[simp] theorem cmpI_a (p : Int → Int → Bool) (i j : Int) : cmpI p (.int i) (.int j) = some (p i j) := (rfl)
theorem runF_a {n : Nat} {ds : List Dt} : runF b n ds = ofin (b (ds.map some ++ List.replicate (n - ds.length) none)) := by
  simp only [runF]
  cases b (ds.map some ++ List.replicate (n - ds.length) none) with
  | ok x ρ => cases x <;> rfl
  | exc => rfl
  | bad => rfl
theorem runG_a {n : Nat} {d0 : Dt} {ds : List Dt} : runG b n d0 ds = ofinG (b (some d0 :: (ds.map some ++ List.replicate (n - (ds.length + 1)) none))) := by
  simp only [runG]
  cases b (some d0 :: (ds.map some ++ List.replicate (n - (ds.length + 1)) none)) with
  | ok x ρ =>
    cases x <;> first | rfl | (cases ρ with
      | nil => rfl
      | cons o r => cases o <;> rfl)
  | exc => rfl
  | bad => rfl

/-! ### loops -/
/-- a loop that goes its turns to the end -/
theorem for_inv {t : TgF} (P : Nat → Env → Prop) : ∀ (ds : List Dt) (k : Nat) (ρ : Env), P k ρ → (∀ i d ρ, ds[i]? = some d → P (k + i) ρ → ∃ ρ1 ρ2, t d ρ = some ρ1 ∧ (b ρ1 = .ok .nx ρ2 ∨ b ρ1 = .ok .ct ρ2) ∧ P (k + i + 1) ρ2) → ∃ ρ', forM t b ds ρ = .ok .nx ρ' ∧ P (k + ds.length) ρ'
  | [], k, ρ, h, _ => ⟨ρ, rfl, h⟩
  | d :: ds, k, ρ, h, st => by
    obtain ⟨ρ1, ρ2, h1, h2, h3⟩ := st 0 d ρ rfl h
    obtain ⟨ρ', e, q⟩ := for_inv P ds (k + 1) ρ2 (by simpa using h3) fun i d' ρ hd hp => by
      have := st (i + 1) d' ρ (by simpa using hd) (by rw [Nat.add_assoc, Nat.add_comm 1 i] at hp; exact hp)
      obtain ⟨ρ3, ρ4, q1, q2, q3⟩ := this
      exact ⟨ρ3, ρ4, q1, q2, by rw [Nat.add_assoc k 1 i, Nat.add_comm 1 i]; exact q3⟩
    refine ⟨ρ', ?_, by rw [List.length_cons, Nat.add_comm ds.length 1, ← Nat.add_assoc]; exact q⟩
    rw [forM, bnd_a, sto_a, h1, oop_some, obnd_ok, bnd_a]
    rcases h2 with h2 | h2 <;> rw [h2, obnd_ok] <;> exact e
theorem while_inv (P : Nat → Env → Prop) (Q : Env → Prop) (N : Nat) (h : ∀ i ρ, P i ρ → i ≤ N ∧ ((∃ ρ1, c ρ = .ok false ρ1 ∧ Q ρ1) ∨ (∃ ρ1 ρ2, c ρ = .ok true ρ1 ∧ (b ρ1 = .ok .nx ρ2 ∨ b ρ1 = .ok .ct ρ2) ∧ P (i + 1) ρ2))) :
    ∀ (n i : Nat) (ρ : Env), N < n + i → P i ρ → ∃ ρ', whileM c b n ρ = .ok .nx ρ' ∧ Q ρ'
  | 0, i, ρ, hn, hp => by
    have := (h i ρ hp).1
    omega
  | n + 1, i, ρ, hn, hp => by
    rcases (h i ρ hp).2 with ⟨ρ1, e, q⟩ | ⟨ρ1, ρ2, e1, e2, q⟩
    · refine ⟨ρ1, ?_, q⟩
      rw [whileM, bnd_a, e, obnd_ok]
      rfl
    · obtain ⟨ρ', e, q'⟩ := while_inv P Q N h n (i + 1) ρ2 (by omega) q
      refine ⟨ρ', ?_, q'⟩
      rw [whileM, bnd_a, e1, obnd_ok]
      show bnd b _ ρ1 = _
      rw [bnd_a]
      rcases e2 with e2 | e2 <;> rw [e2, obnd_ok] <;> exact e
/-- a comprehension whose turns leave the rest of the frame as it is -/
theorem lcGo_eq {vs : List Nat} {t : TgF} {e : M Dt} {ρ : Env} (g : Dt → Option Dt) : ∀ {ds : List Dt}, (∀ d ∈ ds, ∃ ρ1, t d ρ = some ρ1 ∧ ((∃ ρ2, c ρ1 = .ok false ρ2 ∧ wipeE vs ρ2 = ρ ∧ g d = none) ∨ ∃ ρ2 x ρ3, c ρ1 = .ok true ρ2 ∧ e ρ2 = .ok x ρ3 ∧ wipeE vs ρ3 = ρ ∧ g d = some x)) → lcGo vs t c e ds ρ = some (ds.filterMap g, ρ)
  | [], _ => rfl
  | d :: ds, h => by
    have ih := lcGo_eq (ds := ds) (vs := vs) (t := t) (e := e) (ρ := ρ) g fun d' hd => h d' (List.mem_cons_of_mem _ hd)
    obtain ⟨ρ1, h1, h2⟩ := h d List.mem_cons_self
    rw [lcGo, h1]
    simp only
    rcases h2 with ⟨ρ2, c1, w1, g1⟩ | ⟨ρ2, x, ρ3, c1, e1, w1, g1⟩
    · rw [c1]
      simp only
      rw [w1, ih, List.filterMap_cons_none g1]
    · rw [c1]
      simp only
      rw [e1]
      simp only
      rw [w1, ih]
      simp only
      rw [List.filterMap_cons_some g1]
theorem lc_eq {vs : List Nat} {it : M (List Dt)} {t : TgF} {e : M Dt} {ρ ρ0 ρ1 ρ' : Env} {ds : List Dt} (g : Dt → Option Dt) (hi : it ρ0 = .ok ds ρ) (hn : ds.length ≤ 16777216) (hw : wipeE vs ρ = ρ1) (hb : backE vs ρ ρ1 = ρ')
    (h : ∀ d ∈ ds, ∃ ρ2, t d ρ1 = some ρ2 ∧ ((∃ ρ3, c ρ2 = .ok false ρ3 ∧ wipeE vs ρ3 = ρ1 ∧ g d = none) ∨ ∃ ρ3 x ρ4, c ρ2 = .ok true ρ3 ∧ e ρ3 = .ok x ρ4 ∧ wipeE vs ρ4 = ρ1 ∧ g d = some x)) : lcM vs it t c e ρ0 = .ok (.list (ds.filterMap g)) ρ' := by
  rw [lcM, bnd_a, hi, obnd_ok]
  rw [if_pos hn, hw, lcGo_eq g h]
  simp only
  rw [hb]
/-- .. without a condition -/
theorem lc_map {vs : List Nat} {it : M (List Dt)} {t : TgF} {e : M Dt} {ρ ρ0 ρ1 ρ' : Env} {ds : List Dt} (g : Dt → Dt) (hi : it ρ0 = .ok ds ρ) (hn : ds.length ≤ 16777216) (hw : wipeE vs ρ = ρ1) (hb : backE vs ρ ρ1 = ρ')
    (h : ∀ d ∈ ds, ∃ ρ2 ρ3, t d ρ1 = some ρ2 ∧ e ρ2 = .ok (g d) ρ3 ∧ wipeE vs ρ3 = ρ1) : lcM vs it t (rt true) e ρ0 = .ok (.list (ds.map g)) ρ' := by
  rw [lc_eq (c := rt true) (fun d => some (g d)) hi hn hw hb fun d hd => ?_]
  · rw [List.filterMap_eq_map']
  · obtain ⟨ρ2, ρ3, h1, h2, h3⟩ := h d hd
    exact ⟨ρ2, h1, .inr ⟨ρ2, _, ρ3, rfl, h2, h3, rfl⟩⟩
end
end Vs

/-! part VsQ -/
set_option Elab.async false
set_option linter.all false
set_option maxRecDepth 100000
set_option maxHeartbeats 4000000
/-! What the operations compute, for simp. -/
namespace Vs
open PySem PySem.Spec PyProof.Rows L2 PySem.W
@[simp] theorem addI_i (i j : Int) : addI (.int i) (.int j) = some (.int (i + j)) := (rfl)
@[simp] theorem subI_i (i j : Int) : subI (.int i) (.int j) = some (.int (i - j)) := (rfl)
theorem mulI_i (i j : Int) (h : i.natAbs < 18446744073709551616 ∨ j.natAbs < 18446744073709551616 ∨ i.natAbs.log2 + j.natAbs.log2 < 1000000) : mulI (.int i) (.int j) = some (.int (i * j)) := by
  unfold mulI intC
  simp only
  rw [if_pos]
  simp only [Bool.or_eq_true, decide_eq_true_eq]
  omega
theorem fdivI_i (i j : Int) (h0 : j ≠ 0) (h : j.natAbs.log2 < 9000) : fdivI (.int i) (.int j) = some (.int (i.fdiv j)) := by
  unfold fdivI intC
  simp only
  rw [if_pos]
  simp only [Bool.and_eq_true, decide_eq_true_eq, bne_iff_ne]
  exact ⟨h0, h⟩
theorem modI_i (i j : Int) (h0 : j ≠ 0) : modI (.int i) (.int j) = some (.int (i.fmod j)) := by
  unfold modI intC
  simp only
  rw [if_pos]
  simp only [bne_iff_ne]
  exact h0
@[simp] theorem ltD_i (i j : Int) : ltD (.int i) (.int j) = some (.bool (decide (i < j))) := (rfl)
@[simp] theorem leD_i (i j : Int) : leD (.int i) (.int j) = some (.bool (decide (i ≤ j))) := (rfl)
@[simp] theorem gtD_i (i j : Int) : gtD (.int i) (.int j) = some (.bool (decide (j < i))) := (rfl)
@[simp] theorem geD_i (i j : Int) : geD (.int i) (.int j) = some (.bool (decide (j ≤ i))) := (rfl)
theorem eqD_p (d e : Dt) (h1 : d.plain = true) (h2 : e.plain = true) (h3 : min d.depth e.depth ≤ 60) : eqD d e = some (.bool (PyData.eqv d e)) := by
  rw [eqD_def, if_pos]
  simp only [h1, h2, Bool.and_self, Bool.true_and, decide_eq_true_eq]
  exact h3
theorem neD_p (d e : Dt) (h1 : d.plain = true) (h2 : e.plain = true) (h3 : min d.depth e.depth ≤ 60) : neD d e = some (.bool (!PyData.eqv d e)) := by
  rw [neD_def, if_pos]
  simp only [h1, h2, Bool.and_self, Bool.true_and, decide_eq_true_eq]
  exact h3
@[simp] theorem eqD_i (i j : Int) : eqD (.int i) (.int j) = some (.bool (decide (i = j))) := by
  rw [eqD_p _ _ rfl rfl (by simp [PyData.depth])]
  simp only [PyData.eqv]
  rfl
@[simp] theorem neD_i (i j : Int) : neD (.int i) (.int j) = some (.bool (!decide (i = j))) := by
  rw [neD_p _ _ rfl rfl (by simp [PyData.depth])]
  simp only [PyData.eqv]
  rfl
@[simp] theorem lenD_l (ds : List Dt) : lenD (.list ds) = some (.int ds.length) := (rfl)
@[simp] theorem lenD_t (ds : List Dt) : lenD (.tuple ds) = some (.int ds.length) := (rfl)
@[simp] theorem sumD_l (ns : List Int) : sumD (.list (ns.map .int)) = some (.int ns.sum) := by simp [sumD, itemsOf]
@[simp] theorem sumD_t (ns : List Int) : sumD (.tuple (ns.map .int)) = some (.int ns.sum) := by simp [sumD, itemsOf]
@[simp] theorem isN_a (d : Dt) : isN d .none = some (.bool (nonB d)) := by cases d <;> rfl
@[simp] theorem isNotN_a (d : Dt) : isNotN d .none = some (.bool (!nonB d)) := by cases d <;> rfl
@[simp] theorem on1_a (g : Dt → Option Dt) (d : Dt) : on1 g [d] = g d := (rfl)
@[simp] theorem on2_a (g : Dt → Dt → Option Dt) (d e : Dt) : on2 g [d, e] = g d e := (rfl)
@[simp] theorem fill_nil {ρ : Env} : fillE ρ [] = some [] := (rfl)
@[simp] theorem fill_inl {ρ : Env} {d : Dt} {r : List (Dt ⊕ Nat)} : fillE ρ (.inl d :: r) = (fillE ρ r).map fun ds => d :: ds := by
  simp only [fillE]
  cases fillE ρ r <;> rfl
@[simp] theorem fill_inr {ρ : Env} {i : Nat} {r : List (Dt ⊕ Nat)} : fillE ρ (.inr i :: r) = ogo ρ i fun d => (fillE ρ r).map fun ds => d :: ds := by
  simp only [fillE, ogo]
  cases ρ[i]? with
  | none => rfl
  | some o =>
    cases o with
    | none => rfl
    | some d =>
      simp only
      cases fillE ρ r <;> rfl
theorem isaD_a (p : Dt → Bool) (d : Dt) (h : ∀ k, d ≠ .dict k) : isaD p d = some (.bool (p d)) := by
  unfold isaD
  split
  · exact (h _ rfl).elim
  · rfl
@[simp] theorem isaD_int (p : Dt → Bool) (i : Int) : isaD p (.int i) = some (.bool (p (.int i))) := (rfl)
@[simp] theorem isaD_bool (p : Dt → Bool) (i : Bool) : isaD p (.bool i) = some (.bool (p (.bool i))) := (rfl)
@[simp] theorem isaD_str (p : Dt → Bool) (i : Str) : isaD p (.str i) = some (.bool (p (.str i))) := (rfl)
@[simp] theorem isaD_none (p : Dt → Bool) : isaD p .none = some (.bool (p .none)) := (rfl)
@[simp] theorem isaD_tuple (p : Dt → Bool) (ds : List Dt) : isaD p (.tuple ds) = some (.bool (p (.tuple ds))) := (rfl)
@[simp] theorem isaD_list (p : Dt → Bool) (ds : List Dt) : isaD p (.list ds) = some (.bool (p (.list ds))) := (rfl)
theorem plain_nd {d : Dt} (h : d.plain = true) : ∀ k, d ≠ .dict k := fun k e => by rw [e] at h; simp [PyData.plain] at h
theorem plain_mem : ∀ {ds : List Dt}, PyData.plainAll ds = true → ∀ d ∈ ds, d.plain = true
  | d :: ds, h, x, hx => by
    simp only [PyData.plainAll, Bool.and_eq_true] at h
    rcases List.mem_cons.mp hx with z | z
    · rw [z]; exact h.1
    · exact plain_mem h.2 x z
theorem plain_of : ∀ {ds : List Dt}, (∀ d ∈ ds, d.plain = true) → PyData.plainAll ds = true
  | [], _ => rfl
  | d :: ds, h => by
    simp only [PyData.plainAll, Bool.and_eq_true]
    exact ⟨h d List.mem_cons_self, plain_of fun x hx => h x (List.mem_cons_of_mem _ hx)⟩
@[simp] theorem plain_ints (ns : List Int) : PyData.plainAll (ns.map .int) = true := plain_of fun d hd => by
  obtain ⟨i, _, e⟩ := List.mem_map.mp hd
  subst e
  rfl
@[simp] theorem depth_intsA (ns : List Int) : PyData.depthAll (ns.map .int) = 0 := PySem.W.depth_ints ns
@[simp] theorem allD_l (bs : List Bool) : allD (.list (bs.map .bool)) = some (.bool (bs.all id)) := by
  simp [allD, itemsOf]
@[simp] theorem items_l (ds : List Dt) : itemsOf (.list ds) = some ds := (rfl)
@[simp] theorem items_t (ds : List Dt) : itemsOf (.tuple ds) = some ds := (rfl)
theorem rng1_a (j : Int) (h : -4611686018427387904 ≤ j ∧ j < 4611686018427387904) : rng1 [.int j] = some (intsR 0 j) := if_pos h
theorem rng2_a (i j : Int) (h : (-4611686018427387904 ≤ i ∧ i < 4611686018427387904) ∧ (-4611686018427387904 ≤ j ∧ j < 4611686018427387904)) : rng2 [.int i, .int j] = some (intsR i j) := if_pos h
@[simp] theorem absD_i (i : Int) : absD (.int i) = some (.int i.natAbs) := by
  simp only [absD]
  congr 2
  split <;> omega
@[simp] theorem intD_i (i : Int) : intD (.int i) = some (.int i) := (rfl)
@[simp] theorem max2_i (i j : Int) : max2D (.int i) (.int j) = some (.int (max i j)) := by
  simp only [max2D]
  congr 2
  omega
@[simp] theorem min2_i (i j : Int) : min2D (.int i) (.int j) = some (.int (min i j)) := by
  simp only [min2D]
  congr 2
  omega
theorem fdivI_s (i j : Int) (h0 : 0 < j) (h : j < 1000000000000000000000000) : fdivI (.int i) (.int j) = some (.int (i / j)) := by
  rw [fdivI_i _ _ (by omega), Int.fdiv_eq_ediv_of_nonneg _ (by omega)]
  have h1 : j.natAbs ≠ 0 := by omega
  have h2 : j.natAbs.log2 < 80 := (Nat.log2_lt h1).mpr (by
    have : (2 : Nat) ^ 80 = 1208925819614629174706176 := by decide +kernel
    omega)
  omega
theorem modI_s (i j : Int) (h0 : 0 < j) : modI (.int i) (.int j) = some (.int (i % j)) := by
  rw [modI_i _ _ (by omega), Int.fmod_eq_emod_of_nonneg _ (by omega)]
theorem mulI_l (i j : Int) (h : i.natAbs < 18446744073709551616) : mulI (.int i) (.int j) = some (.int (i * j)) := mulI_i i j (.inl h)
theorem mulI_r (i j : Int) (h : j.natAbs < 18446744073709551616) : mulI (.int i) (.int j) = some (.int (i * j)) := mulI_i i j (.inr (.inl h))
theorem ixD_at (ds : List Dt) (i : Int) (h0 : 0 ≤ i) (d : Dt) (h : ds[i.toNat]? = some d) : ixD (.list ds) (.int i) = some d := by
  have hl := (List.getElem?_eq_some_iff.mp h).1
  simp only [ixD, atI, ixN]
  rw [if_pos h0, if_pos (by omega)]
  exact h
theorem ixD_tat (ds : List Dt) (i : Int) (h0 : 0 ≤ i) (d : Dt) (h : ds[i.toNat]? = some d) : ixD (.tuple ds) (.int i) = some d := by
  have hl := (List.getElem?_eq_some_iff.mp h).1
  simp only [ixD, atI, ixN]
  rw [if_pos h0, if_pos (by omega)]
  exact h
@[simp] theorem ixD_0 (a : Dt) (r : List Dt) : ixD (.list (a :: r)) (.int 0) = some a := ixD_at _ 0 (by omega) a rfl
@[simp] theorem ixD_1 (a b : Dt) (r : List Dt) : ixD (.list (a :: b :: r)) (.int 1) = some b := ixD_at _ 1 (by omega) b rfl
@[simp] theorem ixD_t0 (a : Dt) (r : List Dt) : ixD (.tuple (a :: r)) (.int 0) = some a := ixD_tat _ 0 (by omega) a rfl
@[simp] theorem ixD_t1 (a b : Dt) (r : List Dt) : ixD (.tuple (a :: b :: r)) (.int 1) = some b := ixD_tat _ 1 (by omega) b rfl
theorem setIx_at (ds : List Dt) (i : Int) (d : Dt) (h0 : 0 ≤ i) (h : i < ds.length) : setIx ds (.int i) d = some (ds.set i.toNat d) := by
  simp only [setIx, ixN]
  rw [if_pos h0, if_pos h]
@[simp] theorem setIx_0 (a d : Dt) (r : List Dt) : setIx (a :: r) (.int 0) d = some (d :: r) := setIx_at _ 0 d (by omega) (by simp <;> omega)
@[simp] theorem setIx_1 (a b d : Dt) (r : List Dt) : setIx (a :: b :: r) (.int 1) d = some (a :: d :: r) := setIx_at _ 1 d (by omega) (by simp <;> omega)
theorem catL_a (xs ys : List Dt) (h : xs.length + ys.length ≤ 16777216) : catL (.list xs) (.list ys) = some (.list (xs ++ ys)) := if_pos h
theorem catT_a (xs ys : List Dt) (h : xs.length + ys.length ≤ 16777216) : catT (.tuple xs) (.tuple ys) = some (.tuple (xs ++ ys)) := if_pos h
theorem plusD_t (xs ys : List Dt) (h : xs.length + ys.length ≤ 16777216) : plusD (.tuple xs) (.tuple ys) = some (.tuple (xs ++ ys)) := by
  show (match addI (.tuple xs) (.tuple ys) with
    | some z => some z
    | none => catT (.tuple xs) (.tuple ys)) = _
  exact catT_a xs ys h
theorem plusD_i (i j : Int) : plusD (.int i) (.int j) = some (.int (i + j)) := (rfl)
@[simp] theorem listD_l (ds : List Dt) : listD (.list ds) = some (.list ds) := (rfl)
@[simp] theorem listD_t (ds : List Dt) : listD (.tuple ds) = some (.list ds) := (rfl)
@[simp] theorem tupleD_l (ds : List Dt) : tupleD (.list ds) = some (.tuple ds) := (rfl)
@[simp] theorem tupleD_t (ds : List Dt) : tupleD (.tuple ds) = some (.tuple ds) := (rfl)
theorem powI_a (i j : Int) (h0 : 0 ≤ j) (h1 : j ≤ 1000000) (h : i.natAbs < 18446744073709551616) : powI (.int i) (.int j) = some (.int (i ^ j.toNat)) := by
  unfold powI intC
  simp only
  rw [if_pos]
  simp only [Bool.and_eq_true, decide_eq_true_eq]
  exact ⟨⟨h0, h1⟩, h⟩
theorem cut_take {α : Type} (xs : List α) (i : Int) (h : 0 ≤ i) : cutA xs none (some i) = xs.take i.toNat := by
  unfold cutA
  simp only [HT.sIx_none, HT.sIx, List.drop_zero, Nat.sub_zero]
  rw [if_neg (by omega)]
  by_cases hl : i.toNat ≤ xs.length
  · rw [Nat.min_eq_left hl]
  · rw [Nat.min_eq_right (by omega), List.take_of_length_le (by omega), List.take_of_length_le (by omega)]
theorem cut_drop {α : Type} (xs : List α) (i : Int) (h : 0 ≤ i) : cutA xs (some i) none = xs.drop i.toNat := by
  unfold cutA
  simp only [HT.sIx_none, HT.sIx]
  rw [if_neg (by omega)]
  by_cases hl : i.toNat ≤ xs.length
  · rw [Nat.min_eq_left hl, List.take_of_length_le (by rw [List.length_drop]; omega)]
  · rw [Nat.min_eq_right (by omega), List.drop_eq_nil_of_le (by omega), List.drop_eq_nil_of_le (by omega), List.take_nil]
theorem slB_t (ds : List Dt) (i : Int) (h : 0 ≤ i) : slB1 sliceT [.tuple ds, .int i] = some (.tuple (ds.take i.toNat)) := by rw [← cut_take ds i h]; rfl
theorem slA_t (ds : List Dt) (i : Int) (h : 0 ≤ i) : slA1 sliceT [.tuple ds, .int i] = some (.tuple (ds.drop i.toNat)) := by rw [← cut_drop ds i h]; rfl
theorem slB_l (ds : List Dt) (i : Int) (h : 0 ≤ i) : slB1 sliceL [.list ds, .int i] = some (.list (ds.take i.toNat)) := by rw [← cut_take ds i h]; rfl
theorem slA_l (ds : List Dt) (i : Int) (h : 0 ≤ i) : slA1 sliceL [.list ds, .int i] = some (.list (ds.drop i.toNat)) := by rw [← cut_drop ds i h]; rfl
@[simp] theorem revT_t (ds : List Dt) : revT (.tuple ds) = some (.tuple ds.reverse) := (rfl)
@[simp] theorem revD_l (ds : List Dt) : revD (.list ds) = some (.list ds.reverse) := (rfl)
theorem eqv_nil_l (ds : List Dt) : PyData.eqv (.list ds) (.list []) = ds.isEmpty := by cases ds <;> rfl
theorem eqv_nil_t (ds : List Dt) : PyData.eqv (.tuple ds) (.tuple []) = ds.isEmpty := by cases ds <;> rfl
theorem eqD_nil_l (ds : List Dt) (h : PyData.plainAll ds = true) : eqD (.list ds) (.list []) = some (.bool ds.isEmpty) := by
  rw [eqD_p _ _ (by simpa [PyData.plain] using h) rfl (by simp [PyData.depth, PyData.depthAll] <;> omega), eqv_nil_l]
theorem neD_nil_l (ds : List Dt) (h : PyData.plainAll ds = true) : neD (.list ds) (.list []) = some (.bool (!ds.isEmpty)) := by
  rw [neD_p _ _ (by simpa [PyData.plain] using h) rfl (by simp [PyData.depth, PyData.depthAll] <;> omega), eqv_nil_l]
theorem eqD_nil_t (ds : List Dt) (h : PyData.plainAll ds = true) : eqD (.tuple ds) (.tuple []) = some (.bool ds.isEmpty) := by
  rw [eqD_p _ _ (by simpa [PyData.plain] using h) rfl (by simp [PyData.depth, PyData.depthAll] <;> omega), eqv_nil_t]
theorem inD_ints_t (i : Int) (ns : List Int) : inD (.int i) (.tuple (ns.map .int)) = some (.bool (decide (i ∈ ns))) := by
  simp only [inD, inC]
  rw [if_pos (by simp [PyData.plain, PyData.depth])]
  congr 2
  rw [List.any_map]
  rw [Bool.eq_iff_iff]
  simp only [List.any_eq_true, Function.comp, PyData.eqv, beq_iff_eq, decide_eq_true_eq]
  constructor
  · rintro ⟨x, h, e⟩
    rw [← e]
    exact h
  · intro h
    exact ⟨i, h, rfl⟩
end Vs

/-! part VsR -/
set_option Elab.async false
set_option linter.all false
set_option maxRecDepth 100000
set_option maxHeartbeats 4000000
/-! What all laws share: the cup, rolls, sorts, likeness. -/
namespace Vs
open PySem PySem.Spec L2 PySem.W
def bL_cup : M Fl :=
 (seqM (asgM (opM [.val (opM [.val (opM [.val (opM [.var 0] (on1 listD)) (.O .F), .val (listM [(rt (.int 0))]) (.O .F)] (on2 catL)) (.O .F), .val (rt (.int 0)) (.F)] (on2 ixD)) (.F)] (on1 absD)) (setT 1))
 (retM (listM [(ifV (blM (opM [.var 1, .val (opM [.val (rt (.int 10)) (.F), .val (rt (.int 18)) (.F)] (on2 powI)) (.F)] (on2 geD))) (opM [.var 1, .val (rt (.int 73)) (.F)] (on2 fdivI)) (rt (.int 0))), (opM [.val (opM [.val (opM [.val (opM [.val (opM [.var 1, .val (rt (.int 283)) (.F)] (on2 mulI)) (.F), .val (rt (.int 3907)) (.F)] (on2 addI)) (.F)] (on1 intD)) (.F), .val (rt (.int 2077503167)) (.F)] (on2 modI)) (.F), .val (rt (.int 167)) (.F)] (on2 addI))])))
def FL_cup : List Dt → FO Dt := runF bL_cup 2
def bL_roll : M Fl :=
 (seqM (iteM (blM (opM [.val (opM [.var 0, .val (rt (.int 0)) (.F)] (on2 ixD)) (.F), .val (rt (.int 0)) (.F)] (on2 gtD)))
 (seqM (asgM (opM [.val (opM [.val (opM [.var 0, .val (rt (.int 0)) (.F)] (on2 ixD)) (.F)] (on1 intD)) (.F), .var 1] (on2 modI)) (setT 2))
 (seqM (stoIx 0 (opM [.val (opM [.var 0, .val (rt (.int 0)) (.F)] (on2 ixD)) (.F), .var 1] (on2 fdivI)) (rt (.int 0)))
 (retM (getM 2))))
 nopM)
 (seqM (stoIx 0 (opM [.val (opM [.val (opM [.val (opM [.val (opM [.var 0, .val (rt (.int 1)) (.F)] (on2 ixD)) (.F), .val (rt (.int 31051)) (.F)] (on2 mulI)) (.F), .val (rt (.int 7993)) (.F)] (on2 addI)) (.F)] (on1 intD)) (.F), .val (rt (.int 2147483543)) (.F)] (on2 modI)) (rt (.int 1)))
 (seqM (asgM (opM [.val (opM [.val (opM [.val (opM [.var 0, .val (rt (.int 1)) (.F)] (on2 ixD)) (.F), .val (opM [.val (opM [.var 0, .val (rt (.int 1)) (.F)] (on2 ixD)) (.F), .val (rt (.int 229)) (.F)] (on2 addI)) (.F)] (on2 mulI)) (.F)] (on1 intD)) (.F), .val (rt (.int 2147483587)) (.F)] (on2 modI)) (setT 3))
 (retM (opM [.val (opM [.val (opM [.var 3, .val (rt (.int 821)) (.F)] (on2 fdivI)) (.F)] (on1 intD)) (.F), .var 1] (on2 modI))))))
def FL_roll : Dt → List Dt → FO (Dt × Dt) := runG bL_roll 4
def bL_some : M Fl :=
 (retM (opM [.var 1, .val (callG FL_roll 0 [(opM [.var 1] (on1 lenD))]) (.F)] (on2 ixD)))
def FL_some : Dt → List Dt → FO (Dt × Dt) := runG bL_some 2
def bL_sort : M Fl :=
 (seqM (iteM (orM (blM (opM [.var 0, .val (rt .none) (.F)] (on2 isN))) (blM (opM [.var 0] (on1 (isaD fun d => d.isBool)))))
 (retM (ifV (blM (opM [.var 0, .val (rt .none) (.F)] (on2 isN))) (rt (.int 0)) (rt (.int 1))))
 nopM)
 (seqM (iteM (orM (blM (opM [.var 0] (on1 (isaD fun d => d.isInt)))) (blM (opM [.var 0] (on1 (isaD fun d => d.isStr)))))
 (retM (ifV (blM (opM [.var 0] (on1 (isaD fun d => d.isInt)))) (rt (.int 2)) (rt (.int 3))))
 nopM)
 (retM (ifV (blM (opM [.var 0] (on1 (isaD fun d => d.isTuple)))) (rt (.int 4)) (ifV (blM (opM [.var 0] (on1 (isaD fun d => d.isList)))) (rt (.int 5)) (rt (.int 6)))))))
def FL_sort : List Dt → FO Dt := runF bL_sort 1
def bL_like (F : List Dt → FO Dt) : M Fl :=
 (seqM (asgM (callM FL_sort [(getM 1)]) (setT 2))
 (seqM (iteM (orM (blM (opM [.val (callM FL_sort [(getM 0)]) (.F), .var 2] (on2 neD))) (blM (opM [.var 2, .val (rt (.int 6)) (.F)] (on2 eqD))))
 (retM (rt (.bool false)))
 nopM)
 (seqM (iteM (blM (opM [.var 2, .val (tupleM [(rt (.int 4)), (rt (.int 5))]) (.F)] (on2 inD)))
 (retM (andV (opM [.val (opM [.var 0] (on1 lenD)) (.F), .val (opM [.var 1] (on1 lenD)) (.F)] (on2 eqD)) (opM [.val (lcM [3, 4] (rngI zip2 [(getM 0), (getM 1)]) (tupT [(setT 3), (setT 4)]) (notM (blM (callM F [(getM 3), (getM 4)]))) (rt (.int 1))) (.O .F), .val (listM []) (.O .F)] (on2 eqD))))
 nopM)
 (retM (opM [.var 0, .var 1] (on2 eqD))))))
def FL_like : Nat → List Dt → FO Dt
  | 0 => runF badS 5
  | n + 1 => runF (bL_like (FL_like n)) 5
def Cup (d : Dt) : Prop := ∃ a b : Int, d = .list [.int a, .int b]
theorem e_cup (ns : List Int) (h : ns.length ≤ 100) : ∃ d, FL_cup [.list (ns.map .int)] = .ok d ∧ Cup d := by
  have hc : catL (.list (ns.map .int)) (.list [.int 0]) = some (.list (ns.map .int ++ [.int 0])) := catL_a _ _ (by simp; omega)
  obtain ⟨c, hx⟩ : ∃ c : Int, ixD (.list (ns.map PyData.int ++ [.int 0])) (.int 0) = some (.int c) := by
    cases ns with
    | nil => exact ⟨0, by simp⟩
    | cons n r => exact ⟨n, by simp⟩
  have hp : powI (.int 10) (.int 18) = some (.int 1000000000000000000) := powI_a 10 18 (by omega) (by omega) (by omega)
  by_cases h2 : (1000000000000000000 : Int) ≤ (c.natAbs : Int)
  · refine ⟨_, ?_, (c.natAbs : Int) / 73, ((c.natAbs : Int) * 283 + 3907) % 2077503167 + 167, rfl⟩
    simp [FL_cup, runF_a, bL_cup, hc, hx, hp, h2, fdivI_s, mulI_r, modI_s]
  · refine ⟨_, ?_, 0, ((c.natAbs : Int) * 283 + 3907) % 2077503167 + 167, rfl⟩
    simp [FL_cup, runF_a, bL_cup, hc, hx, hp, h2, fdivI_s, mulI_r, modI_s]
theorem e_roll {d : Dt} (hd : Cup d) (many : Int) (h0 : 0 < many) (h : many < 1000000000000000000000000) : ∃ r d', FL_roll d [.int many] = .ok (.int r, d') ∧ Cup d' ∧ 0 ≤ r ∧ r < many := by
  obtain ⟨a, b, e⟩ := hd
  subst e
  by_cases ha : 0 < a
  · refine ⟨a % many, .list [.int (a / many), .int b], ?_, ⟨_, _, rfl⟩, Int.emod_nonneg _ (by omega), Int.emod_lt_of_pos _ h0⟩
    simp [FL_roll, runG_a, bL_roll, ha, fdivI_s, modI_s, h0, h]
  · refine ⟨((((b * 31051 + 7993) % 2147483543) * (((b * 31051 + 7993) % 2147483543) + 229)) % 2147483587 / 821) % many, .list [.int a, .int ((b * 31051 + 7993) % 2147483543)], ?_, ⟨_, _, rfl⟩, Int.emod_nonneg _ (by omega : many ≠ 0), Int.emod_lt_of_pos _ h0⟩
    have hm : mulI (.int ((b * 31051 + 7993) % 2147483543)) (.int ((b * 31051 + 7993) % 2147483543 + 229)) = some (.int (((b * 31051 + 7993) % 2147483543) * ((b * 31051 + 7993) % 2147483543 + 229))) := mulI_l _ _ (by omega)
    simp [FL_roll, runG_a, bL_roll, ha, fdivI_s, modI_s, h0, h, mulI_r, hm]
theorem e_some {d : Dt} (hd : Cup d) (ds : List Dt) (h0 : ds ≠ []) (h : ds.length < 1000000000) : ∃ x d', FL_some d [.list ds] = .ok (x, d') ∧ Cup d' ∧ x ∈ ds := by
  have hl : 0 < ds.length := List.length_pos_iff.mpr h0
  obtain ⟨r, d', e, c, r0, r1⟩ := e_roll hd (ds.length : Int) (by omega) (by omega)
  have hr : r.toNat < ds.length := by omega
  refine ⟨ds[r.toNat], d', ?_, c, List.getElem_mem hr⟩
  have hx := ixD_at ds r r0 _ (List.getElem?_eq_getElem hr)
  simp [FL_some, runG_a, bL_some, e, hx]
theorem e_some_t {d : Dt} (hd : Cup d) (ds : List Dt) (h0 : ds ≠ []) (h : ds.length < 1000000000) : ∃ x d', FL_some d [.tuple ds] = .ok (x, d') ∧ Cup d' ∧ x ∈ ds := by
  have hl : 0 < ds.length := List.length_pos_iff.mpr h0
  obtain ⟨r, d', e, c, r0, r1⟩ := e_roll hd (ds.length : Int) (by omega) (by omega)
  have hr : r.toNat < ds.length := by omega
  refine ⟨ds[r.toNat], d', ?_, c, List.getElem_mem hr⟩
  have hx := ixD_tat ds r r0 _ (List.getElem?_eq_getElem hr)
  simp [FL_some, runG_a, bL_some, e, hx]
def sortN : Dt → Int
  | .none => 0
  | .bool _ => 1
  | .int _ => 2
  | .str _ => 3
  | .tuple _ => 4
  | .list _ => 5
  | .dict _ => 6
theorem e_sort (d : Dt) (h : ∀ k, d ≠ .dict k) : FL_sort [d] = .ok (.int (sortN d)) := by
  cases d with
  | dict k => exact (h k rfl).elim
  | _ => simp [FL_sort, runF_a, bL_sort, sortN, nonB, PyData.isBool, PyData.isInt, PyData.isStr, PyData.isTuple, PyData.isList]
mutual
/-- no dict, no list or tuple of more than a million items -/
def smallD : Dt → Bool
  | .list xs => decide (xs.length ≤ 1000000) && smallA xs
  | .tuple xs => decide (xs.length ≤ 1000000) && smallA xs
  | .dict _ => false
  | _ => true
def smallA : List Dt → Bool
  | [] => true
  | x :: xs => smallD x && smallA xs
end
theorem small_mem : ∀ {ds : List Dt}, smallA ds = true → ∀ d ∈ ds, smallD d = true
  | d :: ds, h, x, hx => by
    simp only [smallA, Bool.and_eq_true] at h
    rcases List.mem_cons.mp hx with z | z
    · rw [z]; exact h.1
    · exact small_mem h.2 x z
theorem small_of : ∀ {ds : List Dt}, (∀ d ∈ ds, smallD d = true) → smallA ds = true
  | [], _ => rfl
  | d :: ds, h => by
    simp only [smallA, Bool.and_eq_true]
    exact ⟨h d List.mem_cons_self, small_of fun x hx => h x (List.mem_cons_of_mem _ hx)⟩
theorem small_nd {d : Dt} (h : smallD d = true) : ∀ k, d ≠ .dict k := fun k e => by rw [e] at h; simp [smallD] at h
@[simp] theorem small_ints (ns : List Int) : smallA (ns.map .int) = true := small_of fun d hd => by
  obtain ⟨i, _, e⟩ := List.mem_map.mp hd
  subst e
  rfl
theorem small_int (i : Int) : smallD (.int i) = true := rfl
theorem depth_mm {ds : List Dt} {d : Dt} (h : d ∈ ds) : d.depth ≤ PyData.depthAll ds := Vs.depth_mem h
theorem depth_le {ds : List Dt} {k : Nat} : (∀ d ∈ ds, d.depth ≤ k) → PyData.depthAll ds ≤ k := by
  induction ds with
  | nil => intro _; simp [PyData.depthAll]
  | cons x r ih =>
    intro h
    simp only [PyData.depthAll]
    have h1 := h x List.mem_cons_self
    have h2 := ih fun d hd => h d (List.mem_cons_of_mem _ hd)
    omega
theorem depth_i (i : Int) : (PyData.int i).depth = 0 := by simp [PyData.depth]
theorem depth_t (ds : List Dt) : (PyData.tuple ds).depth = PyData.depthAll ds + 1 := by simp [PyData.depth]
theorem depth_l (ds : List Dt) : (PyData.list ds).depth = PyData.depthAll ds + 1 := by simp [PyData.depth]
theorem like_scalar (n : Nat) (d : Dt) (nd : ∀ k, d ≠ .dict k) (h1 : sortN d ≠ 4) (h2 : sortN d ≠ 5) (h3 : sortN d ≠ 6) (he : eqD d d = some (.bool true)) : FL_like (n + 1) [d, d] = .ok (.bool true) := by
  have e1 := e_sort d nd
  have hin : inD (.int (sortN d)) (.tuple [.int 4, .int 5]) = some (.bool false) := by
    have := inD_ints_t (sortN d) [4, 5]
    simp only [List.map_cons, List.map_nil] at this
    rw [this]
    simp [h1, h2]
  simp [FL_like, runF_a, bL_like, e1, hin, h3, he]
/-- a datum is like itself -/
theorem e_like : ∀ (n : Nat) (d : Dt), smallD d = true → d.depth < n → FL_like n [d, d] = .ok (.bool true)
  | 0, d, _, h => by omega
  | n + 1, d, hs, hd => by
    have nd := small_nd hs
    have e1 := e_sort d nd
    cases d with
    | dict k => exact (nd k rfl).elim
    | none => exact like_scalar n _ nd (by simp [sortN]) (by simp [sortN]) (by simp [sortN]) (by rw [eqD_p _ _ rfl rfl (by simp [PyData.depth])]; rfl)
    | bool b => exact like_scalar n _ nd (by simp [sortN]) (by simp [sortN]) (by simp [sortN]) (by rw [eqD_p _ _ rfl rfl (by simp [PyData.depth])]; simp [PyData.eqv])
    | int b => exact like_scalar n _ nd (by simp [sortN]) (by simp [sortN]) (by simp [sortN]) (by rw [eqD_p _ _ rfl rfl (by simp [PyData.depth])]; simp [PyData.eqv])
    | str b => exact like_scalar n _ nd (by simp [sortN]) (by simp [sortN]) (by simp [sortN]) (by rw [eqD_p _ _ rfl rfl (by simp [PyData.depth])]; simp [PyData.eqv])
    | tuple ds =>
      simp only [smallD, Bool.and_eq_true, decide_eq_true_eq] at hs
      rw [depth_t] at hd
      have hz : zip2 [.tuple ds, .tuple ds] = some (zipD ds ds) := rfl
      have lc : lcM [3, 4] (rngI zip2 [(getM 0), (getM 1)]) (tupT [(setT 3), (setT 4)]) (notM (blM (callM (FL_like n) [(getM 3), (getM 4)]))) (rt (.int 1)) [some (.tuple ds), some (.tuple ds), some (.int 4), none, none] = .ok (.list []) [some (.tuple ds), some (.tuple ds), some (.int 4), none, none] := by
        have q := lc_eq (vs := [3, 4]) (it := rngI zip2 [(getM 0), (getM 1)]) (t := tupT [(setT 3), (setT 4)]) (c := notM (blM (callM (FL_like n) [(getM 3), (getM 4)]))) (e := rt (.int 1)) (ρ0 := [some (.tuple ds), some (.tuple ds), some (.int 4), none, none]) (ρ := [some (.tuple ds), some (.tuple ds), some (.int 4), none, none]) (ρ1 := [some (.tuple ds), some (.tuple ds), some (.int 4), none, none]) (ρ' := [some (.tuple ds), some (.tuple ds), some (.int 4), none, none]) (ds := zipD ds ds) (fun _ => none) (by simp [hz]) (by simp [zipD]; omega) (by simp [wipeE]) (by simp [backE, wipeE]) fun d hd' => by
          obtain ⟨i, hi⟩ := List.mem_iff_getElem?.mp hd'
          obtain ⟨x, y, h1, h2, e⟩ := zipD_get hi
          rw [h1] at h2
          cases h2
          subst e
          have hx := List.mem_of_getElem? h1
          have ih := e_like n x (small_mem hs.2 x hx) (by have := depth_mm hx; omega)
          refine ⟨[some (.tuple ds), some (.tuple ds), some (.int 4), some x, some x], by simp, .inl ⟨[some (.tuple ds), some (.tuple ds), some (.int 4), some x, some x], ?_, by simp [wipeE], rfl⟩⟩
          simp [ih]
        rw [q]
        congr 2
        simp
      have hin : inD (.int 4) (.tuple [.int 4, .int 5]) = some (.bool true) := rfl
      have hn : eqD (.list []) (.list []) = some (.bool true) := rfl
      simp [FL_like, runF_a, bL_like, e1, sortN, hin, lc, hn]
    | list ds =>
      simp only [smallD, Bool.and_eq_true, decide_eq_true_eq] at hs
      rw [depth_l] at hd
      have hz : zip2 [.list ds, .list ds] = some (zipD ds ds) := rfl
      have lc : lcM [3, 4] (rngI zip2 [(getM 0), (getM 1)]) (tupT [(setT 3), (setT 4)]) (notM (blM (callM (FL_like n) [(getM 3), (getM 4)]))) (rt (.int 1)) [some (.list ds), some (.list ds), some (.int 5), none, none] = .ok (.list []) [some (.list ds), some (.list ds), some (.int 5), none, none] := by
        have q := lc_eq (vs := [3, 4]) (it := rngI zip2 [(getM 0), (getM 1)]) (t := tupT [(setT 3), (setT 4)]) (c := notM (blM (callM (FL_like n) [(getM 3), (getM 4)]))) (e := rt (.int 1)) (ρ0 := [some (.list ds), some (.list ds), some (.int 5), none, none]) (ρ := [some (.list ds), some (.list ds), some (.int 5), none, none]) (ρ1 := [some (.list ds), some (.list ds), some (.int 5), none, none]) (ρ' := [some (.list ds), some (.list ds), some (.int 5), none, none]) (ds := zipD ds ds) (fun _ => none) (by simp [hz]) (by simp [zipD]; omega) (by simp [wipeE]) (by simp [backE, wipeE]) fun d hd' => by
          obtain ⟨i, hi⟩ := List.mem_iff_getElem?.mp hd'
          obtain ⟨x, y, h1, h2, e⟩ := zipD_get hi
          rw [h1] at h2
          cases h2
          subst e
          have hx := List.mem_of_getElem? h1
          have ih := e_like n x (small_mem hs.2 x hx) (by have := depth_mm hx; omega)
          refine ⟨[some (.list ds), some (.list ds), some (.int 5), some x, some x], by simp, .inl ⟨[some (.list ds), some (.list ds), some (.int 5), some x, some x], ?_, by simp [wipeE], rfl⟩⟩
          simp [ih]
        rw [q]
        congr 2
        simp
      have hin : inD (.int 5) (.tuple [.int 4, .int 5]) = some (.bool true) := rfl
      have hn : eqD (.list []) (.list []) = some (.bool true) := rfl
      simp [FL_like, runF_a, bL_like, e1, sortN, hin, lc, hn]
/-! ### the law's start -/
theorem rf_ints {K : PySem.W.Frag} {W : Hp} : ∀ ns : List Int, RFs K W (ns.map V.int) (ns.map .int)
  | [] => .nil
  | n :: ns => .cons (.int n) (rf_ints ns)
theorem law_start {K : PySem.W.Frag} {H : Hp} {a : Addr} {ns : List Int} {xr : XR} {F : List Dt → FO Dt} (hl : ns.length ≤ 63) (hS : SqL K H a (ns.map V.int)) (e : F [.list (ns.map .int)] = .ok (.bool true)) : spF K xr 1 .F F [.ref a] H (fun v _ => v = .bl true) fun _ _ _ => False := by
  have g0 : Good K H H [] := ⟨Ex.refl H, [], .nil, List.nodup_nil⟩
  have g1 := g0.addF (RF.lst (a := a) hS (rf_ints ns))
  refine ⟨rfl, H, [.list (ns.map .int)], [], rfl, g1, ?_⟩
  rw [e]
  intro v H' W' _ g
  obtain ⟨u, eu, r⟩ := g.viewAt List.mem_cons_self
  cases eu
  cases r
  rfl
theorem cx_no {P : Program} {w : World} {o : List PySem.Env} {H : Hp} {s s' : Shared} {e : Value} (c : L2.CX P w o H s (fun _ _ _ => False) e s') : False := by
  obtain ⟨_, _, _, _, _, _, _, _, _, _, _, _, h⟩ := c
  exact h
end Vs

/-! part K63_m -/
set_option Elab.async false
set_option linter.all false
set_option maxRecDepth 100000
set_option maxHeartbeats 40000000
namespace K63
open PySem PySem.Spec PyProof.Rows L2 PySem.W Vs
def N_is_integer : List Str := ["value"]
def b_is_integer : M Fl :=
 (retM (andV (opM [.var 0] (on1 (isaD fun d => d.isInt))) (notV (opM [.var 0] (on1 (isaD fun d => d.isBool))))))
def F_is_integer : List Dt → FO Dt := runF b_is_integer 1
def N_is_whole : List Str := ["value", "low", "high"]
def b_is_whole : M Fl :=
 (retM (andV (callM F_is_integer [(getM 0)]) (chainM (fun i j => decide (i ≤ j)) (fun i j => decide (i ≤ j)) (getM 1) (getM 0) (getM 2))))
def F_is_whole : List Dt → FO Dt := runF b_is_whole 3
def N_need_whole : List Str := ["value", "low", "high"]
def b_need_whole : M Fl :=
 (iteM (notM (blM (callM F_is_whole [(getM 0), (getM 1), (getM 2)])))
 badS
 nopM)
def F_need_whole : List Dt → FO Dt := runF b_need_whole 3
def N_is_tuple_of : List Str := ["value", "low", "high"]
def b_is_tuple_of : M Fl :=
 (retM (andV (opM [.var 0] (on1 (isaD fun d => d.isTuple))) (chainM (fun i j => decide (i ≤ j)) (fun i j => decide (i ≤ j)) (getM 1) (opM [.var 0] (on1 lenD)) (getM 2))))
def F_is_tuple_of : List Dt → FO Dt := runF b_is_tuple_of 3
def N_fits_line : List Str := ["value", "height"]
def b_fits_line : M Fl :=
 (seqM (iteM (orM (notM (blM (callM F_is_tuple_of [(getM 0), (rt (.int 0)), (rt (.int 60))]))) (notM (blM (opM [.val (lcM [1] (seqI (getM 0)) (setT 1) (rt true) (callM F_is_whole [(getM 1), (rt (.int 1)), (rt (.int 60))])) (.O .F)] (on1 allD)))))
 (retM (rt (.bool false)))
 nopM)
 (retM (opM [.val (opM [.var 0] (on1 sumD)) (.F), .val (rt (.int 60)) (.F)] (on2 leD))))
def F_fits_line : List Dt → FO Dt := runF b_fits_line 2
def N_need_line : List Str := ["line"]
def b_need_line : M Fl :=
 (iteM (notM (blM (callM F_fits_line [(getM 0)])))
 badS
 nopM)
def F_need_line : List Dt → FO Dt := runF b_need_line 1
def N_need_stones : List Str := ["stones"]
def b_need_stones : M Fl :=
 (dropM (callM F_need_whole [(getM 0), (rt (.int 0)), (rt (.int 60))]))
def F_need_stones : List Dt → FO Dt := runF b_need_stones 1
def N_power_of : List Str := ["many", "found", "turn"]
def b_power_of : M Fl :=
 (seqM (asgM (rt (.int 1)) (setT 1))
 (seqM (forS (rngI rng1 [(getM 0)]) (setT 2)
 (asgM (opM [.var 1, .val (rt (.int 2)) (.F)] (on2 mulI)) (setT 1)))
 (retM (getM 1))))
def F_power_of : List Dt → FO Dt := runF b_power_of 3
def N_count_in : List Str := ["stones"]
def b_count_in : M Fl :=
 (retM (callM F_power_of [(opM [.val (rt (.int 0)) (.F), .val (opM [.var 0, .val (rt (.int 1)) (.F)] (on2 subI)) (.F)] (on2 max2D))]))
def F_count_in : List Dt → FO Dt := runF b_count_in 1
def N_number_in : List Str := ["line", "left", "found", "height", "own"]
def b_number_in : M Fl :=
 (seqM (asgM (tupleM [(opM [.var 0] (on1 sumD)), (rt (.int 0))]) (tupT [(setT 1), (setT 2)]))
 (seqM (forS (seqI (getM 0)) (setT 3)
 (seqM (asgM (opM [.var 2, .val (opM [.val (lcM [4] (rngI rng2 [(rt (.int 1)), (getM 3)]) (setT 4) (rt true) (callM F_count_in [(opM [.var 1, .var 4] (on2 subI))])) (.O .F)] (on1 sumD)) (.F)] (on2 addI)) (setT 2))
 (asgM (opM [.var 1, .var 3] (on2 subI)) (setT 1))))
 (retM (getM 2))))
def F_number_in : List Dt → FO Dt := runF b_number_in 5
def N_at_in : List Str := ["stones", "number", "found", "left", "height"]
def b_at_in : M Fl :=
 (seqM (par2 2 3 (listM []) (getM 0))
 (seqM (whileM (blM (opM [.var 3, .val (rt (.int 0)) (.F)] (on2 gtD)))
 (seqM (asgM (rt (.int 1)) (setT 4))
 (seqM (whileM (blM (opM [.var 1, .val (callM F_count_in [(opM [.var 3, .var 4] (on2 subI))]) (.F)] (on2 geD)))
 (par2 1 4 (opM [.var 1, .val (callM F_count_in [(opM [.var 3, .var 4] (on2 subI))]) (.F)] (on2 subI)) (opM [.var 4, .val (rt (.int 1)) (.F)] (on2 addI))) 100)
 (seqM (appM 2 (getM 4))
 (asgM (opM [.var 3, .var 4] (on2 subI)) (setT 3))))) 100)
 (retM (takeM 2))))
def F_at_in : List Dt → FO Dt := runF b_at_in 5
def N_is_line : List Str := ["value"]
def b_is_line : M Fl :=
 (retM (callM F_fits_line [(getM 0)]))
def F_is_line : List Dt → FO Dt := runF b_is_line 1
def N_count_lines : List Str := ["stones"]
def b_count_lines : M Fl :=
 (seqM (dropM (callM F_need_stones [(getM 0)]))
 (retM (callM F_count_in [(getM 0)])))
def F_count_lines : List Dt → FO Dt := runF b_count_lines 1
def N_number_of_line : List Str := ["line"]
def b_number_of_line : M Fl :=
 (seqM (dropM (callM F_need_line [(getM 0)]))
 (retM (callM F_number_in [(getM 0)])))
def F_number_of_line : List Dt → FO Dt := runF b_number_of_line 1
def N_line_at : List Str := ["stones", "number"]
def b_line_at : M Fl :=
 (seqM (dropM (callM F_need_stones [(getM 0)]))
 (seqM (dropM (callM F_need_whole [(getM 1), (rt (.int 0)), (opM [.val (callM F_count_in [(getM 0)]) (.F), .val (rt (.int 1)) (.F)] (on2 subI))]))
 (retM (opM [.val (callM F_at_in [(getM 0), (getM 1)]) (.O .F)] (on1 tupleD)))))
def F_line_at : List Dt → FO Dt := runF b_line_at 2
def N_next_line : List Str := ["line", "stones", "number"]
def b_next_line : M Fl :=
 (seqM (dropM (callM F_need_line [(getM 0)]))
 (seqM (par2 1 2 (opM [.var 0] (on1 sumD)) (opM [.val (callM F_number_in [(getM 0)]) (.F), .val (rt (.int 1)) (.F)] (on2 addI)))
 (retM (ifV (blM (opM [.var 2, .val (callM F_count_in [(getM 1)]) (.F)] (on2 ltD))) (opM [.val (callM F_at_in [(getM 1), (getM 2)]) (.O .F)] (on1 tupleD)) (rt .none)))))
def F_next_line : List Dt → FO Dt := runF b_next_line 3
def N__law_cup : List Str := ["script", "cell"]
def b__law_cup : M Fl :=
 (seqM (asgM (opM [.val (opM [.val (opM [.val (opM [.var 0] (on1 listD)) (.O .F), .val (listM [(rt (.int 0))]) (.O .F)] (on2 catL)) (.O .F), .val (rt (.int 0)) (.F)] (on2 ixD)) (.F)] (on1 absD)) (setT 1))
 (retM (listM [(ifV (blM (opM [.var 1, .val (opM [.val (rt (.int 10)) (.F), .val (rt (.int 18)) (.F)] (on2 powI)) (.F)] (on2 geD))) (opM [.var 1, .val (rt (.int 73)) (.F)] (on2 fdivI)) (rt (.int 0))), (opM [.val (opM [.val (opM [.val (opM [.val (opM [.var 1, .val (rt (.int 283)) (.F)] (on2 mulI)) (.F), .val (rt (.int 3907)) (.F)] (on2 addI)) (.F)] (on1 intD)) (.F), .val (rt (.int 2077503167)) (.F)] (on2 modI)) (.F), .val (rt (.int 167)) (.F)] (on2 addI))])))
def F__law_cup : List Dt → FO Dt := runF b__law_cup 2
def N__law_roll : List Str := ["cup", "many", "found", "deep"]
def b__law_roll : M Fl :=
 (seqM (iteM (blM (opM [.val (opM [.var 0, .val (rt (.int 0)) (.F)] (on2 ixD)) (.F), .val (rt (.int 0)) (.F)] (on2 gtD)))
 (seqM (asgM (opM [.val (opM [.val (opM [.var 0, .val (rt (.int 0)) (.F)] (on2 ixD)) (.F)] (on1 intD)) (.F), .var 1] (on2 modI)) (setT 2))
 (seqM (stoIx 0 (opM [.val (opM [.var 0, .val (rt (.int 0)) (.F)] (on2 ixD)) (.F), .var 1] (on2 fdivI)) (rt (.int 0)))
 (retM (getM 2))))
 nopM)
 (seqM (stoIx 0 (opM [.val (opM [.val (opM [.val (opM [.val (opM [.var 0, .val (rt (.int 1)) (.F)] (on2 ixD)) (.F), .val (rt (.int 31051)) (.F)] (on2 mulI)) (.F), .val (rt (.int 7993)) (.F)] (on2 addI)) (.F)] (on1 intD)) (.F), .val (rt (.int 2147483543)) (.F)] (on2 modI)) (rt (.int 1)))
 (seqM (asgM (opM [.val (opM [.val (opM [.val (opM [.var 0, .val (rt (.int 1)) (.F)] (on2 ixD)) (.F), .val (opM [.val (opM [.var 0, .val (rt (.int 1)) (.F)] (on2 ixD)) (.F), .val (rt (.int 229)) (.F)] (on2 addI)) (.F)] (on2 mulI)) (.F)] (on1 intD)) (.F), .val (rt (.int 2147483587)) (.F)] (on2 modI)) (setT 3))
 (retM (opM [.val (opM [.val (opM [.var 3, .val (rt (.int 821)) (.F)] (on2 fdivI)) (.F)] (on1 intD)) (.F), .var 1] (on2 modI))))))
def F__law_roll : Dt → List Dt → FO (Dt × Dt) := runG b__law_roll 4
def N__law_some : List Str := ["cup", "things"]
def b__law_some : M Fl :=
 (retM (opM [.var 1, .val (callG F__law_roll 0 [(opM [.var 1] (on1 lenD))]) (.F)] (on2 ixD)))
def F__law_some : Dt → List Dt → FO (Dt × Dt) := runG b__law_some 2
def N__law_sort : List Str := ["value"]
def b__law_sort : M Fl :=
 (seqM (iteM (orM (blM (opM [.var 0, .val (rt .none) (.F)] (on2 isN))) (blM (opM [.var 0] (on1 (isaD fun d => d.isBool)))))
 (retM (ifV (blM (opM [.var 0, .val (rt .none) (.F)] (on2 isN))) (rt (.int 0)) (rt (.int 1))))
 nopM)
 (seqM (iteM (orM (blM (opM [.var 0] (on1 (isaD fun d => d.isInt)))) (blM (opM [.var 0] (on1 (isaD fun d => d.isStr)))))
 (retM (ifV (blM (opM [.var 0] (on1 (isaD fun d => d.isInt)))) (rt (.int 2)) (rt (.int 3))))
 nopM)
 (retM (ifV (blM (opM [.var 0] (on1 (isaD fun d => d.isTuple)))) (rt (.int 4)) (ifV (blM (opM [.var 0] (on1 (isaD fun d => d.isList)))) (rt (.int 5)) (rt (.int 6)))))))
def F__law_sort : List Dt → FO Dt := runF b__law_sort 1
def N__law_like : List Str := ["one", "other", "sort", "first", "second"]
def b__law_like (F : List Dt → FO Dt) : M Fl :=
 (seqM (asgM (callM F__law_sort [(getM 1)]) (setT 2))
 (seqM (iteM (orM (blM (opM [.val (callM F__law_sort [(getM 0)]) (.F), .var 2] (on2 neD))) (blM (opM [.var 2, .val (rt (.int 6)) (.F)] (on2 eqD))))
 (retM (rt (.bool false)))
 nopM)
 (seqM (iteM (blM (opM [.var 2, .val (tupleM [(rt (.int 4)), (rt (.int 5))]) (.F)] (on2 inD)))
 (retM (andV (opM [.val (opM [.var 0] (on1 lenD)) (.F), .val (opM [.var 1] (on1 lenD)) (.F)] (on2 eqD)) (opM [.val (lcM [3, 4] (rngI zip2 [(getM 0), (getM 1)]) (tupT [(setT 3), (setT 4)]) (notM (blM (callM F [(getM 3), (getM 4)]))) (rt (.int 1))) (.O .F), .val (listM []) (.O .F)] (on2 eqD))))
 nopM)
 (retM (opM [.var 0, .var 1] (on2 eqD))))))
def F__law_like : Nat → List Dt → FO Dt
  | 0 => runF badS 5
  | n + 1 => runF (b__law_like (F__law_like n)) 5
def N__law_bent : List Str := ["cup", "value", "some", "at", "way"]
def b__law_bent (F : Dt → List Dt → FO (Dt × Dt)) : M Fl :=
 (seqM (iteM (orM (notM (blM (opM [.var 1] (on1 (isaD fun d => d.isTuple))))) (orM (blM (opM [.var 1, .val (tupleM []) (.F)] (on2 eqD))) (blM (opM [.val (callG F__law_roll 0 [(rt (.int 8))]) (.F), .val (rt (.int 0)) (.F)] (on2 eqD)))))
 (seqM (asgM (listM [(rt .none), (rt (.bool true)), (rt (.bool false)), (rt (.int 0)), (rt (.int 1)), (rt (.int 2)), (rt (.int 3)), (negM (rt (.int 1))), (rt (.int 60)), (rt (.int 61)), (rt (.str "")), (rt (.str "1")), (tupleM []), (listM []), (tupleM [(rt (.int 1))]), (tupleM [(rt (.int 0)), (rt (.int 1))])]) (setT 2))
 (seqM (iteM (blM (opM [.val (callM F__law_sort [(getM 1)]) (.F), .val (rt (.int 2)) (.F)] (on2 eqD)))
 (asgM (opM [.var 2, .val (listM [(opM [.var 1, .val (rt (.int 1)) (.F)] (on2 addI)), (opM [.var 1, .val (rt (.int 1)) (.F)] (on2 addI)), (opM [.var 1, .val (rt (.int 1)) (.F)] (on2 subI))]) (.O .F)] (on2 catL)) (setT 2))
 nopM)
 (retM (callG F__law_some 0 [(getM 2)]))))
 nopM)
 (seqM (par2 3 4 (callG F__law_roll 0 [(opM [.var 1] (on1 lenD))]) (callG F__law_roll 0 [(rt (.int 12))]))
 (seqM (iteM (blM (opM [.var 4, .val (rt (.int 0)) (.F)] (on2 eqD)))
 (retM (opM [.val (opM [.var 1, .var 3] (slB1 sliceT)) (.F), .val (opM [.var 1, .val (opM [.var 3, .val (rt (.int 1)) (.F)] (on2 addI)) (.F)] (slA1 sliceT)) (.F)] (on2 plusD)))
 nopM)
 (seqM (iteM (blM (opM [.var 4, .val (rt (.int 1)) (.F)] (on2 eqD)))
 (retM (opM [.val (opM [.var 1, .val (opM [.var 3, .val (rt (.int 1)) (.F)] (on2 addI)) (.F)] (slB1 sliceT)) (.F), .val (opM [.var 1, .var 3] (slA1 sliceT)) (.F)] (on2 plusD)))
 nopM)
 (seqM (iteM (blM (opM [.var 4, .val (rt (.int 2)) (.F)] (on2 eqD)))
 (retM (opM [.var 1] (on1 listD)))
 nopM)
 (seqM (iteM (blM (opM [.var 4, .val (rt (.int 3)) (.F)] (on2 eqD)))
 (retM (opM [.var 1] (on1 revT)))
 nopM)
 (retM (opM [.val (opM [.val (opM [.var 1, .var 3] (slB1 sliceT)) (.F), .val (tupleM [(callG F 0 [(opM [.var 1, .var 3] (on2 ixD))])]) (.F)] (on2 plusD)) (.F), .val (opM [.var 1, .val (opM [.var 3, .val (rt (.int 1)) (.F)] (on2 addI)) (.F)] (slA1 sliceT)) (.F)] (on2 plusD)))))))))
def F__law_bent : Nat → Dt → List Dt → FO (Dt × Dt)
  | 0 => runG badS 5
  | n + 1 => runG (b__law_bent (F__law_bent n)) 5
def N__law_line_of : List Str := ["cup", "stones", "share", "found", "height", "at"]
def b__law_line_of : M Fl :=
 (seqM (par3 2 3 4 (opM [.val (rt (.int 1)) (.F), .val (callG F__law_roll 0 [(rt (.int 4))]) (.F)] (on2 addI)) (listM []) (rt (.int 1)))
 (seqM (forS (rngI rng2 [(rt (.int 1)), (getM 1)]) (setT 5)
 (seqM (iteM (blM (opM [.val (callG F__law_roll 0 [(opM [.val (rt (.int 1)) (.F), .var 2] (on2 addI))]) (.F), .val (rt (.int 0)) (.F)] (on2 eqD)))
 (seqM (appM 3 (getM 4))
 (asgM (rt (.int 0)) (setT 4)))
 nopM)
 (asgM (opM [.var 4, .val (rt (.int 1)) (.F)] (on2 addI)) (setT 4))))
 (retM (ifV (blM (opM [.var 1, .val (rt (.int 0)) (.F)] (on2 gtD))) (opM [.val (opM [.var 3, .val (listM [(getM 4)]) (.O .F)] (on2 catL)) (.O .F)] (on1 tupleD)) (tupleM [])))))
def F__law_line_of : Dt → List Dt → FO (Dt × Dt) := runG b__law_line_of 6
def N__law_cuts : List Str := ["line", "at"]
def b__law_cuts : M Fl :=
 (retM (opM [.val (lcM [1] (rngI rng2 [(rt (.int 1)), (opM [.var 0] (on1 lenD))]) (setT 1) (rt true) (opM [.val (opM [.var 0, .var 1] (slB1 sliceT)) (.F)] (on1 sumD))) (.O .F)] (on1 tupleD)))
def F__law_cuts : List Dt → FO Dt := runF b__law_cuts 2
def N__law_lines : List Str := ["stones", "found", "height", "rest"]
def b__law_lines (F : List Dt → FO Dt) : M Fl :=
 (seqM (iteM (blM (opM [.var 0, .val (rt (.int 0)) (.F)] (on2 eqD)))
 (retM (listM [(tupleM [])]))
 nopM)
 (seqM (asgM (listM []) (setT 1))
 (seqM (forS (rngI rng2 [(rt (.int 1)), (opM [.var 0, .val (rt (.int 1)) (.F)] (on2 addI))]) (setT 2)
 (asgM (opM [.var 1, .val (lcM [3] (seqI (callM F [(opM [.var 0, .var 2] (on2 subI))])) (setT 3) (rt true) (opM [.val (tupleM [(getM 2)]) (.F), .var 3] (on2 plusD))) (.O .F)] (on2 catL)) (setT 1)))
 (retM (takeM 1)))))
def F__law_lines : Nat → List Dt → FO Dt
  | 0 => runF badS 4
  | n + 1 => runF (b__law_lines (F__law_lines n)) 4
def N__law_is_line : List Str := ["value", "height"]
def b__law_is_line : M Fl :=
 (seqM (iteM (orM (notM (blM (opM [.var 0] (on1 (isaD fun d => d.isTuple))))) (blM (opM [.val (lcM [1] (seqI (getM 0)) (setT 1) (orM (blM (opM [.val (callM F__law_sort [(getM 1)]) (.F), .val (rt (.int 2)) (.F)] (on2 neD))) (blM (opM [.var 1, .val (rt (.int 1)) (.F)] (on2 ltD)))) (getM 1)) (.O .F), .val (listM []) (.O .F)] (on2 neD))))
 (retM (rt (.bool false)))
 nopM)
 (retM (opM [.val (opM [.var 0] (on1 sumD)) (.F), .val (rt (.int 60)) (.F)] (on2 leD))))
def F__law_is_line : List Dt → FO Dt := runF b__law_is_line 2
def N__law_number : List Str := ["line", "found", "cuts", "at"]
def b__law_number : M Fl :=
 (seqM (par2 1 2 (rt (.int 0)) (callM F__law_cuts [(getM 0)]))
 (seqM (forS (rngI rng2 [(rt (.int 1)), (opM [.var 0] (on1 sumD))]) (setT 3)
 (asgM (opM [.val (opM [.val (rt (.int 2)) (.F), .var 1] (on2 mulI)) (.F), .val (ifV (blM (opM [.var 3, .var 2] (on2 inD))) (rt (.int 0)) (rt (.int 1))) (.F)] (on2 addI)) (setT 1)))
 (retM (getM 1))))
def F__law_number : List Dt → FO Dt := runF b__law_number 4
def N__law_right : List Str := ["cup", "line", "number", "stones", "size", "at", "told", "later", "other", "odds", "value"]
def b__law_right : M Fl :=
 (seqM (par2 2 3 (callM F__law_number [(getM 1)]) (opM [.var 1] (on1 sumD)))
 (seqM (asgM (rt (.int 1)) (setT 4))
 (seqM (forS (rngI rng2 [(rt (.int 1)), (getM 3)]) (setT 5)
 (asgM (opM [.val (rt (.int 2)) (.F), .var 4] (on2 mulI)) (setT 4)))
 (seqM (asgM (listM [(callM F_is_line [(getM 1)]), (callM F_count_lines [(getM 3)]), (callM F_number_of_line [(getM 1)]), (callM F_line_at [(getM 3), (getM 2)])]) (setT 6))
 (seqM (iteM (notM (blM (callM (F__law_like 12) [(getM 6), (listM [(rt (.bool true)), (getM 4), (getM 2), (getM 1)])])))
 (retM (rt (.bool false)))
 nopM)
 (seqM (asgM (callM F_next_line [(getM 1)]) (setT 7))
 (seqM (iteM (blM (opM [.val (opM [.var 7, .val (rt .none) (.F)] (on2 isN)) (.F), .val (opM [.var 2, .val (opM [.var 4, .val (rt (.int 1)) (.F)] (on2 subI)) (.F)] (on2 eqD)) (.F)] (on2 neD)))
 (retM (rt (.bool false)))
 nopM)
 (seqM (iteM (andM (blM (opM [.var 7, .val (rt .none) (.F)] (on2 isNotN))) (orM (notM (blM (callM F__law_is_line [(getM 7)]))) (orM (blM (opM [.val (opM [.var 7] (on1 sumD)) (.F), .var 3] (on2 neD))) (orM (blM (opM [.var 7, .var 1] (on2 leD))) (blM (opM [.val (callM F__law_number [(getM 7)]) (.F), .val (opM [.var 2, .val (rt (.int 1)) (.F)] (on2 addI)) (.F)] (on2 neD)))))))
 (retM (rt (.bool false)))
 nopM)
 (seqM (asgM (callG F__law_roll 0 [(getM 4)]) (setT 8))
 (seqM (iteM (orM (notM (blM (callM (F__law_like 12) [(callM F_number_of_line [(callM F_line_at [(getM 3), (getM 8)])]), (getM 8)]))) (blM (opM [.val (callM F__law_number [(callM F_line_at [(getM 3), (getM 8)])]) (.F), .var 8] (on2 neD))))
 (retM (rt (.bool false)))
 nopM)
 (seqM (asgM (callG F__law_roll 0 [(opM [.val (opM [.var 1] (on1 lenD)) (.F), .val (rt (.int 1)) (.F)] (on2 addI))]) (setT 5))
 (seqM (asgM (listM [(getM 1), (opM [.var 1] (on1 revT)), (opM [.var 1] (on1 listD)), (opM [.var 1, .val (rt (.int 1)) (.F)] (slA1 sliceT)), (opM [.var 1, .val (tupleM [(rt (.int 1))]) (.F)] (on2 plusD)), (opM [.var 1, .val (tupleM [(rt (.int 0))]) (.F)] (on2 plusD)), (opM [.val (opM [.val (opM [.var 1, .var 5] (slB1 sliceT)) (.F), .val (tupleM [(rt (.bool true))]) (.F)] (on2 plusD)) (.F), .val (opM [.var 1, .var 5] (slA1 sliceT)) (.F)] (on2 plusD)), (opM [.val (opM [.val (opM [.var 1, .var 5] (slB1 sliceT)) (.F), .val (tupleM [(rt (.str "1"))]) (.F)] (on2 plusD)) (.F), .val (opM [.var 1, .var 5] (slA1 sliceT)) (.F)] (on2 plusD)), (rt .none), (tupleM [])]) (setT 9))
 (seqM (forS (seqI (opM [.var 9, .val (listM [(tupleM [(rt (.int 61))]), (tupleM [(rt (.int 60))]), (tupleM [(rt (.int 60)), (rt (.int 1))]), (opM [.val (tupleM [(rt (.int 1))]) (.F), .val (rt (.int 60)) (.F)] (on2 repT)), (opM [.val (tupleM [(rt (.int 1))]) (.F), .val (rt (.int 61)) (.F)] (on2 repT)), (tupleM [(negM (rt (.int 1))), (rt (.int 2))]), (callG (F__law_bent 4) 0 [(getM 1)]), (callG (F__law_bent 4) 0 [(getM 1)])]) (.O .F)] (on2 catL))) (setT 10)
 (iteM (notM (blM (callM (F__law_like 12) [(callM F_is_line [(getM 10)]), (callM F__law_is_line [(getM 10)])])))
 (retM (rt (.bool false)))
 nopM))
 (retM (rt (.bool true))))))))))))))))
def F__law_right : Dt → List Dt → FO (Dt × Dt) := runG b__law_right 11
def N__law_all_right : List Str := ["stones", "lines", "told", "number", "line"]
def b__law_all_right : M Fl :=
 (seqM (asgM (callM (F__law_lines 12) [(getM 0)]) (setT 1))
 (seqM (asgM (lcM [3] (rngI rng1 [(opM [.var 1] (on1 lenD))]) (setT 3) (rt true) (callM F_line_at [(getM 0), (getM 3)])) (setT 2))
 (seqM (iteM (orM (notM (blM (callM (F__law_like 12) [(getM 2), (getM 1)]))) (orM (blM (opM [.var 1, .val (opM [.var 1] (on1 sortedD)) (.O .F)] (on2 neD))) (notM (blM (callM (F__law_like 12) [(callM F_count_lines [(getM 0)]), (opM [.var 1] (on1 lenD))])))))
 (retM (rt (.bool false)))
 nopM)
 (retM (callM (F__law_like 12) [(lcM [4] (seqI (getM 1)) (setT 4) (rt true) (callM F_next_line [(getM 4)])), (opM [.val (opM [.var 1, .val (rt (.int 1)) (.F)] (slA1 sliceL)) (.O .F), .val (listM [(rt .none)]) (.O .F)] (on2 catL))])))))
def F__law_all_right : List Dt → FO Dt := runF b__law_all_right 5
def N__law_written_right : List Str := ["told", "number"]
def b__law_written_right : M Fl :=
 (seqM (asgM (listM [(callM F_is_line [(tupleM [(rt (.int 2)), (rt (.int 1)), (rt (.int 2))])]), (callM F_is_line [(tupleM [(rt (.int 0)), (rt (.int 1))])]), (callM F_count_lines [(rt (.int 5))]), (callM F_count_lines [(rt (.int 0))]), (callM F_number_of_line [(tupleM [(rt (.int 2)), (rt (.int 1)), (rt (.int 2))])]), (callM F_line_at [(rt (.int 5)), (rt (.int 10))]), (callM F_next_line [(tupleM [(rt (.int 2)), (rt (.int 1)), (rt (.int 2))])]), (callM F_next_line [(tupleM [(rt (.int 5))])])]) (setT 0))
 (seqM (iteM (notM (blM (callM (F__law_like 12) [(getM 0), (listM [(rt (.bool true)), (rt (.bool false)), (rt (.int 16)), (rt (.int 1)), (rt (.int 9)), (tupleM [(rt (.int 2)), (rt (.int 2)), (rt (.int 1))]), (tupleM [(rt (.int 2)), (rt (.int 2)), (rt (.int 1))]), (rt .none)])])))
 (retM (rt (.bool false)))
 nopM)
 (seqM (iteM (notM (blM (callM (F__law_like 12) [(listM [(callM F_is_line [(tupleM [(rt (.int 30)), (rt (.int 30))])]), (callM F_is_line [(tupleM [(rt (.int 30)), (rt (.int 31))])]), (callM F_is_line [(tupleM [(rt (.int 61))])]), (callM F_is_line [(tupleM [])])]), (listM [(rt (.bool true)), (rt (.bool false)), (rt (.bool false)), (rt (.bool true))])])))
 (retM (rt (.bool false)))
 nopM)
 (seqM (asgM (listM [(lcM [1] (rngI rng1 [(rt (.int 4))]) (setT 1) (rt true) (callM F_line_at [(rt (.int 3)), (getM 1)])), (callM F_number_of_line [(tupleM [])]), (callM F_line_at [(rt (.int 0)), (rt (.int 0))]), (callM F_next_line [(tupleM [])]), (callM F_number_of_line [(tupleM [(rt (.int 60))])]), (callM F_number_of_line [(opM [.val (tupleM [(rt (.int 1))]) (.F), .val (rt (.int 60)) (.F)] (on2 repT))]), (callM F_count_lines [(rt (.int 60))])]) (setT 0))
 (retM (callM (F__law_like 12) [(getM 0), (listM [(listM [(tupleM [(rt (.int 1)), (rt (.int 1)), (rt (.int 1))]), (tupleM [(rt (.int 1)), (rt (.int 2))]), (tupleM [(rt (.int 2)), (rt (.int 1))]), (tupleM [(rt (.int 3))])]), (rt (.int 0)), (tupleM []), (rt .none), (rt (.int 576460752303423487)), (rt (.int 0)), (rt (.int 576460752303423488))])]))))))
def F__law_written_right : List Dt → FO Dt := runF b__law_written_right 2
def N_law : List Str := ["script", "cup", "most"]
def b_law : M Fl :=
 (seqM (iteM (notM (blM (callM F__law_written_right [])))
 (retM (rt (.bool false)))
 nopM)
 (seqM (asgM (callM F__law_cup [(getM 0)]) (setT 1))
 (seqM (forS (seqI (tupleM [(rt (.int 6)), (rt (.int 20)), (rt (.int 61))])) (setT 2)
 (iteM (notM (blM (callG F__law_right 1 [(callG F__law_line_of 1 [(callG F__law_roll 1 [(getM 2)])])])))
 (retM (rt (.bool false)))
 nopM))
 (retM (callM F__law_all_right [(callG F__law_roll 1 [(rt (.int 10))])])))))
def F_law : List Dt → FO Dt := runF b_law 3
end K63

/-! part K63_p -/
set_option Elab.async false
set_option linter.all false
set_option maxRecDepth 100000
set_option maxHeartbeats 4000000
namespace K63
open PySem PySem.Spec L2 PySem.W Vs
theorem e_is_integer (d : Dt) (h : ∀ k, d ≠ .dict k) : F_is_integer [d] = .ok (.bool (d.isInt && !d.isBool)) := by
  have e1 := isaD_a (fun d => d.isInt) d h
  have e2 := isaD_a (fun d => d.isBool) d h
  simp [F_is_integer, runF_a, b_is_integer, e1, e2]
  cases d.isInt <;> simp [e2]
def wholeB (d : Dt) (lo hi : Int) : Bool := match d with
  | .int i => decide (lo ≤ i) && decide (i ≤ hi)
  | _ => false
theorem e_is_whole (d : Dt) (h : ∀ k, d ≠ .dict k) (lo hi : Int) : F_is_whole [d, .int lo, .int hi] = .ok (.bool (wholeB d lo hi)) := by
  cases d with
  | dict k => exact (h k rfl).elim
  | int i =>
    simp [F_is_whole, runF_a, b_is_whole, e_is_integer, PyData.isInt, PyData.isBool, wholeB]
    by_cases h : lo ≤ i <;> simp [h]
  | _ => simp [F_is_whole, runF_a, b_is_whole, e_is_integer, PyData.isInt, PyData.isBool, wholeB]
theorem e_need_whole (i lo hi : Int) (h1 : lo ≤ i) (h2 : i ≤ hi) : F_need_whole [.int i, .int lo, .int hi] = .ok .none := by
  simp [F_need_whole, runF_a, b_need_whole, e_is_whole, wholeB, h1, h2]
theorem e_is_tuple_of (d : Dt) (h : ∀ k, d ≠ .dict k) (lo hi : Int) : F_is_tuple_of [d, .int lo, .int hi] = .ok (.bool (match d with | .tuple ds => decide (lo ≤ ds.length) && decide ((ds.length : Int) ≤ hi) | _ => false)) := by
  cases d with
  | dict k => exact (h k rfl).elim
  | tuple ds =>
    simp [F_is_tuple_of, runF_a, b_is_tuple_of, PyData.isTuple]
    by_cases h : lo ≤ ds.length <;> simp [h]
  | _ => simp [F_is_tuple_of, runF_a, b_is_tuple_of, PyData.isTuple]
def okL (ds : List Dt) : Bool := decide (ds.length ≤ 60) && ds.all fun d => wholeB d 1 60
def lineB (d : Dt) : Bool := match d with
  | .tuple ds => if okL ds then (match intsOf ds with | some ns => decide (ns.sum ≤ 60) | none => false) else false
  | _ => false
theorem whole_ints : ∀ {ds : List Dt}, (ds.all fun d => wholeB d 1 60) = true → ∃ ns : List Int, ds = ns.map .int ∧ ∀ n ∈ ns, 1 ≤ n ∧ n ≤ 60
  | [], _ => ⟨[], rfl, by simp⟩
  | d :: ds, h => by
    simp only [List.all_cons, Bool.and_eq_true] at h
    obtain ⟨ns, e, q⟩ := whole_ints h.2
    subst e
    cases d with
    | int i =>
      have := h.1
      simp [wholeB] at this
      exact ⟨i :: ns, rfl, by simpa using ⟨this, q⟩⟩
    | _ => simp [wholeB] at h
theorem e_fits_line (d : Dt) (h : d.plain = true) : F_fits_line [d] = .ok (.bool (lineB d)) := by
  have nd := plain_nd h
  cases d with
  | tuple ds =>
    have hp := Vs.plain_mem (by simpa [PyData.plain] using h)
    by_cases hl : ds.length ≤ 60
    · have lc : lcM [1] (seqI (getM 0)) (setT 1) (rt true) (callM F_is_whole [(getM 1), (rt (.int 1)), (rt (.int 60))]) [some (.tuple ds), none] = .ok (.list ((ds.map fun d => wholeB d 1 60).map .bool)) [some (.tuple ds), none] := by
        rw [List.map_map]
        refine lc_map _ (ρ := [some (.tuple ds), none]) (ρ1 := [some (.tuple ds), none]) (by simp) (by omega) (by simp [wipeE]) (by simp [backE, wipeE]) fun d hd => ?_
        refine ⟨[some (.tuple ds), some d], [some (.tuple ds), some d], by simp, ?_, by simp [wipeE]⟩
        simp [e_is_whole d (plain_nd (hp d hd))]
      have hl2 : (ds.length : Int) ≤ 60 := by omega
      by_cases hw : (ds.all fun d => wholeB d 1 60) = true
      · have hk : okL ds = true := by simp [okL, hl, hw]
        obtain ⟨ns, e, _⟩ := whole_ints hw
        subst e
        have hw' : ((ns.map PyData.int).map fun d => wholeB d 1 60).all id = true := by rw [List.all_map]; exact hw
        have hl3 : (ns.length : Int) ≤ 60 := by simp at hl; omega
        simp [F_fits_line, runF_a, b_fits_line, e_is_tuple_of _ nd, hl3, lc, lineB, hk, hw', -List.map_map, -List.all_map]
      · have hk : okL ds = false := by simp [okL, hl]; simpa using hw
        have hw' : (ds.map fun d => wholeB d 1 60).all id = false := by rw [List.all_map]; simpa using hw
        simp [F_fits_line, runF_a, b_fits_line, e_is_tuple_of _ nd, hl2, lc, lineB, hk, hw', -List.map_map, -List.all_map]
    · have hl2 : ¬ (ds.length : Int) ≤ 60 := by omega
      have hk : okL ds = false := by simp [okL, hl]
      simp [F_fits_line, runF_a, b_fits_line, e_is_tuple_of _ nd, hl2, lineB, hk]
  | dict k => exact (nd k rfl).elim
  | _ => simp [F_fits_line, runF_a, b_fits_line, e_is_tuple_of _ nd, lineB]
theorem e_power_of (n : Nat) (h : n < 1000000) : F_power_of [.int n] = .ok (.int (2 ^ n)) := by
  have lp := for_inv (t := setT 2) (b := asgM (opM [.var 1, .val (rt (.int 2)) (.F)] (on2 mulI)) (setT 1)) (fun i ρ => ∃ x, ρ = [some (.int n), some (.int (2 ^ i)), x]) (intsR 0 n) 0 [some (.int n), some (.int 1), none] ⟨none, rfl⟩ fun i d ρ hd ⟨x, e⟩ => by
    subst e
    refine ⟨_, [some (.int n), some (.int (2 ^ (i + 1))), some d], rfl, .inl ?_, some d, ?_⟩
    · simp [mulI_i _ 2 (by omega), Int.pow_succ]
    · simp
  obtain ⟨ρ', e, x, e2⟩ := lp
  simp [intsR] at e2
  have : rng1 [.int (n : Int)] = some (intsR 0 n) := rng1_a _ (by omega)
  simp [F_power_of, runF_a, b_power_of, this, e, e2]
/-- how many lines of s stones there are -/
def cnt (s : Int) : Int := 2 ^ (s - 1).toNat
theorem e_count_in (s : Int) (h : s < 1000000) : F_count_in [.int s] = .ok (.int (cnt s)) := by
  have e : max (0 : Int) (s - 1) = (((s - 1).toNat : Nat) : Int) := by omega
  have q := e_power_of _ (show (s - 1).toNat < 1000000 by omega)
  rw [← e] at q
  simp [F_count_in, runF_a, b_count_in, q, cnt]
theorem intsR_eq (a b : Int) : intsR a b = ((List.range (b - a).toNat).map fun (i : Nat) => a + (i : Int)).map .int := by simp [intsR]
def skip (left h : Int) : Int := ((List.range (h - 1).toNat).map fun (i : Nat) => cnt (left - (1 + (i : Int)))).sum
def num : List Int → Int → Int
  | [], _ => 0
  | h :: r, left => skip left h + num r (left - h)
theorem e_number_in (l : List Int) (hs : l.sum < 1000000) (hl : ∀ h ∈ l, 0 ≤ h ∧ h < 1000000) : F_number_in [.tuple (l.map .int)] = .ok (.int (num l l.sum)) := by
  have lp := for_inv (t := setT 3) (b := (seqM (asgM (opM [.var 2, .val (opM [.val (lcM [4] (rngI rng2 [(rt (.int 1)), (getM 3)]) (setT 4) (rt true) (callM F_count_in [(opM [.var 1, .var 4] (on2 subI))])) (.O .F)] (on1 sumD)) (.F)] (on2 addI)) (setT 2))
     (asgM (opM [.var 1, .var 3] (on2 subI)) (setT 1)))) (fun i ρ => ∃ a b x y, ρ = [some (.tuple (l.map .int)), some (.int a), some (.int b), x, y] ∧ a ≤ l.sum ∧ b + num (l.drop i) a = num l l.sum) (l.map .int) 0 [some (.tuple (l.map .int)), some (.int l.sum), some (.int 0), none, none] ⟨_, _, _, _, rfl, by omega, by simp⟩ fun i d ρ hd ⟨a, b, x, y, e, ha, hb⟩ => by
    subst e
    rw [List.getElem?_map, Option.map_eq_some_iff] at hd
    obtain ⟨h, hh, ed⟩ := hd
    subst ed
    have hm := hl h (List.mem_of_getElem? hh)
    have r2 : rng2 [.int 1, .int h] = some (intsR 1 h) := rng2_a _ _ (by omega)
    have lc : lcM [4] (rngI rng2 [(rt (.int 1)), (getM 3)]) (setT 4) (rt true) (callM F_count_in [(opM [.var 1, .var 4] (on2 subI))]) [some (.tuple (l.map .int)), some (.int a), some (.int b), some (.int h), y] = .ok (.list (((List.range (h - 1).toNat).map fun (i : Nat) => cnt (a - (1 + (i : Int)))).map .int)) [some (.tuple (l.map .int)), some (.int a), some (.int b), some (.int h), y] := by
      rw [List.map_map]
      have q := lc_map (vs := [4]) (it := rngI rng2 [(rt (.int 1)), (getM 3)]) (t := setT 4) (e := callM F_count_in [(opM [.var 1, .var 4] (on2 subI))]) (ds := intsR 1 h) (ρ0 := [some (.tuple (l.map .int)), some (.int a), some (.int b), some (.int h), y]) (ρ' := [some (.tuple (l.map .int)), some (.int a), some (.int b), some (.int h), y])
        (fun d => match d with | .int j => .int (cnt (a - j)) | _ => .none) (ρ := [some (.tuple (l.map .int)), some (.int a), some (.int b), some (.int h), y]) (ρ1 := [some (.tuple (l.map .int)), some (.int a), some (.int b), some (.int h), none]) (by simp [r2]) (by simp [intsR]; omega) (by simp [wipeE]) (by simp [backE, wipeE]) fun d hd => by
          simp only [intsR, List.mem_map, List.mem_range] at hd
          obtain ⟨j, hj, ed⟩ := hd
          subst ed
          refine ⟨[some (.tuple (l.map .int)), some (.int a), some (.int b), some (.int h), some (.int (1 + (j : Nat)))], [some (.tuple (l.map .int)), some (.int a), some (.int b), some (.int h), some (.int (1 + (j : Nat)))], by simp, ?_, by simp [wipeE]⟩
          simp [e_count_in _ (show a - (1 + (j : Int)) < 1000000 by omega)]
      rw [q]
      simp [intsR]
    have hdr : l.drop i = h :: l.drop (i + 1) := by
      rw [List.drop_eq_getElem_cons (List.getElem?_eq_some_iff.mp hh).1]
      rw [List.getElem?_eq_some_iff] at hh
      rw [hh.2]
    refine ⟨_, [some (.tuple (l.map .int)), some (.int (a - h)), some (.int (b + skip a h)), some (.int h), y], rfl, .inl ?_, _, _, _, _, rfl, by omega, ?_⟩
    · simp [lc, skip, -List.map_map]
    · rw [← hb]
      rw [Nat.zero_add, hdr, num]
      omega
  obtain ⟨ρ', e, a, b, x, y, e2, _, hb⟩ := lp
  have hb : b = num l l.sum := by
    rw [List.drop_eq_nil_of_le (by simp)] at hb
    simpa [num] using hb
  subst hb
  simp [F_number_in, runF_a, b_number_in, e, e2]
/-- a line of s stones -/
def Line (l : List Int) : Prop := ∀ h ∈ l, 1 ≤ h
theorem Line.tail {h : Int} {l : List Int} (a : Line (h :: l)) : Line l := fun x m => a x (List.mem_cons_of_mem _ m)
theorem Line.head {h : Int} {l : List Int} (a : Line (h :: l)) : 1 ≤ h := a h List.mem_cons_self
theorem Line.sum : ∀ {l : List Int}, Line l → 0 ≤ l.sum
  | [], _ => by simp
  | h :: l, a => by
    have := a.head
    have := Line.sum a.tail
    simp
    omega
theorem Line.pos {h : Int} {l : List Int} (a : Line (h :: l)) : 1 ≤ (h :: l).sum := by
  have := a.head
  have := a.tail.sum
  simp
  omega
theorem Line.len : ∀ {l : List Int}, Line l → (l.length : Int) ≤ l.sum
  | [], _ => by simp
  | h :: l, a => by
    have := a.head
    have := Line.len a.tail
    simp
    omega
theorem Line.le : ∀ {l : List Int}, Line l → ∀ h ∈ l, h ≤ l.sum
  | h :: l, a, x, m => by
    have := a.head
    have := a.tail.sum
    rcases List.mem_cons.mp m with z | z
    · subst z; simp; omega
    · have := Line.le a.tail x z
      simp
      omega
theorem cnt_pos (s : Int) : 0 < cnt s := by unfold cnt; exact Int.pow_pos (by omega)
theorem cnt_two {s : Int} (h : 2 ≤ s) : cnt s = 2 * cnt (s - 1) := by
  unfold cnt
  have : (s - 1).toNat = (s - 1 - 1).toNat + 1 := by omega
  rw [this, Int.pow_succ]
  omega
theorem skip_one (left h : Int) (hh : h ≤ 1) : skip left h = 0 := by
  unfold skip
  have : (h - 1).toNat = 0 := by omega
  rw [this]
  rfl
theorem skip_succ (left h : Int) (hh : 1 ≤ h) : skip left (h + 1) = skip left h + cnt (left - h) := by
  unfold skip
  have : (h + 1 - 1).toNat = (h - 1).toNat + 1 := by omega
  rw [this, List.range_succ, List.map_append, List.sum_append]
  simp
  congr 1
  omega
/-- skip left h + what is left below = all -/
theorem skip_all (left : Int) : ∀ n : Nat, (n : Int) + 1 < left → skip left (n + 1) + cnt (left - n) = cnt left
  | 0, h => by rw [skip_one _ _ (by simp)]; simp
  | n + 1, h => by
    have ih := skip_all left n (by push_cast at h; omega)
    have e := cnt_two (s := left - n) (by push_cast at h; omega)
    push_cast
    rw [skip_succ _ _ (by omega)]
    have e2 : left - (n : Int) - 1 = left - (n + 1) := by omega
    rw [e2] at e
    omega
theorem num_lt : ∀ {l : List Int}, Line l → num l l.sum < cnt l.sum ∧ 0 ≤ num l l.sum
  | [], _ => by simp [num, cnt]
  | h :: l, a => by
    have h1 := a.head
    have ih := num_lt a.tail
    have e : (h :: l).sum - h = l.sum := by simp; omega
    simp only [num, e]
    have p0 : 0 ≤ skip (h :: l).sum h := by
      unfold skip
      generalize (h :: l).sum = S
      generalize (h - 1).toNat = n
      induction n with
      | zero => simp
      | succ n ih =>
        rw [List.range_succ, List.map_append, List.sum_append]
        have := cnt_pos (S - (1 + (n : Int)))
        simp
        omega
    refine ⟨?_, by omega⟩
    cases l with
    | nil =>
      have ez : num [] ([] : List Int).sum = 0 := rfl
      rw [ez]
      simp only [List.sum_cons, List.sum_nil, Int.add_zero]
      rcases Int.le_iff_lt_or_eq.mp h1 with z | z
      · obtain ⟨n, hn⟩ : ∃ n : Nat, h = n + 2 := ⟨(h - 2).toNat, by omega⟩
        subst hn
        have q := skip_all ((n : Int) + 2) n (by omega)
        have q2 := skip_succ ((n : Int) + 2) (n + 1) (by omega)
        have q3 : (n : Int) + 1 + 1 = n + 2 := by omega
        rw [q3] at q2
        have q4 : ((n : Int) + 2 - n) = 2 := by omega
        rw [q4] at q
        have q5 : ((n : Int) + 2 - (n + 1)) = 1 := by omega
        rw [q5] at q2
        have c1 : cnt 1 = 1 := rfl
        have c2 : cnt 2 = 2 := rfl
        omega
      · subst z
        rw [skip_one _ _ (by omega)]
        decide
    | cons x r =>
      have hp := (Line.pos a.tail)
      obtain ⟨n, hn⟩ : ∃ n : Nat, h = n + 1 := ⟨(h - 1).toNat, by omega⟩
      subst hn
      have hs : ((n + 1 : Int) :: x :: r).sum = n + 1 + (x :: r).sum := by simp
      have q := skip_all (((n + 1 : Int) :: x :: r).sum) n (by rw [hs]; omega)
      have q2 : ((n + 1 : Int) :: x :: r).sum - n = (x :: r).sum + 1 := by rw [hs]; omega
      rw [q2] at q
      have q3 := cnt_two (s := (x :: r).sum + 1) (by omega)
      have q4 : (x :: r).sum + 1 - 1 = (x :: r).sum := by omega
      rw [q4] at q3
      omega
/-- each number is a line's -/
theorem num_onto : ∀ (s : Nat) (n : Int), 0 ≤ n → n < cnt s → ∃ l, Line l ∧ l.sum = s ∧ num l l.sum = n
  | 0, n, h0, h1 => ⟨[], by simp [Line], rfl, by
      have : cnt ((0 : Nat) : Int) = 1 := rfl
      simp [num]
      omega⟩
  | s + 1, n, h0, h1 => by
    -- the first height: from h on
    have key : ∀ (k : Nat) (h : Nat), k + h = s → ∀ m : Int, 0 ≤ m → m < cnt ((s : Int) + 1 - h) → skip ((s : Int) + 1) (h + 1) + m = n → ∃ l, Line l ∧ l.sum = ((s + 1 : Nat) : Int) ∧ num l l.sum = n := by
      intro k
      induction k with
      | zero =>
        intro h hk m m0 m1 e
        have : cnt ((s : Int) + 1 - h) = 1 := by
          have : (s : Int) + 1 - h = 1 := by omega
          rw [this]; rfl
        refine ⟨[(s : Int) + 1], by simp [Line]; omega, by simp, ?_⟩
        have : h = s := by omega
        subst this
        simp [num]
        omega
      | succ k ih =>
        intro h hk m m0 m1 e
        by_cases hm : m < cnt ((s : Int) + 1 - (h + 1))
        · obtain ⟨l, q1, q2, q3⟩ := num_onto (s - h) m m0 (by
            have : ((s - h : Nat) : Int) = (s : Int) + 1 - (h + 1) := by omega
            rw [this]; exact hm)
          have hs : (((h : Int) + 1) :: l).sum = ((s + 1 : Nat) : Int) := by simp [q2]; omega
          refine ⟨((h : Int) + 1) :: l, ?_, hs, ?_⟩
          · intro x hx
            rcases List.mem_cons.mp hx with z | z
            · omega
            · exact q1 x z
          · rw [hs, num]
            have : (((s + 1 : Nat) : Int) - ((h : Int) + 1)) = l.sum := by rw [q2]; omega
            rw [this, q3]
            push_cast
            omega
        · refine ih (h + 1) (by omega) (m - cnt ((s : Int) + 1 - (h + 1))) (by omega) ?_ ?_
          · have := cnt_two (s := (s : Int) + 1 - h) (by omega)
            have e2 : (s : Int) + 1 - h - 1 = (s : Int) + 1 - (h + 1) := by omega
            rw [e2] at this
            push_cast
            omega
          · have := skip_succ ((s : Int) + 1) ((h : Int) + 1) (by omega)
            push_cast
            omega
    refine key s 0 (by omega) n h0 ?_ ?_
    · push_cast at h1 ⊢
      simpa using h1
    · rw [skip_one _ _ (by simp)]
      omega
end K63

/-! part K63_q -/
set_option Elab.async false
set_option linter.all false
set_option maxRecDepth 100000
set_option maxHeartbeats 4000000
namespace K63
open PySem PySem.Spec L2 PySem.W Vs
theorem skip_le (S : Int) {a b : Int} (h1 : 1 ≤ a) (h : a ≤ b) : skip S a ≤ skip S b := by
  obtain ⟨n, hn⟩ : ∃ n : Nat, b = a + n := ⟨(b - a).toNat, by omega⟩
  subst hn
  clear h
  induction n with
  | zero => simp
  | succ n ih =>
    have := skip_succ S (a + n) (by omega)
    have := cnt_pos (S - (a + n))
    push_cast
    rw [show a + ((n : Int) + 1) = a + n + 1 by omega]
    omega
theorem num_sum (h : Int) (r : List Int) : num (h :: r) (h :: r).sum = skip (h :: r).sum h + num r r.sum := by
  have : (h :: r).sum - h = r.sum := by simp; omega
  rw [num, this]
/-- the height that stands at a number -/
theorem at_height (h : Int) (r : List Int) (s : Int) (fd : Dt) (hl : Line (h :: r)) (hs : (h :: r).sum ≤ 60) : ∃ ρ', whileM (blM (opM [.var 1, .val (callM F_count_in [(opM [.var 3, .var 4] (on2 subI))]) (.F)] (on2 geD)))
   (par2 1 4 (opM [.var 1, .val (callM F_count_in [(opM [.var 3, .var 4] (on2 subI))]) (.F)] (on2 subI)) (opM [.var 4, .val (rt (.int 1)) (.F)] (on2 addI))) 100 [some (.int s), some (.int (num (h :: r) (h :: r).sum)), some fd, some (.int (h :: r).sum), some (.int 1)] = .ok .nx ρ' ∧ ρ' = [some (.int s), some (.int (num r r.sum)), some fd, some (.int (h :: r).sum), some (.int h)] := by
  have h1 := hl.head
  have h60 := hl.le h List.mem_cons_self
  have e0 := num_sum h r
  have eS : (h :: r).sum - h = r.sum := by simp; omega
  have nl := num_lt hl.tail
  generalize (h :: r).sum = S at *
  refine while_inv (fun i ρ => ρ = [some (.int s), some (.int (num (h :: r) S - skip S (i + 1))), some fd, some (.int S), some (.int (i + 1))] ∧ (i : Int) + 1 ≤ h) _ 60 (fun i ρ ⟨e, hi⟩ => ?_) 100 0 _ (by omega) ⟨by rw [skip_one _ _ (by simp)]; simp, by omega⟩
  subst e
  refine ⟨by omega, ?_⟩
  have ec := e_count_in (S - (i + 1)) (by omega)
  by_cases hlt : (i : Int) + 1 < h
  · have q1 := skip_le S (a := (i : Int) + 1 + 1) (b := h) (by omega) (by omega)
    have q2 := skip_succ S ((i : Int) + 1) (by omega)
    have hge : cnt (S - (i + 1)) ≤ num (h :: r) S - skip S (i + 1) := by omega
    refine .inr ⟨[some (.int s), some (.int (num (h :: r) S - skip S (i + 1))), some fd, some (.int S), some (.int (i + 1))], [some (.int s), some (.int (num (h :: r) S - skip S (i + 1) - cnt (S - (i + 1)))), some fd, some (.int S), some (.int (i + 1 + 1))], ?_, .inl ?_, ?_, by omega⟩
    · simp [ec, hge]
    · simp [ec]
    · push_cast
      rw [show num (h :: r) S - skip S ((i : Int) + 1) - cnt (S - (i + 1)) = num (h :: r) S - skip S (i + 1 + 1) by omega]
  · have hh : (i : Int) + 1 = h := by omega
    rw [hh, eS] at ec
    rw [hh]
    have hge : ¬ cnt r.sum ≤ num (h :: r) S - skip S h := by omega
    refine .inl ⟨[some (.int s), some (.int (num (h :: r) S - skip S h)), some fd, some (.int S), some (.int h)], ?_, ?_⟩
    · simp [eS, ec, hge]
    · rw [show num (h :: r) S - skip S h = num r r.sum by omega]
theorem e_at_in (l : List Int) (hl : Line l) (hs : l.sum ≤ 60) : F_at_in [.int l.sum, .int (num l l.sum)] = .ok (.list (l.map .int)) := by
  have lp := while_inv (c := (blM (opM [.var 3, .val (rt (.int 0)) (.F)] (on2 gtD)))) (b := (seqM (asgM (rt (.int 1)) (setT 4))
     (seqM (whileM (blM (opM [.var 1, .val (callM F_count_in [(opM [.var 3, .var 4] (on2 subI))]) (.F)] (on2 geD)))
     (par2 1 4 (opM [.var 1, .val (callM F_count_in [(opM [.var 3, .var 4] (on2 subI))]) (.F)] (on2 subI)) (opM [.var 4, .val (rt (.int 1)) (.F)] (on2 addI))) 100)
     (seqM (appM 2 (getM 4))
     (asgM (opM [.var 3, .var 4] (on2 subI)) (setT 3)))))) (fun i ρ => ∃ l1 l2 x, ρ = [some (.int l.sum), some (.int (num l2 l2.sum)), some (.list (l1.map .int)), some (.int l2.sum), x] ∧ l1 ++ l2 = l ∧ l1.length = i) (fun ρ => ∃ n x y, ρ = [some (.int l.sum), n, some (.list (l.map .int)), x, y]) 60 (fun i ρ ⟨l1, l2, x, e, e1, e2⟩ => by
      subst e
      have hlen := hl.len
      have hl2 : Line l2 := fun z hz => hl z (e1 ▸ List.mem_append_right _ hz)
      have hl1 : Line l1 := fun z hz => hl z (e1 ▸ List.mem_append_left _ hz)
      have hsum : l1.sum + l2.sum = l.sum := by rw [← e1, List.sum_append]
      have p1 := hl1.sum
      have hi : i ≤ 60 := by
        have : l1.length ≤ l.length := by rw [← e1, List.length_append]; omega
        omega
      refine ⟨hi, ?_⟩
      cases l2 with
      | nil =>
        rw [List.append_nil] at e1
        subst e1
        exact .inl ⟨[some (.int l1.sum), some (.int 0), some (.list (l1.map .int)), some (.int 0), x], by simp [num], _, _, _, rfl⟩
      | cons h r =>
        have hp := Line.pos hl2
        have hp' : 0 < (h :: r).sum := by omega
        obtain ⟨ρ', e3, e4⟩ := at_height h r l.sum (.list (l1.map .int)) hl2 (by omega)
        subst e4
        have hr : (h :: r).sum - h = r.sum := by simp; omega
        have hll : l1.length < 16777216 := by omega
        generalize hS : (h :: r).sum = S at *
        refine .inr ⟨[some (.int l.sum), some (.int (num (h :: r) S)), some (.list (l1.map .int)), some (.int S), x], [some (.int l.sum), some (.int (num r r.sum)), some (.list ((l1 ++ [h]).map .int)), some (.int r.sum), some (.int h)], by simp [hp'], .inl ?_, l1 ++ [h], r, some (.int h), rfl, by simpa using e1, by simp [e2]⟩
        simp [e3, appO_ok, hll, hr]) 100 0 [some (.int l.sum), some (.int (num l l.sum)), some (.list []), some (.int l.sum), none] (by omega) ⟨[], l, none, rfl, rfl, rfl⟩
  obtain ⟨ρ', e, n, x, y, e2⟩ := lp
  subst e2
  simp [F_at_in, runF_a, b_at_in, e]
theorem plain_line (l : List Int) : (PyData.tuple (l.map .int)).plain = true := by simp [PyData.plain]
theorem line_b {l : List Int} (hl : Line l) (hs : l.sum ≤ 60) : lineB (.tuple (l.map .int)) = true := by
  have h1 : okL (l.map .int) = true := by
    simp only [okL, Bool.and_eq_true, decide_eq_true_eq, List.all_eq_true, List.mem_map]
    have := hl.len
    refine ⟨by simp; omega, ?_⟩
    rintro d ⟨h, hm, e⟩
    subst e
    have := hl h hm
    have := hl.le h hm
    simp [wholeB]
    omega
  simp [lineB, h1, hs]
theorem e_need_line (l : List Int) (hl : Line l) (hs : l.sum ≤ 60) : F_need_line [.tuple (l.map .int)] = .ok .none := by
  simp [F_need_line, runF_a, b_need_line, e_fits_line _ (plain_line l), line_b hl hs]
theorem e_need_stones (s : Int) (h0 : 0 ≤ s) (h : s ≤ 60) : F_need_stones [.int s] = .ok .none := by
  simp [F_need_stones, runF_a, b_need_stones, e_need_whole _ _ _ h0 h]
theorem e_is_line (d : Dt) (h : d.plain = true) : F_is_line [d] = .ok (.bool (lineB d)) := by
  simp [F_is_line, runF_a, b_is_line, e_fits_line _ h]
theorem e_count_lines (s : Int) (h0 : 0 ≤ s) (h : s ≤ 60) : F_count_lines [.int s] = .ok (.int (cnt s)) := by
  simp [F_count_lines, runF_a, b_count_lines, e_need_stones _ h0 h, e_count_in s (by omega)]
theorem e_num (l : List Int) (hl : Line l) (hs : l.sum ≤ 60) : F_number_in [.tuple (l.map .int)] = .ok (.int (num l l.sum)) :=
  e_number_in l (by omega) fun h hm => by
    have := hl h hm
    have := hl.le h hm
    omega
theorem e_number_of_line (l : List Int) (hl : Line l) (hs : l.sum ≤ 60) : F_number_of_line [.tuple (l.map .int)] = .ok (.int (num l l.sum)) := by
  simp [F_number_of_line, runF_a, b_number_of_line, e_need_line _ hl hs, e_num _ hl hs]
theorem tupleD_l (ds : List Dt) : tupleD (.list ds) = some (.tuple ds) := (rfl)
theorem e_line_at (l : List Int) (hl : Line l) (hs : l.sum ≤ 60) : F_line_at [.int l.sum, .int (num l l.sum)] = .ok (.tuple (l.map .int)) := by
  have nl := num_lt hl
  have h1 : num l l.sum ≤ cnt l.sum - 1 := by omega
  simp [F_line_at, runF_a, b_line_at, e_need_stones _ hl.sum hs, e_count_in l.sum (by omega), e_need_whole _ _ _ nl.2 h1, e_at_in l hl hs, tupleD_l]
/-- the next line: one more, where there is one -/
theorem e_next_line (l : List Int) (hl : Line l) (hs : l.sum ≤ 60) : (num l l.sum + 1 = cnt l.sum ∧ F_next_line [.tuple (l.map .int)] = .ok .none) ∨ ∃ m, Line m ∧ m.sum = l.sum ∧ num m m.sum = num l l.sum + 1 ∧ F_next_line [.tuple (l.map .int)] = .ok (.tuple (m.map .int)) := by
  have nl := num_lt hl
  have p := hl.sum
  by_cases h : num l l.sum + 1 < cnt l.sum
  · obtain ⟨m, q1, q2, q3⟩ := num_onto l.sum.toNat (num l l.sum + 1) (by omega) (by rw [Int.toNat_of_nonneg p]; exact h)
    rw [Int.toNat_of_nonneg p] at q2
    refine .inr ⟨m, q1, q2, q3, ?_⟩
    have ea := e_at_in m q1 (by omega)
    rw [q3, q2] at ea
    simp [F_next_line, runF_a, b_next_line, e_need_line _ hl hs, e_num _ hl hs, e_count_in l.sum (by omega), h, ea, tupleD_l]
  · refine .inl ⟨by omega, ?_⟩
    simp [F_next_line, runF_a, b_next_line, e_need_line _ hl hs, e_num _ hl hs, e_count_in l.sum (by omega), h]
end K63

/-! part K63_r -/
set_option Elab.async false
set_option linter.all false
set_option maxRecDepth 100000
set_option maxHeartbeats 4000000
namespace K63
open PySem PySem.Spec L2 PySem.W Vs
theorem l_cup : F__law_cup = FL_cup := rfl
theorem l_roll : F__law_roll = FL_roll := rfl
theorem l_some : F__law_some = FL_some := rfl
theorem l_sort : F__law_sort = FL_sort := rfl
theorem l_like : ∀ n, F__law_like n = FL_like n
  | 0 => rfl
  | n + 1 => by
    show runF (b__law_like (F__law_like n)) 5 = runF (bL_like (FL_like n)) 5
    rw [l_like n]
    rfl
/-- a bent whole number -/
theorem e_bent1 (n : Nat) {c : Dt} (hc : Cup c) (i : Int) : ∃ v c', F__law_bent (n + 1) c [.int i] = .ok (v, c') ∧ Cup c' ∧ smallD v = true := by
  have e1 := e_sort (.int i) (fun k e => nomatch e)
  have hc1 : catL (.list [.none, .bool true, .bool false, .int 0, .int 1, .int 2, .int 3, .int (-1), .int 60, .int 61, .str "", .str "1", .tuple [], .list [], .tuple [.int 1], .tuple [.int 0, .int 1]]) (.list [.int (i + 1), .int (i + 1), .int (i - 1)]) = some (.list ([.none, .bool true, .bool false, .int 0, .int 1, .int 2, .int 3, .int (-1), .int 60, .int 61, .str "", .str "1", .tuple [], .list [], .tuple [.int 1], .tuple [.int 0, .int 1]] ++ [.int (i + 1), .int (i + 1), .int (i - 1)])) := catL_a _ _ (by simp)
  obtain ⟨v, c', e, q, hv⟩ := e_some hc ([.none, .bool true, .bool false, .int 0, .int 1, .int 2, .int 3, .int (-1), .int 60, .int 61, .str "", .str "1", .tuple [], .list [], .tuple [.int 1], .tuple [.int 0, .int 1]] ++ [.int (i + 1), .int (i + 1), .int (i - 1)]) (by simp) (by simp)
  refine ⟨v, c', ?_, q, ?_⟩
  · simp only [List.cons_append, List.nil_append] at e hc1
    simp [F__law_bent, runG_a, b__law_bent, l_sort, l_some, e1, sortN, hc1, e, PyData.isTuple]
  · exact Vs.small_mem (by simp [smallA, smallD]) v hv
theorem small_app {xs ys : List Dt} (h1 : smallA xs = true) (h2 : smallA ys = true) : smallA (xs ++ ys) = true := small_of fun d hd => (List.mem_append.mp hd).elim (small_mem h1 d) (small_mem h2 d)
theorem small_take {xs : List Dt} (n : Nat) (h1 : smallA xs = true) : smallA (xs.take n) = true := small_of fun d hd => small_mem h1 d (List.mem_of_mem_take hd)
theorem small_drop {xs : List Dt} (n : Nat) (h1 : smallA xs = true) : smallA (xs.drop n) = true := small_of fun d hd => small_mem h1 d (List.mem_of_mem_drop hd)
theorem small_rev {xs : List Dt} (h1 : smallA xs = true) : smallA xs.reverse = true := small_of fun d hd => small_mem h1 d (List.mem_reverse.mp hd)
theorem small_tupD {ds : List Dt} (h : ds.length ≤ 1000000) (h2 : smallA ds = true) : smallD (.tuple ds) = true := by simp [smallD, h, h2]
theorem small_listD {ds : List Dt} (h : ds.length ≤ 1000000) (h2 : smallA ds = true) : smallD (.list ds) = true := by simp [smallD, h, h2]
mutual
theorem small_plain : ∀ d : Dt, smallD d = true → d.plain = true
  | .none, _ => rfl
  | .bool _, _ => rfl
  | .int _, _ => rfl
  | .str _, _ => rfl
  | .list ds, h => by
    simp only [smallD, Bool.and_eq_true] at h
    simp only [PyData.plain]
    exact smallA_plain ds h.2
  | .tuple ds, h => by
    simp only [smallD, Bool.and_eq_true] at h
    simp only [PyData.plain]
    exact smallA_plain ds h.2
  | .dict k, h => by simp [smallD] at h
theorem smallA_plain : ∀ ds : List Dt, smallA ds = true → PyData.plainAll ds = true
  | [], _ => rfl
  | d :: ds, h => by
    simp only [smallA, Bool.and_eq_true] at h
    simp only [PyData.plainAll, Bool.and_eq_true]
    exact ⟨small_plain d h.1, smallA_plain ds h.2⟩
end
/-- a bent tuple of whole numbers -/
theorem e_bent2 (n : Nat) {c : Dt} (hc : Cup c) (ns : List Int) (hl : ns.length < 1000) : ∃ v c', F__law_bent (n + 2) c [.tuple (ns.map .int)] = .ok (v, c') ∧ Cup c' ∧ smallD v = true := by
  have e1 := e_sort (.tuple (ns.map .int)) (fun k e => nomatch e)
  have hp := plain_ints ns
  have hsm := small_ints ns
  have hlen : (ns.map PyData.int).length < 1000 := by simpa using hl
  have pick : ∀ {c : Dt}, Cup c → ∃ v c', FL_some c [.list [.none, .bool true, .bool false, .int 0, .int 1, .int 2, .int 3, .int (-1), .int 60, .int 61, .str "", .str "1", .tuple [], .list [], .tuple [.int 1], .tuple [.int 0, .int 1]]] = .ok (v, c') ∧ Cup c' ∧ smallD v = true := fun hc => by
    obtain ⟨v, c', e, q, hv⟩ := e_some hc [.none, .bool true, .bool false, .int 0, .int 1, .int 2, .int 3, .int (-1), .int 60, .int 61, .str "", .str "1", .tuple [], .list [], .tuple [.int 1], .tuple [.int 0, .int 1]] (by simp) (by simp)
    exact ⟨v, c', e, q, Vs.small_mem (by simp [smallA, smallD]) v hv⟩
  have hE := eqD_nil_t (ns.map .int) hp
  by_cases h0 : (ns.map PyData.int).isEmpty = true
  · obtain ⟨v, c', e, q, hv⟩ := pick hc
    refine ⟨v, c', ?_, q, hv⟩
    rw [h0] at hE
    simp [F__law_bent, runG_a, b__law_bent, l_sort, l_some, e1, sortN, e, hE, PyData.isTuple]
  · have h0' : (ns.map PyData.int).isEmpty = false := by simpa using h0
    rw [h0'] at hE
    obtain ⟨r, c1, er, q1, r0, r1⟩ := e_roll hc 8 (by omega) (by omega)
    by_cases hr : r = 0
    · obtain ⟨v, c', e, q, hv⟩ := pick q1
      refine ⟨v, c', ?_, q, hv⟩
      simp [F__law_bent, runG_a, b__law_bent, l_sort, l_some, l_roll, e1, sortN, e, hE, er, hr, PyData.isTuple]
    · have hpos : 0 < (ns.map PyData.int).length := by
        rw [List.isEmpty_eq_false_iff] at h0'
        exact List.length_pos_iff.mpr h0'
      obtain ⟨a, c2, ea, q2, a0, a1⟩ := e_roll q1 (ns.map PyData.int).length (by omega) (by omega)
      obtain ⟨y, c3, ey, q3, y0, y1⟩ := e_roll q2 12 (by omega) (by omega)
      generalize hds : ns.map PyData.int = ds at *
      have sB := slB_t ds a a0
      have sA := slA_t ds a a0
      have sB1 := slB_t ds (a + 1) (by omega)
      have sA1 := slA_t ds (a + 1) (by omega)
      have base : ∀ (v : Dt) (c' : Dt), Cup c' → smallD v = true → F__law_bent (n + 2) c [.tuple ds] = .ok (v, c') → ∃ v c', F__law_bent (n + 2) c [.tuple ds] = .ok (v, c') ∧ Cup c' ∧ smallD v = true := fun v c' h1 h2 h3 => ⟨v, c', h3, h1, h2⟩
      by_cases y0' : y = 0
      · refine base (.tuple (ds.take a.toNat ++ ds.drop (a + 1).toNat)) c3 q3 (small_tupD (by rw [List.length_append, List.length_take, List.length_drop]; omega) (small_app (small_take _ hsm) (small_drop _ hsm))) ?_
        have pl := plusD_t (ds.take a.toNat) (ds.drop (a + 1).toNat) (by rw [List.length_take, List.length_drop]; omega)
        simp [F__law_bent, runG_a, b__law_bent, l_sort, l_some, l_roll, e1, sortN, hE, er, hr, ea, ey, y0', sB, sA1, pl, PyData.isTuple]
      by_cases y1' : y = 1
      · refine base (.tuple (ds.take (a + 1).toNat ++ ds.drop a.toNat)) c3 q3 (small_tupD (by rw [List.length_append, List.length_take, List.length_drop]; omega) (small_app (small_take _ hsm) (small_drop _ hsm))) ?_
        have pl := plusD_t (ds.take (a + 1).toNat) (ds.drop a.toNat) (by rw [List.length_take, List.length_drop]; omega)
        simp [F__law_bent, runG_a, b__law_bent, l_sort, l_some, l_roll, e1, sortN, hE, er, hr, ea, ey, y0', y1', sB1, sA, pl, PyData.isTuple]
      by_cases y2' : y = 2
      · refine base (.list ds) c3 q3 (small_listD (by omega) hsm) ?_
        simp [F__law_bent, runG_a, b__law_bent, l_sort, l_some, l_roll, e1, sortN, hE, er, hr, ea, ey, y0', y1', y2', PyData.isTuple]
      by_cases y3' : y = 3
      · refine base (.tuple ds.reverse) c3 q3 (small_tupD (by rw [List.length_reverse]; omega) (small_rev hsm)) ?_
        simp [F__law_bent, runG_a, b__law_bent, l_sort, l_some, l_roll, e1, sortN, hE, er, hr, ea, ey, y0', y1', y2', y3', PyData.isTuple]
      have ha : a.toNat < ns.length := by rw [← hds] at a1; simp at a1; omega
      have hx := ixD_tat ds a a0 (.int ns[a.toNat]) (by rw [← hds]; simp [ha])
      obtain ⟨v, c4, ev, q4, hv⟩ := e_bent1 n q3 ns[a.toNat]
      refine base (.tuple (ds.take a.toNat ++ [v] ++ ds.drop (a + 1).toNat)) c4 q4 ?_ ?_
      · exact small_tupD (by rw [List.length_append, List.length_append, List.length_take, List.length_drop]; simp; omega) (small_app (small_app (small_take _ hsm) (by simp [smallA, hv])) (small_drop _ hsm))
      have p1 := plusD_t (ds.take a.toNat) [v] (by rw [List.length_take]; simp; omega)
      have p2 := plusD_t (ds.take a.toNat ++ [v]) (ds.drop (a + 1).toNat) (by rw [List.length_append, List.length_take, List.length_drop]; simp; omega)
      have un : F__law_bent (n + 2) = runG (b__law_bent (F__law_bent (n + 1))) 5 := rfl
      rw [un]
      simp [runG_a, b__law_bent, l_sort, l_some, l_roll, e1, sortN, hE, er, hr, ea, ey, y0', y1', y2', y3', hx, ev, sB, sA1, p1, p2, PyData.isTuple, -List.append_assoc]
end K63

/-! part K63_s -/
set_option Elab.async false
set_option linter.all false
set_option maxRecDepth 100000
set_option maxHeartbeats 4000000
namespace K63
open PySem PySem.Spec L2 PySem.W Vs
/-! ### _law_line_of -/
theorem e_line_of {c : Dt} (hc : Cup c) (s : Int) (h0 : 0 ≤ s) (h : s ≤ 60) : ∃ l c', F__law_line_of c [.int s] = .ok (.tuple (l.map .int), c') ∧ Cup c' ∧ Line l ∧ l.sum = s := by
  obtain ⟨r, c1, er, q1, r0, r1⟩ := e_roll hc 4 (by omega) (by omega)
  have hr2 : rng2 [.int 1, .int s] = some (intsR 1 s) := rng2_a _ _ (by omega)
  have lp := for_inv (t := setT 5) (b := (seqM (iteM (blM (opM [.val (callG F__law_roll 0 [(opM [.val (rt (.int 1)) (.F), .var 2] (on2 addI))]) (.F), .val (rt (.int 0)) (.F)] (on2 eqD)))
     (seqM (appM 3 (getM 4))
     (asgM (rt (.int 0)) (setT 4)))
     nopM)
     (asgM (opM [.var 4, .val (rt (.int 1)) (.F)] (on2 addI)) (setT 4)))) (fun i ρ => ∃ c l h x, ρ = [some c, some (.int s), some (.int (1 + r)), some (.list (l.map .int)), some (.int h), x] ∧ Cup c ∧ Line l ∧ 1 ≤ h ∧ l.sum + h = i + 1) (intsR 1 s) 0 [some c1, some (.int s), some (.int (1 + r)), some (.list []), some (.int 1), none] ⟨c1, [], 1, none, rfl, q1, by simp [Line], by omega, by simp⟩ fun i d ρ hd ⟨c, l, h, x, e, hc, hl, h1, hs⟩ => by
    subst e
    have hi : i < (s - 1).toNat := by
      have := (List.getElem?_eq_some_iff.mp hd).1
      simpa [intsR] using this
    obtain ⟨y, c2, ey, q2, y0, y1⟩ := e_roll hc (1 + (1 + r)) (by omega) (by omega)
    have hll := hl.len
    by_cases hy : y = 0
    · subst hy
      have ha : (l.map PyData.int).length < 16777216 := by simp; omega
      refine ⟨_, [some c2, some (.int s), some (.int (1 + r)), some (.list ((l ++ [h]).map .int)), some (.int 1), some d], rfl, .inl ?_, c2, l ++ [h], 1, some d, rfl, q2, ?_, by omega, ?_⟩
      · simp [l_roll, ey, appO_ok ha]
      · intro z hz
        rcases List.mem_append.mp hz with m | m
        · exact hl z m
        · simp at m; omega
      · simp
        omega
    · refine ⟨_, [some c2, some (.int s), some (.int (1 + r)), some (.list (l.map .int)), some (.int (h + 1)), some d], rfl, .inl ?_, c2, l, h + 1, some d, rfl, q2, hl, by omega, ?_⟩
      · simp [l_roll, ey, hy]
      · push_cast
        omega
  obtain ⟨ρ', e, c3, l, h2, x, e2, hc3, hl, h1, hs⟩ := lp
  have hlen : (intsR 1 s).length = (s - 1).toNat := by simp [intsR]
  rw [hlen] at hs
  subst e2
  rw [l_roll] at e
  by_cases hp : 0 < s
  · refine ⟨l ++ [h2], c3, ?_, hc3, ?_, by simp; omega⟩
    · have hll := hl.len
      have ca := catL_a (l.map .int) [.int h2] (by simp; omega)
      simp [F__law_line_of, runG_a, b__law_line_of, l_roll, er, hr2, e, hp, ca]
    · intro z hz
      rcases List.mem_append.mp hz with m | m
      · exact hl z m
      · simp at m; omega
  · refine ⟨[], c3, ?_, hc3, by simp [Line], by simp; omega⟩
    simp [F__law_line_of, runG_a, b__law_line_of, l_roll, er, hr2, e, hp]
/-! ### _law_cuts -/
def cuts (l : List Int) : List Int := (List.range (l.length - 1)).map fun i => (l.take (i + 1)).sum
theorem e_cuts (l : List Int) (h : l.length < 1000) : F__law_cuts [.tuple (l.map .int)] = .ok (.tuple ((cuts l).map .int)) := by
  have hr : rng2 [.int 1, .int (l.length : Int)] = some (intsR 1 l.length) := rng2_a _ _ (by omega)
  have lc := lc_map (vs := [1]) (it := rngI rng2 [(rt (.int 1)), (opM [.var 0] (on1 lenD))]) (t := setT 1) (e := opM [.val (opM [.var 0, .var 1] (slB1 sliceT)) (.F)] (on1 sumD)) (ρ0 := [some (.tuple (l.map .int)), none]) (ρ := [some (.tuple (l.map .int)), none]) (ρ1 := [some (.tuple (l.map .int)), none]) (ρ' := [some (.tuple (l.map .int)), none]) (ds := intsR 1 l.length)
    (fun d => match d with | .int j => .int (l.take j.toNat).sum | _ => .none) (by simp [hr]) (by simp [intsR]; omega) (by simp [wipeE]) (by simp [backE, wipeE]) fun d hd => by
      simp only [intsR, List.mem_map, List.mem_range] at hd
      obtain ⟨j, hj, ed⟩ := hd
      subst ed
      refine ⟨[some (.tuple (l.map .int)), some (.int (1 + (j : Int)))], [some (.tuple (l.map .int)), some (.int (1 + (j : Int)))], by simp, ?_, by simp [wipeE]⟩
      have sb := slB_t (l.map .int) (1 + (j : Int)) (by omega)
      rw [← List.map_take] at sb
      simp only [op_a, ops_val, ops_var, ops_nil, oge_0, oge_s, obnd_ok, fill_inr, fill_inl, fill_nil, ogo_0, ogo_s, Option.map_some, oop_some, sb, on1_a, sumD_t]
  have e2 : (intsR 1 l.length).map (fun d => match d with | .int j => PyData.int (l.take j.toNat).sum | _ => .none) = (cuts l).map .int := by
    have : ((l.length : Int) - 1).toNat = l.length - 1 := by omega
    simp only [intsR, cuts, List.map_map, this]
    apply List.map_congr_left
    intro i _
    have hi : (1 + (i : Int)).toNat = i + 1 := by omega
    simp only [Function.comp, hi]
  rw [e2] at lc
  simp [F__law_cuts, runF_a, b__law_cuts, lc]
theorem mem_cuts {l : List Int} {x : Int} : x ∈ cuts l ↔ ∃ l1 l2, l = l1 ++ l2 ∧ l1 ≠ [] ∧ l2 ≠ [] ∧ x = l1.sum := by
  unfold cuts
  simp only [List.mem_map, List.mem_range]
  constructor
  · rintro ⟨i, hi, e⟩
    refine ⟨l.take (i + 1), l.drop (i + 1), (List.take_append_drop _ _).symm, fun z => ?_, fun z => ?_, e.symm⟩
    · have := congrArg List.length z
      rw [List.length_take, List.length_nil] at this
      omega
    · have := congrArg List.length z
      rw [List.length_drop, List.length_nil] at this
      omega
  · rintro ⟨l1, l2, e, h1, h2, hx⟩
    have p1 := List.length_pos_iff.mpr h1
    have p2 := List.length_pos_iff.mpr h2
    refine ⟨l1.length - 1, by rw [e, List.length_append]; omega, ?_⟩
    rw [e, hx, show l1.length - 1 + 1 = l1.length by omega, List.take_left]
/-- between two cuts there is none -/
theorem no_cut {l1 r : List Int} {h j : Int} (hl : Line (l1 ++ h :: r)) (h0 : 0 < j) (h1 : j < h) : l1.sum + j ∉ cuts (l1 ++ h :: r) := by
  intro m
  obtain ⟨m1, m2, e, n1, n2, hx⟩ := mem_cuts.mp m
  rcases List.append_eq_append_iff.mp e with ⟨a, e1, e2⟩ | ⟨a, e1, e2⟩
  · cases a with
    | nil =>
      rw [e1] at hx
      simp at hx
      omega
    | cons y a =>
      rw [List.cons_append] at e2
      cases e2
      have : Line a := fun z hz => hl z (by rw [e, e1]; simp [hz])
      have := this.sum
      rw [e1, List.sum_append, List.sum_cons] at hx
      omega
  · have : Line a := fun z hz => hl z (by rw [e1]; simp [hz])
    have := this.sum
    rw [e1, List.sum_append] at hx
    omega
theorem e_law_number (l : List Int) (hl : Line l) (hs : l.sum ≤ 60) : F__law_number [.tuple (l.map .int)] = .ok (.int (num l l.sum)) := by
  have hlen := hl.len
  have hp := hl.sum
  have ec := e_cuts l (by omega)
  have hr : rng2 [.int 1, .int l.sum] = some (intsR 1 l.sum) := rng2_a _ _ (by omega)
  by_cases hnil : l = []
  · subst hnil
    simp [F__law_number, runF_a, b__law_number, ec, num]
    rfl
  obtain ⟨h, r, e0⟩ : ∃ h r, l = h :: r := by
    cases l with
    | nil => exact (hnil rfl).elim
    | cons h r => exact ⟨h, r, rfl⟩
  have lp := for_inv (t := setT 3) (b := (asgM (opM [.val (opM [.val (rt (.int 2)) (.F), .var 1] (on2 mulI)) (.F), .val (ifV (blM (opM [.var 3, .var 2] (on2 inD))) (rt (.int 0)) (rt (.int 1))) (.F)] (on2 addI)) (setT 1)))
    (fun i ρ => ∃ f x, ρ = [some (.tuple (l.map .int)), some (.int f), some (.tuple ((cuts l).map .int)), x] ∧ ∃ (l1 : List Int) (h : Int) (r : List Int) (j : Nat), l = l1 ++ h :: r ∧ (i : Int) = l1.sum + j ∧ (j : Int) < h ∧ num l l.sum = f * 2 ^ (l.sum - 1 - i).toNat + ((skip (h :: r).sum h - skip (h :: r).sum (j + 1)) + num r r.sum))
    (intsR 1 l.sum) 0 [some (.tuple (l.map .int)), some (.int 0), some (.tuple ((cuts l).map .int)), none] ⟨0, none, rfl, [], h, r, 0, e0, by simp, by have := hl h (by rw [e0]; simp); omega, by
      have z := skip_one (h :: r).sum (((0 : Nat) : Int) + 1) (by simp)
      rw [e0, num_sum, z]
      simp⟩ fun i d ρ hd ⟨f, x, e, l1, h, r, j, el, hi, hj, hn⟩ => by
    subst e
    have hil := (List.getElem?_eq_some_iff.mp hd).1
    have hi2 : i < (l.sum - 1).toNat := by simpa [intsR] using hil
    have hdv : d = .int (1 + (i : Int)) := by
      rw [intsR, List.getElem?_map, List.getElem?_range hi2, Option.map_some] at hd
      exact (Option.some.inj hd).symm
    subst hdv
    rw [Nat.zero_add] at *
    have hin := inD_ints_t (1 + (i : Int)) (cuts l)
    have hpow : (l.sum - 1 - (i : Int)).toNat = (l.sum - 1 - ((i + 1 : Nat) : Int)).toNat + 1 := by push_cast; omega
    have hS : l.sum = l1.sum + (h :: r).sum := by rw [el, List.sum_append]
    by_cases hc : (j : Int) + 1 < h
    · have hm : ¬ (1 + (i : Int)) ∈ cuts l := by
        rw [el, show (1 + (i : Int)) = l1.sum + (j + 1) by omega]
        exact no_cut (el ▸ hl) (by omega) hc
      refine ⟨_, [some (.tuple (l.map .int)), some (.int (2 * f + 1)), some (.tuple ((cuts l).map .int)), some (.int (1 + (i : Int)))], rfl, .inl ?_, _, _, rfl, l1, h, r, j + 1, el, by push_cast; omega, by push_cast; omega, ?_⟩
      · simp [mulI_l, hin, hm]
      · rw [hn, hpow, Int.pow_succ]
        have q := skip_succ (h :: r).sum ((j : Int) + 1) (by omega)
        have q2 : cnt ((h :: r).sum - ((j : Int) + 1)) = 2 ^ (l.sum - 1 - ((i + 1 : Nat) : Int)).toNat := by
          have z : ((h :: r).sum - ((j : Int) + 1) - 1).toNat = (l.sum - 1 - ((i + 1 : Nat) : Int)).toNat := by push_cast; omega
          unfold cnt
          rw [z]
        push_cast at *
        rw [q, q2, Int.add_mul, Int.mul_comm 2 f, Int.mul_assoc]
        rw [Int.mul_comm _ 2]
        omega
    · have hh : (j : Int) + 1 = h := by omega
      have hr0 : r ≠ [] := by
        intro z
        subst z
        simp at hS
        omega
      obtain ⟨h', r', er⟩ : ∃ h' r', r = h' :: r' := by
        cases r with
        | nil => exact (hr0 rfl).elim
        | cons a b => exact ⟨a, b, rfl⟩
      have hm : (1 + (i : Int)) ∈ cuts l := mem_cuts.mpr ⟨l1 ++ [h], r, by rw [el]; simp, by simp, hr0, by rw [List.sum_append]; simp; omega⟩
      have hh' := hl h' (by rw [el, er]; simp)
      refine ⟨_, [some (.tuple (l.map .int)), some (.int (2 * f)), some (.tuple ((cuts l).map .int)), some (.int (1 + (i : Int)))], rfl, .inl ?_, _, _, rfl, l1 ++ [h], h', r', 0, by rw [el, er]; simp, by rw [List.sum_append]; push_cast; simp; omega, by push_cast; omega, ?_⟩
      · simp [mulI_l, hin, hm]
      · rw [hn, hpow, Int.pow_succ, hh, er]
        have q := num_sum h' r'
        rw [q]
        have q3 := skip_one (h' :: r').sum (((0 : Nat) : Int) + 1) (by simp)
        rw [q3]
        rw [Int.mul_comm 2 f, Int.mul_assoc, Int.mul_comm _ 2]
        omega
  obtain ⟨ρ', e, f, x, e2, l1, h2, r2, j, el, hi, hj, hn⟩ := lp
  have hlen2 : (intsR 1 l.sum).length = (l.sum - 1).toNat := by simp [intsR]
  have h1 := Line.pos (e0 ▸ hl)
  rw [← e0] at h1
  have hi' : ((0 + (intsR 1 l.sum).length : Nat) : Int) = l.sum - 1 := by rw [hlen2]; omega
  have hz : (l.sum - 1 - ((0 + (intsR 1 l.sum).length : Nat) : Int)).toNat = 0 := by omega
  rw [hz] at hn
  have hS : l.sum = l1.sum + (h2 :: r2).sum := by rw [el, List.sum_append]
  have hr2 : Line r2 := fun z hz => hl z (by rw [el]; simp [hz])
  have hr3 : r2 = [] := by
    cases r2 with
    | nil => rfl
    | cons a b =>
      have := hr2.pos
      simp only [List.sum_cons] at this hS
      omega
  subst hr3
  have hh : (j : Int) + 1 = h2 := by simp at hS; omega
  have hf : num l l.sum = f := by
    rw [hn, hh]
    simp [num]
  subst e2
  simp [F__law_number, runF_a, b__law_number, ec, hr, e, hf]
end K63

/-! part K63_t -/
set_option Elab.async false
set_option linter.all false
set_option maxRecDepth 100000
set_option maxHeartbeats 4000000
namespace K63
open PySem PySem.Spec L2 PySem.W PyProof.Rows Vs
/-! ### _law_is_line -/
def oddH (d : Dt) : Option Dt := match d with
  | .int i => if i < 1 then some d else none
  | _ => some d
theorem odd_none : ∀ {ds : List Dt}, (ds.filterMap oddH).isEmpty = true → ∃ ns : List Int, ds = ns.map .int ∧ Line ns
  | [], _ => ⟨[], rfl, by simp [Line]⟩
  | d :: ds, h => by
    cases e : oddH d with
    | some x => rw [List.filterMap_cons_some e] at h; simp at h
    | none =>
      rw [List.filterMap_cons_none e] at h
      obtain ⟨ns, e2, q⟩ := odd_none h
      subst e2
      cases d with
      | int i =>
        simp only [oddH] at e
        split at e
        · cases e
        · next hi =>
          refine ⟨i :: ns, rfl, fun z hz => ?_⟩
          rcases List.mem_cons.mp hz with m | m
          · omega
          · exact q z m
      | _ => simp [oddH] at e
theorem odd_some {ds : List Dt} (h : (ds.filterMap oddH).isEmpty = false) : (ds.all fun d => wholeB d 1 60) = false := by
  rw [Bool.eq_false_iff]
  intro ha
  obtain ⟨ns, e, q⟩ := whole_ints ha
  subst e
  have : ∀ d ∈ ns.map PyData.int, oddH d = none := fun d hd => by
    obtain ⟨i, hi, e⟩ := List.mem_map.mp hd
    subst e
    have := q i hi
    simp only [oddH]
    rw [if_neg (by omega)]
  rw [List.filterMap_eq_nil_iff.mpr this] at h
  simp at h
theorem oddH_plain {ds : List Dt} (h : PyData.plainAll ds = true) : PyData.plainAll (ds.filterMap oddH) = true := plain_of fun d hd => by
  obtain ⟨x, hx, e⟩ := List.mem_filterMap.mp hd
  have : x = d := by
    unfold oddH at e
    split at e
    · split at e
      · exact Option.some.inj e
      · cases e
    · exact Option.some.inj e
  rw [← this]
  exact Vs.plain_mem h x hx
theorem e_law_is_line (d : Dt) (h : d.plain = true) (hlen : ∀ ds, d = .tuple ds → ds.length ≤ 1000000) : F__law_is_line [d] = .ok (.bool (lineB d)) := by
  have nd := plain_nd h
  cases d with
  | tuple ds =>
    have hp : PyData.plainAll ds = true := by simpa [PyData.plain] using h
    have hl := hlen ds rfl
    have lc : lcM [1] (seqI (getM 0)) (setT 1) (orM (blM (opM [.val (callM F__law_sort [(getM 1)]) (.F), .val (rt (.int 2)) (.F)] (on2 neD))) (blM (opM [.var 1, .val (rt (.int 1)) (.F)] (on2 ltD)))) (getM 1) [some (.tuple ds), none] = .ok (.list (ds.filterMap oddH)) [some (.tuple ds), none] := by
      refine lc_eq oddH (ρ := [some (.tuple ds), none]) (ρ1 := [some (.tuple ds), none]) (by simp) (by omega) (by simp [wipeE]) (by simp [backE, wipeE]) fun d hd => ?_
      have ndd := plain_nd (Vs.plain_mem hp d hd)
      have e1 := e_sort d ndd
      refine ⟨[some (.tuple ds), some d], by simp, ?_⟩
      have yes : ∀ i : Int, sortN d = i → i ≠ 2 → oddH d = some d → (∃ ρ3, (orM (blM (opM [.val (callM F__law_sort [(getM 1)]) (.F), .val (rt (.int 2)) (.F)] (on2 neD))) (blM (opM [.var 1, .val (rt (.int 1)) (.F)] (on2 ltD)))) [some (.tuple ds), some d] = .ok false ρ3 ∧ wipeE [1] ρ3 = [some (.tuple ds), none] ∧ oddH d = none) ∨ ∃ ρ3 x ρ4, (orM (blM (opM [.val (callM F__law_sort [(getM 1)]) (.F), .val (rt (.int 2)) (.F)] (on2 neD))) (blM (opM [.var 1, .val (rt (.int 1)) (.F)] (on2 ltD)))) [some (.tuple ds), some d] = .ok true ρ3 ∧ (getM 1) ρ3 = .ok x ρ4 ∧ wipeE [1] ρ4 = [some (.tuple ds), none] ∧ oddH d = some x := fun i hi h2 ho => by
        refine .inr ⟨[some (.tuple ds), some d], d, [some (.tuple ds), some d], ?_, by simp, by simp [wipeE], ho⟩
        simp [l_sort, e1, hi, h2]
      cases d with
      | int i =>
        by_cases hi : i < 1
        · refine .inr ⟨[some (.tuple ds), some (.int i)], .int i, [some (.tuple ds), some (.int i)], ?_, by simp, by simp [wipeE], by simp [oddH, hi]⟩
          simp [l_sort, e1, sortN, hi]
        · refine .inl ⟨[some (.tuple ds), some (.int i)], ?_, by simp [wipeE], by simp [oddH]; omega⟩
          simp [l_sort, e1, sortN, hi]
      | none => exact yes 0 rfl (by omega) rfl
      | bool b => exact yes 1 rfl (by omega) rfl
      | str b => exact yes 3 rfl (by omega) rfl
      | tuple b => exact yes 4 rfl (by omega) rfl
      | list b => exact yes 5 rfl (by omega) rfl
      | dict b => exact (ndd b rfl).elim
    have ne := neD_nil_l _ (oddH_plain hp)
    cases hb : (ds.filterMap oddH).isEmpty with
    | false =>
      have hk : okL ds = false := by simp only [okL, odd_some hb, Bool.and_false]
      rw [hb] at ne
      simp [F__law_is_line, runF_a, b__law_is_line, PyData.isTuple, lc, ne, lineB, hk]
    | true =>
      obtain ⟨ns, e, q⟩ := odd_none hb
      subst e
      rw [hb] at ne
      have hres : lineB (.tuple (ns.map .int)) = decide (ns.sum ≤ 60) := by
        by_cases hs : ns.sum ≤ 60
        · rw [line_b q hs]; simp [hs]
        · simp only [lineB, intsOf_map, hs, decide_false]
          split <;> rfl
      rw [hres]
      simp [F__law_is_line, runF_a, b__law_is_line, PyData.isTuple, lc, ne, -List.filterMap_map]
  | dict k => exact (nd k rfl).elim
  | _ => simp [F__law_is_line, runF_a, b__law_is_line, PyData.isTuple, lineB]
/-! ### the order -/
def lexI : List Int → List Int → Bool
  | [], [] => false
  | [], _ :: _ => true
  | _ :: _, [] => false
  | x :: xs, y :: ys => if x = y then lexI xs ys else decide (x < y)
theorem lex_ints : ∀ (xs ys : List Int), PyProof.Rows.lexLt itemOrd (keyToksAll (xs.map .int)) (keyToksAll (ys.map .int)) = lexI xs ys
  | [], [] => by simp only [List.map_nil]; rw [lex_irrefl]; rfl
  | [], y :: ys => by
    simp only [List.map_nil, List.map_cons, lexI]
    first | rfl | decide | (simp [keyToks, keyToksAll, lex_cons, lex_irrefl, itemLt]; done)
  | x :: xs, [] => by
    simp only [List.map_nil, List.map_cons, lexI]
    first | rfl | decide | (simp [keyToks, keyToksAll, lex_cons, lex_irrefl, itemLt]; done)
  | x :: xs, y :: ys => by
    simp only [List.map_cons, lexI]
    by_cases h : x = y
    · rw [if_pos h, dataLt_all_yes (by simp [alike]) (by simp [PyData.eqv, h]), lex_ints xs ys]
    · rw [if_neg h, dataLt_all_no (by simp [alike]) (by simp [PyData.eqv, h]), dataLt_int]
theorem lt_ints (xs ys : List Int) : dataLt (.tuple (xs.map .int)) (.tuple (ys.map .int)) = lexI xs ys := by rw [dataLt_tuple, lex_ints]
theorem lexI_asym : ∀ {xs ys : List Int}, lexI xs ys = true → lexI ys xs = false
  | [], [], _ => rfl
  | [], _ :: _, _ => rfl
  | _ :: _, [], h => by simp [lexI] at h
  | x :: xs, y :: ys, h => by
    simp only [lexI] at h ⊢
    by_cases e : x = y
    · rw [if_pos e] at h
      rw [if_pos e.symm]
      exact lexI_asym h
    · rw [if_neg e] at h
      rw [if_neg fun z => e z.symm]
      simp at h ⊢
      omega
theorem num_lex : ∀ {l m : List Int}, Line l → Line m → l.sum = m.sum → num l l.sum < num m m.sum → lexI l m = true
  | [], [], _, _, _, h => by simp at h
  | [], b :: m, _, hm, e, h => rfl
  | a :: l, [], hl, _, e, h => by
    have := hl.pos
    simp only [List.sum_nil] at e
    omega
  | a :: l, b :: m, hl, hm, e, h => by
    simp only [lexI]
    have e1 := num_sum a l
    have e2 := num_sum b m
    have ha := hl.head
    have hb := hm.head
    have nl := num_lt hl.tail
    have nm := num_lt hm.tail
    by_cases hab : a = b
    · rw [if_pos hab]
      subst hab
      have e3 : l.sum = m.sum := by simpa using e
      refine num_lex hl.tail hm.tail e3 ?_
      have q : skip (a :: l).sum a = skip (a :: m).sum a := by rw [e]
      omega
    · rw [if_neg hab]
      simp only [decide_eq_true_eq]
      by_cases hlt : a < b
      · exact hlt
      · exfalso
        have q1 := skip_le (a :: l).sum (a := b + 1) (b := a) (by omega) (by omega)
        have q2 := skip_succ (a :: l).sum b hb
        have q3 : (a :: l).sum - b = m.sum := by rw [e]; simp; omega
        rw [q3] at q2
        rw [e] at q1 q2 e1
        rw [e] at h
        omega
theorem num_inj : ∀ {l m : List Int}, Line l → Line m → l.sum = m.sum → num l l.sum = num m m.sum → l = m
  | [], [], _, _, _, _ => rfl
  | [], b :: m, _, hm, e, h => by
    have := hm.pos
    simp only [List.sum_nil] at e
    omega
  | a :: l, [], hl, _, e, h => by
    have := hl.pos
    simp only [List.sum_nil] at e
    omega
  | a :: l, b :: m, hl, hm, e, h => by
    have e1 := num_sum a l
    have e2 := num_sum b m
    have ha := hl.head
    have hb := hm.head
    have nl := num_lt hl.tail
    have nm := num_lt hm.tail
    have hab : a = b := by
      apply Classical.byContradiction
      intro ne
      rcases Int.lt_or_gt_of_ne ne with z | z
      · have q1 := skip_le (b :: m).sum (a := a + 1) (b := b) (by omega) (by omega)
        have q2 := skip_succ (b :: m).sum a ha
        have q3 : (b :: m).sum - a = l.sum := by rw [← e]; simp; omega
        rw [q3] at q2
        rw [e] at e1 h
        omega
      · have q1 := skip_le (a :: l).sum (a := b + 1) (b := a) (by omega) (by omega)
        have q2 := skip_succ (a :: l).sum b hb
        have q3 : (a :: l).sum - b = m.sum := by rw [e]; simp; omega
        rw [q3] at q2
        rw [e] at q1 q2 e1 h
        omega
    subst hab
    have e3 : l.sum = m.sum := by simpa using e
    rw [num_inj hl.tail hm.tail e3 (by rw [e] at e1 h; omega)]
theorem alike_tups (xs ys : List Int) : alike (.tuple (xs.map .int)) (.tuple (ys.map .int)) = true := by
  simp only [alike]
  exact alike_ints xs ys
theorem leD_ints (xs ys : List Int) : leD (.tuple (xs.map .int)) (.tuple (ys.map .int)) = some (.bool (!lexI ys xs)) := by
  have h : cmpOk (.tuple (xs.map .int)) (.tuple (ys.map .int)) = true := by
    simp only [cmpOk, alike_tups, Bool.and_true]
    simp [PyData.plain, depth_t, nonB]
  show (if cmpOk (.tuple (xs.map .int)) (.tuple (ys.map .int)) then some (PyData.bool (!dataLt (.tuple (ys.map .int)) (.tuple (xs.map .int)))) else none) = _
  rw [if_pos h, lt_ints]
mutual
theorem eqv_self : ∀ d : Dt, d.plain = true → PyData.eqv d d = true
  | .none, _ => rfl
  | .bool b, _ => by simp [PyData.eqv]
  | .int b, _ => by simp [PyData.eqv]
  | .str b, _ => by simp [PyData.eqv]
  | .list ds, h => by
    simp only [PyData.eqv]
    exact eqv_selfA ds (by simpa [PyData.plain] using h)
  | .tuple ds, h => by
    simp only [PyData.eqv]
    exact eqv_selfA ds (by simpa [PyData.plain] using h)
  | .dict k, h => by simp [PyData.plain] at h
theorem eqv_selfA : ∀ ds : List Dt, PyData.plainAll ds = true → PyData.eqvAll ds ds = true
  | [], _ => rfl
  | d :: ds, h => by
    simp only [PyData.plainAll, Bool.and_eq_true] at h
    simp only [PyData.eqvAll, Bool.and_eq_true]
    exact ⟨eqv_self d h.1, eqv_selfA ds h.2⟩
end
theorem neD_b (a b : Bool) : neD (.bool a) (.bool b) = some (.bool (a != b)) := by
  rw [neD_p _ _ rfl rfl (by simp [PyData.depth])]
  simp only [PyData.eqv]
  rfl
end K63

/-! part K63_u -/
set_option Elab.async false
set_option linter.all false
set_option maxRecDepth 100000
set_option maxHeartbeats 4000000
namespace K63
open PySem PySem.Spec L2 PySem.W PyProof.Rows Vs
abbrev tup (l : List Int) : Dt := .tuple (l.map .int)
/-! ### all lines of a few stones -/
def linesF : Nat → Nat → List (List Int)
  | 0, _ => []
  | n + 1, s => if s = 0 then [[]] else ((List.range s).map fun i => (linesF n (s - (i + 1))).map fun l => ((i : Int) + 1) :: l).flatten
theorem linesF_len : ∀ n s : Nat, n < 13 → s < 10 → (linesF n s).length ≤ 512 := by
  have : ((List.range 13).all fun n => (List.range 10).all fun s => decide ((linesF n s).length ≤ 512)) = true := by decide +kernel
  intro n s hn hs
  have h1 := List.all_eq_true.mp this n (List.mem_range.mpr hn)
  have h2 := List.all_eq_true.mp h1 s (List.mem_range.mpr hs)
  exact of_decide_eq_true h2
theorem lines_short : ∀ n s : Nat, n < 13 → s < 10 → ∀ l ∈ linesF n s, l.length ≤ 10 := by
  have : ((List.range 13).all fun n => (List.range 10).all fun s => (linesF n s).all fun l => decide (l.length ≤ 10)) = true := by decide +kernel
  intro n s hn hs l hl
  have h1 := List.all_eq_true.mp this n (List.mem_range.mpr hn)
  have h2 := List.all_eq_true.mp h1 s (List.mem_range.mpr hs)
  exact of_decide_eq_true (List.all_eq_true.mp h2 l hl)
theorem e_lines : ∀ (n s : Nat), n < 13 → s < 10 → s < n → F__law_lines n [.int s] = .ok (.list ((linesF n s).map tup))
  | 0, s, _, _, h => by omega
  | n + 1, s, hn, hs, h => by
    by_cases h0 : s = 0
    · subst h0
      have e0 : eqD (.int ((0 : Nat) : Int)) (.int 0) = some (.bool true) := rfl
      have q : linesF (n + 1) 0 = [[]] := rfl
      rw [q]
      simp [F__law_lines, runF_a, b__law_lines]
    · have hs0 : ¬ ((s : Int) = 0) := by omega
      have hr : rng2 [.int 1, .int ((s : Int) + 1)] = some (intsR 1 ((s : Int) + 1)) := rng2_a _ _ (by omega)
      have total := linesF_len (n + 1) s hn hs
      have hL : linesF (n + 1) s = ((List.range s).map fun i => (linesF n (s - (i + 1))).map fun l => ((i : Int) + 1) :: l).flatten := by rw [linesF, if_neg h0]
      generalize hP : ((List.range s).map fun i => (linesF n (s - (i + 1))).map fun l => ((i : Int) + 1) :: l) = P at *
      have hPl : P.length = s := by rw [← hP]; simp
      have part : ∀ i, ((P.take i).flatten).length ≤ 512 := fun i => by
        have : P.flatten.length = ((P.take i).flatten).length + ((P.drop i).flatten).length := by
          rw [← List.length_append, ← List.flatten_append, List.take_append_drop]
        rw [← hL] at this
        omega
      have lp := for_inv (t := setT 2) (b := (asgM (opM [.var 1, .val (lcM [3] (seqI (callM (F__law_lines n) [(opM [.var 0, .var 2] (on2 subI))])) (setT 3) (rt true) (opM [.val (tupleM [(getM 2)]) (.F), .var 3] (on2 plusD))) (.O .F)] (on2 catL)) (setT 1)))
        (fun i ρ => ∃ x y, ρ = [some (.int s), some (.list (((P.take i).flatten).map tup)), x, y]) (intsR 1 ((s : Int) + 1)) 0 [some (.int s), some (.list []), none, none] ⟨none, none, rfl⟩ fun i d ρ hd ⟨x, y, e⟩ => by
          subst e
          have hil := (List.getElem?_eq_some_iff.mp hd).1
          have hi : i < s := by simpa [intsR] using hil
          have hi2 : i < ((s : Int) + 1 - 1).toNat := by omega
          rw [intsR, List.getElem?_map, List.getElem?_range hi2, Option.map_some] at hd
          have hd := (Option.some.inj hd).symm
          subst hd
          have ih := e_lines n (s - (i + 1)) (by omega) (by omega) (by omega)
          have ec : (((s - (i + 1) : Nat)) : Int) = (s : Int) - (1 + i) := by omega
          rw [ec] at ih
          have hPi : P[i]? = some ((linesF n (s - (i + 1))).map fun l => ((i : Int) + 1) :: l) := by rw [← hP]; simp [hi]
          have l1 := linesF_len n (s - (i + 1)) (by omega) (by omega)
          have lc := lc_map (vs := [3]) (it := seqI (callM (F__law_lines n) [(opM [.var 0, .var 2] (on2 subI))])) (t := setT 3) (e := opM [.val (tupleM [(getM 2)]) (.F), .var 3] (on2 plusD))
            (ρ0 := [some (.int s), some (.list (((P.take (0 + i)).flatten).map tup)), some (.int (1 + (i : Int))), y]) (ρ := [some (.int s), some (.list (((P.take (0 + i)).flatten).map tup)), some (.int (1 + (i : Int))), y]) (ρ1 := [some (.int s), some (.list (((P.take (0 + i)).flatten).map tup)), some (.int (1 + (i : Int))), none]) (ρ' := [some (.int s), some (.list (((P.take (0 + i)).flatten).map tup)), some (.int (1 + (i : Int))), y]) (ds := (linesF n (s - (i + 1))).map tup)
            (fun d => match d with | .tuple ds => .tuple (.int (1 + (i : Int)) :: ds) | _ => .none) (by simp [ih]) (by simp; omega) (by simp [wipeE]) (by simp [backE, wipeE]) fun d hd => by
              obtain ⟨l, hl, e⟩ := List.mem_map.mp hd
              subst e
              refine ⟨[some (.int s), some (.list (((P.take (0 + i)).flatten).map tup)), some (.int (1 + (i : Int))), some (tup l)], [some (.int s), some (.list (((P.take (0 + i)).flatten).map tup)), some (.int (1 + (i : Int))), some (tup l)], by simp, ?_, by simp [wipeE]⟩
              have hlen := lines_short n (s - (i + 1)) (by omega) (by omega) l hl
              have pl := plusD_t [.int (1 + (i : Int))] (l.map .int) (by simp; omega)
              simp [pl]
          have e2 : ((linesF n (s - (i + 1))).map tup).map (fun d => match d with | .tuple ds => PyData.tuple (.int (1 + (i : Int)) :: ds) | _ => .none) = ((linesF n (s - (i + 1))).map fun l => ((i : Int) + 1) :: l).map tup := by
            rw [List.map_map, List.map_map]
            apply List.map_congr_left
            intro l _
            simp [tup, Int.add_comm]
          rw [e2] at lc
          have pa := part i
          have ca := catL_a (((P.take (0 + i)).flatten).map tup) (((linesF n (s - (i + 1))).map fun l => ((i : Int) + 1) :: l).map tup) (by rw [List.length_map, List.length_map, List.length_map, Nat.zero_add]; omega)
          have pt : P.take (0 + i + 1) = P.take (0 + i) ++ [(linesF n (s - (i + 1))).map fun l => ((i : Int) + 1) :: l] := by
            rw [Nat.zero_add, List.take_add_one, hPi]
            rfl
          refine ⟨_, [some (.int s), some (.list (((P.take (0 + i + 1)).flatten).map tup)), some (.int (1 + (i : Int))), y], rfl, .inl ?_, _, _, rfl⟩
          rw [pt, List.flatten_append, List.map_append]
          simp only [List.flatten_cons, List.flatten_nil, List.append_nil]
          simp only [asg_a, op_a, ops_var, ops_val, ops_nil, List.set_cons_succ, List.set_cons_zero, oge_s, oge_0, lc, obnd_ok, fill_inr, fill_inl, fill_nil, ogo_s, ogo_0, Option.map_some, oop_some, on2_a, ca, sto_a, setT_a]
      obtain ⟨ρ', e, x, y, e2⟩ := lp
      have hlen : (intsR 1 ((s : Int) + 1)).length = s := by simp [intsR]
      have hPt : P.take s = P := by rw [← hPl, List.take_length]
      rw [hlen, Nat.zero_add, hPt] at e2
      subst e2
      rw [hL]
      simp [F__law_lines, runF_a, b__law_lines, h0, hr, e]
/-- what is to be known of the few -/
def chk (s : Nat) : Bool := decide ((linesF 12 s).length = (cnt s).toNat) && ((linesF 12 s).zipIdx.all fun p => p.1.all (fun h => decide (1 ≤ h)) && decide (p.1.sum = (s : Int)) && decide (num p.1 p.1.sum = (p.2 : Int)))
theorem chk_all : ∀ s : Nat, s < 10 → chk s = true := by
  have : ((List.range 10).all chk) = true := by decide +kernel
  intro s hs
  exact List.all_eq_true.mp this s (List.mem_range.mpr hs)
theorem few (s : Nat) (hs : s < 10) : (linesF 12 s).length = (cnt s).toNat ∧ ∀ (k : Nat) (l : List Int), (linesF 12 s)[k]? = some l → Line l ∧ l.sum = s ∧ num l l.sum = k := by
  have h := chk_all s hs
  simp only [chk, Bool.and_eq_true, decide_eq_true_eq] at h
  refine ⟨h.1, fun k l hk => ?_⟩
  have hm : (l, k) ∈ (linesF 12 s).zipIdx := by
    rw [List.mem_zipIdx_iff_getElem?]
    exact hk
  have := List.all_eq_true.mp h.2 _ hm
  simp only [Bool.and_eq_true, decide_eq_true_eq, List.all_eq_true] at this
  exact ⟨fun z hz => this.1.1 z hz, this.1.2, this.2⟩
end K63

/-! part K63_v -/
set_option Elab.async false
set_option linter.all false
set_option maxRecDepth 100000
set_option maxHeartbeats 4000000
namespace K63
open PySem PySem.Spec L2 PySem.W PyProof.Rows Vs
/-! ### _law_all_right -/
theorem plain_tups (L : List (List Int)) : PyData.plainAll (L.map tup) = true := plain_of fun d hd => by
  obtain ⟨l, _, e⟩ := List.mem_map.mp hd
  subst e
  exact plain_line l
theorem depth_tups (L : List (List Int)) : PyData.depthAll (L.map tup) ≤ 1 := depth_le fun d hd => by
  obtain ⟨l, _, e⟩ := List.mem_map.mp hd
  subst e
  simp [depth_t]
theorem small_tup (l : List Int) (h : l.length ≤ 1000000) : smallD (tup l) = true := by simp [smallD, h]
@[irreducible] def nextD (d : Dt) : Dt := match F_next_line [d] with
  | .ok x => x
  | _ => .none
theorem nextD_ok {d x : Dt} (h : F_next_line [d] = .ok x) : nextD d = x := by
  unfold nextD
  rw [h]
theorem e_all_right (s : Nat) (hs : s < 10) : F__law_all_right [.int s] = .ok (.bool true) := by
  obtain ⟨hlen, hat⟩ := few s hs
  have el := e_lines 12 s (by omega) hs (by omega)
  have hlen2 := linesF_len 12 s (by omega) hs
  have hshort := lines_short 12 s (by omega) hs
  have hcnt := cnt_pos s
  generalize linesF 12 s = L at *
  have hN : (L.length : Int) = cnt s := by omega
  have hr : rng1 [.int (L.length : Int)] = some (intsR 0 L.length) := rng1_a _ (by omega)
  -- told
  have lc1 := lc_map (vs := [3]) (it := rngI rng1 [(opM [.var 1] (on1 lenD))]) (t := setT 3) (e := callM F_line_at [(getM 0), (getM 3)])
    (ρ0 := [some (.int s), some (.list (L.map tup)), none, none, none]) (ρ := [some (.int s), some (.list (L.map tup)), none, none, none]) (ρ1 := [some (.int s), some (.list (L.map tup)), none, none, none]) (ρ' := [some (.int s), some (.list (L.map tup)), none, none, none]) (ds := intsR 0 L.length)
    (fun d => match d with | .int j => ((L.map tup)[j.toNat]?).getD .none | _ => .none) (by simp [hr]) (by simp [intsR]; omega) (by simp [wipeE]) (by simp [backE, wipeE]) fun d hd => by
      simp only [intsR, List.mem_map, List.mem_range] at hd
      obtain ⟨j, hj, ed⟩ := hd
      subst ed
      have hjL : j < L.length := by omega
      obtain ⟨a1, a2, a3⟩ := hat j L[j] (List.getElem?_eq_getElem hjL)
      have q := e_line_at L[j] a1 (by omega)
      rw [a3, a2] at q
      refine ⟨[some (.int s), some (.list (L.map tup)), none, some (.int (0 + (j : Int))), none], [some (.int s), some (.list (L.map tup)), none, some (.int (0 + (j : Int))), none], by simp, ?_, by simp [wipeE]⟩
      simp [q, hjL]
  have e1 : (intsR 0 L.length).map (fun d => match d with | .int j => ((L.map tup)[j.toNat]?).getD .none | _ => .none) = L.map tup := by
    apply List.ext_getElem?
    intro i
    simp only [intsR, List.map_map]
    by_cases hi : i < L.length
    · simp [hi]
    · rw [List.getElem?_eq_none (by simp; omega), List.getElem?_eq_none (by simp; omega)]
  rw [e1] at lc1
  have sL : smallD (.list (L.map tup)) = true := by
    simp only [smallD, Bool.and_eq_true, decide_eq_true_eq]
    refine ⟨by simp; omega, small_of fun d hd => ?_⟩
    obtain ⟨l, hl, e⟩ := List.mem_map.mp hd
    subst e
    have := hshort l hl
    exact small_tup l (by omega)
  have dL : (PyData.list (L.map tup)).depth < 12 := by
    rw [depth_l]
    have := depth_tups L
    omega
  have k1 := e_like 12 _ sL dL
  -- sorted
  have pw : (L.map tup).Pairwise fun a b => dataLe false id a b = true := by
    rw [List.pairwise_map, List.pairwise_iff_getElem]
    intro i j hi hj hij
    obtain ⟨a1, a2, a3⟩ := hat i L[i] (List.getElem?_eq_getElem hi)
    obtain ⟨b1, b2, b3⟩ := hat j L[j] (List.getElem?_eq_getElem hj)
    have hlt := num_lex a1 b1 (by rw [a2, b2]) (by omega)
    show (!dataLt (tup L[j]) (tup L[i])) = true
    rw [lt_ints, lexI_asym hlt]
    rfl
  have hsrt : srt (L.map tup) = L.map tup := List.mergeSort_of_pairwise pw
  have hok : srtOk (L.map tup) = true := by
    simp only [srtOk, Bool.and_eq_true, decide_eq_true_eq]
    refine ⟨⟨⟨plain_tups L, ?_⟩, by have := depth_tups L; omega⟩, ?_⟩
    · rw [List.all_eq_true]
      intro d hd
      rw [List.all_eq_true]
      intro e he
      obtain ⟨l, _, e1⟩ := List.mem_map.mp hd
      obtain ⟨m, _, e2⟩ := List.mem_map.mp he
      subst e1
      subst e2
      exact alike_tups l m
    · by_cases h0 : s = 0
      · have : L.length = 1 := by
          rw [h0] at hN
          have : cnt ((0 : Nat) : Int) = 1 := rfl
          omega
        simp [this, nonB]
      · rw [Bool.or_eq_true, Bool.or_eq_true]
        left
        left
        rw [List.all_eq_true]
        intro d hd
        obtain ⟨l, hl, e1⟩ := List.mem_map.mp hd
        subst e1
        obtain ⟨i, hi⟩ := List.mem_iff_getElem?.mp hl
        obtain ⟨a1, a2, a3⟩ := hat i l hi
        cases l with
        | nil => simp at a2; omega
        | cons a b => rfl
  have hsd : sortedD (.list (L.map tup)) = some (.list (L.map tup)) := by simp only [sortedD, hok, hsrt]; rfl
  have hne : neD (.list (L.map tup)) (.list (L.map tup)) = some (.bool false) := by
    have hp : (PyData.list (L.map tup)).plain = true := by simp only [PyData.plain]; exact plain_tups L
    rw [neD_p _ _ hp hp (by omega), eqv_self _ hp]
    rfl
  have k2 := e_like 12 (.int (cnt s)) rfl (by simp [PyData.depth])
  have ecl := e_count_lines s (by omega) (by omega)
  -- the next ones
  have lc2 := lc_map (vs := [4]) (it := seqI (getM 1)) (t := setT 4) (e := callM F_next_line [(getM 4)])
    (ρ0 := [some (.int s), some (.list (L.map tup)), some (.list (L.map tup)), none, none]) (ρ := [some (.int s), some (.list (L.map tup)), some (.list (L.map tup)), none, none]) (ρ1 := [some (.int s), some (.list (L.map tup)), some (.list (L.map tup)), none, none]) (ρ' := [some (.int s), some (.list (L.map tup)), some (.list (L.map tup)), none, none]) (ds := L.map tup)
    nextD (by simp) (by simp; omega) (by simp [wipeE]) (by simp [backE, wipeE]) fun d hd => by
      obtain ⟨l, hl, e1⟩ := List.mem_map.mp hd
      subst e1
      obtain ⟨i, hi⟩ := List.mem_iff_getElem?.mp hl
      obtain ⟨a1, a2, a3⟩ := hat i l hi
      refine ⟨[some (.int s), some (.list (L.map tup)), some (.list (L.map tup)), none, some (tup l)], [some (.int s), some (.list (L.map tup)), some (.list (L.map tup)), none, some (tup l)], by simp, ?_, by simp [wipeE]⟩
      obtain ⟨x, e⟩ : ∃ x, F_next_line [tup l] = .ok x := by
        rcases e_next_line l a1 (by omega) with ⟨_, e⟩ | ⟨m, _, _, _, e⟩
        · exact ⟨_, e⟩
        · exact ⟨_, e⟩
      have e5 := nextD_ok e
      simp [e, e5]
  have e2 : (L.map tup).map nextD = (L.drop 1).map tup ++ [.none] := by
    apply List.ext_getElem?
    intro i
    rw [List.map_map]
    by_cases hi : i < L.length
    · obtain ⟨a1, a2, a3⟩ := hat i L[i] (List.getElem?_eq_getElem hi)
      rw [List.getElem?_map, List.getElem?_eq_getElem hi]
      simp only [Option.map_some, Function.comp]
      by_cases hl : i + 1 < L.length
      · obtain ⟨b1, b2, b3⟩ := hat (i + 1) L[i + 1] (List.getElem?_eq_getElem hl)
        rw [List.getElem?_append_left (by simp; omega), List.getElem?_map, List.getElem?_drop, Nat.add_comm 1 i, List.getElem?_eq_getElem hl]
        simp only [Option.map_some]
        rcases e_next_line L[i] a1 (by omega) with ⟨h, e⟩ | ⟨m, m1, m2, m3, e⟩
        · rw [a3, a2] at h
          omega
        · have : m = L[i + 1] := num_inj m1 b1 (by omega) (by rw [m3, a3, b3]; push_cast; rfl)
          rw [← this, nextD_ok e]
      · rw [List.getElem?_append_right (by simp; omega)]
        have : i - ((L.drop 1).map tup).length = 0 := by simp; omega
        rw [this]
        rcases e_next_line L[i] a1 (by omega) with ⟨h, e⟩ | ⟨m, m1, m2, m3, e⟩
        · rw [nextD_ok e]
          rfl
        · have := (num_lt m1).1
          rw [m3, a3, m2, a2] at this
          omega
    · rw [List.getElem?_eq_none (by simp; omega), List.getElem?_eq_none (by simp; omega)]
  rw [e2] at lc2
  have sl := slA_l (L.map tup) 1 (by omega)
  have t1 : (1 : Int).toNat = 1 := rfl
  rw [t1, ← List.map_drop] at sl
  have ca := catL_a ((L.drop 1).map tup) [.none] (by simp; omega)
  have k3 := e_like 12 (.list ((L.drop 1).map tup ++ [.none])) (by
    simp only [smallD, Bool.and_eq_true, decide_eq_true_eq]
    refine ⟨by simp; omega, small_of fun d hd => ?_⟩
    rcases List.mem_append.mp hd with hd | hd
    · obtain ⟨l, hl, e⟩ := List.mem_map.mp hd
      subst e
      have := hshort l (List.mem_of_mem_drop hl)
      exact small_tup l (by omega)
    · simp at hd
      subst hd
      rfl) (by
    rw [depth_l]
    have : PyData.depthAll ((L.drop 1).map tup ++ [.none]) ≤ 1 := depth_le fun d hd => by
      rcases List.mem_append.mp hd with hd | hd
      · have := depth_tups (L.drop 1)
        have := depth_mm hd
        omega
      · simp at hd
        subst hd
        simp [PyData.depth]
    omega)
  have hlenL : ((L.map tup).length : Int) = cnt s := by simp; omega
  simp only [F__law_all_right, runF_a, b__law_all_right, l_like, List.map_cons, List.map_nil, List.length_cons, List.length_nil]
  simp [-List.map_drop, -List.drop_one, el, lc1, lc2, k1, k2, k3, hsd, hne, ecl, sl, ca, hlenL, hN, e1]
end K63

/-! part K63_x -/
set_option Elab.async false
set_option linter.all false
set_option maxRecDepth 100000
set_option maxHeartbeats 8000000
namespace K63
open PySem PySem.Spec L2 PySem.W PyProof.Rows Vs
theorem like_bool (a : Bool) : FL_like 12 [.bool a, .bool a] = .ok (.bool true) := e_like 12 (.bool a) rfl (by simp [PyData.depth])
theorem like_int (a : Int) : FL_like 12 [.int a, .int a] = .ok (.bool true) := e_like 12 (.int a) rfl (by simp [PyData.depth])
/-- the size of a number of stones, doubled up -/
theorem e_size (c l n : Dt) (s : Int) (h0 : 0 ≤ s) (h : s ≤ 60) (a6 a7 a8 a9 a10 : Option Dt) : ∃ x, forM (setT 5) (asgM (opM [.val (rt (.int 2)) (.F), .var 4] (on2 mulI)) (setT 4)) (intsR 1 s) [some c, some l, some n, some (.int s), some (.int 1), none, a6, a7, a8, a9, a10] = .ok .nx [some c, some l, some n, some (.int s), some (.int (cnt s)), x, a6, a7, a8, a9, a10] := by
  have lp := for_inv (t := setT 5) (b := asgM (opM [.val (rt (.int 2)) (.F), .var 4] (on2 mulI)) (setT 4)) (fun i ρ => ∃ x, ρ = [some c, some l, some n, some (.int s), some (.int (2 ^ i)), x, a6, a7, a8, a9, a10]) (intsR 1 s) 0 [some c, some l, some n, some (.int s), some (.int 1), none, a6, a7, a8, a9, a10] ⟨none, rfl⟩ fun i d ρ hd ⟨x, e⟩ => by
    subst e
    refine ⟨_, [some c, some l, some n, some (.int s), some (.int (2 ^ (0 + i + 1))), some d, a6, a7, a8, a9, a10], rfl, .inl ?_, some d, rfl⟩
    simp [mulI_l, Int.pow_succ, Int.mul_comm]
  obtain ⟨ρ', e, x, e2⟩ := lp
  have : (intsR 1 s).length = (s - 1).toNat := by simp [intsR]
  rw [this, Nat.zero_add] at e2
  subst e2
  exact ⟨x, e⟩
def body : M Fl := (iteM (notM (blM (callM (F__law_like 12) [(callM F_is_line [(getM 10)]), (callM F__law_is_line [(getM 10)])])))
 (retM (rt (.bool false)))
 nopM)
theorem e_body (ρ : List (Option Dt)) (vals : List Dt) (hv : ∀ v ∈ vals, v.plain = true ∧ ∀ ds, v = .tuple ds → ds.length ≤ 1000000) (c l n s z a k t o od : Option Dt) : ∃ x, forM (setT 10) body vals [c, l, n, s, z, a, k, t, o, od, none] = .ok .nx [c, l, n, s, z, a, k, t, o, od, x] := by
  have lp := for_inv (t := setT 10) (b := body) (fun i ρ => ∃ x, ρ = [c, l, n, s, z, a, k, t, o, od, x]) vals 0 [c, l, n, s, z, a, k, t, o, od, none] ⟨none, rfl⟩ fun i d ρ hd ⟨x, e⟩ => by
    subst e
    obtain ⟨h1, h2⟩ := hv d (List.mem_of_getElem? hd)
    refine ⟨_, [c, l, n, s, z, a, k, t, o, od, some d], rfl, .inl ?_, some d, rfl⟩
    simp [body, l_like, e_is_line d h1, e_law_is_line d h1 h2, like_bool]
  obtain ⟨ρ', e, x, e2⟩ := lp
  subst e2
  exact ⟨x, e⟩
theorem repT_a (k : Int) (d : Dt) (h : 2 ≤ k) (h2 : k ≤ 1000) : repT (.tuple [d]) (.int k) = some (.tuple (List.replicate k.toNat [d]).flatten) := by
  simp only [repT]
  rw [if_pos]
  simp [h, h2]
theorem e_right {c : Dt} (hc : Cup c) (l : List Int) (hl : Line l) (hs : l.sum ≤ 60) : ∃ c', F__law_right c [tup l] = .ok (.bool true, c') ∧ Cup c' := by
  have hp := hl.sum
  have hlen := hl.len
  have pl := plain_line l
  have nl := num_lt hl
  have hcnt : cnt l.sum ≤ 576460752303423488 := by
    unfold cnt
    have h1 : (l.sum - 1).toNat ≤ 59 := by omega
    have h2 : (2 : Nat) ^ (l.sum - 1).toNat ≤ 2 ^ 59 := Nat.pow_le_pow_right (by omega) h1
    have h3 : (2 : Nat) ^ 59 = 576460752303423488 := by decide +kernel
    have h4 : (2 : Int) ^ (l.sum - 1).toNat = ((2 ^ (l.sum - 1).toNat : Nat) : Int) := by simp
    omega
  have e1 := e_law_number l hl hs
  have hr2 : rng2 [.int 1, .int l.sum] = some (intsR 1 l.sum) := rng2_a _ _ (by omega)
  obtain ⟨x5, es⟩ := e_size c (tup l) (.int (num l l.sum)) l.sum hp hs none none none none none
  have e2 := e_is_line _ pl
  rw [line_b hl hs] at e2
  have e3 := e_count_lines l.sum hp hs
  have e4 := e_number_of_line l hl hs
  have e5 := e_line_at l hl hs
  have k1 := e_like 12 (.list [.bool true, .int (cnt l.sum), .int (num l l.sum), tup l]) (by simp [smallD, smallA]; omega) (by simp [PyData.depth, PyData.depthAll])
  -- a random number
  obtain ⟨r, c1, er, q1, r0, r1⟩ := e_roll hc (cnt l.sum) (cnt_pos _) (by omega)
  obtain ⟨m, m1, m2, m3⟩ := num_onto l.sum.toNat r r0 (by rw [Int.toNat_of_nonneg hp]; exact r1)
  rw [Int.toNat_of_nonneg hp] at m2
  have f1 := e_line_at m m1 (by omega)
  rw [m3, m2] at f1
  have f2 := e_number_of_line m m1 (by omega)
  rw [m3] at f2
  have f3 := e_law_number m m1 (by omega)
  rw [m3] at f3
  have k2 := like_int r
  -- a random place
  obtain ⟨a, c2, ea, q2, a0, a1⟩ := e_roll q1 ((l.length : Int) + 1) (by omega) (by omega)
  have hpI := plain_ints l
  have hlI : (l.map PyData.int).length ≤ 60 := by simp; omega
  have sB := slB_t (l.map .int) a a0
  have sA := slA_t (l.map .int) a a0
  have s1 : slA1 sliceT [.tuple (l.map .int), .int 1] = some (.tuple ((l.map .int).drop 1)) := slA_t (l.map .int) 1 (by omega)
  have p1 := plusD_t (l.map .int) [.int 1] (by simp; omega)
  have p2 := plusD_t (l.map .int) [.int 0] (by simp; omega)
  have p3 := plusD_t ((l.map .int).take a.toNat) [.bool true] (by rw [List.length_take]; simp; omega)
  have p4 := plusD_t ((l.map .int).take a.toNat ++ [.bool true]) ((l.map .int).drop a.toNat) (by rw [List.length_append, List.length_take, List.length_drop]; simp; omega)
  have p5 := plusD_t ((l.map .int).take a.toNat) [.str "1"] (by rw [List.length_take]; simp; omega)
  have p6 := plusD_t ((l.map .int).take a.toNat ++ [.str "1"]) ((l.map .int).drop a.toNat) (by rw [List.length_append, List.length_take, List.length_drop]; simp; omega)
  obtain ⟨t60, rp1, st1⟩ : ∃ t, repT (.tuple [.int 1]) (.int 60) = some t ∧ smallD t = true := ⟨_, repT_a 60 (.int 1) (by omega) (by omega), by decide +kernel⟩
  obtain ⟨t61, rp2, st2⟩ : ∃ t, repT (.tuple [.int 1]) (.int 61) = some t ∧ smallD t = true := ⟨_, repT_a 61 (.int 1) (by omega) (by omega), by decide +kernel⟩
  obtain ⟨b1, c3, eb1, q3, hb1⟩ := e_bent2 2 q2 l (by omega)
  obtain ⟨b2, c4, eb2, q4, hb2⟩ := e_bent2 2 q3 l (by omega)
  let V : List Dt := [tup l, .tuple (l.map .int).reverse, .list (l.map .int), .tuple ((l.map .int).drop 1), .tuple (l.map .int ++ [.int 1]), .tuple (l.map .int ++ [.int 0]), .tuple ((l.map .int).take a.toNat ++ [.bool true] ++ (l.map .int).drop a.toNat), .tuple ((l.map .int).take a.toNat ++ [.str "1"] ++ (l.map .int).drop a.toNat), .none, .tuple []]
  let U : List Dt := [.tuple [.int 61], .tuple [.int 60], .tuple [.int 60, .int 1], t60, t61, .tuple [.int (-1), .int 2], b1, b2]
  have ca := catL_a V U (by simp [V, U])
  have hsm := small_ints l
  have hv : ∀ v ∈ V ++ U, v.plain = true ∧ ∀ ds, v = .tuple ds → ds.length ≤ 1000000 := by
    have hall : smallA (V ++ U) = true := by
      refine small_app ?_ ?_
      · simp only [V, smallA, Bool.and_eq_true, and_true]
        refine ⟨small_tup l (by omega), small_tupD (by rw [List.length_reverse]; omega) (small_rev hsm), small_listD (by omega) hsm, small_tupD (by rw [List.length_drop]; omega) (small_drop _ hsm), small_tupD (by simp; omega) (small_app hsm (by decide)), small_tupD (by simp; omega) (small_app hsm (by decide)), small_tupD (by rw [List.length_append, List.length_append, List.length_take, List.length_drop]; simp; omega) (small_app (small_app (small_take _ hsm) (by decide)) (small_drop _ hsm)), small_tupD (by rw [List.length_append, List.length_append, List.length_take, List.length_drop]; simp; omega) (small_app (small_app (small_take _ hsm) (by decide)) (small_drop _ hsm)), rfl, rfl⟩
      · simp only [U, smallA, Bool.and_eq_true, and_true]
        exact ⟨by decide, by decide, by decide, st1, st2, by decide, hb1, hb2⟩
    intro v hv
    have h1 := small_mem hall v hv
    refine ⟨small_plain v h1, fun ds e => ?_⟩
    subst e
    simp only [smallD, Bool.and_eq_true, decide_eq_true_eq] at h1
    exact h1.1
  have tail : ∀ t : Dt, (t = .none → num l l.sum + 1 = cnt l.sum) → True := fun _ _ => trivial
  have un : F__law_right = runG b__law_right 11 := rfl
  rcases e_next_line l hl hs with ⟨hmax, en⟩ | ⟨m', n1, n2, n3, en⟩
  · obtain ⟨x10, eb⟩ := e_body [] (V ++ U) hv (some c4) (some (tup l)) (some (.int (num l l.sum))) (some (.int l.sum)) (some (.int (cnt l.sum))) (some (.int a)) (some (.list [.bool true, .int (cnt l.sum), .int (num l l.sum), tup l])) (some .none) (some (.int r)) (some (.list V))
    have hq : num l l.sum = cnt l.sum - 1 := by omega
    refine ⟨c4, ?_, q4⟩
    rw [un, runG_a]
    simp only [V, U, List.cons_append, List.nil_append] at ca eb
    have nb : neD (.bool true) (.bool (decide (num l l.sum = cnt l.sum - 1))) = some (.bool false) := by rw [neD_b, decide_eq_true hq]; rfl
    unfold body at eb
    rw [l_like] at eb
    simp [-List.append_assoc, -List.drop_one, -List.map_drop, -List.map_take, -List.map_reverse, b__law_right, l_roll, l_like, e1, hr2, es, e2, e3, e4, e5, k1, en, nb, nonB, er, f1, f2, f3, k2, ea, sB, sA, s1, p1, p2, p3, p4, p5, p6, rp1, rp2, eb1, eb2, ca, eb]
  · have en2 := e_is_line (tup m') (plain_line m')
    have hm60 : m'.sum ≤ 60 := by omega
    have g1 := e_law_is_line (tup m') (plain_line m') (fun ds e => by
      have := n1.len
      cases e
      simp
      omega)
    rw [line_b n1 hm60] at g1
    have g2 := e_law_number m' n1 hm60
    rw [n3] at g2
    have hlt := num_lex hl n1 n2.symm (by omega)
    have g3 : leD (tup m') (tup l) = some (.bool false) := by rw [leD_ints, hlt]; rfl
    have hnm := (num_lt n1).1
    rw [n3, n2] at hnm
    have hq : ¬ num l l.sum = cnt l.sum - 1 := by omega
    have nb : neD (.bool false) (.bool (decide (num l l.sum = cnt l.sum - 1))) = some (.bool false) := by rw [neD_b, decide_eq_false hq]; rfl
    obtain ⟨x10, eb⟩ := e_body [] (V ++ U) hv (some c4) (some (tup l)) (some (.int (num l l.sum))) (some (.int l.sum)) (some (.int (cnt l.sum))) (some (.int a)) (some (.list [.bool true, .int (cnt l.sum), .int (num l l.sum), tup l])) (some (tup m')) (some (.int r)) (some (.list V))
    refine ⟨c4, ?_, q4⟩
    rw [un, runG_a]
    simp only [V, U, List.cons_append, List.nil_append] at ca eb
    unfold body at eb
    rw [l_like] at eb
    simp [-List.append_assoc, -List.drop_one, -List.map_drop, -List.map_take, -List.map_reverse, b__law_right, l_roll, l_like, e1, hr2, es, e2, e3, e4, e5, k1, en, nb, nonB, er, f1, f2, f3, k2, ea, sB, sA, s1, p1, p2, p3, p4, p5, p6, rp1, rp2, eb1, eb2, ca, eb, g1, g2, g3, n2]
theorem e_written : F__law_written_right [] = .ok (.bool true) := by kernel_rfl
theorem e_law (ns : List Int) (h : ns.length ≤ 63) : F_law [.list (ns.map .int)] = .ok (.bool true) := by
  obtain ⟨c, ec, q⟩ := e_cup ns (by omega)
  have lp := for_inv (t := setT 2) (b := (iteM (notM (blM (callG F__law_right 1 [(callG F__law_line_of 1 [(callG F__law_roll 1 [(getM 2)])])])))
   (retM (rt (.bool false)))
   nopM)) (fun i ρ => ∃ c x, ρ = [some (.list (ns.map .int)), some c, x] ∧ Cup c) [.int 6, .int 20, .int 61] 0 [some (.list (ns.map .int)), some c, none] ⟨c, none, rfl, q⟩ fun i d ρ hd ⟨c, x, e, q⟩ => by
    subst e
    have hm := List.mem_of_getElem? hd
    obtain ⟨k, hk, h1, h2⟩ : ∃ k : Int, d = .int k ∧ 0 < k ∧ k ≤ 61 := by
      simp only [List.mem_cons, List.not_mem_nil, or_false] at hm
      rcases hm with e | e | e
      · exact ⟨6, e, by omega, by omega⟩
      · exact ⟨20, e, by omega, by omega⟩
      · exact ⟨61, e, by omega, by omega⟩
    subst hk
    obtain ⟨r, c1, er, q1, r0, r1⟩ := e_roll q k h1 (by omega)
    obtain ⟨l, c2, el, q2, hl, hs⟩ := e_line_of q1 r r0 (by omega)
    obtain ⟨c3, e3, q3⟩ := e_right q2 l hl (by omega)
    refine ⟨_, [some (.list (ns.map .int)), some c3, some (.int k)], rfl, .inl ?_, c3, _, rfl, q3⟩
    simp [l_roll, er, el, e3]
  obtain ⟨ρ', e, c', x, e2, q'⟩ := lp
  subst e2
  obtain ⟨r, c1, er, q1, r0, r1⟩ := e_roll q' 10 (by omega) (by omega)
  have ea := e_all_right r.toNat (by omega)
  rw [Int.toNat_of_nonneg r0] at ea
  rw [l_roll] at e
  simp [F_law, runF_a, b_law, l_roll, l_cup, e_written, ec, e, er, ea]
end K63

/-! part K63_w -/
set_option Elab.async false
set_option linter.all false
set_option maxRecDepth 100000
set_option maxHeartbeats 40000000
namespace K63
open PySem PySem.Spec PyProof.Rows L2 PySem.W Vs
def topS (i : Nat) : Stmt := PySem.Challenge.pw_stonepiles_k63_whole_numbers_of_lines.main.body.getD i (.Pass ⟨0, 0, 0, 0⟩)
abbrev S_is_integer : Stmt := topS 5
theorem sc_is_integer : FnScope N_is_integer ["value"] (defScope S_is_integer) := ⟨rfl, rfl, rfl, by decide +kernel, rfl, by decide +kernel, by decide +kernel⟩
abbrev S_is_whole : Stmt := topS 6
theorem sc_is_whole : FnScope N_is_whole ["value", "low", "high"] (defScope S_is_whole) := ⟨rfl, rfl, rfl, by decide +kernel, rfl, by decide +kernel, by decide +kernel⟩
abbrev S_need_whole : Stmt := topS 7
theorem sc_need_whole : FnScope N_need_whole ["value", "low", "high"] (defScope S_need_whole) := ⟨rfl, rfl, rfl, by decide +kernel, rfl, by decide +kernel, by decide +kernel⟩
abbrev S_is_tuple_of : Stmt := topS 8
theorem sc_is_tuple_of : FnScope N_is_tuple_of ["value", "low", "high"] (defScope S_is_tuple_of) := ⟨rfl, rfl, rfl, by decide +kernel, rfl, by decide +kernel, by decide +kernel⟩
abbrev S_fits_line : Stmt := topS 11
theorem sc_fits_line : FnScope N_fits_line ["value"] (defScope S_fits_line) := ⟨rfl, rfl, rfl, by decide +kernel, rfl, by decide +kernel, by decide +kernel⟩
abbrev S_need_line : Stmt := topS 12
theorem sc_need_line : FnScope N_need_line ["line"] (defScope S_need_line) := ⟨rfl, rfl, rfl, by decide +kernel, rfl, by decide +kernel, by decide +kernel⟩
abbrev S_need_stones : Stmt := topS 13
theorem sc_need_stones : FnScope N_need_stones ["stones"] (defScope S_need_stones) := ⟨rfl, rfl, rfl, by decide +kernel, rfl, by decide +kernel, by decide +kernel⟩
abbrev S_power_of : Stmt := topS 14
theorem sc_power_of : FnScope N_power_of ["many"] (defScope S_power_of) := ⟨rfl, rfl, rfl, by decide +kernel, rfl, by decide +kernel, by decide +kernel⟩
abbrev S_count_in : Stmt := topS 15
theorem sc_count_in : FnScope N_count_in ["stones"] (defScope S_count_in) := ⟨rfl, rfl, rfl, by decide +kernel, rfl, by decide +kernel, by decide +kernel⟩
abbrev S_number_in : Stmt := topS 16
theorem sc_number_in : FnScope N_number_in ["line"] (defScope S_number_in) := ⟨rfl, rfl, rfl, by decide +kernel, rfl, by decide +kernel, by decide +kernel⟩
abbrev S_at_in : Stmt := topS 17
theorem sc_at_in : FnScope N_at_in ["stones", "number"] (defScope S_at_in) := ⟨rfl, rfl, rfl, by decide +kernel, rfl, by decide +kernel, by decide +kernel⟩
abbrev S_is_line : Stmt := topS 18
theorem sc_is_line : FnScope N_is_line ["value"] (defScope S_is_line) := ⟨rfl, rfl, rfl, by decide +kernel, rfl, by decide +kernel, by decide +kernel⟩
abbrev S_count_lines : Stmt := topS 19
theorem sc_count_lines : FnScope N_count_lines ["stones"] (defScope S_count_lines) := ⟨rfl, rfl, rfl, by decide +kernel, rfl, by decide +kernel, by decide +kernel⟩
abbrev S_number_of_line : Stmt := topS 20
theorem sc_number_of_line : FnScope N_number_of_line ["line"] (defScope S_number_of_line) := ⟨rfl, rfl, rfl, by decide +kernel, rfl, by decide +kernel, by decide +kernel⟩
abbrev S_line_at : Stmt := topS 21
theorem sc_line_at : FnScope N_line_at ["stones", "number"] (defScope S_line_at) := ⟨rfl, rfl, rfl, by decide +kernel, rfl, by decide +kernel, by decide +kernel⟩
abbrev S_next_line : Stmt := topS 22
theorem sc_next_line : FnScope N_next_line ["line"] (defScope S_next_line) := ⟨rfl, rfl, rfl, by decide +kernel, rfl, by decide +kernel, by decide +kernel⟩
abbrev S__law_cup : Stmt := topS 24
theorem sc__law_cup : FnScope N__law_cup ["script"] (defScope S__law_cup) := ⟨rfl, rfl, rfl, by decide +kernel, rfl, by decide +kernel, by decide +kernel⟩
abbrev S__law_roll : Stmt := topS 25
theorem sc__law_roll : FnScope N__law_roll ["cup", "many"] (defScope S__law_roll) := ⟨rfl, rfl, rfl, by decide +kernel, rfl, by decide +kernel, by decide +kernel⟩
abbrev S__law_some : Stmt := topS 26
theorem sc__law_some : FnScope N__law_some ["cup", "things"] (defScope S__law_some) := ⟨rfl, rfl, rfl, by decide +kernel, rfl, by decide +kernel, by decide +kernel⟩
abbrev S__law_sort : Stmt := topS 27
theorem sc__law_sort : FnScope N__law_sort ["value"] (defScope S__law_sort) := ⟨rfl, rfl, rfl, by decide +kernel, rfl, by decide +kernel, by decide +kernel⟩
abbrev S__law_like : Stmt := topS 28
theorem sc__law_like : FnScope N__law_like ["one", "other"] (defScope S__law_like) := ⟨rfl, rfl, rfl, by decide +kernel, rfl, by decide +kernel, by decide +kernel⟩
abbrev S__law_bent : Stmt := topS 29
theorem sc__law_bent : FnScope N__law_bent ["cup", "value"] (defScope S__law_bent) := ⟨rfl, rfl, rfl, by decide +kernel, rfl, by decide +kernel, by decide +kernel⟩
abbrev S__law_line_of : Stmt := topS 30
theorem sc__law_line_of : FnScope N__law_line_of ["cup", "stones"] (defScope S__law_line_of) := ⟨rfl, rfl, rfl, by decide +kernel, rfl, by decide +kernel, by decide +kernel⟩
abbrev S__law_cuts : Stmt := topS 31
theorem sc__law_cuts : FnScope N__law_cuts ["line"] (defScope S__law_cuts) := ⟨rfl, rfl, rfl, by decide +kernel, rfl, by decide +kernel, by decide +kernel⟩
abbrev S__law_lines : Stmt := topS 32
theorem sc__law_lines : FnScope N__law_lines ["stones"] (defScope S__law_lines) := ⟨rfl, rfl, rfl, by decide +kernel, rfl, by decide +kernel, by decide +kernel⟩
abbrev S__law_is_line : Stmt := topS 33
theorem sc__law_is_line : FnScope N__law_is_line ["value"] (defScope S__law_is_line) := ⟨rfl, rfl, rfl, by decide +kernel, rfl, by decide +kernel, by decide +kernel⟩
abbrev S__law_number : Stmt := topS 34
theorem sc__law_number : FnScope N__law_number ["line"] (defScope S__law_number) := ⟨rfl, rfl, rfl, by decide +kernel, rfl, by decide +kernel, by decide +kernel⟩
abbrev S__law_right : Stmt := topS 35
theorem sc__law_right : FnScope N__law_right ["cup", "line"] (defScope S__law_right) := ⟨rfl, rfl, rfl, by decide +kernel, rfl, by decide +kernel, by decide +kernel⟩
abbrev S__law_all_right : Stmt := topS 36
theorem sc__law_all_right : FnScope N__law_all_right ["stones"] (defScope S__law_all_right) := ⟨rfl, rfl, rfl, by decide +kernel, rfl, by decide +kernel, by decide +kernel⟩
abbrev S__law_written_right : Stmt := topS 37
theorem sc__law_written_right : FnScope N__law_written_right [] (defScope S__law_written_right) := ⟨rfl, rfl, rfl, by decide +kernel, rfl, by decide +kernel, by decide +kernel⟩
abbrev S_law : Stmt := topS 38
theorem sc_law : FnScope N_law ["script"] (defScope S_law) := ⟨rfl, rfl, rfl, by decide +kernel, rfl, by decide +kernel, by decide +kernel⟩
structure DefOk (K : PySem.W.Frag) (mg : Str → Option Value) (x : Str) (st : Stmt) (ps : List Str) where
  f : Addr
  fd : FuncData
  F : Fun K x x st f fd
  g : mg x = some (.ref f)
  b : Binds K fd ps []
structure Fx (K : PySem.W.Frag) (mg : Str → Option Value) where
  d_is_integer : DefOk K mg "is_integer" S_is_integer ["value"]
  d_is_whole : DefOk K mg "is_whole" S_is_whole ["value", "low", "high"]
  d_need_whole : DefOk K mg "need_whole" S_need_whole ["value", "low", "high"]
  d_is_tuple_of : DefOk K mg "is_tuple_of" S_is_tuple_of ["value", "low", "high"]
  d_fits_line : DefOk K mg "fits_line" S_fits_line ["value"]
  d_need_line : DefOk K mg "need_line" S_need_line ["line"]
  d_need_stones : DefOk K mg "need_stones" S_need_stones ["stones"]
  d_power_of : DefOk K mg "power_of" S_power_of ["many"]
  d_count_in : DefOk K mg "count_in" S_count_in ["stones"]
  d_number_in : DefOk K mg "number_in" S_number_in ["line"]
  d_at_in : DefOk K mg "at_in" S_at_in ["stones", "number"]
  d_is_line : DefOk K mg "is_line" S_is_line ["value"]
  d_count_lines : DefOk K mg "count_lines" S_count_lines ["stones"]
  d_number_of_line : DefOk K mg "number_of_line" S_number_of_line ["line"]
  d_line_at : DefOk K mg "line_at" S_line_at ["stones", "number"]
  d_next_line : DefOk K mg "next_line" S_next_line ["line"]
  d__law_cup : DefOk K mg "_law_cup" S__law_cup ["script"]
  d__law_roll : DefOk K mg "_law_roll" S__law_roll ["cup", "many"]
  d__law_some : DefOk K mg "_law_some" S__law_some ["cup", "things"]
  d__law_sort : DefOk K mg "_law_sort" S__law_sort ["value"]
  d__law_like : DefOk K mg "_law_like" S__law_like ["one", "other"]
  d__law_bent : DefOk K mg "_law_bent" S__law_bent ["cup", "value"]
  d__law_line_of : DefOk K mg "_law_line_of" S__law_line_of ["cup", "stones"]
  d__law_cuts : DefOk K mg "_law_cuts" S__law_cuts ["line"]
  d__law_lines : DefOk K mg "_law_lines" S__law_lines ["stones"]
  d__law_is_line : DefOk K mg "_law_is_line" S__law_is_line ["value"]
  d__law_number : DefOk K mg "_law_number" S__law_number ["line"]
  d__law_right : DefOk K mg "_law_right" S__law_right ["cup", "line"]
  d__law_all_right : DefOk K mg "_law_all_right" S__law_all_right ["stones"]
  d__law_written_right : DefOk K mg "_law_written_right" S__law_written_right []
  d_law : DefOk K mg "law" S_law ["script"]
  z_abs : mg "abs" = none
  z_all : mg "all" = none
  z_bool : mg "bool" = none
  z_int : mg "int" = none
  z_isinstance : mg "isinstance" = none
  z_len : mg "len" = none
  z_list : mg "list" = none
  z_max : mg "max" = none
  z_range : mg "range" = none
  z_sorted : mg "sorted" = none
  z_str : mg "str" = none
  z_sum : mg "sum" = none
  z_tuple : mg "tuple" = none
  z_zip : mg "zip" = none
  t_STONES : Tok
  c_STONES : mg "STONES" = some (.int 60 t_STONES)
def xr0 : XR := fun _ _ _ _ => False
section
variable {P : Program} {w : World} {K : PySem.W.Frag} {mg : Str → Option Value} {base : Heap}
theorem ok_is_integer (φ : Fx K mg) : FnOk P w K mg base (L2.CX P w) (0 + 1) φ.d_is_integer.f φ.d_is_integer.fd ["value"] (spF K xr0 1 (.F) F_is_integer) :=
  have S := sc_is_integer
  fn_okN (N := N_is_integer) (n := 1) (np := 1) rfl rfl (b := b_is_integer) (Γe := [.F]) φ.d_is_integer.F S (.inr rfl) rfl fun cdv A outer s H E hr =>
 (s_one (s_ret (Γ2 := [.F]) (c_and (c_isa b_isa_int (by rfl) φ.z_isinstance (by rfl) φ.z_int bb_int (o_var 0 (pv 0))) (c_one (c_not (c_isa b_isa_bool (by rfl) φ.z_isinstance (by rfl) φ.z_bool bb_bool (o_var 0 (pv 0))))))))
theorem ok_is_whole (φ : Fx K mg) : FnOk P w K mg base (L2.CX P w) (1 + 1) φ.d_is_whole.f φ.d_is_whole.fd ["value", "low", "high"] (spF K xr0 3 (.F) F_is_whole) :=
  have S := sc_is_whole
  fn_okN (N := N_is_whole) (n := 3) (np := 3) rfl rfl (b := b_is_whole) (Γe := [.F, .F, .F]) φ.d_is_whole.F S (.inr rfl) rfl fun cdv A outer s H E hr =>
 (s_one (s_ret (Γ2 := [.F, .F, .F]) (c_and (c_call (ok_is_integer φ) (hr.mono (by omega)) (by rfl) φ.d_is_integer.g φ.d_is_integer.F.kp φ.d_is_integer.b (fun σ => passAt (takes_of rfl rfl rfl rfl) σ) (v_cons (c_var 0 (pv 0)) v_nil)) (c_one (c_chain op_le op_le (c_var 1 (pv 1)) (c_var 0 (pv 0)) (c_var 2 (pv 2)))))))
theorem ok_need_whole (φ : Fx K mg) : FnOk P w K mg base (L2.CX P w) (2 + 1) φ.d_need_whole.f φ.d_need_whole.fd ["value", "low", "high"] (spF K xr0 3 (.F) F_need_whole) :=
  have S := sc_need_whole
  fn_okN (N := N_need_whole) (n := 3) (np := 3) rfl rfl (b := b_need_whole) (Γe := [.F, .F, .F]) φ.d_need_whole.F S (.inr rfl) rfl fun cdv A outer s H E hr =>
 (s_one (s_if (t_not (t_val (c_call (ok_is_whole φ) (hr.mono (by omega)) (by rfl) φ.d_is_whole.g φ.d_is_whole.F.kp φ.d_is_whole.b (fun σ => passAt (takes_of rfl rfl rfl rfl) σ) (v_cons (c_var 0 (pv 0)) (v_cons (c_var 1 (pv 1)) (v_cons (c_var 2 (pv 2)) v_nil))))))
 (s_one (s_bad (Γ' := [.F, .F, .F])))
 s_nil))
theorem ok_is_tuple_of (φ : Fx K mg) : FnOk P w K mg base (L2.CX P w) (0 + 1) φ.d_is_tuple_of.f φ.d_is_tuple_of.fd ["value", "low", "high"] (spF K xr0 3 (.F) F_is_tuple_of) :=
  have S := sc_is_tuple_of
  fn_okN (N := N_is_tuple_of) (n := 3) (np := 3) rfl rfl (b := b_is_tuple_of) (Γe := [.F, .F, .F]) φ.d_is_tuple_of.F S (.inr rfl) rfl fun cdv A outer s H E hr =>
 (s_one (s_ret (Γ2 := [.F, .F, .F]) (c_and (c_isa b_isa_tuple (by rfl) φ.z_isinstance (by rfl) φ.z_tuple bb_tuple (o_var 0 (pv 0))) (c_one (c_chain op_le op_le (c_var 1 (pv 1)) (c_callB (b_len) (spec_S1 lenD_sc) (by rfl) φ.z_len bb_len (a_cons (o_var 0 (pv 0)) a_nil)) (c_var 2 (pv 2)))))))
theorem ok_fits_line (φ : Fx K mg) : FnOk P w K mg base (L2.CX P w) (2 + 1) φ.d_fits_line.f φ.d_fits_line.fd ["value"] (spF K xr0 1 (.F) F_fits_line) :=
  have S := sc_fits_line
  fn_okN (N := N_fits_line) (n := 2) (np := 1) rfl rfl (b := b_fits_line) (Γe := [.F, .F]) φ.d_fits_line.F S (.inr rfl) rfl fun cdv A outer s H E hr =>
 (s_cons (s_if (PW.pt (w_or (t_not (t_val (c_call (ok_is_tuple_of φ) (hr.mono (by omega)) (by rfl) φ.d_is_tuple_of.g φ.d_is_tuple_of.F.kp φ.d_is_tuple_of.b (fun σ => passAt (takes_of rfl rfl rfl rfl) σ) (v_cons (c_var 0 (pv 0)) (v_cons c_int (v_cons (c_globI (by rfl) φ.c_STONES) v_nil)))))) (w_or1 (t_not (t_val (c_callB (b_all rfl) (spec_S1 allD_sc) (by rfl) φ.z_all bb_all (a_cons (o_val (c_lc (own := [("height", 1)]) (Γh := [.F, .F]) rfl S.nd (show BlkOk N_fits_line (defScope S_fits_line) _ _ from ⟨rfl, by decide +kernel, by decide +kernel, by decide +kernel, by decide +kernel⟩) (i_seq (c_var 0 (pv 0))) (fun s H c cl fp => (g_name 1 (pg_name S.nd rfl (.inl rfl)))) (fun s H c cl fp => ts_nil) (fun s H c cl fp => (c_call (ok_is_whole φ) (hr.mono (by omega)) (by rfl) φ.d_is_whole.g φ.d_is_whole.F.kp φ.d_is_whole.b pass_no (v_cons (c_var 1 (pv 1)) (v_cons c_int (v_cons (c_globI (by rfl) φ.c_STONES) v_nil))))))) a_nil)))))))
 (s_one (s_ret (Γ2 := [.F, .F]) c_bl))
 s_nil)
 (s_one (s_ret (Γ2 := [.F, .F]) (c_cmp (o_le hr.units) (spec_S2 cmpD_sc) (o_val (c_callB (b_sum rfl) (spec_S1 sumD_sc) (by rfl) φ.z_sum bb_sum (a_cons (o_var 0 (pv 0)) a_nil))) (o_val (c_globI (by rfl) φ.c_STONES)) (nomark _)))))
theorem ok_need_line (φ : Fx K mg) : FnOk P w K mg base (L2.CX P w) (3 + 1) φ.d_need_line.f φ.d_need_line.fd ["line"] (spF K xr0 1 (.F) F_need_line) :=
  have S := sc_need_line
  fn_okN (N := N_need_line) (n := 1) (np := 1) rfl rfl (b := b_need_line) (Γe := [.F]) φ.d_need_line.F S (.inr rfl) rfl fun cdv A outer s H E hr =>
 (s_one (s_if (t_not (t_val (c_call (ok_fits_line φ) (hr.mono (by omega)) (by rfl) φ.d_fits_line.g φ.d_fits_line.F.kp φ.d_fits_line.b (fun σ => passAt (takes_of rfl rfl rfl rfl) σ) (v_cons (c_var 0 (pv 0)) v_nil))))
 (s_one (s_bad (Γ' := [.F])))
 s_nil))
theorem ok_need_stones (φ : Fx K mg) : FnOk P w K mg base (L2.CX P w) (3 + 1) φ.d_need_stones.f φ.d_need_stones.fd ["stones"] (spF K xr0 1 (.F) F_need_stones) :=
  have S := sc_need_stones
  fn_okN (N := N_need_stones) (n := 1) (np := 1) rfl rfl (b := b_need_stones) (Γe := [.F]) φ.d_need_stones.F S (.inr rfl) rfl fun cdv A outer s H E hr =>
 (s_one (s_expr (c_call (ok_need_whole φ) (hr.mono (by omega)) (by rfl) φ.d_need_whole.g φ.d_need_whole.F.kp φ.d_need_whole.b (fun σ => passAt (takes_of rfl rfl rfl rfl) σ) (v_cons (c_var 0 (pv 0)) (v_cons c_int (v_cons (c_globI (by rfl) φ.c_STONES) v_nil))))))
theorem ok_power_of (φ : Fx K mg) : FnOk P w K mg base (L2.CX P w) (0 + 1) φ.d_power_of.f φ.d_power_of.fd ["many"] (spF K xr0 1 (.F) F_power_of) :=
  have S := sc_power_of
  fn_okN (N := N_power_of) (n := 3) (np := 1) rfl rfl (b := b_power_of) (Γe := [.F, .F, .F]) φ.d_power_of.F S (.inr rfl) rfl fun cdv A outer s H E hr =>
 (s_cons (s_set 1 (fun h => ps_set (i := 1) S.nd rfl (.inl rfl) h) c_int)
 (s_cons (s_for (Γh := [.F, .F, .F]) (passes_of rfl) rfl (i_range1 (by rfl) φ.z_range (v_cons (c_var 0 (pv 0)) v_nil)) (g_name 2 (pg_name S.nd rfl (.inl rfl)))
 (s_one (s_set 1 (fun h => ps_set (i := 1) S.nd rfl (.inl rfl) h) (c_op o_mul (spec_S2 intC_sc) (o_var 1 (pv 1)) (o_val c_int)))))
 (s_one (s_ret (Γ2 := [.F, .F, .F]) (c_var 1 (pv 1))))))
theorem ok_count_in (φ : Fx K mg) : FnOk P w K mg base (L2.CX P w) (1 + 1) φ.d_count_in.f φ.d_count_in.fd ["stones"] (spF K xr0 1 (.F) F_count_in) :=
  have S := sc_count_in
  fn_okN (N := N_count_in) (n := 1) (np := 1) rfl rfl (b := b_count_in) (Γe := [.F]) φ.d_count_in.F S (.inr rfl) rfl fun cdv A outer s H E hr =>
 (s_one (s_ret (Γ2 := [.F]) (c_call (ok_power_of φ) (hr.mono (by omega)) (by rfl) φ.d_power_of.g φ.d_power_of.F.kp φ.d_power_of.b (fun σ => passAt (takes_of rfl rfl rfl rfl) σ) (v_cons (c_callB (b_max2 rfl) (spec_S2 max2D_sc) (by rfl) φ.z_max bb_max (a_cons (o_val c_int) (a_cons (o_val (c_op o_sub (spec_S2 intC_sc) (o_var 0 (pv 0)) (o_val c_int))) a_nil))) v_nil))))
theorem ok_number_in (φ : Fx K mg) : FnOk P w K mg base (L2.CX P w) (2 + 1) φ.d_number_in.f φ.d_number_in.fd ["line"] (spF K xr0 1 (.F) F_number_in) :=
  have S := sc_number_in
  fn_okN (N := N_number_in) (n := 5) (np := 1) rfl rfl (b := b_number_in) (Γe := [.F, .F, .F, .F, .F]) φ.d_number_in.F S (.inr rfl) rfl fun cdv A outer s H E hr =>
 (s_cons (s_asg (fun h k => ps_asg h k) (c_tuple (v_cons (c_callB (b_sum rfl) (spec_S1 sumD_sc) (by rfl) φ.z_sum bb_sum (a_cons (o_var 0 (pv 0)) a_nil)) (v_cons c_int v_nil))) (g_tuple (fun h => pg_tup rfl h) (gs_cons (g_name 1 (pg_name S.nd rfl (.inr rfl))) (gs_cons (g_name 2 (pg_name S.nd rfl (.inl rfl))) gs_nil))))
 (s_cons (s_for (Γh := [.F, .F, .F, .F, .F]) (passes_of rfl) rfl (i_seq (c_var 0 (pv 0))) (g_name 3 (pg_name S.nd rfl (.inl rfl)))
 (s_cons (s_set 2 (fun h => ps_set (i := 2) S.nd rfl (.inl rfl) h) (c_op o_add (spec_S2 intC_sc) (o_var 2 (pv 2)) (o_val (c_callB (b_sum rfl) (spec_S1 sumD_sc) (by rfl) φ.z_sum bb_sum (a_cons (o_val (c_lc (own := [("own", 4)]) (Γh := [.F, .F, .F, .F, .F]) rfl S.nd (show BlkOk N_number_in (defScope S_number_in) _ _ from ⟨rfl, by decide +kernel, by decide +kernel, by decide +kernel, by decide +kernel⟩) (i_range2 (by rfl) φ.z_range (v_cons c_int (v_cons (c_var 3 (pv 3)) v_nil))) (fun s H c cl fp => (g_name 4 (pg_name S.nd rfl (.inl rfl)))) (fun s H c cl fp => ts_nil) (fun s H c cl fp => (c_call (ok_count_in φ) (hr.mono (by omega)) (by rfl) φ.d_count_in.g φ.d_count_in.F.kp φ.d_count_in.b pass_no (v_cons (c_op o_sub (spec_S2 intC_sc) (o_var 1 (pv 1)) (o_var 4 (pv 4))) v_nil))))) a_nil)))))
 (s_one (s_set 1 (fun h => ps_set (i := 1) S.nd rfl (.inr rfl) h) (c_op o_sub (spec_S2 intC_sc) (o_var 1 (pv 1)) (o_var 3 (pv 3)))))))
 (s_one (s_ret (Γ2 := [.F, .F, .F, .F, .F]) (c_var 2 (pv 2))))))
theorem ok_at_in (φ : Fx K mg) : FnOk P w K mg base (L2.CX P w) (2 + 1) φ.d_at_in.f φ.d_at_in.fd ["stones", "number"] (spF K xr0 2 (.O .F) F_at_in) :=
  have S := sc_at_in
  fn_okN (N := N_at_in) (n := 5) (np := 2) rfl rfl (b := b_at_in) (Γe := [.F, .F, .O .F, .F, .F]) φ.d_at_in.F S (.inl (nn_seq (nn_seq nn_ret))) rfl fun cdv A outer s H E hr =>
 (s_cons (s_par2 (i := 2) (j := 3) (fun h => ps_par rfl S.nd rfl rfl (by decide) rfl rfl h (by rfl)) (c_list (s := .F) v_nil) (c_var 0 (pv 0)))
 (s_cons (s_while (Γh := [.F, .F, .O .F, .F, .F]) 100 (passes_of rfl) (t_cmp (o_gt hr.units) (spec_S2 cmpD_sc) (o_var 3 (pv 3)) (o_val c_int) (nomark _))
 (s_cons (s_set 4 (fun h => ps_set (i := 4) S.nd rfl (.inl rfl) h) c_int)
 (s_cons (s_while (Γh := [.F, .F, .O .F, .F, .F]) 100 (passes_of rfl) (t_cmp (o_ge hr.units) (spec_S2 cmpD_sc) (o_var 1 (pv 1)) (o_val (c_call (ok_count_in φ) (hr.mono (by omega)) (by rfl) φ.d_count_in.g φ.d_count_in.F.kp φ.d_count_in.b (fun σ => passAt (takes_of rfl rfl rfl rfl) σ) (v_cons (c_op o_sub (spec_S2 intC_sc) (o_var 3 (pv 3)) (o_var 4 (pv 4))) v_nil))) (nomark _))
 (s_one (s_par2 (i := 1) (j := 4) (fun h => ps_par rfl S.nd rfl rfl (by decide) rfl rfl h (by rfl)) (c_op o_sub (spec_S2 intC_sc) (o_var 1 (pv 1)) (o_val (c_call (ok_count_in φ) (hr.mono (by omega)) (by rfl) φ.d_count_in.g φ.d_count_in.F.kp φ.d_count_in.b (fun σ => passAt (takes_of rfl rfl rfl rfl) σ) (v_cons (c_op o_sub (spec_S2 intC_sc) (o_var 3 (pv 3)) (o_var 4 (pv 4))) v_nil)))) (c_op o_add (spec_S2 intC_sc) (o_var 4 (pv 4)) (o_val c_int)))))
 (s_cons (s_append 2 (pv 2) (c_var 4 (pv 4)) (by rfl) (by rfl) (by rfl) (by rfl) (fun h => ps_expr h) (fun a b => pe_bm PySem.F.plainAttrs_list PySem.F.slot_list_append PySem.F.type_list_append mt_append a b))
 (s_one (s_set 3 (fun h => ps_set (i := 3) S.nd rfl (.inl rfl) h) (c_op o_sub (spec_S2 intC_sc) (o_var 3 (pv 3)) (o_var 4 (pv 4)))))))))
 (s_one (s_ret (Γ2 := [.F, .F, .O .F, .F, .F]) (c_mv 2 (pv 2) (by rfl))))))
theorem ok_is_line (φ : Fx K mg) : FnOk P w K mg base (L2.CX P w) (3 + 1) φ.d_is_line.f φ.d_is_line.fd ["value"] (spF K xr0 1 (.F) F_is_line) :=
  have S := sc_is_line
  fn_okN (N := N_is_line) (n := 1) (np := 1) rfl rfl (b := b_is_line) (Γe := [.F]) φ.d_is_line.F S (.inr rfl) rfl fun cdv A outer s H E hr =>
 (s_one (s_ret (Γ2 := [.F]) (c_call (ok_fits_line φ) (hr.mono (by omega)) (by rfl) φ.d_fits_line.g φ.d_fits_line.F.kp φ.d_fits_line.b (fun σ => passAt (takes_of rfl rfl rfl rfl) σ) (v_cons (c_var 0 (pv 0)) v_nil))))
theorem ok_count_lines (φ : Fx K mg) : FnOk P w K mg base (L2.CX P w) (4 + 1) φ.d_count_lines.f φ.d_count_lines.fd ["stones"] (spF K xr0 1 (.F) F_count_lines) :=
  have S := sc_count_lines
  fn_okN (N := N_count_lines) (n := 1) (np := 1) rfl rfl (b := b_count_lines) (Γe := [.F]) φ.d_count_lines.F S (.inr rfl) rfl fun cdv A outer s H E hr =>
 (s_cons (s_expr (c_call (ok_need_stones φ) (hr.mono (by omega)) (by rfl) φ.d_need_stones.g φ.d_need_stones.F.kp φ.d_need_stones.b (fun σ => passAt (takes_of rfl rfl rfl rfl) σ) (v_cons (c_var 0 (pv 0)) v_nil)))
 (s_one (s_ret (Γ2 := [.F]) (c_call (ok_count_in φ) (hr.mono (by omega)) (by rfl) φ.d_count_in.g φ.d_count_in.F.kp φ.d_count_in.b (fun σ => passAt (takes_of rfl rfl rfl rfl) σ) (v_cons (c_var 0 (pv 0)) v_nil)))))
theorem ok_number_of_line (φ : Fx K mg) : FnOk P w K mg base (L2.CX P w) (4 + 1) φ.d_number_of_line.f φ.d_number_of_line.fd ["line"] (spF K xr0 1 (.F) F_number_of_line) :=
  have S := sc_number_of_line
  fn_okN (N := N_number_of_line) (n := 1) (np := 1) rfl rfl (b := b_number_of_line) (Γe := [.F]) φ.d_number_of_line.F S (.inr rfl) rfl fun cdv A outer s H E hr =>
 (s_cons (s_expr (c_call (ok_need_line φ) (hr.mono (by omega)) (by rfl) φ.d_need_line.g φ.d_need_line.F.kp φ.d_need_line.b (fun σ => passAt (takes_of rfl rfl rfl rfl) σ) (v_cons (c_var 0 (pv 0)) v_nil)))
 (s_one (s_ret (Γ2 := [.F]) (c_call (ok_number_in φ) (hr.mono (by omega)) (by rfl) φ.d_number_in.g φ.d_number_in.F.kp φ.d_number_in.b (fun σ => passAt (takes_of rfl rfl rfl rfl) σ) (v_cons (c_var 0 (pv 0)) v_nil)))))
theorem ok_line_at (φ : Fx K mg) : FnOk P w K mg base (L2.CX P w) (4 + 1) φ.d_line_at.f φ.d_line_at.fd ["stones", "number"] (spF K xr0 2 (.F) F_line_at) :=
  have S := sc_line_at
  fn_okN (N := N_line_at) (n := 2) (np := 2) rfl rfl (b := b_line_at) (Γe := [.F, .F]) φ.d_line_at.F S (.inr rfl) rfl fun cdv A outer s H E hr =>
 (s_cons (s_expr (c_call (ok_need_stones φ) (hr.mono (by omega)) (by rfl) φ.d_need_stones.g φ.d_need_stones.F.kp φ.d_need_stones.b (fun σ => passAt (takes_of rfl rfl rfl rfl) σ) (v_cons (c_var 0 (pv 0)) v_nil)))
 (s_cons (s_expr (c_call (ok_need_whole φ) (hr.mono (by omega)) (by rfl) φ.d_need_whole.g φ.d_need_whole.F.kp φ.d_need_whole.b (fun σ => passAt (takes_of rfl rfl rfl rfl) σ) (v_cons (c_var 1 (pv 1)) (v_cons c_int (v_cons (c_op o_sub (spec_S2 intC_sc) (o_val (c_call (ok_count_in φ) (hr.mono (by omega)) (by rfl) φ.d_count_in.g φ.d_count_in.F.kp φ.d_count_in.b (fun σ => passAt (takes_of rfl rfl rfl rfl) σ) (v_cons (c_var 0 (pv 0)) v_nil))) (o_val c_int)) v_nil)))))
 (s_one (s_ret (Γ2 := [.F, .F]) (c_callTy y_tuple (spec_tuple rfl) (by rfl) φ.z_tuple bb_tuple (a_cons (o_val (c_call (ok_at_in φ) (hr.mono (by omega)) (by rfl) φ.d_at_in.g φ.d_at_in.F.kp φ.d_at_in.b (fun σ => passAt (takes_of rfl rfl rfl rfl) σ) (v_cons (c_var 0 (pv 0)) (v_cons (c_var 1 (pv 1)) v_nil)))) a_nil))))))
theorem ok_next_line (φ : Fx K mg) : FnOk P w K mg base (L2.CX P w) (4 + 1) φ.d_next_line.f φ.d_next_line.fd ["line"] (spF K xr0 1 (.F) F_next_line) :=
  have S := sc_next_line
  fn_okN (N := N_next_line) (n := 3) (np := 1) rfl rfl (b := b_next_line) (Γe := [.F, .F, .F]) φ.d_next_line.F S (.inr rfl) rfl fun cdv A outer s H E hr =>
 (s_cons (s_expr (c_call (ok_need_line φ) (hr.mono (by omega)) (by rfl) φ.d_need_line.g φ.d_need_line.F.kp φ.d_need_line.b (fun σ => passAt (takes_of rfl rfl rfl rfl) σ) (v_cons (c_var 0 (pv 0)) v_nil)))
 (s_cons (s_par2 (i := 1) (j := 2) (fun h => ps_par rfl S.nd rfl rfl (by decide) rfl rfl h (by rfl)) (c_callB (b_sum rfl) (spec_S1 sumD_sc) (by rfl) φ.z_sum bb_sum (a_cons (o_var 0 (pv 0)) a_nil)) (c_op o_add (spec_S2 intC_sc) (o_val (c_call (ok_number_in φ) (hr.mono (by omega)) (by rfl) φ.d_number_in.g φ.d_number_in.F.kp φ.d_number_in.b (fun σ => passAt (takes_of rfl rfl rfl rfl) σ) (v_cons (c_var 0 (pv 0)) v_nil))) (o_val c_int)))
 (s_one (s_ret (Γ2 := [.F, .F, .F]) (c_if (t_cmp (o_lt hr.units) (spec_S2 cmpD_sc) (o_var 2 (pv 2)) (o_val (c_call (ok_count_in φ) (hr.mono (by omega)) (by rfl) φ.d_count_in.g φ.d_count_in.F.kp φ.d_count_in.b (fun σ => passAt (takes_of rfl rfl rfl rfl) σ) (v_cons (c_var 1 (pv 1)) v_nil))) (nomark _)) (c_callTy y_tuple (spec_tuple rfl) (by rfl) φ.z_tuple bb_tuple (a_cons (o_val (c_call (ok_at_in φ) (hr.mono (by omega)) (by rfl) φ.d_at_in.g φ.d_at_in.F.kp φ.d_at_in.b (fun σ => passAt (takes_of rfl rfl rfl rfl) σ) (v_cons (c_var 1 (pv 1)) (v_cons (c_var 2 (pv 2)) v_nil)))) a_nil)) c_non)))))
theorem ok__law_cup (φ : Fx K mg) : FnOk P w K mg base (L2.CX P w) (0 + 1) φ.d__law_cup.f φ.d__law_cup.fd ["script"] (spF K xr0 1 (.O .F) F__law_cup) :=
  have S := sc__law_cup
  fn_okN (N := N__law_cup) (n := 2) (np := 1) rfl rfl (b := b__law_cup) (Γe := [.F, .F]) φ.d__law_cup.F S (.inl (nn_seq nn_ret)) rfl fun cdv A outer s H E hr =>
 (s_cons (s_set 1 (fun h => ps_set (i := 1) S.nd rfl (.inl rfl) h) (c_callB (b_abs) (spec_S1 absD_sc) (by rfl) φ.z_abs bb_abs (a_cons (o_val (c_ix ix_seq (spec_ixL rfl) (o_val (c_op op_catS (spec_catL rfl rfl) (o_val (c_callTy y_list (spec_list rfl) (by rfl) φ.z_list bb_list (a_cons (o_var 0 (pv 0)) a_nil))) (o_val (c_list (s := .F) (v_cons c_int v_nil))))) (o_val c_int) (fun _ _ => rfl))) a_nil)))
 (s_one (s_ret (Γ2 := [.F, .F]) (c_list (s := .F) (v_cons (c_if (t_cmp (o_ge hr.units) (spec_S2 cmpD_sc) (o_var 1 (pv 1)) (o_val (c_op o_pow (spec_S2 intC_sc) (o_val c_int) (o_val c_int))) (nomark _)) (c_op o_fdiv (spec_S2 intC_sc) (o_var 1 (pv 1)) (o_val c_int)) c_int) (v_cons (c_op o_add (spec_S2 intC_sc) (o_val (c_op o_mod (spec_S2 intC_sc) (o_val (c_callTy y_int (spec_S1 intD_sc) (by rfl) φ.z_int bb_int (a_cons (o_val (c_op o_add (spec_S2 intC_sc) (o_val (c_op o_mul (spec_S2 intC_sc) (o_var 1 (pv 1)) (o_val c_int))) (o_val c_int))) a_nil))) (o_val c_int))) (o_val c_int)) v_nil))))))
theorem ok__law_roll (φ : Fx K mg) : FnOk P w K mg base (L2.CX P w) (0 + 1) φ.d__law_roll.f φ.d__law_roll.fd ["cup", "many"] (spG K xr0 1 (.F) F__law_roll) :=
  have S := sc__law_roll
  fn_okGN (N := N__law_roll) (n := 4) (np := 1) rfl rfl (b := b__law_roll) (Γe := [.O .F, .F, .F, .F]) φ.d__law_roll.F S (.inl (nn_seq (nn_seq (nn_seq nn_ret)))) fun cdv A outer s H E hr =>
 (s_cons (s_if (t_cmp (o_gt hr.units) (spec_S2 cmpD_sc) (o_val (c_ix ix_seq (spec_ixL rfl) (o_var 0 (pv 0)) (o_val c_int) (fun _ _ => rfl))) (o_val c_int) (nomark _))
 (s_cons (s_set 2 (fun h => ps_set (i := 2) S.nd rfl (.inl rfl) h) (c_op o_mod (spec_S2 intC_sc) (o_val (c_callTy y_int (spec_S1 intD_sc) (by rfl) φ.z_int bb_int (a_cons (o_val (c_ix ix_seq (spec_ixL rfl) (o_var 0 (pv 0)) (o_val c_int) (fun _ _ => rfl))) a_nil))) (o_var 1 (pv 1))))
 (s_cons (s_stoIx 0 (fun h k => ps_asg h k) (pv 0) (c_op o_fdiv (spec_S2 intC_sc) (o_val (c_ix ix_seq (spec_ixL rfl) (o_var 0 (pv 0)) (o_val c_int) (fun _ _ => rfl))) (o_var 1 (pv 1))) c_int)
 (s_one (s_ret (Γ2 := [.O .F, .F, .F, .F]) (c_var 2 (pv 2))))))
 s_nil)
 (s_cons (s_stoIx 0 (fun h k => ps_asg h k) (pv 0) (c_op o_mod (spec_S2 intC_sc) (o_val (c_callTy y_int (spec_S1 intD_sc) (by rfl) φ.z_int bb_int (a_cons (o_val (c_op o_add (spec_S2 intC_sc) (o_val (c_op o_mul (spec_S2 intC_sc) (o_val (c_ix ix_seq (spec_ixL rfl) (o_var 0 (pv 0)) (o_val c_int) (fun _ _ => rfl))) (o_val c_int))) (o_val c_int))) a_nil))) (o_val c_int)) c_int)
 (s_cons (s_set 3 (fun h => ps_set (i := 3) S.nd rfl (.inl rfl) h) (c_op o_mod (spec_S2 intC_sc) (o_val (c_callTy y_int (spec_S1 intD_sc) (by rfl) φ.z_int bb_int (a_cons (o_val (c_op o_mul (spec_S2 intC_sc) (o_val (c_ix ix_seq (spec_ixL rfl) (o_var 0 (pv 0)) (o_val c_int) (fun _ _ => rfl))) (o_val (c_op o_add (spec_S2 intC_sc) (o_val (c_ix ix_seq (spec_ixL rfl) (o_var 0 (pv 0)) (o_val c_int) (fun _ _ => rfl))) (o_val c_int))))) a_nil))) (o_val c_int)))
 (s_one (s_ret (Γ2 := [.O .F, .F, .F, .F]) (c_op o_mod (spec_S2 intC_sc) (o_val (c_callTy y_int (spec_S1 intD_sc) (by rfl) φ.z_int bb_int (a_cons (o_val (c_op o_fdiv (spec_S2 intC_sc) (o_var 3 (pv 3)) (o_val c_int))) a_nil))) (o_var 1 (pv 1))))))))
theorem ok__law_some (φ : Fx K mg) : FnOk P w K mg base (L2.CX P w) (1 + 1) φ.d__law_some.f φ.d__law_some.fd ["cup", "things"] (spG K xr0 1 (.F) F__law_some) :=
  have S := sc__law_some
  fn_okGN (N := N__law_some) (n := 2) (np := 1) rfl rfl (b := b__law_some) (Γe := [.O .F, .F]) φ.d__law_some.F S (.inl nn_ret) fun cdv A outer s H E hr =>
 (s_one (s_ret (Γ2 := [.O .F, .F]) (c_ix ix_seq (spec_ixL rfl) (o_var 1 (pv 1)) (o_val (c_callG 0 (ok__law_roll φ) (hr.mono (by omega)) (by rfl) φ.d__law_roll.g φ.d__law_roll.F.kp φ.d__law_roll.b (fun σ => passAt (takes_of rfl rfl rfl rfl) σ) (pv 0) (v_cons (c_callB (b_len) (spec_S1 lenD_sc) (by rfl) φ.z_len bb_len (a_cons (o_var 1 (pv 1)) a_nil)) v_nil))) (fun _ _ => rfl))))
theorem ok__law_sort (φ : Fx K mg) : FnOk P w K mg base (L2.CX P w) (0 + 1) φ.d__law_sort.f φ.d__law_sort.fd ["value"] (spF K xr0 1 (.F) F__law_sort) :=
  have S := sc__law_sort
  fn_okN (N := N__law_sort) (n := 1) (np := 1) rfl rfl (b := b__law_sort) (Γe := [.F]) φ.d__law_sort.F S (.inr rfl) rfl fun cdv A outer s H E hr =>
 (s_cons (s_if (PW.pt (w_or (t_cmp (o_is) (spec_S2 isN_sc) (o_var 0 (pv 0)) (o_val c_non) (nomark _)) (w_or1 (t_val (c_isa b_isa_bool (by rfl) φ.z_isinstance (by rfl) φ.z_bool bb_bool (o_var 0 (pv 0)))))))
 (s_one (s_ret (Γ2 := [.F]) (c_if (t_cmp (o_is) (spec_S2 isN_sc) (o_var 0 (pv 0)) (o_val c_non) (nomark _)) c_int c_int)))
 s_nil)
 (s_cons (s_if (PW.pt (w_or (t_val (c_isa b_isa_int (by rfl) φ.z_isinstance (by rfl) φ.z_int bb_int (o_var 0 (pv 0)))) (w_or1 (t_val (c_isa b_isa_str (by rfl) φ.z_isinstance (by rfl) φ.z_str bb_str (o_var 0 (pv 0)))))))
 (s_one (s_ret (Γ2 := [.F]) (c_if (t_val (c_isa b_isa_int (by rfl) φ.z_isinstance (by rfl) φ.z_int bb_int (o_var 0 (pv 0)))) c_int c_int)))
 s_nil)
 (s_one (s_ret (Γ2 := [.F]) (c_if (t_val (c_isa b_isa_tuple (by rfl) φ.z_isinstance (by rfl) φ.z_tuple bb_tuple (o_var 0 (pv 0)))) c_int (c_if (t_val (c_isa b_isa_list (by rfl) φ.z_isinstance (by rfl) φ.z_list bb_list (o_var 0 (pv 0)))) c_int c_int))))))
theorem ok__law_like (φ : Fx K mg) : ∀ n : Nat, FnOk P w K mg base (L2.CX P w) (1 + n + 1) φ.d__law_like.f φ.d__law_like.fd ["one", "other"] (spF K xr0 2 (.F) (F__law_like n))
  | 0 => have S := sc__law_like
    fn_okN (N := N__law_like) (n := 5) (np := 2) rfl rfl (b := badS) (Γe := [.F, .F, .F, .F, .F]) φ.d__law_like.F S (.inl nn_bad) rfl fun cdv A outer s H E hr => q_bad
  | n + 1 => have ih := ok__law_like φ n
    have S := sc__law_like
    fn_okN (N := N__law_like) (n := 5) (np := 2) rfl rfl (b := b__law_like (F__law_like n)) (Γe := [.F, .F, .F, .F, .F]) φ.d__law_like.F S (.inr rfl) rfl fun cdv A outer s H E hr =>
 (s_cons (s_set 2 (fun h => ps_set (i := 2) S.nd rfl (.inl rfl) h) (c_call (ok__law_sort φ) (hr.mono (by omega)) (by rfl) φ.d__law_sort.g φ.d__law_sort.F.kp φ.d__law_sort.b (fun σ => passAt (takes_of rfl rfl rfl rfl) σ) (v_cons (c_var 1 (pv 1)) v_nil)))
 (s_cons (s_if (PW.pt (w_or (t_cmp (o_ne hr.units) (spec_S2 neD_sc) (o_val (c_call (ok__law_sort φ) (hr.mono (by omega)) (by rfl) φ.d__law_sort.g φ.d__law_sort.F.kp φ.d__law_sort.b (fun σ => passAt (takes_of rfl rfl rfl rfl) σ) (v_cons (c_var 0 (pv 0)) v_nil))) (o_var 2 (pv 2)) (nomark _)) (w_or1 (t_cmp (o_eq hr.units) (spec_S2 eqD_sc) (o_var 2 (pv 2)) (o_val c_int) (nomark _)))))
 (s_one (s_ret (Γ2 := [.F, .F, .F, .F, .F]) c_bl))
 s_nil)
 (s_cons (s_if (t_cmp (o_in hr.units) (spec_S2 inD_sc) (o_var 2 (pv 2)) (o_val (c_tuple (v_cons c_int (v_cons c_int v_nil)))) (by rfl))
 (s_one (s_ret (Γ2 := [.F, .F, .F, .F, .F]) (c_and (c_cmp (o_eq hr.units) (spec_S2 eqD_sc) (o_val (c_callB (b_len) (spec_S1 lenD_sc) (by rfl) φ.z_len bb_len (a_cons (o_var 0 (pv 0)) a_nil))) (o_val (c_callB (b_len) (spec_S1 lenD_sc) (by rfl) φ.z_len bb_len (a_cons (o_var 1 (pv 1)) a_nil))) (nomark _)) (c_one (c_cmp (o_eq hr.units) (spec_S2 eqD_sc) (o_val (c_lc (own := [("first", 3), ("second", 4)]) (Γh := [.F, .F, .F, .F, .F]) rfl S.nd (show BlkOk N__law_like (defScope S__law_like) _ _ from ⟨rfl, by decide +kernel, by decide +kernel, by decide +kernel, by decide +kernel⟩) (i_zip (by rfl) φ.z_zip (v_cons (c_var 0 (pv 0)) (v_cons (c_var 1 (pv 1)) v_nil))) (fun s H c cl fp => (g_tuple (fun h => pg_tup rfl h) (gs_cons (g_name 3 (pg_name S.nd rfl (.inl rfl))) (gs_cons (g_name 4 (pg_name S.nd rfl (.inl rfl))) gs_nil)))) (fun s H c cl fp => (pts_one (t_not (t_val (c_call ih (hr.mono (by omega)) (by rfl) φ.d__law_like.g φ.d__law_like.F.kp φ.d__law_like.b pass_no (v_cons (c_var 3 (pv 3)) (v_cons (c_var 4 (pv 4)) v_nil))))))) (fun s H c cl fp => c_int))) (o_val (c_list (s := .F) v_nil)) (nomark _))))))
 s_nil)
 (s_one (s_ret (Γ2 := [.F, .F, .F, .F, .F]) (c_cmp (o_eq hr.units) (spec_S2 eqD_sc) (o_var 0 (pv 0)) (o_var 1 (pv 1)) (nomark _)))))))
theorem ok__law_bent (φ : Fx K mg) : ∀ n : Nat, FnOk P w K mg base (L2.CX P w) (2 + n + 1) φ.d__law_bent.f φ.d__law_bent.fd ["cup", "value"] (spG K xr0 1 (.F) (F__law_bent n))
  | 0 => have S := sc__law_bent
    fn_okGN (N := N__law_bent) (n := 5) (np := 1) rfl rfl (b := badS) (Γe := [.O .F, .F, .F, .F, .F]) φ.d__law_bent.F S (.inl nn_bad) fun cdv A outer s H E hr => q_bad
  | n + 1 => have ih := ok__law_bent φ n
    have S := sc__law_bent
    fn_okGN (N := N__law_bent) (n := 5) (np := 1) rfl rfl (b := b__law_bent (F__law_bent n)) (Γe := [.O .F, .F, .F, .F, .F]) φ.d__law_bent.F S (.inl (nn_seq (nn_seq (nn_seq (nn_seq (nn_seq (nn_seq nn_ret))))))) fun cdv A outer s H E hr =>
 (s_cons (s_if (PW.pt (w_or (t_not (t_val (c_isa b_isa_tuple (by rfl) φ.z_isinstance (by rfl) φ.z_tuple bb_tuple (o_var 1 (pv 1))))) (w_or (t_cmp (o_eq hr.units) (spec_S2 eqD_sc) (o_var 1 (pv 1)) (o_val (c_tuple v_nil)) (nomark _)) (w_or1 (t_cmp (o_eq hr.units) (spec_S2 eqD_sc) (o_val (c_callG 0 (ok__law_roll φ) (hr.mono (by omega)) (by rfl) φ.d__law_roll.g φ.d__law_roll.F.kp φ.d__law_roll.b (fun σ => passAt (takes_of rfl rfl rfl rfl) σ) (pv 0) (v_cons c_int v_nil))) (o_val c_int) (nomark _))))))
 (s_cons (s_set 2 (fun h => ps_set (i := 2) S.nd rfl (.inl rfl) h) (c_list (s := .F) (v_cons c_non (v_cons c_bl (v_cons c_bl (v_cons c_int (v_cons c_int (v_cons c_int (v_cons c_int (v_cons (c_neg c_int) (v_cons c_int (v_cons c_int (v_cons c_str (v_cons c_str (v_cons (c_tuple v_nil) (v_cons (c_weak (sh' := .F) (c_list (s := .F) v_nil) rfl (leS_refl _)) (v_cons (c_tuple (v_cons c_int v_nil)) (v_cons (c_tuple (v_cons c_int (v_cons c_int v_nil))) v_nil))))))))))))))))))
 (s_cons (s_if (t_cmp (o_eq hr.units) (spec_S2 eqD_sc) (o_val (c_call (ok__law_sort φ) (hr.mono (by omega)) (by rfl) φ.d__law_sort.g φ.d__law_sort.F.kp φ.d__law_sort.b (fun σ => passAt (takes_of rfl rfl rfl rfl) σ) (v_cons (c_var 1 (pv 1)) v_nil))) (o_val c_int) (nomark _))
 (s_one (s_set 2 (fun h => ps_set (i := 2) S.nd rfl (.inl rfl) h) (c_op op_catS (spec_catL rfl rfl) (o_var 2 (pv 2)) (o_val (c_list (s := .F) (v_cons (c_op o_add (spec_S2 intC_sc) (o_var 1 (pv 1)) (o_val c_int)) (v_cons (c_op o_add (spec_S2 intC_sc) (o_var 1 (pv 1)) (o_val c_int)) (v_cons (c_op o_sub (spec_S2 intC_sc) (o_var 1 (pv 1)) (o_val c_int)) v_nil))))))))
 s_nil)
 (s_one (s_ret (Γ2 := [.O .F, .F, .F, .F, .F]) (c_callG 0 (ok__law_some φ) (hr.mono (by omega)) (by rfl) φ.d__law_some.g φ.d__law_some.F.kp φ.d__law_some.b (fun σ => passAt (takes_of rfl rfl rfl rfl) σ) (pv 0) (v_cons (c_var 2 (pv 2)) v_nil))))))
 s_nil)
 (s_cons (s_par2 (i := 3) (j := 4) (fun h => ps_par rfl S.nd rfl rfl (by decide) rfl rfl h (by rfl)) (c_callG 0 (ok__law_roll φ) (hr.mono (by omega)) (by rfl) φ.d__law_roll.g φ.d__law_roll.F.kp φ.d__law_roll.b (fun σ => passAt (takes_of rfl rfl rfl rfl) σ) (pv 0) (v_cons (c_callB (b_len) (spec_S1 lenD_sc) (by rfl) φ.z_len bb_len (a_cons (o_var 1 (pv 1)) a_nil)) v_nil)) (c_callG 0 (ok__law_roll φ) (hr.mono (by omega)) (by rfl) φ.d__law_roll.g φ.d__law_roll.F.kp φ.d__law_roll.b (fun σ => passAt (takes_of rfl rfl rfl rfl) σ) (pv 0) (v_cons c_int v_nil)))
 (s_cons (s_if (t_cmp (o_eq hr.units) (spec_S2 eqD_sc) (o_var 4 (pv 4)) (o_val c_int) (nomark _))
 (s_one (s_ret (Γ2 := [.O .F, .F, .F, .F, .F]) (c_op o_plus spec_plus (o_val (c_slB sl_tupA slok_T (o_var 1 (pv 1)) (o_var 3 (pv 3)))) (o_val (c_slA sl_tupA slok_T (o_var 1 (pv 1)) (o_val (c_op o_add (spec_S2 intC_sc) (o_var 3 (pv 3)) (o_val c_int))))))))
 s_nil)
 (s_cons (s_if (t_cmp (o_eq hr.units) (spec_S2 eqD_sc) (o_var 4 (pv 4)) (o_val c_int) (nomark _))
 (s_one (s_ret (Γ2 := [.O .F, .F, .F, .F, .F]) (c_op o_plus spec_plus (o_val (c_slB sl_tupA slok_T (o_var 1 (pv 1)) (o_val (c_op o_add (spec_S2 intC_sc) (o_var 3 (pv 3)) (o_val c_int))))) (o_val (c_slA sl_tupA slok_T (o_var 1 (pv 1)) (o_var 3 (pv 3)))))))
 s_nil)
 (s_cons (s_if (t_cmp (o_eq hr.units) (spec_S2 eqD_sc) (o_var 4 (pv 4)) (o_val c_int) (nomark _))
 (s_one (s_ret (Γ2 := [.O .F, .F, .F, .F, .F]) (c_callTy y_list (spec_list rfl) (by rfl) φ.z_list bb_list (a_cons (o_var 1 (pv 1)) a_nil))))
 s_nil)
 (s_cons (s_if (t_cmp (o_eq hr.units) (spec_S2 eqD_sc) (o_var 4 (pv 4)) (o_val c_int) (nomark _))
 (s_one (s_ret (Γ2 := [.O .F, .F, .F, .F, .F]) (c_revT (o_var 1 (pv 1)))))
 s_nil)
 (s_one (s_ret (Γ2 := [.O .F, .F, .F, .F, .F]) (c_op o_plus spec_plus (o_val (c_op o_plus spec_plus (o_val (c_slB sl_tupA slok_T (o_var 1 (pv 1)) (o_var 3 (pv 3)))) (o_val (c_tuple (v_cons (c_callG 0 ih (hr.mono (by omega)) (by rfl) φ.d__law_bent.g φ.d__law_bent.F.kp φ.d__law_bent.b (fun σ => passAt (takes_of rfl rfl rfl rfl) σ) (pv 0) (v_cons (c_ix ix_seq (spec_ixL rfl) (o_var 1 (pv 1)) (o_var 3 (pv 3)) (fun _ _ => rfl)) v_nil)) v_nil))))) (o_val (c_slA sl_tupA slok_T (o_var 1 (pv 1)) (o_val (c_op o_add (spec_S2 intC_sc) (o_var 3 (pv 3)) (o_val c_int))))))))))))))
theorem ok__law_line_of (φ : Fx K mg) : FnOk P w K mg base (L2.CX P w) (1 + 1) φ.d__law_line_of.f φ.d__law_line_of.fd ["cup", "stones"] (spG K xr0 1 (.F) F__law_line_of) :=
  have S := sc__law_line_of
  fn_okGN (N := N__law_line_of) (n := 6) (np := 1) rfl rfl (b := b__law_line_of) (Γe := [.O .F, .F, .F, .O .F, .F, .F]) φ.d__law_line_of.F S (.inl (nn_seq (nn_seq nn_ret))) fun cdv A outer s H E hr =>
 (s_cons (s_par3 (i := 2) (j := 3) (l := 4) (fun h => ps_par3 rfl S.nd rfl rfl rfl (by decide) (by decide) (by decide) rfl rfl rfl h (by rfl)) (c_op o_add (spec_S2 intC_sc) (o_val c_int) (o_val (c_callG 0 (ok__law_roll φ) (hr.mono (by omega)) (by rfl) φ.d__law_roll.g φ.d__law_roll.F.kp φ.d__law_roll.b (fun σ => passAt (takes_of rfl rfl rfl rfl) σ) (pv 0) (v_cons c_int v_nil)))) (c_list (s := .F) v_nil) c_int)
 (s_cons (s_for (Γh := [.O .F, .F, .F, .O .F, .F, .F]) (passes_of rfl) rfl (i_range2 (by rfl) φ.z_range (v_cons c_int (v_cons (c_var 1 (pv 1)) v_nil))) (g_name 5 (pg_name S.nd rfl (.inl rfl)))
 (s_cons (s_if (t_cmp (o_eq hr.units) (spec_S2 eqD_sc) (o_val (c_callG 0 (ok__law_roll φ) (hr.mono (by omega)) (by rfl) φ.d__law_roll.g φ.d__law_roll.F.kp φ.d__law_roll.b (fun σ => passAt (takes_of rfl rfl rfl rfl) σ) (pv 0) (v_cons (c_op o_add (spec_S2 intC_sc) (o_val c_int) (o_var 2 (pv 2))) v_nil))) (o_val c_int) (nomark _))
 (s_cons (s_append 3 (pv 3) (c_var 4 (pv 4)) (by rfl) (by rfl) (by rfl) (by rfl) (fun h => ps_expr h) (fun a b => pe_bm PySem.F.plainAttrs_list PySem.F.slot_list_append PySem.F.type_list_append mt_append a b))
 (s_one (s_set 4 (fun h => ps_set (i := 4) S.nd rfl (.inl rfl) h) c_int)))
 s_nil)
 (s_one (s_set 4 (fun h => ps_set (i := 4) S.nd rfl (.inl rfl) h) (c_op o_add (spec_S2 intC_sc) (o_var 4 (pv 4)) (o_val c_int))))))
 (s_one (s_ret (Γ2 := [.O .F, .F, .F, .O .F, .F, .F]) (c_if (t_cmp (o_gt hr.units) (spec_S2 cmpD_sc) (o_var 1 (pv 1)) (o_val c_int) (nomark _)) (c_callTy y_tuple (spec_tuple rfl) (by rfl) φ.z_tuple bb_tuple (a_cons (o_val (c_op op_catS (spec_catL rfl rfl) (o_var 3 (pv 3)) (o_val (c_list (s := .F) (v_cons (c_var 4 (pv 4)) v_nil))))) a_nil)) (c_tuple v_nil))))))
theorem ok__law_cuts (φ : Fx K mg) : FnOk P w K mg base (L2.CX P w) (0 + 1) φ.d__law_cuts.f φ.d__law_cuts.fd ["line"] (spF K xr0 1 (.F) F__law_cuts) :=
  have S := sc__law_cuts
  fn_okN (N := N__law_cuts) (n := 2) (np := 1) rfl rfl (b := b__law_cuts) (Γe := [.F, .F]) φ.d__law_cuts.F S (.inr rfl) rfl fun cdv A outer s H E hr =>
 (s_one (s_ret (Γ2 := [.F, .F]) (c_callTy y_tuple (spec_tuple rfl) (by rfl) φ.z_tuple bb_tuple (a_cons (o_val (c_lc (own := [("at", 1)]) (Γh := [.F, .F]) rfl S.nd (show BlkOk N__law_cuts (defScope S__law_cuts) _ _ from ⟨rfl, by decide +kernel, by decide +kernel, by decide +kernel, by decide +kernel⟩) (i_range2 (by rfl) φ.z_range (v_cons c_int (v_cons (c_callB (b_len) (spec_S1 lenD_sc) (by rfl) φ.z_len bb_len (a_cons (o_var 0 (pv 0)) a_nil)) v_nil))) (fun s H c cl fp => (g_name 1 (pg_name S.nd rfl (.inl rfl)))) (fun s H c cl fp => ts_nil) (fun s H c cl fp => (c_callB (b_sum rfl) (spec_S1 sumD_sc) (by rfl) φ.z_sum bb_sum (a_cons (o_val (c_slB sl_tupA slok_T (o_var 0 (pv 0)) (o_var 1 (pv 1)))) a_nil))))) a_nil))))
theorem ok__law_lines (φ : Fx K mg) : ∀ n : Nat, FnOk P w K mg base (L2.CX P w) (0 + n + 1) φ.d__law_lines.f φ.d__law_lines.fd ["stones"] (spF K xr0 1 (.O .F) (F__law_lines n))
  | 0 => have S := sc__law_lines
    fn_okN (N := N__law_lines) (n := 4) (np := 1) rfl rfl (b := badS) (Γe := [.F, .F, .F, .F]) φ.d__law_lines.F S (.inl nn_bad) rfl fun cdv A outer s H E hr => q_bad
  | n + 1 => have ih := ok__law_lines φ n
    have S := sc__law_lines
    fn_okN (N := N__law_lines) (n := 4) (np := 1) rfl rfl (b := b__law_lines (F__law_lines n)) (Γe := [.F, .O .F, .F, .F]) φ.d__law_lines.F S (.inl (nn_seq (nn_seq (nn_seq nn_ret)))) rfl fun cdv A outer s H E hr =>
 (s_cons (s_if (t_cmp (o_eq hr.units) (spec_S2 eqD_sc) (o_var 0 (pv 0)) (o_val c_int) (nomark _))
 (s_one (s_ret (Γ2 := [.F, .F, .F, .F]) (c_list (s := .F) (v_cons (c_tuple v_nil) v_nil))))
 s_nil)
 (s_cons (s_set 1 (fun h => ps_set (i := 1) S.nd rfl (.inl rfl) h) (c_list (s := .F) v_nil))
 (s_cons (s_for (Γh := [.F, .O .F, .F, .F]) (passes_of rfl) rfl (i_range2 (by rfl) φ.z_range (v_cons c_int (v_cons (c_op o_add (spec_S2 intC_sc) (o_var 0 (pv 0)) (o_val c_int)) v_nil))) (g_name 2 (pg_name S.nd rfl (.inr rfl)))
 (s_one (s_set 1 (fun h => ps_set (i := 1) S.nd rfl (.inl rfl) h) (c_op op_catS (spec_catL rfl rfl) (o_var 1 (pv 1)) (o_val (c_lc (own := [("rest", 3)]) (Γh := [.F, .O .F, .F, .F]) rfl S.nd (show BlkOk N__law_lines (defScope S__law_lines) _ _ from ⟨rfl, by decide +kernel, by decide +kernel, by decide +kernel, by decide +kernel⟩) (i_seq (c_weak (sh' := .F) (c_call ih (hr.mono (by omega)) (by rfl) φ.d__law_lines.g φ.d__law_lines.F.kp φ.d__law_lines.b (fun σ => passAt (takes_of rfl rfl rfl rfl) σ) (v_cons (c_op o_sub (spec_S2 intC_sc) (o_var 0 (pv 0)) (o_var 2 (pv 2))) v_nil)) rfl (leS_refl _))) (fun s H c cl fp => (g_name 3 (pg_name S.nd rfl (.inl rfl)))) (fun s H c cl fp => ts_nil) (fun s H c cl fp => (c_op o_plus spec_plus (o_val (c_tuple (v_cons (c_var 2 (pv 2)) v_nil))) (o_var 3 (pv 3))))))))))
 (s_one (s_ret (Γ2 := [.F, .O .F, .F, .F]) (c_mv 1 (pv 1) (by rfl)))))))
theorem ok__law_is_line (φ : Fx K mg) : FnOk P w K mg base (L2.CX P w) (1 + 1) φ.d__law_is_line.f φ.d__law_is_line.fd ["value"] (spF K xr0 1 (.F) F__law_is_line) :=
  have S := sc__law_is_line
  fn_okN (N := N__law_is_line) (n := 2) (np := 1) rfl rfl (b := b__law_is_line) (Γe := [.F, .F]) φ.d__law_is_line.F S (.inr rfl) rfl fun cdv A outer s H E hr =>
 (s_cons (s_if (PW.pt (w_or (t_not (t_val (c_isa b_isa_tuple (by rfl) φ.z_isinstance (by rfl) φ.z_tuple bb_tuple (o_var 0 (pv 0))))) (w_or1 (t_cmp (o_ne hr.units) (spec_S2 neD_sc) (o_val (c_lc (own := [("height", 1)]) (Γh := [.F, .F]) rfl S.nd (show BlkOk N__law_is_line (defScope S__law_is_line) _ _ from ⟨rfl, by decide +kernel, by decide +kernel, by decide +kernel, by decide +kernel⟩) (i_seq (c_var 0 (pv 0))) (fun s H c cl fp => (g_name 1 (pg_name S.nd rfl (.inl rfl)))) (fun s H c cl fp => (pts_one (PW.pt (w_or (t_cmp (o_ne hr.units) (spec_S2 neD_sc) (o_val (c_call (ok__law_sort φ) (hr.mono (by omega)) (by rfl) φ.d__law_sort.g φ.d__law_sort.F.kp φ.d__law_sort.b pass_no (v_cons (c_var 1 (pv 1)) v_nil))) (o_val c_int) (nomark _)) (w_or1 (t_cmp (o_lt hr.units) (spec_S2 cmpD_sc) (o_var 1 (pv 1)) (o_val c_int) (nomark _))))))) (fun s H c cl fp => (c_var 1 (pv 1))))) (o_val (c_list (s := .F) v_nil)) (nomark _)))))
 (s_one (s_ret (Γ2 := [.F, .F]) c_bl))
 s_nil)
 (s_one (s_ret (Γ2 := [.F, .F]) (c_cmp (o_le hr.units) (spec_S2 cmpD_sc) (o_val (c_callB (b_sum rfl) (spec_S1 sumD_sc) (by rfl) φ.z_sum bb_sum (a_cons (o_var 0 (pv 0)) a_nil))) (o_val c_int) (nomark _)))))
theorem ok__law_number (φ : Fx K mg) : FnOk P w K mg base (L2.CX P w) (1 + 1) φ.d__law_number.f φ.d__law_number.fd ["line"] (spF K xr0 1 (.F) F__law_number) :=
  have S := sc__law_number
  fn_okN (N := N__law_number) (n := 4) (np := 1) rfl rfl (b := b__law_number) (Γe := [.F, .F, .F, .F]) φ.d__law_number.F S (.inr rfl) rfl fun cdv A outer s H E hr =>
 (s_cons (s_par2 (i := 1) (j := 2) (fun h => ps_par rfl S.nd rfl rfl (by decide) rfl rfl h (by rfl)) c_int (c_call (ok__law_cuts φ) (hr.mono (by omega)) (by rfl) φ.d__law_cuts.g φ.d__law_cuts.F.kp φ.d__law_cuts.b (fun σ => passAt (takes_of rfl rfl rfl rfl) σ) (v_cons (c_var 0 (pv 0)) v_nil)))
 (s_cons (s_for (Γh := [.F, .F, .F, .F]) (passes_of rfl) rfl (i_range2 (by rfl) φ.z_range (v_cons c_int (v_cons (c_callB (b_sum rfl) (spec_S1 sumD_sc) (by rfl) φ.z_sum bb_sum (a_cons (o_var 0 (pv 0)) a_nil)) v_nil))) (g_name 3 (pg_name S.nd rfl (.inl rfl)))
 (s_one (s_set 1 (fun h => ps_set (i := 1) S.nd rfl (.inl rfl) h) (c_op o_add (spec_S2 intC_sc) (o_val (c_op o_mul (spec_S2 intC_sc) (o_val c_int) (o_var 1 (pv 1)))) (o_val (c_if (t_cmp (o_in hr.units) (spec_S2 inD_sc) (o_var 3 (pv 3)) (o_var 2 (pv 2)) (by rfl)) c_int c_int))))))
 (s_one (s_ret (Γ2 := [.F, .F, .F, .F]) (c_var 1 (pv 1))))))
theorem ok__law_right (φ : Fx K mg) : FnOk P w K mg base (L2.CX P w) (14 + 1) φ.d__law_right.f φ.d__law_right.fd ["cup", "line"] (spG K xr0 1 (.F) F__law_right) :=
  have S := sc__law_right
  fn_okGN (N := N__law_right) (n := 11) (np := 1) rfl rfl (b := b__law_right) (Γe := [.O .F, .F, .F, .F, .F, .F, .F, .F, .F, .O .F, .F]) φ.d__law_right.F S (.inl (nn_seq (nn_seq (nn_seq (nn_seq (nn_seq (nn_seq (nn_seq (nn_seq (nn_seq (nn_seq (nn_seq (nn_seq (nn_seq nn_ret)))))))))))))) fun cdv A outer s H E hr =>
 (s_cons (s_par2 (i := 2) (j := 3) (fun h => ps_par rfl S.nd rfl rfl (by decide) rfl rfl h (by rfl)) (c_call (ok__law_number φ) (hr.mono (by omega)) (by rfl) φ.d__law_number.g φ.d__law_number.F.kp φ.d__law_number.b (fun σ => passAt (takes_of rfl rfl rfl rfl) σ) (v_cons (c_var 1 (pv 1)) v_nil)) (c_callB (b_sum rfl) (spec_S1 sumD_sc) (by rfl) φ.z_sum bb_sum (a_cons (o_var 1 (pv 1)) a_nil)))
 (s_cons (s_set 4 (fun h => ps_set (i := 4) S.nd rfl (.inl rfl) h) c_int)
 (s_cons (s_for (Γh := [.O .F, .F, .F, .F, .F, .F, .F, .F, .F, .F, .F]) (passes_of rfl) rfl (i_range2 (by rfl) φ.z_range (v_cons c_int (v_cons (c_var 3 (pv 3)) v_nil))) (g_name 5 (pg_name S.nd rfl (.inl rfl)))
 (s_one (s_set 4 (fun h => ps_set (i := 4) S.nd rfl (.inl rfl) h) (c_op o_mul (spec_S2 intC_sc) (o_val c_int) (o_var 4 (pv 4))))))
 (s_cons (s_set 6 (fun h => ps_set (i := 6) S.nd rfl (.inl rfl) h) (c_list (s := .F) (v_cons (c_call (ok_is_line φ) (hr.mono (by omega)) (by rfl) φ.d_is_line.g φ.d_is_line.F.kp φ.d_is_line.b (fun σ => passAt (takes_of rfl rfl rfl rfl) σ) (v_cons (c_var 1 (pv 1)) v_nil)) (v_cons (c_call (ok_count_lines φ) (hr.mono (by omega)) (by rfl) φ.d_count_lines.g φ.d_count_lines.F.kp φ.d_count_lines.b (fun σ => passAt (takes_of rfl rfl rfl rfl) σ) (v_cons (c_var 3 (pv 3)) v_nil)) (v_cons (c_call (ok_number_of_line φ) (hr.mono (by omega)) (by rfl) φ.d_number_of_line.g φ.d_number_of_line.F.kp φ.d_number_of_line.b (fun σ => passAt (takes_of rfl rfl rfl rfl) σ) (v_cons (c_var 1 (pv 1)) v_nil)) (v_cons (c_call (ok_line_at φ) (hr.mono (by omega)) (by rfl) φ.d_line_at.g φ.d_line_at.F.kp φ.d_line_at.b (fun σ => passAt (takes_of rfl rfl rfl rfl) σ) (v_cons (c_var 3 (pv 3)) (v_cons (c_var 2 (pv 2)) v_nil))) v_nil))))))
 (s_cons (s_if (t_not (t_val (c_call (ok__law_like φ 12) (hr.mono (by omega)) (by rfl) φ.d__law_like.g φ.d__law_like.F.kp φ.d__law_like.b (fun σ => passAt (takes_of rfl rfl rfl rfl) σ) (v_cons (c_var 6 (pv 6)) (v_cons (c_weak (sh' := .F) (c_list (s := .F) (v_cons c_bl (v_cons (c_var 4 (pv 4)) (v_cons (c_var 2 (pv 2)) (v_cons (c_var 1 (pv 1)) v_nil))))) rfl (leS_refl _)) v_nil)))))
 (s_one (s_ret (Γ2 := [.O .F, .F, .F, .F, .F, .F, .F, .F, .F, .F, .F]) c_bl))
 s_nil)
 (s_cons (s_set 7 (fun h => ps_set (i := 7) S.nd rfl (.inl rfl) h) (c_call (ok_next_line φ) (hr.mono (by omega)) (by rfl) φ.d_next_line.g φ.d_next_line.F.kp φ.d_next_line.b (fun σ => passAt (takes_of rfl rfl rfl rfl) σ) (v_cons (c_var 1 (pv 1)) v_nil)))
 (s_cons (s_if (t_cmp (o_ne hr.units) (spec_S2 neD_sc) (o_val (c_cmp (o_is) (spec_S2 isN_sc) (o_var 7 (pv 7)) (o_val c_non) (nomark _))) (o_val (c_cmp (o_eq hr.units) (spec_S2 eqD_sc) (o_var 2 (pv 2)) (o_val (c_op o_sub (spec_S2 intC_sc) (o_var 4 (pv 4)) (o_val c_int))) (nomark _))) (nomark _))
 (s_one (s_ret (Γ2 := [.O .F, .F, .F, .F, .F, .F, .F, .F, .F, .F, .F]) c_bl))
 s_nil)
 (s_cons (s_if (PW.pt (w_and (t_cmp (o_isNot) (spec_S2 isNotN_sc) (o_var 7 (pv 7)) (o_val c_non) (nomark _)) (w_and1 (PW.pt (w_or (t_not (t_val (c_call (ok__law_is_line φ) (hr.mono (by omega)) (by rfl) φ.d__law_is_line.g φ.d__law_is_line.F.kp φ.d__law_is_line.b (fun σ => passAt (takes_of rfl rfl rfl rfl) σ) (v_cons (c_var 7 (pv 7)) v_nil)))) (w_or (t_cmp (o_ne hr.units) (spec_S2 neD_sc) (o_val (c_callB (b_sum rfl) (spec_S1 sumD_sc) (by rfl) φ.z_sum bb_sum (a_cons (o_var 7 (pv 7)) a_nil))) (o_var 3 (pv 3)) (nomark _)) (w_or (t_cmp (o_le hr.units) (spec_S2 cmpD_sc) (o_var 7 (pv 7)) (o_var 1 (pv 1)) (nomark _)) (w_or1 (t_cmp (o_ne hr.units) (spec_S2 neD_sc) (o_val (c_call (ok__law_number φ) (hr.mono (by omega)) (by rfl) φ.d__law_number.g φ.d__law_number.F.kp φ.d__law_number.b (fun σ => passAt (takes_of rfl rfl rfl rfl) σ) (v_cons (c_var 7 (pv 7)) v_nil))) (o_val (c_op o_add (spec_S2 intC_sc) (o_var 2 (pv 2)) (o_val c_int))) (nomark _))))))))))
 (s_one (s_ret (Γ2 := [.O .F, .F, .F, .F, .F, .F, .F, .F, .F, .F, .F]) c_bl))
 s_nil)
 (s_cons (s_set 8 (fun h => ps_set (i := 8) S.nd rfl (.inl rfl) h) (c_callG 0 (ok__law_roll φ) (hr.mono (by omega)) (by rfl) φ.d__law_roll.g φ.d__law_roll.F.kp φ.d__law_roll.b (fun σ => passAt (takes_of rfl rfl rfl rfl) σ) (pv 0) (v_cons (c_var 4 (pv 4)) v_nil)))
 (s_cons (s_if (PW.pt (w_or (t_not (t_val (c_call (ok__law_like φ 12) (hr.mono (by omega)) (by rfl) φ.d__law_like.g φ.d__law_like.F.kp φ.d__law_like.b (fun σ => passAt (takes_of rfl rfl rfl rfl) σ) (v_cons (c_call (ok_number_of_line φ) (hr.mono (by omega)) (by rfl) φ.d_number_of_line.g φ.d_number_of_line.F.kp φ.d_number_of_line.b (fun σ => passAt (takes_of rfl rfl rfl rfl) σ) (v_cons (c_call (ok_line_at φ) (hr.mono (by omega)) (by rfl) φ.d_line_at.g φ.d_line_at.F.kp φ.d_line_at.b (fun σ => passAt (takes_of rfl rfl rfl rfl) σ) (v_cons (c_var 3 (pv 3)) (v_cons (c_var 8 (pv 8)) v_nil))) v_nil)) (v_cons (c_var 8 (pv 8)) v_nil))))) (w_or1 (t_cmp (o_ne hr.units) (spec_S2 neD_sc) (o_val (c_call (ok__law_number φ) (hr.mono (by omega)) (by rfl) φ.d__law_number.g φ.d__law_number.F.kp φ.d__law_number.b (fun σ => passAt (takes_of rfl rfl rfl rfl) σ) (v_cons (c_call (ok_line_at φ) (hr.mono (by omega)) (by rfl) φ.d_line_at.g φ.d_line_at.F.kp φ.d_line_at.b (fun σ => passAt (takes_of rfl rfl rfl rfl) σ) (v_cons (c_var 3 (pv 3)) (v_cons (c_var 8 (pv 8)) v_nil))) v_nil))) (o_var 8 (pv 8)) (nomark _)))))
 (s_one (s_ret (Γ2 := [.O .F, .F, .F, .F, .F, .F, .F, .F, .F, .F, .F]) c_bl))
 s_nil)
 (s_cons (s_set 5 (fun h => ps_set (i := 5) S.nd rfl (.inl rfl) h) (c_callG 0 (ok__law_roll φ) (hr.mono (by omega)) (by rfl) φ.d__law_roll.g φ.d__law_roll.F.kp φ.d__law_roll.b (fun σ => passAt (takes_of rfl rfl rfl rfl) σ) (pv 0) (v_cons (c_op o_add (spec_S2 intC_sc) (o_val (c_callB (b_len) (spec_S1 lenD_sc) (by rfl) φ.z_len bb_len (a_cons (o_var 1 (pv 1)) a_nil))) (o_val c_int)) v_nil)))
 (s_cons (s_set 9 (fun h => ps_set (i := 9) S.nd rfl (.inl rfl) h) (c_list (s := .F) (v_cons (c_var 1 (pv 1)) (v_cons (c_revT (o_var 1 (pv 1))) (v_cons (c_weak (sh' := .F) (c_callTy y_list (spec_list rfl) (by rfl) φ.z_list bb_list (a_cons (o_var 1 (pv 1)) a_nil)) rfl (leS_refl _)) (v_cons (c_slA sl_tupA slok_T (o_var 1 (pv 1)) (o_val c_int)) (v_cons (c_op o_plus spec_plus (o_var 1 (pv 1)) (o_val (c_tuple (v_cons c_int v_nil)))) (v_cons (c_op o_plus spec_plus (o_var 1 (pv 1)) (o_val (c_tuple (v_cons c_int v_nil)))) (v_cons (c_op o_plus spec_plus (o_val (c_op o_plus spec_plus (o_val (c_slB sl_tupA slok_T (o_var 1 (pv 1)) (o_var 5 (pv 5)))) (o_val (c_tuple (v_cons c_bl v_nil))))) (o_val (c_slA sl_tupA slok_T (o_var 1 (pv 1)) (o_var 5 (pv 5))))) (v_cons (c_op o_plus spec_plus (o_val (c_op o_plus spec_plus (o_val (c_slB sl_tupA slok_T (o_var 1 (pv 1)) (o_var 5 (pv 5)))) (o_val (c_tuple (v_cons c_str v_nil))))) (o_val (c_slA sl_tupA slok_T (o_var 1 (pv 1)) (o_var 5 (pv 5))))) (v_cons c_non (v_cons (c_tuple v_nil) v_nil))))))))))))
 (s_cons (s_for (Γh := [.O .F, .F, .F, .F, .F, .F, .F, .F, .F, .O .F, .F]) (passes_of rfl) rfl (i_seq (c_weak (sh' := .F) (c_op op_catS (spec_catL rfl rfl) (o_var 9 (pv 9)) (o_val (c_list (s := .F) (v_cons (c_tuple (v_cons c_int v_nil)) (v_cons (c_tuple (v_cons c_int v_nil)) (v_cons (c_tuple (v_cons c_int (v_cons c_int v_nil))) (v_cons (c_op op_repT spec_repT (o_val (c_tuple (v_cons c_int v_nil))) (o_val c_int)) (v_cons (c_op op_repT spec_repT (o_val (c_tuple (v_cons c_int v_nil))) (o_val c_int)) (v_cons (c_tuple (v_cons (c_neg c_int) (v_cons c_int v_nil))) (v_cons (c_callG 0 (ok__law_bent φ 4) (hr.mono (by omega)) (by rfl) φ.d__law_bent.g φ.d__law_bent.F.kp φ.d__law_bent.b (fun σ => passAt (takes_of rfl rfl rfl rfl) σ) (pv 0) (v_cons (c_var 1 (pv 1)) v_nil)) (v_cons (c_callG 0 (ok__law_bent φ 4) (hr.mono (by omega)) (by rfl) φ.d__law_bent.g φ.d__law_bent.F.kp φ.d__law_bent.b (fun σ => passAt (takes_of rfl rfl rfl rfl) σ) (pv 0) (v_cons (c_var 1 (pv 1)) v_nil)) v_nil))))))))))) rfl (leS_refl _))) (g_name 10 (pg_name S.nd rfl (.inl rfl)))
 (s_one (s_if (t_not (t_val (c_call (ok__law_like φ 12) (hr.mono (by omega)) (by rfl) φ.d__law_like.g φ.d__law_like.F.kp φ.d__law_like.b (fun σ => passAt (takes_of rfl rfl rfl rfl) σ) (v_cons (c_call (ok_is_line φ) (hr.mono (by omega)) (by rfl) φ.d_is_line.g φ.d_is_line.F.kp φ.d_is_line.b (fun σ => passAt (takes_of rfl rfl rfl rfl) σ) (v_cons (c_var 10 (pv 10)) v_nil)) (v_cons (c_call (ok__law_is_line φ) (hr.mono (by omega)) (by rfl) φ.d__law_is_line.g φ.d__law_is_line.F.kp φ.d__law_is_line.b (fun σ => passAt (takes_of rfl rfl rfl rfl) σ) (v_cons (c_var 10 (pv 10)) v_nil)) v_nil)))))
 (s_one (s_ret (Γ2 := [.O .F, .F, .F, .F, .F, .F, .F, .F, .F, .O .F, .F]) c_bl))
 s_nil)))
 (s_one (s_ret (Γ2 := [.O .F, .F, .F, .F, .F, .F, .F, .F, .F, .O .F, .F]) c_bl)))))))))))))))
theorem ok__law_all_right (φ : Fx K mg) : FnOk P w K mg base (L2.CX P w) (14 + 1) φ.d__law_all_right.f φ.d__law_all_right.fd ["stones"] (spF K xr0 1 (.F) F__law_all_right) :=
  have S := sc__law_all_right
  fn_okN (N := N__law_all_right) (n := 5) (np := 1) rfl rfl (b := b__law_all_right) (Γe := [.F, .F, .F, .F, .F]) φ.d__law_all_right.F S (.inr rfl) rfl fun cdv A outer s H E hr =>
 (s_cons (s_set 1 (fun h => ps_set (i := 1) S.nd rfl (.inl rfl) h) (c_call (ok__law_lines φ 12) (hr.mono (by omega)) (by rfl) φ.d__law_lines.g φ.d__law_lines.F.kp φ.d__law_lines.b (fun σ => passAt (takes_of rfl rfl rfl rfl) σ) (v_cons (c_var 0 (pv 0)) v_nil)))
 (s_cons (s_setLc (i := 2) (own := [("number", 3)]) (Γh := [.F, .O .F, .F, .F, .F]) rfl rfl (by rfl) rfl S.nd (show BlkOk N__law_all_right (defScope S__law_all_right) _ _ from ⟨rfl, by decide +kernel, by decide +kernel, by decide +kernel, by decide +kernel⟩) (i_range1 (by rfl) φ.z_range (v_cons (c_callB (b_len) (spec_S1 lenD_sc) (by rfl) φ.z_len bb_len (a_cons (o_var 1 (pv 1)) a_nil)) v_nil)) (fun s H c cl fp => (g_name 3 (pg_name S.nd rfl (.inl rfl)))) (fun s H c cl fp => ts_nil) (fun s H c cl fp => (c_call (ok_line_at φ) (hr.mono (by omega)) (by rfl) φ.d_line_at.g φ.d_line_at.F.kp φ.d_line_at.b pass_no (v_cons (c_var 0 (pv 0)) (v_cons (c_var 3 (pv 3)) v_nil)))))
 (s_cons (s_if (PW.pt (w_or (t_not (t_val (c_call (ok__law_like φ 12) (hr.mono (by omega)) (by rfl) φ.d__law_like.g φ.d__law_like.F.kp φ.d__law_like.b (fun σ => passAt (takes_of rfl rfl rfl rfl) σ) (v_cons (c_var 2 (pv 2)) (v_cons (c_var 1 (pv 1)) v_nil))))) (w_or (t_cmp (o_ne hr.units) (spec_S2 neD_sc) (o_var 1 (pv 1)) (o_val (c_callB (b_sorted hr.units) (spec_sorted rfl) (by rfl) φ.z_sorted bb_sorted (a_cons (o_var 1 (pv 1)) a_nil))) (nomark _)) (w_or1 (t_not (t_val (c_call (ok__law_like φ 12) (hr.mono (by omega)) (by rfl) φ.d__law_like.g φ.d__law_like.F.kp φ.d__law_like.b (fun σ => passAt (takes_of rfl rfl rfl rfl) σ) (v_cons (c_call (ok_count_lines φ) (hr.mono (by omega)) (by rfl) φ.d_count_lines.g φ.d_count_lines.F.kp φ.d_count_lines.b (fun σ => passAt (takes_of rfl rfl rfl rfl) σ) (v_cons (c_var 0 (pv 0)) v_nil)) (v_cons (c_callB (b_len) (spec_S1 lenD_sc) (by rfl) φ.z_len bb_len (a_cons (o_var 1 (pv 1)) a_nil)) v_nil)))))))))
 (s_one (s_ret (Γ2 := [.F, .F, .F, .F, .F]) c_bl))
 s_nil)
 (s_one (s_ret (Γ2 := [.F, .F, .F, .F, .F]) (c_call (ok__law_like φ 12) (hr.mono (by omega)) (by rfl) φ.d__law_like.g φ.d__law_like.F.kp φ.d__law_like.b (fun σ => passAt (takes_of rfl rfl rfl rfl) σ) (v_cons (c_weak (sh' := .F) (c_lc (own := [("line", 4)]) (Γh := [.F, .F, .F, .F, .F]) rfl S.nd (show BlkOk N__law_all_right (defScope S__law_all_right) _ _ from ⟨rfl, by decide +kernel, by decide +kernel, by decide +kernel, by decide +kernel⟩) (i_seq (c_var 1 (pv 1))) (fun s H c cl fp => (g_name 4 (pg_name S.nd rfl (.inl rfl)))) (fun s H c cl fp => ts_nil) (fun s H c cl fp => (c_call (ok_next_line φ) (hr.mono (by omega)) (by rfl) φ.d_next_line.g φ.d_next_line.F.kp φ.d_next_line.b pass_no (v_cons (c_var 4 (pv 4)) v_nil)))) rfl (leS_refl _)) (v_cons (c_weak (sh' := .F) (c_op op_catS (spec_catL rfl rfl) (o_val (c_slA sl_list (slok_L rfl) (o_var 1 (pv 1)) (o_val c_int))) (o_val (c_list (s := .F) (v_cons c_non v_nil)))) rfl (leS_refl _)) v_nil))))))))
theorem ok__law_written_right (φ : Fx K mg) : FnOk P w K mg base (L2.CX P w) (14 + 1) φ.d__law_written_right.f φ.d__law_written_right.fd [] (spF K xr0 0 (.F) F__law_written_right) :=
  have S := sc__law_written_right
  fn_okN (N := N__law_written_right) (n := 2) (np := 0) rfl rfl (b := b__law_written_right) (Γe := [.O .F, .F]) φ.d__law_written_right.F S (.inr rfl) rfl fun cdv A outer s H E hr =>
 (s_cons (s_set 0 (fun h => ps_set (i := 0) S.nd rfl (.inl rfl) h) (c_list (s := .F) (v_cons (c_call (ok_is_line φ) (hr.mono (by omega)) (by rfl) φ.d_is_line.g φ.d_is_line.F.kp φ.d_is_line.b (fun σ => passAt (takes_of rfl rfl rfl rfl) σ) (v_cons (c_tuple (v_cons c_int (v_cons c_int (v_cons c_int v_nil)))) v_nil)) (v_cons (c_call (ok_is_line φ) (hr.mono (by omega)) (by rfl) φ.d_is_line.g φ.d_is_line.F.kp φ.d_is_line.b (fun σ => passAt (takes_of rfl rfl rfl rfl) σ) (v_cons (c_tuple (v_cons c_int (v_cons c_int v_nil))) v_nil)) (v_cons (c_call (ok_count_lines φ) (hr.mono (by omega)) (by rfl) φ.d_count_lines.g φ.d_count_lines.F.kp φ.d_count_lines.b (fun σ => passAt (takes_of rfl rfl rfl rfl) σ) (v_cons c_int v_nil)) (v_cons (c_call (ok_count_lines φ) (hr.mono (by omega)) (by rfl) φ.d_count_lines.g φ.d_count_lines.F.kp φ.d_count_lines.b (fun σ => passAt (takes_of rfl rfl rfl rfl) σ) (v_cons c_int v_nil)) (v_cons (c_call (ok_number_of_line φ) (hr.mono (by omega)) (by rfl) φ.d_number_of_line.g φ.d_number_of_line.F.kp φ.d_number_of_line.b (fun σ => passAt (takes_of rfl rfl rfl rfl) σ) (v_cons (c_tuple (v_cons c_int (v_cons c_int (v_cons c_int v_nil)))) v_nil)) (v_cons (c_call (ok_line_at φ) (hr.mono (by omega)) (by rfl) φ.d_line_at.g φ.d_line_at.F.kp φ.d_line_at.b (fun σ => passAt (takes_of rfl rfl rfl rfl) σ) (v_cons c_int (v_cons c_int v_nil))) (v_cons (c_call (ok_next_line φ) (hr.mono (by omega)) (by rfl) φ.d_next_line.g φ.d_next_line.F.kp φ.d_next_line.b (fun σ => passAt (takes_of rfl rfl rfl rfl) σ) (v_cons (c_tuple (v_cons c_int (v_cons c_int (v_cons c_int v_nil)))) v_nil)) (v_cons (c_call (ok_next_line φ) (hr.mono (by omega)) (by rfl) φ.d_next_line.g φ.d_next_line.F.kp φ.d_next_line.b (fun σ => passAt (takes_of rfl rfl rfl rfl) σ) (v_cons (c_tuple (v_cons c_int v_nil)) v_nil)) v_nil))))))))))
 (s_cons (s_if (t_not (t_val (c_call (ok__law_like φ 12) (hr.mono (by omega)) (by rfl) φ.d__law_like.g φ.d__law_like.F.kp φ.d__law_like.b (fun σ => passAt (takes_of rfl rfl rfl rfl) σ) (v_cons (c_var 0 (pv 0)) (v_cons (c_weak (sh' := .F) (c_list (s := .F) (v_cons c_bl (v_cons c_bl (v_cons c_int (v_cons c_int (v_cons c_int (v_cons (c_tuple (v_cons c_int (v_cons c_int (v_cons c_int v_nil)))) (v_cons (c_tuple (v_cons c_int (v_cons c_int (v_cons c_int v_nil)))) (v_cons c_non v_nil))))))))) rfl (leS_refl _)) v_nil)))))
 (s_one (s_ret (Γ2 := [.F, .F]) c_bl))
 s_nil)
 (s_cons (s_if (t_not (t_val (c_call (ok__law_like φ 12) (hr.mono (by omega)) (by rfl) φ.d__law_like.g φ.d__law_like.F.kp φ.d__law_like.b (fun σ => passAt (takes_of rfl rfl rfl rfl) σ) (v_cons (c_weak (sh' := .F) (c_list (s := .F) (v_cons (c_call (ok_is_line φ) (hr.mono (by omega)) (by rfl) φ.d_is_line.g φ.d_is_line.F.kp φ.d_is_line.b (fun σ => passAt (takes_of rfl rfl rfl rfl) σ) (v_cons (c_tuple (v_cons c_int (v_cons c_int v_nil))) v_nil)) (v_cons (c_call (ok_is_line φ) (hr.mono (by omega)) (by rfl) φ.d_is_line.g φ.d_is_line.F.kp φ.d_is_line.b (fun σ => passAt (takes_of rfl rfl rfl rfl) σ) (v_cons (c_tuple (v_cons c_int (v_cons c_int v_nil))) v_nil)) (v_cons (c_call (ok_is_line φ) (hr.mono (by omega)) (by rfl) φ.d_is_line.g φ.d_is_line.F.kp φ.d_is_line.b (fun σ => passAt (takes_of rfl rfl rfl rfl) σ) (v_cons (c_tuple (v_cons c_int v_nil)) v_nil)) (v_cons (c_call (ok_is_line φ) (hr.mono (by omega)) (by rfl) φ.d_is_line.g φ.d_is_line.F.kp φ.d_is_line.b (fun σ => passAt (takes_of rfl rfl rfl rfl) σ) (v_cons (c_tuple v_nil) v_nil)) v_nil))))) rfl (leS_refl _)) (v_cons (c_weak (sh' := .F) (c_list (s := .F) (v_cons c_bl (v_cons c_bl (v_cons c_bl (v_cons c_bl v_nil))))) rfl (leS_refl _)) v_nil)))))
 (s_one (s_ret (Γ2 := [.F, .F]) c_bl))
 s_nil)
 (s_cons (s_set 0 (fun h => ps_set (i := 0) S.nd rfl (.inl rfl) h) (c_list (s := .F) (v_cons (c_weak (sh' := .F) (c_lc (own := [("number", 1)]) (Γh := [.F, .F]) rfl S.nd (show BlkOk N__law_written_right (defScope S__law_written_right) _ _ from ⟨rfl, by decide +kernel, by decide +kernel, by decide +kernel, by decide +kernel⟩) (i_range1 (by rfl) φ.z_range (v_cons c_int v_nil)) (fun s H c cl fp => (g_name 1 (pg_name S.nd rfl (.inl rfl)))) (fun s H c cl fp => ts_nil) (fun s H c cl fp => (c_call (ok_line_at φ) (hr.mono (by omega)) (by rfl) φ.d_line_at.g φ.d_line_at.F.kp φ.d_line_at.b pass_no (v_cons c_int (v_cons (c_var 1 (pv 1)) v_nil))))) rfl (leS_refl _)) (v_cons (c_call (ok_number_of_line φ) (hr.mono (by omega)) (by rfl) φ.d_number_of_line.g φ.d_number_of_line.F.kp φ.d_number_of_line.b (fun σ => passAt (takes_of rfl rfl rfl rfl) σ) (v_cons (c_tuple v_nil) v_nil)) (v_cons (c_call (ok_line_at φ) (hr.mono (by omega)) (by rfl) φ.d_line_at.g φ.d_line_at.F.kp φ.d_line_at.b (fun σ => passAt (takes_of rfl rfl rfl rfl) σ) (v_cons c_int (v_cons c_int v_nil))) (v_cons (c_call (ok_next_line φ) (hr.mono (by omega)) (by rfl) φ.d_next_line.g φ.d_next_line.F.kp φ.d_next_line.b (fun σ => passAt (takes_of rfl rfl rfl rfl) σ) (v_cons (c_tuple v_nil) v_nil)) (v_cons (c_call (ok_number_of_line φ) (hr.mono (by omega)) (by rfl) φ.d_number_of_line.g φ.d_number_of_line.F.kp φ.d_number_of_line.b (fun σ => passAt (takes_of rfl rfl rfl rfl) σ) (v_cons (c_tuple (v_cons c_int v_nil)) v_nil)) (v_cons (c_call (ok_number_of_line φ) (hr.mono (by omega)) (by rfl) φ.d_number_of_line.g φ.d_number_of_line.F.kp φ.d_number_of_line.b (fun σ => passAt (takes_of rfl rfl rfl rfl) σ) (v_cons (c_op op_repT spec_repT (o_val (c_tuple (v_cons c_int v_nil))) (o_val c_int)) v_nil)) (v_cons (c_call (ok_count_lines φ) (hr.mono (by omega)) (by rfl) φ.d_count_lines.g φ.d_count_lines.F.kp φ.d_count_lines.b (fun σ => passAt (takes_of rfl rfl rfl rfl) σ) (v_cons c_int v_nil)) v_nil)))))))))
 (s_one (s_ret (Γ2 := [.O .F, .F]) (c_call (ok__law_like φ 12) (hr.mono (by omega)) (by rfl) φ.d__law_like.g φ.d__law_like.F.kp φ.d__law_like.b (fun σ => passAt (takes_of rfl rfl rfl rfl) σ) (v_cons (c_var 0 (pv 0)) (v_cons (c_weak (sh' := .F) (c_list (s := .F) (v_cons (c_weak (sh' := .F) (c_list (s := .F) (v_cons (c_tuple (v_cons c_int (v_cons c_int (v_cons c_int v_nil)))) (v_cons (c_tuple (v_cons c_int (v_cons c_int v_nil))) (v_cons (c_tuple (v_cons c_int (v_cons c_int v_nil))) (v_cons (c_tuple (v_cons c_int v_nil)) v_nil))))) rfl (leS_refl _)) (v_cons c_int (v_cons (c_tuple v_nil) (v_cons c_non (v_cons c_int (v_cons c_int (v_cons c_int v_nil)))))))) rfl (leS_refl _)) v_nil)))))))))
theorem ok_law (φ : Fx K mg) : FnOk P w K mg base (L2.CX P w) (15 + 1) φ.d_law.f φ.d_law.fd ["script"] (spF K xr0 1 (.F) F_law) :=
  have S := sc_law
  fn_okN (N := N_law) (n := 3) (np := 1) rfl rfl (b := b_law) (Γe := [.F, .O .F, .F]) φ.d_law.F S (.inr rfl) rfl fun cdv A outer s H E hr =>
 (s_cons (s_if (t_not (t_val (c_call0 (ok__law_written_right φ) (hr.mono (by omega)) (by rfl) φ.d__law_written_right.g φ.d__law_written_right.F.kp φ.d__law_written_right.b (fun σ => passAt (takes_of rfl rfl rfl rfl) σ))))
 (s_one (s_ret (Γ2 := [.F, .F, .F]) c_bl))
 s_nil)
 (s_cons (s_set 1 (fun h => ps_set (i := 1) S.nd rfl (.inl rfl) h) (c_call (ok__law_cup φ) (hr.mono (by omega)) (by rfl) φ.d__law_cup.g φ.d__law_cup.F.kp φ.d__law_cup.b (fun σ => passAt (takes_of rfl rfl rfl rfl) σ) (v_cons (c_var 0 (pv 0)) v_nil)))
 (s_cons (s_for (Γh := [.F, .O .F, .F]) (passes_of rfl) rfl (i_seq (c_tuple (v_cons c_int (v_cons c_int (v_cons c_int v_nil))))) (g_name 2 (pg_name S.nd rfl (.inl rfl)))
 (s_one (s_if (t_not (t_val (c_callG 1 (ok__law_right φ) (hr.mono (by omega)) (by rfl) φ.d__law_right.g φ.d__law_right.F.kp φ.d__law_right.b (fun σ => passAt (takes_of rfl rfl rfl rfl) σ) (pv 1) (v_cons (c_callG 1 (ok__law_line_of φ) (hr.mono (by omega)) (by rfl) φ.d__law_line_of.g φ.d__law_line_of.F.kp φ.d__law_line_of.b (fun σ => passAt (takes_of rfl rfl rfl rfl) σ) (pv 1) (v_cons (c_callG 1 (ok__law_roll φ) (hr.mono (by omega)) (by rfl) φ.d__law_roll.g φ.d__law_roll.F.kp φ.d__law_roll.b (fun σ => passAt (takes_of rfl rfl rfl rfl) σ) (pv 1) (v_cons (c_var 2 (pv 2)) v_nil)) v_nil)) v_nil))))
 (s_one (s_ret (Γ2 := [.F, .O .F, .F]) c_bl))
 s_nil)))
 (s_one (s_ret (Γ2 := [.F, .O .F, .F]) (c_call (ok__law_all_right φ) (hr.mono (by omega)) (by rfl) φ.d__law_all_right.g φ.d__law_all_right.F.kp φ.d__law_all_right.b (fun σ => passAt (takes_of rfl rfl rfl rfl) σ) (v_cons (c_callG 1 (ok__law_roll φ) (hr.mono (by omega)) (by rfl) φ.d__law_roll.g φ.d__law_roll.F.kp φ.d__law_roll.b (fun σ => passAt (takes_of rfl rfl rfl rfl) σ) (pv 1) (v_cons c_int v_nil)) v_nil)))))))
end
end K63

/-! part K63_z -/
set_option Elab.async false
set_option linter.all false
set_option maxRecDepth 100000
set_option maxHeartbeats 0
namespace K63
open PySem PySem.Spec PyProof.Rows L2 PySem.W Vs
theorem all_mk {P : Program} {w : World} {K : PySem.W.Frag} {h : Heap} {mg : Str → Option Value} {fa : Addr} (X : K.In h) (G : h.Ns mainGlobals mg) (hfa : mg "law" = some (.ref fa))
    {f0 : Addr} {od0 an0 : Option Addr} {sl0 : Array (Option Value)} {oc0 kV0 dc0 pm0 cd0 ct0 : Value}
    {f1 : Addr} {od1 an1 : Option Addr} {sl1 : Array (Option Value)} {oc1 kV1 dc1 pm1 cd1 ct1 : Value}
    {f2 : Addr} {od2 an2 : Option Addr} {sl2 : Array (Option Value)} {oc2 kV2 dc2 pm2 cd2 ct2 : Value}
    {f3 : Addr} {od3 an3 : Option Addr} {sl3 : Array (Option Value)} {oc3 kV3 dc3 pm3 cd3 ct3 : Value}
    {f4 : Addr} {od4 an4 : Option Addr} {sl4 : Array (Option Value)} {oc4 kV4 dc4 pm4 cd4 ct4 : Value}
    {f5 : Addr} {od5 an5 : Option Addr} {sl5 : Array (Option Value)} {oc5 kV5 dc5 pm5 cd5 ct5 : Value}
    {f6 : Addr} {od6 an6 : Option Addr} {sl6 : Array (Option Value)} {oc6 kV6 dc6 pm6 cd6 ct6 : Value}
    {f7 : Addr} {od7 an7 : Option Addr} {sl7 : Array (Option Value)} {oc7 kV7 dc7 pm7 cd7 ct7 : Value}
    {f8 : Addr} {od8 an8 : Option Addr} {sl8 : Array (Option Value)} {oc8 kV8 dc8 pm8 cd8 ct8 : Value}
    {f9 : Addr} {od9 an9 : Option Addr} {sl9 : Array (Option Value)} {oc9 kV9 dc9 pm9 cd9 ct9 : Value}
    {f10 : Addr} {od10 an10 : Option Addr} {sl10 : Array (Option Value)} {oc10 kV10 dc10 pm10 cd10 ct10 : Value}
    {f11 : Addr} {od11 an11 : Option Addr} {sl11 : Array (Option Value)} {oc11 kV11 dc11 pm11 cd11 ct11 : Value}
    {f12 : Addr} {od12 an12 : Option Addr} {sl12 : Array (Option Value)} {oc12 kV12 dc12 pm12 cd12 ct12 : Value}
    {f13 : Addr} {od13 an13 : Option Addr} {sl13 : Array (Option Value)} {oc13 kV13 dc13 pm13 cd13 ct13 : Value}
    {f14 : Addr} {od14 an14 : Option Addr} {sl14 : Array (Option Value)} {oc14 kV14 dc14 pm14 cd14 ct14 : Value}
    {f15 : Addr} {od15 an15 : Option Addr} {sl15 : Array (Option Value)} {oc15 kV15 dc15 pm15 cd15 ct15 : Value}
    {f16 : Addr} {od16 an16 : Option Addr} {sl16 : Array (Option Value)} {oc16 kV16 dc16 pm16 cd16 ct16 : Value}
    {f17 : Addr} {od17 an17 : Option Addr} {sl17 : Array (Option Value)} {oc17 kV17 dc17 pm17 cd17 ct17 : Value}
    {f18 : Addr} {od18 an18 : Option Addr} {sl18 : Array (Option Value)} {oc18 kV18 dc18 pm18 cd18 ct18 : Value}
    {f19 : Addr} {od19 an19 : Option Addr} {sl19 : Array (Option Value)} {oc19 kV19 dc19 pm19 cd19 ct19 : Value}
    {f20 : Addr} {od20 an20 : Option Addr} {sl20 : Array (Option Value)} {oc20 kV20 dc20 pm20 cd20 ct20 : Value}
    {f21 : Addr} {od21 an21 : Option Addr} {sl21 : Array (Option Value)} {oc21 kV21 dc21 pm21 cd21 ct21 : Value}
    {f22 : Addr} {od22 an22 : Option Addr} {sl22 : Array (Option Value)} {oc22 kV22 dc22 pm22 cd22 ct22 : Value}
    {f23 : Addr} {od23 an23 : Option Addr} {sl23 : Array (Option Value)} {oc23 kV23 dc23 pm23 cd23 ct23 : Value}
    {f24 : Addr} {od24 an24 : Option Addr} {sl24 : Array (Option Value)} {oc24 kV24 dc24 pm24 cd24 ct24 : Value}
    {f25 : Addr} {od25 an25 : Option Addr} {sl25 : Array (Option Value)} {oc25 kV25 dc25 pm25 cd25 ct25 : Value}
    {f26 : Addr} {od26 an26 : Option Addr} {sl26 : Array (Option Value)} {oc26 kV26 dc26 pm26 cd26 ct26 : Value}
    {f27 : Addr} {od27 an27 : Option Addr} {sl27 : Array (Option Value)} {oc27 kV27 dc27 pm27 cd27 ct27 : Value}
    {f28 : Addr} {od28 an28 : Option Addr} {sl28 : Array (Option Value)} {oc28 kV28 dc28 pm28 cd28 ct28 : Value}
    {f29 : Addr} {od29 an29 : Option Addr} {sl29 : Array (Option Value)} {oc29 kV29 dc29 pm29 cd29 ct29 : Value}
    {f30 : Addr} {od30 an30 : Option Addr} {sl30 : Array (Option Value)} {oc30 kV30 dc30 pm30 cd30 ct30 : Value}
    {t_STONES : Tok}
    (a0 : PySem.W.nsIn K mainGlobals "is_integer" = some (some (.ref f0))) (l0 : K.lookup f0 = some ⟨oc0, od0, .func (PySem.W.fnOf "is_integer" "is_integer" (defArgs S_is_integer) (defBody S_is_integer) (defScope S_is_integer) .none kV0 dc0 pm0 an0 cd0 ct0), sl0⟩) (c0 : PySem.W.codeIn K cd0 "is_integer" = true) (k0 : PySem.W.keepIn K (.ref f0) = true)
    (a1 : PySem.W.nsIn K mainGlobals "is_whole" = some (some (.ref f1))) (l1 : K.lookup f1 = some ⟨oc1, od1, .func (PySem.W.fnOf "is_whole" "is_whole" (defArgs S_is_whole) (defBody S_is_whole) (defScope S_is_whole) .none kV1 dc1 pm1 an1 cd1 ct1), sl1⟩) (c1 : PySem.W.codeIn K cd1 "is_whole" = true) (k1 : PySem.W.keepIn K (.ref f1) = true)
    (a2 : PySem.W.nsIn K mainGlobals "need_whole" = some (some (.ref f2))) (l2 : K.lookup f2 = some ⟨oc2, od2, .func (PySem.W.fnOf "need_whole" "need_whole" (defArgs S_need_whole) (defBody S_need_whole) (defScope S_need_whole) .none kV2 dc2 pm2 an2 cd2 ct2), sl2⟩) (c2 : PySem.W.codeIn K cd2 "need_whole" = true) (k2 : PySem.W.keepIn K (.ref f2) = true)
    (a3 : PySem.W.nsIn K mainGlobals "is_tuple_of" = some (some (.ref f3))) (l3 : K.lookup f3 = some ⟨oc3, od3, .func (PySem.W.fnOf "is_tuple_of" "is_tuple_of" (defArgs S_is_tuple_of) (defBody S_is_tuple_of) (defScope S_is_tuple_of) .none kV3 dc3 pm3 an3 cd3 ct3), sl3⟩) (c3 : PySem.W.codeIn K cd3 "is_tuple_of" = true) (k3 : PySem.W.keepIn K (.ref f3) = true)
    (a4 : PySem.W.nsIn K mainGlobals "fits_line" = some (some (.ref f4))) (l4 : K.lookup f4 = some ⟨oc4, od4, .func (PySem.W.fnOf "fits_line" "fits_line" (defArgs S_fits_line) (defBody S_fits_line) (defScope S_fits_line) .none kV4 dc4 pm4 an4 cd4 ct4), sl4⟩) (c4 : PySem.W.codeIn K cd4 "fits_line" = true) (k4 : PySem.W.keepIn K (.ref f4) = true)
    (a5 : PySem.W.nsIn K mainGlobals "need_line" = some (some (.ref f5))) (l5 : K.lookup f5 = some ⟨oc5, od5, .func (PySem.W.fnOf "need_line" "need_line" (defArgs S_need_line) (defBody S_need_line) (defScope S_need_line) .none kV5 dc5 pm5 an5 cd5 ct5), sl5⟩) (c5 : PySem.W.codeIn K cd5 "need_line" = true) (k5 : PySem.W.keepIn K (.ref f5) = true)
    (a6 : PySem.W.nsIn K mainGlobals "need_stones" = some (some (.ref f6))) (l6 : K.lookup f6 = some ⟨oc6, od6, .func (PySem.W.fnOf "need_stones" "need_stones" (defArgs S_need_stones) (defBody S_need_stones) (defScope S_need_stones) .none kV6 dc6 pm6 an6 cd6 ct6), sl6⟩) (c6 : PySem.W.codeIn K cd6 "need_stones" = true) (k6 : PySem.W.keepIn K (.ref f6) = true)
    (a7 : PySem.W.nsIn K mainGlobals "power_of" = some (some (.ref f7))) (l7 : K.lookup f7 = some ⟨oc7, od7, .func (PySem.W.fnOf "power_of" "power_of" (defArgs S_power_of) (defBody S_power_of) (defScope S_power_of) .none kV7 dc7 pm7 an7 cd7 ct7), sl7⟩) (c7 : PySem.W.codeIn K cd7 "power_of" = true) (k7 : PySem.W.keepIn K (.ref f7) = true)
    (a8 : PySem.W.nsIn K mainGlobals "count_in" = some (some (.ref f8))) (l8 : K.lookup f8 = some ⟨oc8, od8, .func (PySem.W.fnOf "count_in" "count_in" (defArgs S_count_in) (defBody S_count_in) (defScope S_count_in) .none kV8 dc8 pm8 an8 cd8 ct8), sl8⟩) (c8 : PySem.W.codeIn K cd8 "count_in" = true) (k8 : PySem.W.keepIn K (.ref f8) = true)
    (a9 : PySem.W.nsIn K mainGlobals "number_in" = some (some (.ref f9))) (l9 : K.lookup f9 = some ⟨oc9, od9, .func (PySem.W.fnOf "number_in" "number_in" (defArgs S_number_in) (defBody S_number_in) (defScope S_number_in) .none kV9 dc9 pm9 an9 cd9 ct9), sl9⟩) (c9 : PySem.W.codeIn K cd9 "number_in" = true) (k9 : PySem.W.keepIn K (.ref f9) = true)
    (a10 : PySem.W.nsIn K mainGlobals "at_in" = some (some (.ref f10))) (l10 : K.lookup f10 = some ⟨oc10, od10, .func (PySem.W.fnOf "at_in" "at_in" (defArgs S_at_in) (defBody S_at_in) (defScope S_at_in) .none kV10 dc10 pm10 an10 cd10 ct10), sl10⟩) (c10 : PySem.W.codeIn K cd10 "at_in" = true) (k10 : PySem.W.keepIn K (.ref f10) = true)
    (a11 : PySem.W.nsIn K mainGlobals "is_line" = some (some (.ref f11))) (l11 : K.lookup f11 = some ⟨oc11, od11, .func (PySem.W.fnOf "is_line" "is_line" (defArgs S_is_line) (defBody S_is_line) (defScope S_is_line) .none kV11 dc11 pm11 an11 cd11 ct11), sl11⟩) (c11 : PySem.W.codeIn K cd11 "is_line" = true) (k11 : PySem.W.keepIn K (.ref f11) = true)
    (a12 : PySem.W.nsIn K mainGlobals "count_lines" = some (some (.ref f12))) (l12 : K.lookup f12 = some ⟨oc12, od12, .func (PySem.W.fnOf "count_lines" "count_lines" (defArgs S_count_lines) (defBody S_count_lines) (defScope S_count_lines) .none kV12 dc12 pm12 an12 cd12 ct12), sl12⟩) (c12 : PySem.W.codeIn K cd12 "count_lines" = true) (k12 : PySem.W.keepIn K (.ref f12) = true)
    (a13 : PySem.W.nsIn K mainGlobals "number_of_line" = some (some (.ref f13))) (l13 : K.lookup f13 = some ⟨oc13, od13, .func (PySem.W.fnOf "number_of_line" "number_of_line" (defArgs S_number_of_line) (defBody S_number_of_line) (defScope S_number_of_line) .none kV13 dc13 pm13 an13 cd13 ct13), sl13⟩) (c13 : PySem.W.codeIn K cd13 "number_of_line" = true) (k13 : PySem.W.keepIn K (.ref f13) = true)
    (a14 : PySem.W.nsIn K mainGlobals "line_at" = some (some (.ref f14))) (l14 : K.lookup f14 = some ⟨oc14, od14, .func (PySem.W.fnOf "line_at" "line_at" (defArgs S_line_at) (defBody S_line_at) (defScope S_line_at) .none kV14 dc14 pm14 an14 cd14 ct14), sl14⟩) (c14 : PySem.W.codeIn K cd14 "line_at" = true) (k14 : PySem.W.keepIn K (.ref f14) = true)
    (a15 : PySem.W.nsIn K mainGlobals "next_line" = some (some (.ref f15))) (l15 : K.lookup f15 = some ⟨oc15, od15, .func (PySem.W.fnOf "next_line" "next_line" (defArgs S_next_line) (defBody S_next_line) (defScope S_next_line) .none kV15 dc15 pm15 an15 cd15 ct15), sl15⟩) (c15 : PySem.W.codeIn K cd15 "next_line" = true) (k15 : PySem.W.keepIn K (.ref f15) = true)
    (a16 : PySem.W.nsIn K mainGlobals "_law_cup" = some (some (.ref f16))) (l16 : K.lookup f16 = some ⟨oc16, od16, .func (PySem.W.fnOf "_law_cup" "_law_cup" (defArgs S__law_cup) (defBody S__law_cup) (defScope S__law_cup) .none kV16 dc16 pm16 an16 cd16 ct16), sl16⟩) (c16 : PySem.W.codeIn K cd16 "_law_cup" = true) (k16 : PySem.W.keepIn K (.ref f16) = true)
    (a17 : PySem.W.nsIn K mainGlobals "_law_roll" = some (some (.ref f17))) (l17 : K.lookup f17 = some ⟨oc17, od17, .func (PySem.W.fnOf "_law_roll" "_law_roll" (defArgs S__law_roll) (defBody S__law_roll) (defScope S__law_roll) .none kV17 dc17 pm17 an17 cd17 ct17), sl17⟩) (c17 : PySem.W.codeIn K cd17 "_law_roll" = true) (k17 : PySem.W.keepIn K (.ref f17) = true)
    (a18 : PySem.W.nsIn K mainGlobals "_law_some" = some (some (.ref f18))) (l18 : K.lookup f18 = some ⟨oc18, od18, .func (PySem.W.fnOf "_law_some" "_law_some" (defArgs S__law_some) (defBody S__law_some) (defScope S__law_some) .none kV18 dc18 pm18 an18 cd18 ct18), sl18⟩) (c18 : PySem.W.codeIn K cd18 "_law_some" = true) (k18 : PySem.W.keepIn K (.ref f18) = true)
    (a19 : PySem.W.nsIn K mainGlobals "_law_sort" = some (some (.ref f19))) (l19 : K.lookup f19 = some ⟨oc19, od19, .func (PySem.W.fnOf "_law_sort" "_law_sort" (defArgs S__law_sort) (defBody S__law_sort) (defScope S__law_sort) .none kV19 dc19 pm19 an19 cd19 ct19), sl19⟩) (c19 : PySem.W.codeIn K cd19 "_law_sort" = true) (k19 : PySem.W.keepIn K (.ref f19) = true)
    (a20 : PySem.W.nsIn K mainGlobals "_law_like" = some (some (.ref f20))) (l20 : K.lookup f20 = some ⟨oc20, od20, .func (PySem.W.fnOf "_law_like" "_law_like" (defArgs S__law_like) (defBody S__law_like) (defScope S__law_like) .none kV20 dc20 pm20 an20 cd20 ct20), sl20⟩) (c20 : PySem.W.codeIn K cd20 "_law_like" = true) (k20 : PySem.W.keepIn K (.ref f20) = true)
    (a21 : PySem.W.nsIn K mainGlobals "_law_bent" = some (some (.ref f21))) (l21 : K.lookup f21 = some ⟨oc21, od21, .func (PySem.W.fnOf "_law_bent" "_law_bent" (defArgs S__law_bent) (defBody S__law_bent) (defScope S__law_bent) .none kV21 dc21 pm21 an21 cd21 ct21), sl21⟩) (c21 : PySem.W.codeIn K cd21 "_law_bent" = true) (k21 : PySem.W.keepIn K (.ref f21) = true)
    (a22 : PySem.W.nsIn K mainGlobals "_law_line_of" = some (some (.ref f22))) (l22 : K.lookup f22 = some ⟨oc22, od22, .func (PySem.W.fnOf "_law_line_of" "_law_line_of" (defArgs S__law_line_of) (defBody S__law_line_of) (defScope S__law_line_of) .none kV22 dc22 pm22 an22 cd22 ct22), sl22⟩) (c22 : PySem.W.codeIn K cd22 "_law_line_of" = true) (k22 : PySem.W.keepIn K (.ref f22) = true)
    (a23 : PySem.W.nsIn K mainGlobals "_law_cuts" = some (some (.ref f23))) (l23 : K.lookup f23 = some ⟨oc23, od23, .func (PySem.W.fnOf "_law_cuts" "_law_cuts" (defArgs S__law_cuts) (defBody S__law_cuts) (defScope S__law_cuts) .none kV23 dc23 pm23 an23 cd23 ct23), sl23⟩) (c23 : PySem.W.codeIn K cd23 "_law_cuts" = true) (k23 : PySem.W.keepIn K (.ref f23) = true)
    (a24 : PySem.W.nsIn K mainGlobals "_law_lines" = some (some (.ref f24))) (l24 : K.lookup f24 = some ⟨oc24, od24, .func (PySem.W.fnOf "_law_lines" "_law_lines" (defArgs S__law_lines) (defBody S__law_lines) (defScope S__law_lines) .none kV24 dc24 pm24 an24 cd24 ct24), sl24⟩) (c24 : PySem.W.codeIn K cd24 "_law_lines" = true) (k24 : PySem.W.keepIn K (.ref f24) = true)
    (a25 : PySem.W.nsIn K mainGlobals "_law_is_line" = some (some (.ref f25))) (l25 : K.lookup f25 = some ⟨oc25, od25, .func (PySem.W.fnOf "_law_is_line" "_law_is_line" (defArgs S__law_is_line) (defBody S__law_is_line) (defScope S__law_is_line) .none kV25 dc25 pm25 an25 cd25 ct25), sl25⟩) (c25 : PySem.W.codeIn K cd25 "_law_is_line" = true) (k25 : PySem.W.keepIn K (.ref f25) = true)
    (a26 : PySem.W.nsIn K mainGlobals "_law_number" = some (some (.ref f26))) (l26 : K.lookup f26 = some ⟨oc26, od26, .func (PySem.W.fnOf "_law_number" "_law_number" (defArgs S__law_number) (defBody S__law_number) (defScope S__law_number) .none kV26 dc26 pm26 an26 cd26 ct26), sl26⟩) (c26 : PySem.W.codeIn K cd26 "_law_number" = true) (k26 : PySem.W.keepIn K (.ref f26) = true)
    (a27 : PySem.W.nsIn K mainGlobals "_law_right" = some (some (.ref f27))) (l27 : K.lookup f27 = some ⟨oc27, od27, .func (PySem.W.fnOf "_law_right" "_law_right" (defArgs S__law_right) (defBody S__law_right) (defScope S__law_right) .none kV27 dc27 pm27 an27 cd27 ct27), sl27⟩) (c27 : PySem.W.codeIn K cd27 "_law_right" = true) (k27 : PySem.W.keepIn K (.ref f27) = true)
    (a28 : PySem.W.nsIn K mainGlobals "_law_all_right" = some (some (.ref f28))) (l28 : K.lookup f28 = some ⟨oc28, od28, .func (PySem.W.fnOf "_law_all_right" "_law_all_right" (defArgs S__law_all_right) (defBody S__law_all_right) (defScope S__law_all_right) .none kV28 dc28 pm28 an28 cd28 ct28), sl28⟩) (c28 : PySem.W.codeIn K cd28 "_law_all_right" = true) (k28 : PySem.W.keepIn K (.ref f28) = true)
    (a29 : PySem.W.nsIn K mainGlobals "_law_written_right" = some (some (.ref f29))) (l29 : K.lookup f29 = some ⟨oc29, od29, .func (PySem.W.fnOf "_law_written_right" "_law_written_right" (defArgs S__law_written_right) (defBody S__law_written_right) (defScope S__law_written_right) .none kV29 dc29 pm29 an29 cd29 ct29), sl29⟩) (c29 : PySem.W.codeIn K cd29 "_law_written_right" = true) (k29 : PySem.W.keepIn K (.ref f29) = true)
    (a30 : PySem.W.nsIn K mainGlobals "law" = some (some (.ref f30))) (l30 : K.lookup f30 = some ⟨oc30, od30, .func (PySem.W.fnOf "law" "law" (defArgs S_law) (defBody S_law) (defScope S_law) .none kV30 dc30 pm30 an30 cd30 ct30), sl30⟩) (c30 : PySem.W.codeIn K cd30 "law" = true) (k30 : PySem.W.keepIn K (.ref f30) = true)
    (z_abs : PySem.W.nsIn K mainGlobals "abs" = some none)
    (z_all : PySem.W.nsIn K mainGlobals "all" = some none)
    (z_bool : PySem.W.nsIn K mainGlobals "bool" = some none)
    (z_int : PySem.W.nsIn K mainGlobals "int" = some none)
    (z_isinstance : PySem.W.nsIn K mainGlobals "isinstance" = some none)
    (z_len : PySem.W.nsIn K mainGlobals "len" = some none)
    (z_list : PySem.W.nsIn K mainGlobals "list" = some none)
    (z_max : PySem.W.nsIn K mainGlobals "max" = some none)
    (z_range : PySem.W.nsIn K mainGlobals "range" = some none)
    (z_sorted : PySem.W.nsIn K mainGlobals "sorted" = some none)
    (z_str : PySem.W.nsIn K mainGlobals "str" = some none)
    (z_sum : PySem.W.nsIn K mainGlobals "sum" = some none)
    (z_tuple : PySem.W.nsIn K mainGlobals "tuple" = some none)
    (z_zip : PySem.W.nsIn K mainGlobals "zip" = some none)
    (q_STONES : PySem.W.nsIn K mainGlobals "STONES" = some (some (.int 60 t_STONES))) :
    ∃ fd : FuncData, (∀ (s : Shared) (v : Value), BindsTo s fd ⟨[v], []⟩ [("script", v)]) ∧ ∀ base : Heap, K.In base → base.Ns mainGlobals mg → FnOk P w K mg base (L2.CX P w) 16 fa fd ["script"] (spF K xr0 1 .F F_law) := by
  have e := hfa.symm.trans (PySem.W.mg_of X G a30)
  cases e
  let d0 : DefOk K mg "is_integer" S_is_integer ["value"] := ⟨f0, _, fun_mk (st := S_is_integer) l0 c0 k0, PySem.W.mg_of X G a0, (fun_mk (st := S_is_integer) l0 c0 k0).binds (ps := ["value"]) fun _ _ _ _ _ _ us hl => match us, hl with | [_], _ => rfl⟩
  let d1 : DefOk K mg "is_whole" S_is_whole ["value", "low", "high"] := ⟨f1, _, fun_mk (st := S_is_whole) l1 c1 k1, PySem.W.mg_of X G a1, (fun_mk (st := S_is_whole) l1 c1 k1).binds (ps := ["value", "low", "high"]) fun _ _ _ _ _ _ us hl => match us, hl with | [_, _, _], _ => rfl⟩
  let d2 : DefOk K mg "need_whole" S_need_whole ["value", "low", "high"] := ⟨f2, _, fun_mk (st := S_need_whole) l2 c2 k2, PySem.W.mg_of X G a2, (fun_mk (st := S_need_whole) l2 c2 k2).binds (ps := ["value", "low", "high"]) fun _ _ _ _ _ _ us hl => match us, hl with | [_, _, _], _ => rfl⟩
  let d3 : DefOk K mg "is_tuple_of" S_is_tuple_of ["value", "low", "high"] := ⟨f3, _, fun_mk (st := S_is_tuple_of) l3 c3 k3, PySem.W.mg_of X G a3, (fun_mk (st := S_is_tuple_of) l3 c3 k3).binds (ps := ["value", "low", "high"]) fun _ _ _ _ _ _ us hl => match us, hl with | [_, _, _], _ => rfl⟩
  let d4 : DefOk K mg "fits_line" S_fits_line ["value"] := ⟨f4, _, fun_mk (st := S_fits_line) l4 c4 k4, PySem.W.mg_of X G a4, (fun_mk (st := S_fits_line) l4 c4 k4).binds (ps := ["value"]) fun _ _ _ _ _ _ us hl => match us, hl with | [_], _ => rfl⟩
  let d5 : DefOk K mg "need_line" S_need_line ["line"] := ⟨f5, _, fun_mk (st := S_need_line) l5 c5 k5, PySem.W.mg_of X G a5, (fun_mk (st := S_need_line) l5 c5 k5).binds (ps := ["line"]) fun _ _ _ _ _ _ us hl => match us, hl with | [_], _ => rfl⟩
  let d6 : DefOk K mg "need_stones" S_need_stones ["stones"] := ⟨f6, _, fun_mk (st := S_need_stones) l6 c6 k6, PySem.W.mg_of X G a6, (fun_mk (st := S_need_stones) l6 c6 k6).binds (ps := ["stones"]) fun _ _ _ _ _ _ us hl => match us, hl with | [_], _ => rfl⟩
  let d7 : DefOk K mg "power_of" S_power_of ["many"] := ⟨f7, _, fun_mk (st := S_power_of) l7 c7 k7, PySem.W.mg_of X G a7, (fun_mk (st := S_power_of) l7 c7 k7).binds (ps := ["many"]) fun _ _ _ _ _ _ us hl => match us, hl with | [_], _ => rfl⟩
  let d8 : DefOk K mg "count_in" S_count_in ["stones"] := ⟨f8, _, fun_mk (st := S_count_in) l8 c8 k8, PySem.W.mg_of X G a8, (fun_mk (st := S_count_in) l8 c8 k8).binds (ps := ["stones"]) fun _ _ _ _ _ _ us hl => match us, hl with | [_], _ => rfl⟩
  let d9 : DefOk K mg "number_in" S_number_in ["line"] := ⟨f9, _, fun_mk (st := S_number_in) l9 c9 k9, PySem.W.mg_of X G a9, (fun_mk (st := S_number_in) l9 c9 k9).binds (ps := ["line"]) fun _ _ _ _ _ _ us hl => match us, hl with | [_], _ => rfl⟩
  let d10 : DefOk K mg "at_in" S_at_in ["stones", "number"] := ⟨f10, _, fun_mk (st := S_at_in) l10 c10 k10, PySem.W.mg_of X G a10, (fun_mk (st := S_at_in) l10 c10 k10).binds (ps := ["stones", "number"]) fun _ _ _ _ _ _ us hl => match us, hl with | [_, _], _ => rfl⟩
  let d11 : DefOk K mg "is_line" S_is_line ["value"] := ⟨f11, _, fun_mk (st := S_is_line) l11 c11 k11, PySem.W.mg_of X G a11, (fun_mk (st := S_is_line) l11 c11 k11).binds (ps := ["value"]) fun _ _ _ _ _ _ us hl => match us, hl with | [_], _ => rfl⟩
  let d12 : DefOk K mg "count_lines" S_count_lines ["stones"] := ⟨f12, _, fun_mk (st := S_count_lines) l12 c12 k12, PySem.W.mg_of X G a12, (fun_mk (st := S_count_lines) l12 c12 k12).binds (ps := ["stones"]) fun _ _ _ _ _ _ us hl => match us, hl with | [_], _ => rfl⟩
  let d13 : DefOk K mg "number_of_line" S_number_of_line ["line"] := ⟨f13, _, fun_mk (st := S_number_of_line) l13 c13 k13, PySem.W.mg_of X G a13, (fun_mk (st := S_number_of_line) l13 c13 k13).binds (ps := ["line"]) fun _ _ _ _ _ _ us hl => match us, hl with | [_], _ => rfl⟩
  let d14 : DefOk K mg "line_at" S_line_at ["stones", "number"] := ⟨f14, _, fun_mk (st := S_line_at) l14 c14 k14, PySem.W.mg_of X G a14, (fun_mk (st := S_line_at) l14 c14 k14).binds (ps := ["stones", "number"]) fun _ _ _ _ _ _ us hl => match us, hl with | [_, _], _ => rfl⟩
  let d15 : DefOk K mg "next_line" S_next_line ["line"] := ⟨f15, _, fun_mk (st := S_next_line) l15 c15 k15, PySem.W.mg_of X G a15, (fun_mk (st := S_next_line) l15 c15 k15).binds (ps := ["line"]) fun _ _ _ _ _ _ us hl => match us, hl with | [_], _ => rfl⟩
  let d16 : DefOk K mg "_law_cup" S__law_cup ["script"] := ⟨f16, _, fun_mk (st := S__law_cup) l16 c16 k16, PySem.W.mg_of X G a16, (fun_mk (st := S__law_cup) l16 c16 k16).binds (ps := ["script"]) fun _ _ _ _ _ _ us hl => match us, hl with | [_], _ => rfl⟩
  let d17 : DefOk K mg "_law_roll" S__law_roll ["cup", "many"] := ⟨f17, _, fun_mk (st := S__law_roll) l17 c17 k17, PySem.W.mg_of X G a17, (fun_mk (st := S__law_roll) l17 c17 k17).binds (ps := ["cup", "many"]) fun _ _ _ _ _ _ us hl => match us, hl with | [_, _], _ => rfl⟩
  let d18 : DefOk K mg "_law_some" S__law_some ["cup", "things"] := ⟨f18, _, fun_mk (st := S__law_some) l18 c18 k18, PySem.W.mg_of X G a18, (fun_mk (st := S__law_some) l18 c18 k18).binds (ps := ["cup", "things"]) fun _ _ _ _ _ _ us hl => match us, hl with | [_, _], _ => rfl⟩
  let d19 : DefOk K mg "_law_sort" S__law_sort ["value"] := ⟨f19, _, fun_mk (st := S__law_sort) l19 c19 k19, PySem.W.mg_of X G a19, (fun_mk (st := S__law_sort) l19 c19 k19).binds (ps := ["value"]) fun _ _ _ _ _ _ us hl => match us, hl with | [_], _ => rfl⟩
  let d20 : DefOk K mg "_law_like" S__law_like ["one", "other"] := ⟨f20, _, fun_mk (st := S__law_like) l20 c20 k20, PySem.W.mg_of X G a20, (fun_mk (st := S__law_like) l20 c20 k20).binds (ps := ["one", "other"]) fun _ _ _ _ _ _ us hl => match us, hl with | [_, _], _ => rfl⟩
  let d21 : DefOk K mg "_law_bent" S__law_bent ["cup", "value"] := ⟨f21, _, fun_mk (st := S__law_bent) l21 c21 k21, PySem.W.mg_of X G a21, (fun_mk (st := S__law_bent) l21 c21 k21).binds (ps := ["cup", "value"]) fun _ _ _ _ _ _ us hl => match us, hl with | [_, _], _ => rfl⟩
  let d22 : DefOk K mg "_law_line_of" S__law_line_of ["cup", "stones"] := ⟨f22, _, fun_mk (st := S__law_line_of) l22 c22 k22, PySem.W.mg_of X G a22, (fun_mk (st := S__law_line_of) l22 c22 k22).binds (ps := ["cup", "stones"]) fun _ _ _ _ _ _ us hl => match us, hl with | [_, _], _ => rfl⟩
  let d23 : DefOk K mg "_law_cuts" S__law_cuts ["line"] := ⟨f23, _, fun_mk (st := S__law_cuts) l23 c23 k23, PySem.W.mg_of X G a23, (fun_mk (st := S__law_cuts) l23 c23 k23).binds (ps := ["line"]) fun _ _ _ _ _ _ us hl => match us, hl with | [_], _ => rfl⟩
  let d24 : DefOk K mg "_law_lines" S__law_lines ["stones"] := ⟨f24, _, fun_mk (st := S__law_lines) l24 c24 k24, PySem.W.mg_of X G a24, (fun_mk (st := S__law_lines) l24 c24 k24).binds (ps := ["stones"]) fun _ _ _ _ _ _ us hl => match us, hl with | [_], _ => rfl⟩
  let d25 : DefOk K mg "_law_is_line" S__law_is_line ["value"] := ⟨f25, _, fun_mk (st := S__law_is_line) l25 c25 k25, PySem.W.mg_of X G a25, (fun_mk (st := S__law_is_line) l25 c25 k25).binds (ps := ["value"]) fun _ _ _ _ _ _ us hl => match us, hl with | [_], _ => rfl⟩
  let d26 : DefOk K mg "_law_number" S__law_number ["line"] := ⟨f26, _, fun_mk (st := S__law_number) l26 c26 k26, PySem.W.mg_of X G a26, (fun_mk (st := S__law_number) l26 c26 k26).binds (ps := ["line"]) fun _ _ _ _ _ _ us hl => match us, hl with | [_], _ => rfl⟩
  let d27 : DefOk K mg "_law_right" S__law_right ["cup", "line"] := ⟨f27, _, fun_mk (st := S__law_right) l27 c27 k27, PySem.W.mg_of X G a27, (fun_mk (st := S__law_right) l27 c27 k27).binds (ps := ["cup", "line"]) fun _ _ _ _ _ _ us hl => match us, hl with | [_, _], _ => rfl⟩
  let d28 : DefOk K mg "_law_all_right" S__law_all_right ["stones"] := ⟨f28, _, fun_mk (st := S__law_all_right) l28 c28 k28, PySem.W.mg_of X G a28, (fun_mk (st := S__law_all_right) l28 c28 k28).binds (ps := ["stones"]) fun _ _ _ _ _ _ us hl => match us, hl with | [_], _ => rfl⟩
  let d29 : DefOk K mg "_law_written_right" S__law_written_right [] := ⟨f29, _, fun_mk (st := S__law_written_right) l29 c29 k29, PySem.W.mg_of X G a29, (fun_mk (st := S__law_written_right) l29 c29 k29).binds (ps := []) fun _ _ _ _ _ _ us hl => match us, hl with | [], _ => rfl⟩
  let d30 : DefOk K mg "law" S_law ["script"] := ⟨fa, _, fun_mk (st := S_law) l30 c30 k30, PySem.W.mg_of X G a30, (fun_mk (st := S_law) l30 c30 k30).binds (ps := ["script"]) fun _ _ _ _ _ _ us hl => match us, hl with | [_], _ => rfl⟩
  let φ : Fx K mg := { d_is_integer := d0, d_is_whole := d1, d_need_whole := d2, d_is_tuple_of := d3, d_fits_line := d4, d_need_line := d5, d_need_stones := d6, d_power_of := d7, d_count_in := d8, d_number_in := d9, d_at_in := d10, d_is_line := d11, d_count_lines := d12, d_number_of_line := d13, d_line_at := d14, d_next_line := d15, d__law_cup := d16, d__law_roll := d17, d__law_some := d18, d__law_sort := d19, d__law_like := d20, d__law_bent := d21, d__law_line_of := d22, d__law_cuts := d23, d__law_lines := d24, d__law_is_line := d25, d__law_number := d26, d__law_right := d27, d__law_all_right := d28, d__law_written_right := d29, d_law := d30, z_abs := PySem.W.mg_none_of X G z_abs, z_all := PySem.W.mg_none_of X G z_all, z_bool := PySem.W.mg_none_of X G z_bool, z_int := PySem.W.mg_none_of X G z_int, z_isinstance := PySem.W.mg_none_of X G z_isinstance, z_len := PySem.W.mg_none_of X G z_len, z_list := PySem.W.mg_none_of X G z_list, z_max := PySem.W.mg_none_of X G z_max, z_range := PySem.W.mg_none_of X G z_range, z_sorted := PySem.W.mg_none_of X G z_sorted, z_str := PySem.W.mg_none_of X G z_str, z_sum := PySem.W.mg_none_of X G z_sum, z_tuple := PySem.W.mg_none_of X G z_tuple, z_zip := PySem.W.mg_none_of X G z_zip, t_STONES := t_STONES, c_STONES := PySem.W.mg_of X G q_STONES }
  exact ⟨_, fun s v => .of_eq rfl, fun base _ _ => ok_law φ⟩
theorem hsp {K : PySem.W.Frag} {H : Hp} {a : Addr} {ns : List Int} (hl : ns.length ≤ 63) (hS : SqL K H a (ns.map V.int)) : spF K xr0 1 .F F_law [.ref a] H (fun v _ => v = .bl true) fun _ _ _ => False := law_start hl hS (e_law ns hl)
end K63
open PySem PySem.W PyProof.Rows
set_option maxHeartbeats 0 in
theorem PySem.Challenge.cw_stonepiles_k63_whole_numbers_of_lines_holds : PySem.Challenge.rw_stonepiles_k63_whole_numbers_of_lines.Holds := by
  w_on; o_law; k_head; (case hw => w_witness2)
  k_fill
  refine L2.walk_of (l := PySem.Challenge.rw_stonepiles_k63_whole_numbers_of_lines) (n := 63) (k := 16) (x := "script") (CX := fun w => L2.CX PySem.Challenge.rw_stonepiles_k63_whole_numbers_of_lines.prog w) (sp := fun w => Vs.spF _ K63.xr0 1 .F K63.F_law) rfl (by decide) rfl ⟨rfl, by decide, by decide⟩ (fun w h Y => PySem.W.kIn_of Y) ?F (fun _ _ a ns hl _ hS => K63.hsp hl hS) (fun _ _ _ _ _ h => Vs.cx_no h)
  case F =>
    intro w mg fa h KX G hmg
    refine' K63.all_mk KX G hmg ?a0 ?l0 ?c0 ?k0 ?a1 ?l1 ?c1 ?k1 ?a2 ?l2 ?c2 ?k2 ?a3 ?l3 ?c3 ?k3 ?a4 ?l4 ?c4 ?k4 ?a5 ?l5 ?c5 ?k5 ?a6 ?l6 ?c6 ?k6 ?a7 ?l7 ?c7 ?k7 ?a8 ?l8 ?c8 ?k8 ?a9 ?l9 ?c9 ?k9 ?a10 ?l10 ?c10 ?k10 ?a11 ?l11 ?c11 ?k11 ?a12 ?l12 ?c12 ?k12 ?a13 ?l13 ?c13 ?k13 ?a14 ?l14 ?c14 ?k14 ?a15 ?l15 ?c15 ?k15 ?a16 ?l16 ?c16 ?k16 ?a17 ?l17 ?c17 ?k17 ?a18 ?l18 ?c18 ?k18 ?a19 ?l19 ?c19 ?k19 ?a20 ?l20 ?c20 ?k20 ?a21 ?l21 ?c21 ?k21 ?a22 ?l22 ?c22 ?k22 ?a23 ?l23 ?c23 ?k23 ?a24 ?l24 ?c24 ?k24 ?a25 ?l25 ?c25 ?k25 ?a26 ?l26 ?c26 ?k26 ?a27 ?l27 ?c27 ?k27 ?a28 ?l28 ?c28 ?k28 ?a29 ?l29 ?c29 ?k29 ?a30 ?l30 ?c30 ?k30 ?z_abs ?z_all ?z_bool ?z_int ?z_isinstance ?z_len ?z_list ?z_max ?z_range ?z_sorted ?z_str ?z_sum ?z_tuple ?z_zip ?q_STONES
    (case a0 => k_is); (case l0 => k_is); (case c0 => k_is); (case k0 => k_is); (case a1 => k_is); (case l1 => k_is); (case c1 => k_is); (case k1 => k_is); (case a2 => k_is); (case l2 => k_is); (case c2 => k_is); (case k2 => k_is); (case a3 => k_is); (case l3 => k_is); (case c3 => k_is); (case k3 => k_is); (case a4 => k_is); (case l4 => k_is); (case c4 => k_is); (case k4 => k_is); (case a5 => k_is); (case l5 => k_is); (case c5 => k_is); (case k5 => k_is); (case a6 => k_is); (case l6 => k_is); (case c6 => k_is); (case k6 => k_is); (case a7 => k_is); (case l7 => k_is); (case c7 => k_is); (case k7 => k_is); (case a8 => k_is); (case l8 => k_is); (case c8 => k_is); (case k8 => k_is); (case a9 => k_is); (case l9 => k_is); (case c9 => k_is); (case k9 => k_is); (case a10 => k_is); (case l10 => k_is); (case c10 => k_is); (case k10 => k_is); (case a11 => k_is); (case l11 => k_is); (case c11 => k_is); (case k11 => k_is); (case a12 => k_is); (case l12 => k_is); (case c12 => k_is); (case k12 => k_is); (case a13 => k_is); (case l13 => k_is); (case c13 => k_is); (case k13 => k_is); (case a14 => k_is); (case l14 => k_is); (case c14 => k_is); (case k14 => k_is); (case a15 => k_is); (case l15 => k_is); (case c15 => k_is); (case k15 => k_is); (case a16 => k_is); (case l16 => k_is); (case c16 => k_is); (case k16 => k_is); (case a17 => k_is); (case l17 => k_is); (case c17 => k_is); (case k17 => k_is); (case a18 => k_is); (case l18 => k_is); (case c18 => k_is); (case k18 => k_is); (case a19 => k_is); (case l19 => k_is); (case c19 => k_is); (case k19 => k_is); (case a20 => k_is); (case l20 => k_is); (case c20 => k_is); (case k20 => k_is); (case a21 => k_is); (case l21 => k_is); (case c21 => k_is); (case k21 => k_is); (case a22 => k_is); (case l22 => k_is); (case c22 => k_is); (case k22 => k_is); (case a23 => k_is); (case l23 => k_is); (case c23 => k_is); (case k23 => k_is); (case a24 => k_is); (case l24 => k_is); (case c24 => k_is); (case k24 => k_is); (case a25 => k_is); (case l25 => k_is); (case c25 => k_is); (case k25 => k_is); (case a26 => k_is); (case l26 => k_is); (case c26 => k_is); (case k26 => k_is); (case a27 => k_is); (case l27 => k_is); (case c27 => k_is); (case k27 => k_is); (case a28 => k_is); (case l28 => k_is); (case c28 => k_is); (case k28 => k_is); (case a29 => k_is); (case l29 => k_is); (case c29 => k_is); (case k29 => k_is); (case a30 => k_is); (case l30 => k_is); (case c30 => k_is); (case k30 => k_is); (case z_abs => k_is); (case z_all => k_is); (case z_bool => k_is); (case z_int => k_is); (case z_isinstance => k_is); (case z_len => k_is); (case z_list => k_is); (case z_max => k_is); (case z_range => k_is); (case z_sorted => k_is); (case z_str => k_is); (case z_sum => k_is); (case z_tuple => k_is); (case z_zip => k_is); (case q_STONES => k_is)
