import PyProof.Rows.All
import Wide.All
import OpenK.AllK
import Wide.FinOn
import HandS.ForMost
import HandS.Style
import HandS.TupAny
import HandS.TupMul
import HandS.IsInst
import HandS.WideBits
import HandS.Conv
import HandS.Flt
import KE.KDictPairs
import HandS.EndBits
import PySem.Challenge.RW_formscountry_k72_whole_patches_that_are
set_option Elab.async false
set_option linter.all false
set_option maxRecDepth 100000
set_option maxHeartbeats 4000000
namespace DL
open PySem PySem.Spec PyProof.Rows L2

abbrev D := PyData
def keyD : Key → D
  | .inl i => .int i
  | .inr x => .str x
def tkeyD (k : List Key) : D := .tuple (k.map keyD)

mutual
inductive Rb (F : Hp) : V → D → Prop
  | non : Rb F .non .none
  | bl (b : Bool) : Rb F (.bl b) (.bool b)
  | int (i : Int) : Rb F (.int i) (.int i)
  | str (x : Str) : Rb F (.str x) (.str x)
  | lst {a : Addr} {vs : List V} {ds : List D} : F a = some (.lst vs) → RbA F vs ds → Rb F (.ref a) (.list ds)
  | tup {a : Addr} {vs : List V} {ds : List D} : F a = some (.tup vs) → RbA F vs ds → Rb F (.ref a) (.tuple ds)
  | dK {a : Addr} {kvs : List (Key × V)} {ds : List D} : F a = some (.dK kvs) → RbA F (kvs.map (·.2)) ds → Rb F (.ref a) (.dict ((kvs.map fun p => keyD p.1).zip ds))
  | dT {a : Addr} {kvs : List (List Key × V)} {ds : List D} : F a = some (.dT kvs) → kvs ≠ [] → RbA F (kvs.map (·.2)) ds → Rb F (.ref a) (.dict ((kvs.map fun p => tkeyD p.1).zip ds))
inductive RbA (F : Hp) : List V → List D → Prop
  | nil : RbA F [] []
  | cons {v : V} {vs : List V} {d : D} {ds : List D} : Rb F v d → RbA F vs ds → RbA F (v :: vs) (d :: ds)
end
mutual
theorem Rb.mono {F F' : Hp} (e : Same F F') : ∀ {v : V} {d : D}, Rb F v d → Rb F' v d
  | _, _, .non => .non
  | _, _, .bl b => .bl b
  | _, _, .int i => .int i
  | _, _, .str x => .str x
  | _, _, .lst h r => .lst (e _ _ h) (RbA.mono e r)
  | _, _, .tup h r => .tup (e _ _ h) (RbA.mono e r)
  | _, _, .dK h r => .dK (e _ _ h) (RbA.mono e r)
  | _, _, .dT h n r => .dT (e _ _ h) n (RbA.mono e r)
theorem RbA.mono {F F' : Hp} (e : Same F F') : ∀ {vs : List V} {ds : List D}, RbA F vs ds → RbA F' vs ds
  | _, _, .nil => .nil
  | _, _, .cons h r => .cons (Rb.mono e h) (RbA.mono e r)
end
section
variable {F H F' H' : Hp} {vs ws : List V} {ds es : List D}
theorem RbA.length : ∀ {vs : List V} {ds : List D}, RbA F vs ds → vs.length = ds.length
  | _, _, .nil => rfl
  | _, _, .cons _ r => by rw [List.length_cons, List.length_cons, RbA.length r]
theorem RbA.get : ∀ {vs : List V} {ds : List D} {i : Nat} {d : D}, RbA F vs ds → ds[i]? = some d → ∃ v, vs[i]? = some v ∧ Rb F v d
  | _, _, _, _, .nil, e => by simp at e
  | _, _, 0, _, .cons h _, e => by simp at e; subst e; exact ⟨_, rfl, h⟩
  | _, _, i + 1, d, .cons _ r, e => by
    obtain ⟨v, h1, h2⟩ := RbA.get (i := i) (d := d) r (by simpa using e)
    exact ⟨v, by simpa using h1, h2⟩
theorem RbA.app : ∀ {vs ws : List V} {ds es : List D}, RbA F vs ds → RbA F ws es → RbA F (vs ++ ws) (ds ++ es)
  | _, _, _, _, .nil, s => s
  | _, _, _, _, .cons h r, s => .cons h (RbA.app r s)
theorem RbA.take : ∀ (n : Nat) {vs : List V} {ds : List D}, RbA F vs ds → RbA F (vs.take n) (ds.take n)
  | 0, _, _, _ => .nil
  | _ + 1, _, _, .nil => .nil
  | n + 1, _, _, .cons h r => .cons h (RbA.take n r)
theorem RbA.drop : ∀ (n : Nat) {vs : List V} {ds : List D}, RbA F vs ds → RbA F (vs.drop n) (ds.drop n)
  | 0, _, _, r => r
  | _ + 1, _, _, .nil => .nil
  | n + 1, _, _, .cons _ r => RbA.drop n r
theorem RbA.set {v : V} {d : D} (h : Rb F v d) : ∀ (n : Nat) {vs : List V} {ds : List D}, RbA F vs ds → RbA F (vs.set n v) (ds.set n d)
  | _, _, _, .nil => .nil
  | 0, _, _, .cons _ r => .cons h r
  | n + 1, _, _, .cons q r => .cons q (RbA.set h n r)
theorem RbA.rev : ∀ {vs : List V} {ds : List D}, RbA F vs ds → RbA F vs.reverse ds.reverse
  | _, _, .nil => .nil
  | _, _, .cons h r => by rw [List.reverse_cons, List.reverse_cons]; exact (RbA.rev r).app (.cons h .nil)
theorem RbA.rep {vs : List V} {ds : List D} (r : RbA F vs ds) : ∀ n, RbA F (List.replicate n vs).flatten (List.replicate n ds).flatten
  | 0 => .nil
  | n + 1 => by rw [List.replicate_succ, List.replicate_succ, List.flatten_cons, List.flatten_cons]; exact r.app (RbA.rep r n)

/-- the top object in H, what it holds in F -/
inductive View (F H : Hp) : V → D → Prop
  | non : View F H .non .none
  | bl (b : Bool) : View F H (.bl b) (.bool b)
  | int (i : Int) : View F H (.int i) (.int i)
  | str (x : Str) : View F H (.str x) (.str x)
  | lst {a : Addr} {vs : List V} {ds : List D} : H a = some (.lst vs) → RbA F vs ds → View F H (.ref a) (.list ds)
  | tup {a : Addr} {vs : List V} {ds : List D} : F a = some (.tup vs) → H a = some (.tup vs) → RbA F vs ds → View F H (.ref a) (.tuple ds)
  | dK {a : Addr} {kvs : List (Key × V)} {ds : List D} : H a = some (.dK kvs) → RbA F (kvs.map (·.2)) ds → View F H (.ref a) (.dict ((kvs.map fun p => keyD p.1).zip ds))
  | dT {a : Addr} {kvs : List (List Key × V)} {ds : List D} : H a = some (.dT kvs) → kvs ≠ [] → RbA F (kvs.map (·.2)) ds → View F H (.ref a) (.dict ((kvs.map fun p => tkeyD p.1).zip ds))
theorem Rb.view {v : V} {d : D} (e : Same F H) (h : Rb F v d) : View F H v d := by
  cases h with
  | non => exact .non
  | bl b => exact .bl b
  | int i => exact .int i
  | str x => exact .str x
  | lst h r => exact .lst (e _ _ h) r
  | tup h r => exact .tup h (e _ _ h) r
  | dK h r => exact .dK (e _ _ h) r
  | dT h n r => exact .dT (e _ _ h) n r
theorem View.rb {v : V} {d : D} {G : Hp} (e : Same F G) (h : View F H v d) (k : ∀ a, v = .ref a → ∀ o, H a = some o → G a = some o) : Rb G v d := by
  cases h with
  | non => exact .non
  | bl b => exact .bl b
  | int i => exact .int i
  | str x => exact .str x
  | lst h r => exact .lst (k _ rfl _ h) (r.mono e)
  | tup _ h r => exact .tup (k _ rfl _ h) (r.mono e)
  | dK h r => exact .dK (k _ rfl _ h) (r.mono e)
  | dT h n r => exact .dT (k _ rfl _ h) n (r.mono e)
theorem View.mono {v : V} {d : D} (e : Same F F') (h : View F H v d) (k : ∀ a, v = .ref a → ∀ o, H a = some o → H' a = some o) : View F' H' v d := by
  cases h with
  | non => exact .non
  | bl b => exact .bl b
  | int i => exact .int i
  | str x => exact .str x
  | lst h r => exact .lst (k _ rfl _ h) (r.mono e)
  | tup g h r => exact .tup (e _ _ g) (k _ rfl _ h) (r.mono e)
  | dK h r => exact .dK (k _ rfl _ h) (r.mono e)
  | dT h n r => exact .dT (k _ rfl _ h) n (r.mono e)
theorem View.live {a : Addr} {d : D} (h : View F H (.ref a) d) : ∃ o, H a = some o := by
  cases h with
  | lst h r => exact ⟨_, h⟩
  | tup _ h r => exact ⟨_, h⟩
  | dK h r => exact ⟨_, h⟩
  | dT h n r => exact ⟨_, h⟩
end

/-! ### slots -/
inductive Sl where
  | un | dat (d : D) | own (d : D) | io (d : D) | ownLL (xss : List (List D)) | fix (v : V)
abbrev Env' := List Sl
def SlOk (A : Addr) (F H : Hp) : Sl → Option V → List Addr → Prop
  | .un, _, q => q = []
  | .fix v, o, q => q = [] ∧ o = some v
  | .dat d, o, q => q = [] ∧ ∃ v, o = some v ∧ Rb F v d
  | .own d, o, q => ∃ a, o = some (.ref a) ∧ q = [a] ∧ View F H (.ref a) d
  | .io d, o, q => o = some (.ref A) ∧ q = [A] ∧ View F H (.ref A) d
  | .ownLL xss, o, q => ∃ a rs, o = some (.ref a) ∧ q = a :: rs ∧ q.Nodup ∧ H a = some (.lst (rs.map V.ref)) ∧ Paired (fun r xs => View F H (.ref r) (.list xs)) rs xss
theorem paired_imp {α β : Type} {P Q : α → β → Prop} : ∀ {l : List α} {m : List β}, Paired P l m → (∀ a b, a ∈ l → P a b → Q a b) → Paired Q l m
  | _, _, .nil, _ => .nil
  | _, _, .cons h t, k => .cons (k _ _ List.mem_cons_self h) (paired_imp t fun a b m => k a b (List.mem_cons_of_mem _ m))
theorem paired_mem {α β : Type} {P : α → β → Prop} : ∀ {l : List α} {m : List β} {a : α}, Paired P l m → a ∈ l → ∃ b, P a b
  | _, _, _, .nil, h => nomatch h
  | _, _, a, .cons h t, m => by
    rcases List.mem_cons.mp m with e | m
    · subst e; exact ⟨_, h⟩
    · exact paired_mem t m
section
variable {A : Addr} {F H F' H' : Hp} {s : Sl} {o : Option V} {q : List Addr}
theorem SlOk.live (h : SlOk A F H s o q) {a : Addr} (ha : a ∈ q) : ∃ u, H a = some u := by
  cases s with
  | un => have : q = [] := h; subst this; cases ha
  | fix v => obtain ⟨e, _⟩ := h; subst e; cases ha
  | dat d => obtain ⟨e, _⟩ := h; subst e; cases ha
  | own d => obtain ⟨b, _, e, w⟩ := h; subst e; simp at ha; subst ha; exact w.live
  | io d => obtain ⟨_, e, w⟩ := h; subst e; simp at ha; subst ha; exact w.live
  | ownLL xss =>
    obtain ⟨b, rs, _, e, _, hb, p⟩ := h
    subst e
    rcases List.mem_cons.mp ha with e | ha
    · subst e; exact ⟨_, hb⟩
    · obtain ⟨xs, w⟩ := paired_mem p ha
      exact w.live
theorem SlOk.mono (h : SlOk A F H s o q) (e : Same F F') (k : ∀ a ∈ q, ∀ u, H a = some u → H' a = some u) : SlOk A F' H' s o q := by
  cases s with
  | un => exact h
  | fix v => exact h
  | dat d => obtain ⟨e1, v, e2, r⟩ := h; exact ⟨e1, v, e2, r.mono e⟩
  | own d =>
    obtain ⟨b, e1, e2, w⟩ := h
    refine ⟨b, e1, e2, w.mono e fun a ea => ?_⟩
    cases ea
    exact k _ (by rw [e2]; exact List.mem_cons_self)
  | io d =>
    obtain ⟨e1, e2, w⟩ := h
    refine ⟨e1, e2, w.mono e fun a ea => ?_⟩
    cases ea
    exact k _ (by rw [e2]; exact List.mem_cons_self)
  | ownLL xss =>
    obtain ⟨b, rs, e1, e2, nd, hb, p⟩ := h
    refine ⟨b, rs, e1, e2, nd, k _ (by rw [e2]; exact List.mem_cons_self) _ hb, paired_imp p fun r xs hr w => w.mono e fun a ea => ?_⟩
    cases ea
    exact k _ (by rw [e2]; exact List.mem_cons_of_mem _ hr)
end

/-- frozen view of a slot -/
def Sl.data : Sl → Option D
  | .un => none
  | .fix _ => none
  | .dat d => some d
  | .own d => some d
  | .io _ => none
  | .ownLL xss => some (.list (xss.map .list))
/-- what may be read of a slot, its items being frozen -/
def Sl.shal : Sl → Option D
  | .un => none
  | .fix _ => none
  | .dat d => some d
  | .own d => some d
  | .io d => some d
  | .ownLL _ => none
def inFp (fp : Nat → List Addr) (a : Addr) : Prop := ∃ i, a ∈ fp i
structure StOk (A : Addr) (F H : Hp) (σ : L2.St) (env : Env') (fp : Nat → List Addr) : Prop where
  len : σ.length = env.length
  slot : ∀ i, SlOk A F H ((env[i]?).getD .un) ((σ[i]?).getD none) (fp i)
  disj : ∀ i j a, a ∈ fp i → a ∈ fp j → i = j
  free : ∀ i a, a ∈ fp i → F a = none
  ex : Same F H
/-- what a piece of code does to the heap: W what it may write, W' what is owned behind it -/
structure Tr (F H : Hp) (W : Addr → Prop) (F' H' : Hp) (W' : Addr → Prop) : Prop where
  keep : ∀ a o, H a = some o → ¬ W a → H' a = some o
  grow : Same F F'
  newF : ∀ a, F' a ≠ none → F a ≠ none ∨ W a ∨ H a = none
  newW : ∀ a, W' a → W a ∨ H a = none
section
variable {A : Addr} {F H F' H' F2 H2 : Hp} {W W' W2 : Addr → Prop} {σ : L2.St} {env : Env'} {fp fp' : Nat → List Addr}
theorem Tr.refl : Tr F H W F H W := ⟨fun _ _ h _ => h, Same.refl F, fun _ h => .inl h, fun _ h => .inl h⟩
theorem Tr.back (t : Tr F H W F' H' W') {a : Addr} (h : H' a = none) : H a = none ∨ W a := by
  cases e : H a with
  | none => exact .inl rfl
  | some o =>
    by_cases w : W a
    · exact .inr w
    · rw [t.keep a o e w] at h; cases h
theorem Tr.trans (t : Tr F H W F' H' W') (u : Tr F' H' W' F2 H2 W2) : Tr F H W F2 H2 W2 where
  keep := fun a o h w => u.keep a o (t.keep a o h w) fun w' => (t.newW a w').elim w fun n => by rw [n] at h; cases h
  grow := t.grow.trans u.grow
  newF := fun a h => by
    rcases u.newF a h with h | h | h
    · exact t.newF a h
    · rcases t.newW a h with h | h
      · exact .inr (.inl h)
      · exact .inr (.inr h)
    · rcases t.back h with h | h
      · exact .inr (.inr h)
      · exact .inr (.inl h)
  newW := fun a h => by
    rcases u.newW a h with h | h
    · exact t.newW a h
    · rcases t.back h with h | h
      · exact .inr h
      · exact .inl h
theorem Tr.weak {V' : Addr → Prop} (t : Tr F H W F' H' W') (h : ∀ a, V' a → W' a) : Tr F H W F' H' V' := ⟨t.keep, t.grow, t.newF, fun a x => t.newW a (h a x)⟩
theorem Tr.wide {V0 : Addr → Prop} (t : Tr F H W F' H' W') (h : ∀ a, W a → V0 a) : Tr F H V0 F' H' W' :=
  ⟨fun a o e w => t.keep a o e fun x => w (h a x), t.grow, fun a x => (t.newF a x).imp id fun y => y.imp (h a) id, fun a x => (t.newW a x).imp (h a) id⟩
/-- what is owned beside may be said too -/
theorem Tr.beside {V0 : Addr → Prop} (t : Tr F H W F' H' W') (h : ∀ a, W a → V0 a) : Tr F H V0 F' H' (fun a => W' a ∨ V0 a) :=
  ⟨(t.wide h).keep, t.grow, (t.wide h).newF, fun a x => x.elim (fun y => (t.wide h).newW a y) .inl⟩
theorem StOk.live (S : StOk A F H σ env fp) {a : Addr} (h : inFp fp a) : ∃ o, H a = some o := let ⟨i, hi⟩ := h; (S.slot i).live hi
theorem StOk.freeW (S : StOk A F H σ env fp) {a : Addr} (h : inFp fp a) : F a = none := let ⟨i, hi⟩ := h; S.free i a hi
/-- a temporary of ours stays while other code runs -/
theorem SlOk.stay {s : Sl} {o : Option V} {q : List Addr} (h : SlOk A F H s o q) (hq : ∀ a ∈ q, F a = none ∧ ¬ W a) (t : Tr F H W F' H' W') : SlOk A F' H' s o q ∧ ∀ a ∈ q, F' a = none ∧ ¬ W' a := by
  refine ⟨h.mono t.grow fun a ha u hu => t.keep a u hu (hq a ha).2, fun a ha => ?_⟩
  obtain ⟨u, hu⟩ := h.live ha
  refine ⟨?_, fun w => ?_⟩
  · cases e : F' a with
    | none => rfl
    | some x =>
      rcases t.newF a (by rw [e]; exact fun z => nomatch z) with z | z | z
      · exact absurd (hq a ha).1 z
      · exact absurd z (hq a ha).2
      · rw [z] at hu; cases hu
  · rcases t.newW a w with z | z
    · exact (hq a ha).2 z
    · rw [z] at hu; cases hu
/-- code that writes nothing of ours -/
theorem StOk.lift (S : StOk A F H σ env fp) (t : Tr F H (fun _ => False) F' H' W') (ex : Same F' H') : StOk A F' H' σ env fp := by
  refine ⟨S.len, fun i => (S.slot i).mono t.grow fun a ha u hu => t.keep a u hu fun z => z, S.disj, fun i a ha => ?_, ex⟩
  exact (((S.slot i).stay (W := fun _ => False) (fun b hb => ⟨S.free i b hb, fun z => z⟩) t).2 a ha).1

/-! ### setting a slot -/
def fset (fp : Nat → List Addr) (i : Nat) (q : List Addr) : Nat → List Addr := fun j => if j = i then q else fp j
theorem fset_same {i : Nat} {q : List Addr} : fset fp i q i = q := by unfold fset; rw [if_pos rfl]
theorem fset_ne {i j : Nat} {q : List Addr} (h : j ≠ i) : fset fp i q j = fp j := by unfold fset; rw [if_neg h]
theorem getD_set_same {α : Type} {l : List α} {i : Nat} {x d : α} (h : i < l.length) : ((l.set i x)[i]?).getD d = x := by rw [List.getElem?_set_self h]; rfl
theorem getD_set_ne {α : Type} {l : List α} {i j : Nat} {x d : α} (h : j ≠ i) : ((l.set i x)[j]?).getD d = (l[j]?).getD d := by rw [List.getElem?_set_ne (Ne.symm h)]
theorem in_fset {i : Nat} {q : List Addr} {a : Addr} (h : inFp (fset fp i q) a) : inFp fp a ∨ a ∈ q := by
  obtain ⟨j, hj⟩ := h
  by_cases e : j = i
  · subst e; rw [fset_same] at hj; exact .inr hj
  · rw [fset_ne e] at hj; exact .inl ⟨j, hj⟩
/-- slot i gets a new content -/
theorem StOk.put (S : StOk A F H σ env fp) {i : Nat} (hi : i < env.length) {s : Sl} {o : Option V} {q : List Addr} (h : SlOk A F H s o q) (hq : ∀ a ∈ q, F a = none ∧ ∀ j, j ≠ i → a ∉ fp j) :
    StOk A F H (σ.set i o) (env.set i s) (fset fp i q) := by
  refine ⟨by rw [List.length_set, List.length_set]; exact S.len, fun j => ?_, fun j k a hj hk => ?_, fun j a ha => ?_, S.ex⟩
  · by_cases e : j = i
    · subst e
      rw [getD_set_same hi, getD_set_same (by rw [S.len]; exact hi), fset_same]
      exact h
    · rw [getD_set_ne e, getD_set_ne e, fset_ne e]
      exact S.slot j
  · by_cases ej : j = i
    · by_cases ek : k = i
      · rw [ej, ek]
      · rw [ej, fset_same] at hj
        rw [fset_ne ek] at hk
        exact absurd hk ((hq a hj).2 k ek)
    · rw [fset_ne ej] at hj
      by_cases ek : k = i
      · rw [ek, fset_same] at hk
        exact absurd hj ((hq a hk).2 j ej)
      · rw [fset_ne ek] at hk
        exact S.disj j k a hj hk
  · by_cases e : j = i
    · rw [e, fset_same] at ha; exact (hq a ha).1
    · rw [fset_ne e] at ha; exact S.free j a ha
/-- .. the frame's slot staying as it is -/
theorem StOk.put' (S : StOk A F H σ env fp) {i : Nat} {s : Sl} {q : List Addr} (h : SlOk A F H s ((σ[i]?).getD none) q) (hi : i < env.length) (hq : ∀ a ∈ q, F a = none ∧ ∀ j, j ≠ i → a ∉ fp j) :
    StOk A F H σ (env.set i s) (fset fp i q) := by
  have k := S.put hi h hq
  have e : σ.set i ((σ[i]?).getD none) = σ := by
    have hl : i < σ.length := by rw [S.len]; exact hi
    rw [List.getElem?_eq_getElem hl]
    exact List.set_getElem_self hl
  rw [e] at k
  exact k

/-! ### freezing -/
open Classical in
noncomputable def absorb (F H : Hp) (q : List Addr) : Hp := fun a => if a ∈ q then H a else F a
theorem absorb_in {q : List Addr} {a : Addr} (h : a ∈ q) : absorb F H q a = H a := by unfold absorb; rw [if_pos h]
theorem absorb_out {q : List Addr} {a : Addr} (h : a ∉ q) : absorb F H q a = F a := by unfold absorb; rw [if_neg h]
theorem absorb_grow {q : List Addr} (h : ∀ a ∈ q, F a = none) : Same F (absorb F H q) := fun a o e => by
  rw [absorb_out fun m => by rw [h a m] at e; cases e]
  exact e
theorem absorb_ex {q : List Addr} (h : Same F H) : Same (absorb F H q) H := fun a o e => by
  by_cases m : a ∈ q
  · rw [absorb_in m] at e; exact e
  · rw [absorb_out m] at e; exact h a o e
theorem absorb_new {q : List Addr} {a : Addr} (h : absorb F H q a ≠ none) : F a ≠ none ∨ a ∈ q := by
  by_cases m : a ∈ q
  · exact .inr m
  · rw [absorb_out m] at h; exact .inl h
theorem rows_rb {F G H : Hp} (e : Same F G) : ∀ {rs : List Addr} {xss : List (List D)}, Paired (fun r xs => View F H (.ref r) (.list xs)) rs xss → (∀ r ∈ rs, ∀ o, H r = some o → G r = some o) → RbA G (rs.map V.ref) (xss.map PyData.list)
  | _, _, .nil, _ => .nil
  | _, _, .cons h t, k => .cons (h.rb e fun a ea o ho => by cases ea; exact k _ List.mem_cons_self o ho) (rows_rb e t fun r hr => k r (List.mem_cons_of_mem _ hr))
theorem SlOk.frozen {s : Sl} {v : V} {q : List Addr} {d : D} (h : SlOk A F H s (some v) q) (hq : ∀ a ∈ q, F a = none) (hd : s.data = some d) : Rb (absorb F H q) v d := by
  have g := absorb_grow (H := H) hq
  cases s with
  | un => cases hd
  | fix _ => cases hd
  | io d => cases hd
  | dat d' =>
    cases hd
    obtain ⟨_, w, e, r⟩ := h
    cases e
    exact r.mono g
  | own d' =>
    cases hd
    obtain ⟨a, e, e2, w⟩ := h
    cases e
    refine w.rb g fun b eb o ho => ?_
    cases eb
    rw [absorb_in (by rw [e2]; exact List.mem_cons_self)]
    exact ho
  | ownLL xss =>
    cases hd
    obtain ⟨a, rs, e, e2, nd, ha, p⟩ := h
    cases e
    refine .lst (vs := rs.map V.ref) (by rw [absorb_in (by rw [e2]; exact List.mem_cons_self)]; exact ha) (rows_rb g p fun r hr o ho => ?_)
    rw [absorb_in (by rw [e2]; exact List.mem_cons_of_mem _ hr)]
    exact ho
end
end DL
namespace DL
open PySem PySem.Spec PyProof.Rows L2

inductive R where
  | val (s : Sl) | slot (i : Nat)
inductive B where
  | d (x : D) | slot (i : Nat)
abbrev RE := Env' → Option (R × Env')
abbrev BE := Env' → Option (B × Env')
abbrev BAE := Env' → Option (List B × Env')
abbrev TTE := Env' → Option (Bool × Env')

def ROk (A : Addr) (F H : Hp) (σ : L2.St) (env : Env') (fp : Nat → List Addr) : R → V → List Addr → Prop
  | .val s, v, q => s ≠ .un ∧ SlOk A F H s (some v) q ∧ ∀ a ∈ q, F a = none ∧ ¬ inFp fp a
  | .slot i, v, q => q = [] ∧ σ[i]? = some (some v)
def BOk (F : Hp) (σ : L2.St) : B → V → Prop
  | .d x, v => Rb F v x
  | .slot i, v => σ[i]? = some (some v)
theorem BOk.mono {F F' : Hp} {σ : L2.St} {b : B} {v : V} (e : Same F F') (h : BOk F σ b v) : BOk F' σ b v := by
  cases b with
  | d x => exact Rb.mono e h
  | slot i => exact h
abbrev BsOk (F : Hp) (σ : L2.St) : List B → List V → Prop := Paired (BOk F σ)
theorem BsOk.mono {F F' : Hp} {σ : L2.St} {bs : List B} {vs : List V} (e : Same F F') (h : BsOk F σ bs vs) : BsOk F' σ bs vs := paired_imp h fun _ _ _ x => x.mono e

/-- the readings -/
def tR (f : RE) : TE := fun σ H Q => ∃ A F env fp, StOk A F H σ env fp ∧ ∃ r env', f env = some (r, env') ∧
  ∀ v F' H' fp' q, StOk A F' H' σ env' fp' → Tr F H (inFp fp) F' H' (fun a => inFp fp' a ∨ a ∈ q) → ROk A F' H' σ env' fp' r v q → Q v H'
def tO (f : BE) : TE := fun σ H Q => ∃ A F env fp, StOk A F H σ env fp ∧ ∃ b env', f env = some (b, env') ∧
  ∀ v F' H' fp', StOk A F' H' σ env' fp' → Tr F H (inFp fp) F' H' (inFp fp') → BOk F' σ b v → Q v H'
def tOs (f : BAE) : TA := fun σ H Q => ∃ A F env fp, StOk A F H σ env fp ∧ ∃ bs env', f env = some (bs, env') ∧
  ∀ vs F' H' fp', StOk A F' H' σ env' fp' → Tr F H (inFp fp) F' H' (inFp fp') → BsOk F' σ bs vs → Q vs H'
def tQ (f : TTE) : TT := fun σ H Q => ∃ A F env fp, StOk A F H σ env fp ∧ ∃ b env', f env = some (b, env') ∧
  ∀ F' H' fp', StOk A F' H' σ env' fp' → Tr F H (inFp fp) F' H' (inFp fp') → Q b H'

theorem PE.imp {X : Cx} {e : Expr} {t t' : TE} (h : PE X e t) (k : ∀ σ H Q, t' σ H Q → t σ H Q) : PE X e t' := ⟨fun pins s σ H Q I q => h.run pins s σ H Q I (k σ H Q q)⟩
theorem PT.imp {X : Cx} {e : Expr} {t t' : TT} (h : PT X e t) (k : ∀ σ H Q, t' σ H Q → t σ H Q) : PT X e t' := ⟨fun pins s σ H Q I q => h.run pins s σ H Q I (k σ H Q q)⟩
theorem PW.imp {X : Cx} {e : Expr} {t t' : TT} (h : PW X e t) (k : ∀ σ H Q, t' σ H Q → t σ H Q) : PW X e t' := ⟨fun wh pins s σ H Q I q => h.run wh pins s σ H Q I (k σ H Q q)⟩
theorem PA.imp {X : Cx} {e : List Expr} {t t' : TA} (h : PA X e t) (k : ∀ σ H Q, t' σ H Q → t σ H Q) : PA X e t' := ⟨fun pos pins s σ H Q I q => h.run pos pins s σ H Q I (k σ H Q q)⟩
theorem PS.imp {X : Cx} {e : Stmt} {t t' : TS} (h : PS X e t) (k : ∀ D σ H, t' D σ H → t D σ H) : PS X e t' := ⟨fun pins s σ H D I q => h.run pins s σ H D I (k D σ H q)⟩
theorem PSs.imp {X : Cx} {e : List Stmt} {t t' : TS} (h : PSs X e t) (k : ∀ D σ H, t' D σ H → t D σ H) : PSs X e t' := ⟨fun pins s σ H D I q => h.run pins s σ H D I (k D σ H q)⟩

/-! ### from results to operands -/
def bor (f : RE) : BE := fun env => (f env).bind fun p => match p.1 with
  | .val s => s.data.map fun d => (.d d, p.2)
  | .slot i => some (.slot i, p.2)
section
variable {A : Addr} {F H F' H' F2 H2 : Hp} {W W' W2 : Addr → Prop} {σ : L2.St} {env env' : Env'} {fp fp' : Nat → List Addr}
theorem StOk.absorbed (S : StOk A F H σ env fp) {q : List Addr} (hq : ∀ a ∈ q, F a = none ∧ ¬ inFp fp a) : StOk A (absorb F H q) H σ env fp := by
  refine ⟨S.len, fun i => (S.slot i).mono (absorb_grow fun a h => (hq a h).1) fun a _ u h => h, S.disj, fun i a ha => ?_, absorb_ex S.ex⟩
  rw [absorb_out fun m => (hq a m).2 ⟨i, ha⟩]
  exact S.free i a ha
theorem Tr.absorbed {q : List Addr} (T : Tr F H W F' H' (fun a => W' a ∨ a ∈ q)) (hq : ∀ a ∈ q, F' a = none) : Tr F H W (absorb F' H' q) H' W' := by
  refine ⟨T.keep, T.grow.trans (absorb_grow hq), fun a h => ?_, fun a h => T.newW a (.inl h)⟩
  rcases absorb_new h with h | h
  · exact T.newF a h
  · exact (T.newW a (.inr h)).imp id id |>.elim (fun z => .inr (.inl z)) (fun z => .inr (.inr z))
end
theorem t_bor {f : RE} {σ : L2.St} {H : Hp} {Q : VK} (h : tO (bor f) σ H Q) : tR f σ H Q := by
  obtain ⟨A, F, env, fp, S, b, env', hf, q⟩ := h
  unfold bor at hf
  cases hr : f env with
  | none => rw [hr] at hf; cases hf
  | some p =>
    obtain ⟨r, e⟩ := p
    rw [hr] at hf
    refine ⟨A, F, env, fp, S, r, e, hr, fun v F' H' fp' qs S' T ok => ?_⟩
    cases r with
    | val s =>
      obtain ⟨_, ok, hq⟩ := ok
      have hf : s.data.map (fun d => (B.d d, e)) = some (b, env') := hf
      cases hd : s.data with
      | none => rw [hd] at hf; cases hf
      | some d =>
        rw [hd] at hf
        cases hf
        exact q v _ H' fp' (S'.absorbed hq) (T.absorbed fun a m => (hq a m).1) (ok.frozen (fun a m => (hq a m).1) hd)
    | slot i =>
      obtain ⟨e1, ok⟩ := ok
      subst e1
      cases hf
      exact q v F' H' fp' S' (T.weak fun a h => .inl h) ok
theorem po {X : Cx} {e : Expr} {f : RE} (h : PE X e (tR f)) : PE X e (tO (bor f)) := PE.imp h fun _ _ _ q => t_bor q

/-! ### reading, freezing operands -/
def readB (env : Env') : B → Option D
  | .d x => some x
  | .slot i => (env[i]?).bind Sl.shal
def readBs (env : Env') : List B → Option (List D)
  | [] => some []
  | b :: bs => (readB env b).bind fun d => (readBs env bs).map fun ds => d :: ds
def resB (env : Env') : B → Option (D × Env')
  | .d x => some (x, env)
  | .slot i => (env[i]?).bind fun s => s.data.map fun d => (d, env.set i (.dat d))
def resBs (env : Env') : List B → Option (List D × Env')
  | [] => some ([], env)
  | b :: bs => (resB env b).bind fun p => (resBs p.2 bs).map fun r => (p.1 :: r.1, r.2)
section
variable {A : Addr} {F H F' H' F2 H2 : Hp} {W W' W2 : Addr → Prop} {σ : L2.St} {env env' : Env'} {fp fp' : Nat → List Addr}
theorem StOk.at (S : StOk A F H σ env fp) {i : Nat} {s : Sl} (h : env[i]? = some s) : SlOk A F H s ((σ[i]?).getD none) (fp i) := by
  have k := S.slot i
  rw [h] at k
  exact k
theorem StOk.lt {i : Nat} {s : Sl} (h : env[i]? = some s) : i < env.length := (List.getElem?_eq_some_iff.mp h).1
theorem read_view (S : StOk A F H σ env fp) {b : B} {v : V} {d : D} (h : BOk F σ b v) (r : readB env b = some d) : View F H v d := by
  cases b with
  | d x => cases r; exact Rb.view S.ex h
  | slot i =>
    have r : (env[i]?).bind Sl.shal = some d := r
    cases e : env[i]? with
    | none => rw [e] at r; cases r
    | some s =>
      rw [e] at r
      have k := S.at e
      have h : σ[i]? = some (some v) := h
      rw [h] at k
      cases s with
      | un => cases r
      | ownLL _ => cases r
      | fix _ => cases r
      | dat d' =>
        cases r
        obtain ⟨_, w, e2, x⟩ := k
        cases e2
        exact x.view S.ex
      | own d' =>
        cases r
        obtain ⟨a, e2, _, x⟩ := k
        cases e2
        exact x
      | io d' =>
        cases r
        obtain ⟨e2, _, x⟩ := k
        cases e2
        exact x
theorem reads_view (S : StOk A F H σ env fp) : ∀ {bs : List B} {vs : List V} {ds : List D}, BsOk F σ bs vs → readBs env bs = some ds → Paired (View F H) vs ds
  | _, _, ds, .nil, r => by cases r; exact .nil
  | b :: bs, v :: vs, ds, .cons h t, r => by
    have r : (readB env b).bind (fun d => (readBs env bs).map fun ds => d :: ds) = some ds := r
    cases e : readB env b with
    | none => rw [e] at r; cases r
    | some d =>
      rw [e] at r
      have r : (readBs env bs).map (fun ds => d :: ds) = some ds := r
      cases e2 : readBs env bs with
      | none => rw [e2] at r; cases r
      | some ds' =>
        rw [e2] at r
        cases r
        exact .cons (read_view S h e) (reads_view S t e2)
theorem res_ok (S : StOk A F H σ env fp) {b : B} {v : V} {d : D} (h : BOk F σ b v) (r : resB env b = some (d, env')) :
    ∃ F' fp', StOk A F' H σ env' fp' ∧ Tr F H (inFp fp) F' H (inFp fp') ∧ Rb F' v d := by
  cases b with
  | d x => cases r; exact ⟨F, fp, S, Tr.refl, h⟩
  | slot i =>
    have r : (env[i]?).bind (fun s => s.data.map fun d => (d, env.set i (.dat d))) = some (d, env') := r
    cases e : env[i]? with
    | none => rw [e] at r; cases r
    | some s =>
      rw [e] at r
      have r : s.data.map (fun d => (d, env.set i (.dat d))) = some (d, env') := r
      cases hd : s.data with
      | none => rw [hd] at r; cases r
      | some d' =>
        rw [hd] at r
        cases r
        have k := S.at e
        have h : σ[i]? = some (some v) := h
        rw [h] at k
        have hq : ∀ a ∈ fp i, F a = none := S.free i
        have rb := k.frozen hq hd
        have g := absorb_grow (H := H) hq
        refine ⟨absorb F H (fp i), fset fp i [], ⟨by rw [List.length_set]; exact S.len, fun j => ?_, fun j l a hj hl => ?_, fun j a ha => ?_, absorb_ex S.ex⟩, ⟨fun _ _ x _ => x, g, fun a ha => ?_, fun a ha => ?_⟩, rb⟩
        · by_cases ej : j = i
          · subst ej
            rw [getD_set_same (StOk.lt e), fset_same, h]
            exact ⟨rfl, v, rfl, rb⟩
          · rw [getD_set_ne ej, fset_ne ej]
            exact (S.slot j).mono g fun a _ u x => x
        · by_cases ej : j = i
          · rw [ej, fset_same] at hj; cases hj
          · by_cases el : l = i
            · rw [el, fset_same] at hl; cases hl
            · rw [fset_ne ej] at hj; rw [fset_ne el] at hl
              exact S.disj j l a hj hl
        · by_cases ej : j = i
          · rw [ej, fset_same] at ha; cases ha
          · rw [fset_ne ej] at ha
            rw [absorb_out fun m => ej (S.disj j i a ha m)]
            exact S.free j a ha
        · rcases absorb_new ha with z | z
          · exact .inl z
          · exact .inr (.inl ⟨i, z⟩)
        · rcases in_fset ha with z | z
          · exact .inl z
          · cases z
theorem ress_ok {bs : List B} {vs : List V} {ds : List D} (S : StOk A F H σ env fp) (ok : BsOk F σ bs vs) (r : resBs env bs = some (ds, env')) :
    ∃ F' fp', StOk A F' H σ env' fp' ∧ Tr F H (inFp fp) F' H (inFp fp') ∧ RbA F' vs ds := by
  induction bs generalizing vs ds F env fp with
  | nil => cases ok; cases r; exact ⟨F, fp, S, Tr.refl, .nil⟩
  | cons b bs ih =>
    cases ok with
    | cons h t =>
      have r : (resB env b).bind (fun p => (resBs p.2 bs).map fun r => (p.1 :: r.1, r.2)) = some (ds, env') := r
      cases e : resB env b with
      | none => rw [e] at r; cases r
      | some p =>
        obtain ⟨d, e1⟩ := p
        rw [e] at r
        have r : (resBs e1 bs).map (fun r => (d :: r.1, r.2)) = some (ds, env') := r
        obtain ⟨F1, fp1, S1, T1, rb⟩ := res_ok S h e
        cases e2 : resBs e1 bs with
        | none => rw [e2] at r; cases r
        | some p2 =>
          obtain ⟨ds', e3⟩ := p2
          rw [e2] at r
          cases r
          obtain ⟨F2, fp2, S2, T2, ra⟩ := ih S1 (BsOk.mono T1.grow t) e2
          exact ⟨F2, fp2, S2, T1.trans T2, .cons (rb.mono T2.grow) ra⟩
end

/-! ### what an operation makes -/
structure Res (A : Addr) (F H : Hp) (s : Sl) (v : V) (F' H' : Hp) (q : List Addr) : Prop where
  tr : Tr F H (fun _ => False) F' H' (fun a => a ∈ q)
  ex : Same F' H'
  ok : SlOk A F' H' s (some v) q
  ne : s ≠ .un
  fr : ∀ a ∈ q, F' a = none
section
variable {A : Addr} {F H F' H' F2 H2 : Hp} {W W' W2 : Addr → Prop} {σ : L2.St} {env env' : Env'} {fp fp' : Nat → List Addr} {s : Sl} {v : V} {q : List Addr}
theorem Res.fin (r : Res A F H s v F' H' q) (S : StOk A F H σ env fp) : StOk A F' H' σ env fp ∧ Tr F H (inFp fp) F' H' (fun a => inFp fp a ∨ a ∈ q) ∧ ROk A F' H' σ env fp (.val s) v q := by
  refine ⟨S.lift r.tr r.ex, ?_, r.ne, r.ok, fun a m => ⟨r.fr a m, fun w => ?_⟩⟩
  · exact (r.tr.beside (V0 := inFp fp) fun _ z => z.elim).weak fun a x => x.symm
  · obtain ⟨o, ho⟩ := S.live w
    rcases r.tr.newW a m with z | z
    · exact z
    · rw [z] at ho; cases ho
theorem fresh_F (e : Same F H) {p : Addr} (h : H p = none) : F p = none := by
  cases k : F p with
  | none => rfl
  | some o => rw [e p o k] at h; cases h
theorem same_upd {p : Addr} {o : HO} (h : H p = none) : Same H (upd H p o) := fun b x e => by rw [upd_ne (ne_of_none e h)]; exact e
theorem upd_mono {p : Addr} {o : HO} (e : Same F H) : Same (upd F p o) (upd H p o) := fun b x k => by
  by_cases z : b = p
  · subst z; rw [upd_same] at k ⊢; exact k
  · rw [upd_ne z] at k ⊢; exact e b x k
theorem upd_new {p : Addr} {o : HO} {a : Addr} (h : upd F p o a ≠ none) : F a ≠ none ∨ a = p := by
  by_cases z : a = p
  · exact .inr z
  · rw [upd_ne z] at h; exact .inl h
theorem Res.old {d : D} (e : Same F H) (h : Rb F v d) : Res A F H (.dat d) v F H [] :=
  ⟨Tr.refl.weak (fun a h => nomatch h), e, ⟨rfl, v, rfl, h⟩, (nomatch ·), fun a h => nomatch h⟩
/-- a new frozen object -/
theorem Res.newF {p : Addr} {o : HO} {d : D} (e : Same F H) (hp : H p = none) (h : Rb (upd F p o) (.ref p) d) : Res A F H (.dat d) (.ref p) (upd F p o) (upd H p o) [] := by
  refine ⟨⟨fun a u x _ => same_upd hp a u x, same_upd (fresh_F e hp), fun a x => ?_, fun a x => nomatch x⟩, upd_mono e, ⟨rfl, _, rfl, h⟩, (nomatch ·), fun a x => nomatch x⟩
  rcases upd_new x with x | x
  · exact .inl x
  · subst x; exact .inr (.inr hp)
theorem Res.newTup {p : Addr} {vs : List V} {ds : List D} (e : Same F H) (hp : H p = none) (h : RbA F vs ds) : Res A F H (.dat (.tuple ds)) (.ref p) (upd F p (.tup vs)) (upd H p (.tup vs)) [] :=
  Res.newF e hp (.tup upd_same (h.mono (same_upd (fresh_F e hp))))
/-- a new object of ours -/
theorem Res.newO {p : Addr} {o : HO} {d : D} (e : Same F H) (hp : H p = none) (h : View F (upd H p o) (.ref p) d) : Res A F H (.own d) (.ref p) F (upd H p o) [p] := by
  refine ⟨⟨fun a u x _ => same_upd hp a u x, Same.refl F, fun a x => .inl x, fun a x => ?_⟩, e.trans (same_upd hp), ⟨p, rfl, rfl, h⟩, (nomatch ·), fun a x => ?_⟩
  · simp at x; subst x; exact .inr hp
  · simp at x; subst x; exact fresh_F e hp
theorem Res.newLst {p : Addr} {vs : List V} {ds : List D} (e : Same F H) (hp : H p = none) (h : RbA F vs ds) : Res A F H (.own (.list ds)) (.ref p) F (upd H p (.lst vs)) [p] :=
  Res.newO e hp (.lst upd_same h)
end

/-! ### names, constants -/
def dVar (i : Nat) : RE := fun env => (env[i]?).bind fun s => match s with
  | .un => none
  | _ => some (.slot i, env)
def dC (d : D) : RE := fun env => some (.val (.dat d), env)
theorem t_var {i : Nat} {σ : L2.St} {H : Hp} {Q : VK} (h : tR (dVar i) σ H Q) : tVar i σ H Q := by
  obtain ⟨A, F, env, fp, S, r, env', hf, q⟩ := h
  unfold dVar at hf
  cases e : env[i]? with
  | none => rw [e] at hf; cases hf
  | some s =>
    have k := S.at e
    rw [e] at hf
    have main : s ≠ .un → ∃ v, σ[i]? = some (some v) := fun ne => by
      have hl : i < σ.length := by rw [S.len]; exact StOk.lt e
      rw [List.getElem?_eq_getElem hl] at k ⊢
      cases s with
      | un => exact absurd rfl ne
      | dat d => obtain ⟨_, v, e2, _⟩ := k; exact ⟨v, by rw [← e2]; rfl⟩
      | own d => obtain ⟨a, e2, _⟩ := k; exact ⟨_, by rw [← e2]; rfl⟩
      | io d => obtain ⟨e2, _⟩ := k; exact ⟨_, by rw [← e2]; rfl⟩
      | ownLL d => obtain ⟨a, rs, e2, _⟩ := k; exact ⟨_, by rw [← e2]; rfl⟩
      | fix v => obtain ⟨_, e2⟩ := k; exact ⟨_, by rw [← e2]; rfl⟩
    have fin : s ≠ .un → r = .slot i ∧ env' = env := fun ne => by
      cases s with
      | un => exact absurd rfl ne
      | dat d => cases hf; exact ⟨rfl, rfl⟩
      | own d => cases hf; exact ⟨rfl, rfl⟩
      | io d => cases hf; exact ⟨rfl, rfl⟩
      | ownLL d => cases hf; exact ⟨rfl, rfl⟩
      | fix v => cases hf; exact ⟨rfl, rfl⟩
    have ne : s ≠ .un := fun z => by subst z; cases hf
    obtain ⟨v, hv⟩ := main ne
    obtain ⟨rfl, rfl⟩ := fin ne
    exact ⟨v, hv, q v F H fp [] S (Tr.refl.weak fun a x => x.elim id fun y => nomatch y) ⟨rfl, hv⟩⟩
theorem t_c {v : V} {d : D} (hv : ∀ F, Rb F v d) {σ : L2.St} {H : Hp} {Q : VK} (h : tR (dC d) σ H Q) : tC v σ H Q := by
  obtain ⟨A, F, env, fp, S, r, env', hf, q⟩ := h
  cases hf
  obtain ⟨a, b, c⟩ := (Res.old (A := A) S.ex (hv F)).fin S
  exact q v F H fp [] a b c
section
variable {X : Cx} {pos : Pos} {e a b : Expr} {fa fb : RE} {ga gb : BE}
theorem pr_var (i : Nat) {x : Str} (hN : X.N[i]? = some x := by rfl) (hv : Vis X.env.scope x := by first | exact Or.inl rfl | exact Or.inr (Or.inl rfl) | exact Or.inr (Or.inr rfl)) (hd : (x == ("__debug__" : Str)) = false := by decide)
    (hcd : (x == ("__classdict__" : Str)) = false := by decide) : PE X (.Name x pos) (tR (dVar i)) := PE.imp (pe_var hN hv hd hcd) fun _ _ _ h => t_var h
theorem pr_int {i j} : PE X (.Constant (.int i) j pos) (tR (dC (.int i))) := PE.imp pe_int fun _ _ _ h => t_c (fun _ => .int i) h
theorem pr_str {x j} : PE X (.Constant (.str x) j pos) (tR (dC (.str x))) := PE.imp pe_str fun _ _ _ h => t_c (fun _ => .str x) h
theorem pr_bl {b j} : PE X (.Constant (.bool b) j pos) (tR (dC (.bool b))) := PE.imp pe_bl fun _ _ _ h => t_c (fun _ => .bl b) h
theorem pr_non {j} : PE X (.Constant .none j pos) (tR (dC .none)) := PE.imp pe_non fun _ _ _ h => t_c (fun _ => .non) h
theorem pr_globI {x : Str} {i : Int} {t : Tok} (hg : Gl X x) (hm : X.mg x = some (.int i t)) (hd : (x == ("__debug__" : Str)) = false := by decide) : PE X (.Name x pos) (tR (dC (.int i))) := PE.imp (pe_glob hg hm (v := .int i) ⟨_, rfl⟩ hd) fun _ _ _ h => t_c (fun _ => .int i) h
theorem pr_globS {x y : Str} {t : Tok} (hg : Gl X x) (hm : X.mg x = some (.str y t)) (hd : (x == ("__debug__" : Str)) = false := by decide) : PE X (.Name x pos) (tR (dC (.str y))) := PE.imp (pe_glob hg hm (v := .str y) ⟨_, rfl⟩ hd) fun _ _ _ h => t_c (fun _ => .str y) h

/-! ### operations of two -/
def OpSpec (r : R2) (op : D → D → Option Sl) : Prop := ∀ A F H v1 v2 d1 d2 s (Q : VK), Same F H → View F H v1 d1 → View F H v2 d2 → op d1 d2 = some s →
  (∀ v F' H' q, Res A F H s v F' H' q → Q v H') → r v1 v2 H Q
def dOp (op : D → D → Option Sl) (fa fb : BE) : RE := fun env => (fa env).bind fun p => (fb p.2).bind fun p2 =>
  (readB p2.2 p.1).bind fun x => (readB p2.2 p2.1).bind fun y => (op x y).map fun s => (.val s, p2.2)
theorem t_op {r : R2} {op : D → D → Option Sl} (hs : OpSpec r op) {σ : L2.St} {H : Hp} {Q : VK} (h : tR (dOp op ga gb) σ H Q) : tOp r (tO ga) (tO gb) σ H Q := by
  obtain ⟨A, F, env, fp, S, r, env', hf, q⟩ := h
  unfold dOp at hf
  cases e1 : ga env with
  | none => rw [e1] at hf; cases hf
  | some p =>
    obtain ⟨x, env1⟩ := p
    rw [e1] at hf
    refine ⟨A, F, env, fp, S, x, env1, e1, fun v1 F1 H1 fp1 S1 T1 ok1 => ?_⟩
    have hf : ((gb env1).bind fun p2 => (readB p2.2 x).bind fun x => (readB p2.2 p2.1).bind fun y => (op x y).map fun s => (R.val s, p2.2)) = some (r, env') := hf
    cases e2 : gb env1 with
    | none => rw [e2] at hf; cases hf
    | some p =>
      obtain ⟨y, env2⟩ := p
      rw [e2] at hf
      refine ⟨A, F1, env1, fp1, S1, y, env2, e2, fun v2 F2 H2 fp2 S2 T2 ok2 => ?_⟩
      have hf : ((readB env2 x).bind fun x => (readB env2 y).bind fun y => (op x y).map fun s => (R.val s, env2)) = some (r, env') := hf
      cases e3 : readB env2 x with
      | none => rw [e3] at hf; cases hf
      | some d1 =>
        rw [e3] at hf
        have hf : ((readB env2 y).bind fun y => (op d1 y).map fun s => (R.val s, env2)) = some (r, env') := hf
        cases e4 : readB env2 y with
        | none => rw [e4] at hf; cases hf
        | some d2 =>
          rw [e4] at hf
          have hf : ((op d1 d2).map fun s => (R.val s, env2)) = some (r, env') := hf
          cases e5 : op d1 d2 with
          | none => rw [e5] at hf; cases hf
          | some s =>
            rw [e5] at hf
            cases hf
            refine hs A F2 H2 v1 v2 d1 d2 s Q S2.ex (read_view S2 (ok1.mono T2.grow) e3) (read_view S2 ok2 e4) e5 fun v F3 H3 qs res => ?_
            obtain ⟨S3, T3, ok3⟩ := res.fin S2
            exact q v F3 H3 fp2 qs S3 ((T1.trans T2).trans T3) ok3
theorem pr_bin {o : Operator} {r : R2} {op : D → D → Option Sl} (ho : OpR X (binaryOp o) r) (hs : OpSpec r op) (ha : PE X a (tO ga)) (hb : PE X b (tO gb)) : PE X (.BinOp a o b pos) (tR (dOp op ga gb)) :=
  PE.imp (pe_op ho ha hb) fun _ _ _ h => t_op hs h
theorem pr_cmp {o : CmpOp} {r : R2} {op : D → D → Option Sl} (ho : OpR X (compareOp o) r) (hs : OpSpec r op) (ha : PE X a (tO ga)) (hb : PE X b (tO gb)) (hm : behindInMarks o b = false := by first | exact nomark _ | with_unfolding_all rfl) : PE X (.Compare a [o] [b] pos) (tR (dOp op ga gb)) :=
  PE.imp (pe_cmpR ho ha hb hm) fun _ _ _ h => t_op hs h
theorem pr_ix {r : R2} {op : D → D → Option Sl} (ho : IxR X r) (hs : OpSpec r op) (ha : PE X a (tO ga)) (hb : PE X b (tO gb)) (hp : PlainIx b := by exact fun _ _ => rfl) : PE X (.Subscript a b pos) (tR (dOp op ga gb)) :=
  PE.imp (pe_ix ho ha hb hp) fun _ _ _ h => t_op hs h
end

/-! ### tests -/
def asBool (env : Env') : R → Option Bool
  | .val (.dat (.bool b)) => some b
  | .slot i => match env[i]? with
    | some (.dat (.bool b)) => some b
    | _ => none
  | _ => none
theorem asBool_ok {A : Addr} {F H : Hp} {σ : L2.St} {env : Env'} {fp : Nat → List Addr} {r : R} {v : V} {q : List Addr} {b : Bool} (S : StOk A F H σ env fp) (ok : ROk A F H σ env fp r v q) (h : asBool env r = some b) : v = .bl b ∧ q = [] := by
  cases r with
  | val s =>
    obtain ⟨_, k, _⟩ := ok
    cases s with
    | dat d =>
      obtain ⟨e, w, e2, x⟩ := k
      cases e2
      cases d with
      | bool c => cases h; cases x; exact ⟨rfl, e⟩
      | none => cases h
      | int _ => cases h
      | str _ => cases h
      | list _ => cases h
      | tuple _ => cases h
      | dict _ => cases h
    | un => cases h
    | own _ => cases h
    | io _ => cases h
    | ownLL _ => cases h
    | fix _ => cases h
  | slot i =>
    obtain ⟨e, k⟩ := ok
    refine ⟨?_, e⟩
    have h : (match env[i]? with
      | some (.dat (.bool b)) => some b
      | _ => none) = some b := h
    cases e2 : env[i]? with
    | none => rw [e2] at h; cases h
    | some s =>
      rw [e2] at h
      have z := S.at e2
      rw [k] at z
      cases s with
      | dat d =>
        obtain ⟨_, w, e3, x⟩ := z
        cases e3
        cases d with
        | bool c => cases h; cases x; rfl
        | none => cases h
        | int _ => cases h
        | str _ => cases h
        | list _ => cases h
        | tuple _ => cases h
        | dict _ => cases h
      | un => cases h
      | own _ => cases h
      | io _ => cases h
      | ownLL _ => cases h
      | fix _ => cases h
def dTest (f : RE) : TTE := fun env => (f env).bind fun p => (asBool p.2 p.1).map fun b => (b, p.2)
theorem t_test {f : RE} {σ : L2.St} {H : Hp} {Q : Bool → Hp → Prop} (h : tQ (dTest f) σ H Q) : tTest (tR f) σ H Q := by
  obtain ⟨A, F, env, fp, S, b, env', hf, q⟩ := h
  unfold dTest at hf
  cases e1 : f env with
  | none => rw [e1] at hf; cases hf
  | some p =>
    obtain ⟨r, e⟩ := p
    rw [e1] at hf
    have hf : (asBool e r).map (fun b => (b, e)) = some (b, env') := hf
    cases e2 : asBool e r with
    | none => rw [e2] at hf; cases hf
    | some c =>
      rw [e2] at hf
      cases hf
      refine ⟨A, F, env, fp, S, r, _, e1, fun v F' H' fp' qs S' T ok => ?_⟩
      obtain ⟨rfl, rfl⟩ := asBool_ok S' ok e2
      exact ⟨_, rfl, q F' H' fp' S' (T.weak fun a x => .inl x)⟩
section
variable {X : Cx} {pos : Pos} {e a b c : Expr} {fa fb : RE} {ga gb : BE} {ta tb : TTE} {rest : List Expr}
theorem pq_cmp {o : CmpOp} {r : R2} {op : D → D → Option Sl} (ho : OpR X (compareOp o) r) (hs : OpSpec r op) (ha : PE X a (tO ga)) (hb : PE X b (tO gb)) (hm : behindInMarks o b = false := by first | exact nomark _ | with_unfolding_all rfl) : PT X (.Compare a [o] [b] pos) (tQ (dTest (dOp op ga gb))) :=
  PT.imp (pt_cmpR ho ha hb hm) fun σ H Q h => by
    have k := t_test h
    exact t_op (Q := fun x H' => ∃ k, x = .bl k ∧ Q k H') hs k
theorem pq_val (h : PE X e (tR fa)) (he : ∀ whole, isTrue e X.env whole = (do let v ← whole; standAt e.pos; holding [v] (truthy v)) := by intro _; rfl) : PT X e (tQ (dTest fa)) :=
  PT.imp (pt_val h he) fun σ H Q h => t_test h
def dNot (t : TTE) : TTE := fun env => (t env).map fun p => (!p.1, p.2)
theorem pq_not (h : PT X a (tQ ta)) : PT X (.UnaryOp .Not a pos) (tQ (dNot ta)) := PT.imp (pt_not h) fun σ H Q h => by
  obtain ⟨A, F, env, fp, S, b, env', hf, q⟩ := h
  unfold dNot at hf
  cases e1 : ta env with
  | none => rw [e1] at hf; cases hf
  | some p =>
    rw [e1] at hf
    cases hf
    exact ⟨A, F, env, fp, S, p.1, p.2, e1, fun F' H' fp' S' T => q F' H' fp' S' T⟩
def dAnd (t u : TTE) : TTE := fun env => (t env).bind fun p => if p.1 = true then u p.2 else some (false, p.2)
def dOr (t u : TTE) : TTE := fun env => (t env).bind fun p => if p.1 = true then some (true, p.2) else u p.2
theorem pqw_and1 (h : PT X a (tQ ta)) : PW X (.BoolOp .And [a] pos) (tQ ta) := pw_and1 h
theorem pqw_or1 (h : PT X a (tQ ta)) : PW X (.BoolOp .Or [a] pos) (tQ ta) := pw_or1 h
theorem pqw_and (h : PT X a (tQ ta)) (k : PW X (.BoolOp .And (b :: rest) pos) (tQ tb)) : PW X (.BoolOp .And (a :: b :: rest) pos) (tQ (dAnd ta tb)) := PW.imp (pw_and h k) fun σ H Q h => by
  obtain ⟨A, F, env, fp, S, r, env', hf, q⟩ := h
  unfold dAnd at hf
  cases e1 : ta env with
  | none => rw [e1] at hf; cases hf
  | some p =>
    obtain ⟨x, env1⟩ := p
    rw [e1] at hf
    refine ⟨A, F, env, fp, S, x, env1, e1, fun F1 H1 fp1 S1 T1 => ?_⟩
    have hf : (if x = true then tb env1 else some (false, env1)) = some (r, env') := hf
    cases x with
    | true => exact ⟨A, F1, env1, fp1, S1, r, env', hf, fun F2 H2 fp2 S2 T2 => q F2 H2 fp2 S2 (T1.trans T2)⟩
    | false => cases hf; exact q F1 H1 fp1 S1 T1
theorem pqw_or (h : PT X a (tQ ta)) (k : PW X (.BoolOp .Or (b :: rest) pos) (tQ tb)) : PW X (.BoolOp .Or (a :: b :: rest) pos) (tQ (dOr ta tb)) := PW.imp (pw_or h k) fun σ H Q h => by
  obtain ⟨A, F, env, fp, S, r, env', hf, q⟩ := h
  unfold dOr at hf
  cases e1 : ta env with
  | none => rw [e1] at hf; cases hf
  | some p =>
    obtain ⟨x, env1⟩ := p
    rw [e1] at hf
    refine ⟨A, F, env, fp, S, x, env1, e1, fun F1 H1 fp1 S1 T1 => ?_⟩
    have hf : (if x = true then some (true, env1) else tb env1) = some (r, env') := hf
    cases x with
    | false => exact ⟨A, F1, env1, fp1, S1, r, env', hf, fun F2 H2 fp2 S2 T2 => q F2 H2 fp2 S2 (T1.trans T2)⟩
    | true => cases hf; exact q F1 H1 fp1 S1 T1
/-! ### and, or, not as values (bools), a if c else b -/
def dAndV (f g : RE) : RE := fun env => (f env).bind fun p => (asBool p.2 p.1).bind fun c => if c = true then g p.2 else some (.val (.dat (.bool false)), p.2)
def dOrV (f g : RE) : RE := fun env => (f env).bind fun p => (asBool p.2 p.1).bind fun c => if c = true then some (.val (.dat (.bool true)), p.2) else g p.2
def dNotV (f : RE) : RE := fun env => (f env).bind fun p => (asBool p.2 p.1).map fun c => (.val (.dat (.bool (!c))), p.2)
def dIf (t : TTE) (f g : RE) : RE := fun env => (t env).bind fun p => if p.1 = true then f p.2 else g p.2
theorem bool_q {A : Addr} {F H : Hp} {σ : L2.St} {env : Env'} {fp : Nat → List Addr} (S : StOk A F H σ env fp) (c : Bool) : ROk A F H σ env fp (.val (.dat (.bool c))) (.bl c) [] := ⟨(nomatch ·), ⟨rfl, _, rfl, .bl c⟩, fun a h => nomatch h⟩
theorem pr_one {op} (h : PE X a (tR fa)) : PE X (.BoolOp op [a] pos) (tR fa) := pe_one h
theorem pr_and (h : PE X a (tR fa)) (k : PE X (.BoolOp .And (b :: rest) pos) (tR fb)) : PE X (.BoolOp .And (a :: b :: rest) pos) (tR (dAndV fa fb)) := PE.imp (pe_and h k) fun σ H Q h => by
  obtain ⟨A, F, env, fp, S, r, env', hf, q⟩ := h
  unfold dAndV at hf
  cases e1 : fa env with
  | none => rw [e1] at hf; cases hf
  | some p =>
    obtain ⟨x, env1⟩ := p
    rw [e1] at hf
    refine ⟨A, F, env, fp, S, x, env1, e1, fun v F1 H1 fp1 q1 S1 T1 ok => ?_⟩
    have hf : ((asBool env1 x).bind fun c => if c = true then fb env1 else some (.val (.dat (.bool false)), env1)) = some (r, env') := hf
    cases e2 : asBool env1 x with
    | none => rw [e2] at hf; cases hf
    | some c =>
      rw [e2] at hf
      obtain ⟨rfl, rfl⟩ := asBool_ok S1 ok e2
      refine ⟨c, rfl, ?_⟩
      have T1' := T1.weak (V' := inFp fp1) fun a x => .inl x
      cases c with
      | true => exact ⟨A, F1, env1, fp1, S1, r, env', hf, fun v F2 H2 fp2 q2 S2 T2 => q v F2 H2 fp2 q2 S2 (T1'.trans T2)⟩
      | false => cases hf; exact q _ F1 H1 fp1 [] S1 T1 (bool_q S1 false)
theorem pr_or (h : PE X a (tR fa)) (k : PE X (.BoolOp .Or (b :: rest) pos) (tR fb)) : PE X (.BoolOp .Or (a :: b :: rest) pos) (tR (dOrV fa fb)) := PE.imp (pe_or h k) fun σ H Q h => by
  obtain ⟨A, F, env, fp, S, r, env', hf, q⟩ := h
  unfold dOrV at hf
  cases e1 : fa env with
  | none => rw [e1] at hf; cases hf
  | some p =>
    obtain ⟨x, env1⟩ := p
    rw [e1] at hf
    refine ⟨A, F, env, fp, S, x, env1, e1, fun v F1 H1 fp1 q1 S1 T1 ok => ?_⟩
    have hf : ((asBool env1 x).bind fun c => if c = true then some (.val (.dat (.bool true)), env1) else fb env1) = some (r, env') := hf
    cases e2 : asBool env1 x with
    | none => rw [e2] at hf; cases hf
    | some c =>
      rw [e2] at hf
      obtain ⟨rfl, rfl⟩ := asBool_ok S1 ok e2
      refine ⟨c, rfl, ?_⟩
      have T1' := T1.weak (V' := inFp fp1) fun a x => .inl x
      cases c with
      | false => exact ⟨A, F1, env1, fp1, S1, r, env', hf, fun v F2 H2 fp2 q2 S2 T2 => q v F2 H2 fp2 q2 S2 (T1'.trans T2)⟩
      | true => cases hf; exact q _ F1 H1 fp1 [] S1 T1 (bool_q S1 true)
theorem pr_not (h : PE X a (tR fa)) : PE X (.UnaryOp .Not a pos) (tR (dNotV fa)) := PE.imp (pe_not h) fun σ H Q h => by
  obtain ⟨A, F, env, fp, S, r, env', hf, q⟩ := h
  unfold dNotV at hf
  cases e1 : fa env with
  | none => rw [e1] at hf; cases hf
  | some p =>
    obtain ⟨x, env1⟩ := p
    rw [e1] at hf
    refine ⟨A, F, env, fp, S, x, env1, e1, fun v F1 H1 fp1 q1 S1 T1 ok => ?_⟩
    have hf : ((asBool env1 x).map fun c => (R.val (.dat (.bool (!c))), env1)) = some (r, env') := hf
    cases e2 : asBool env1 x with
    | none => rw [e2] at hf; cases hf
    | some c =>
      rw [e2] at hf
      obtain ⟨rfl, rfl⟩ := asBool_ok S1 ok e2
      cases hf
      exact ⟨c, rfl, q _ F1 H1 fp1 [] S1 T1 (bool_q S1 (!c))⟩
theorem pr_if (hc : PT X c (tQ ta)) (h : PE X a (tR fa)) (k : PE X b (tR fb)) : PE X (.IfExp c a b pos) (tR (dIf ta fa fb)) := PE.imp (pe_ifExp hc h k) fun σ H Q h => by
  obtain ⟨A, F, env, fp, S, r, env', hf, q⟩ := h
  unfold dIf at hf
  cases e1 : ta env with
  | none => rw [e1] at hf; cases hf
  | some p =>
    obtain ⟨x, env1⟩ := p
    rw [e1] at hf
    refine ⟨A, F, env, fp, S, x, env1, e1, fun F1 H1 fp1 S1 T1 => ?_⟩
    have hf : (if x = true then fa env1 else fb env1) = some (r, env') := hf
    cases x with
    | true => exact ⟨A, F1, env1, fp1, S1, r, env', hf, fun v F2 H2 fp2 q2 S2 T2 => q v F2 H2 fp2 q2 S2 (T1.trans T2)⟩
    | false => exact ⟨A, F1, env1, fp1, S1, r, env', hf, fun v F2 H2 fp2 q2 S2 T2 => q v F2 H2 fp2 q2 S2 (T1.trans T2)⟩
end

/-! ### argument lists, displays -/
def dNil : BAE := fun env => some ([], env)
def dCons (f : BE) (g : BAE) : BAE := fun env => (f env).bind fun p => (g p.2).map fun p2 => (p.1 :: p2.1, p2.2)
section
variable {X : Cx} {pos : Pos} {e : Expr} {es : List Expr} {ga : BE} {gs : BAE} {t : TA}
theorem pao_nil : PA X [] (tOs dNil) := PA.imp pa_nil fun σ H Q h => by
  obtain ⟨A, F, env, fp, S, r, env', hf, q⟩ := h
  cases hf
  exact q [] F H fp S Tr.refl .nil
theorem pao_cons (h : PE X e (tO ga)) (k : PA X es (tOs gs)) (hs : starEach (e :: es) X.env = (false, eval e X.env) :: starEach es X.env := by rfl) : PA X (e :: es) (tOs (dCons ga gs)) := PA.imp (pa_cons h k hs) fun σ H Q h => by
  obtain ⟨A, F, env, fp, S, r, env', hf, q⟩ := h
  unfold dCons at hf
  cases e1 : ga env with
  | none => rw [e1] at hf; cases hf
  | some p =>
    obtain ⟨x, env1⟩ := p
    rw [e1] at hf
    refine ⟨A, F, env, fp, S, x, env1, e1, fun v F1 H1 fp1 S1 T1 ok1 => ?_⟩
    have hf : ((gs env1).map fun p2 => (x :: p2.1, p2.2)) = some (r, env') := hf
    cases e2 : gs env1 with
    | none => rw [e2] at hf; cases hf
    | some p2 =>
      obtain ⟨xs, env2⟩ := p2
      rw [e2] at hf
      cases hf
      exact ⟨A, F1, env1, fp1, S1, xs, _, e2, fun vs F2 H2 fp2 S2 T2 ok2 => q (v :: vs) F2 H2 fp2 S2 (T1.trans T2) (.cons (ok1.mono T2.grow) ok2)⟩
def szMax : Nat := 100000
theorem sz_le {n : Nat} (h : n ≤ szMax) : n ≤ sizeLine := Nat.le_trans h (by decide)
def dTup (g : BAE) : RE := fun env => (g env).bind fun p => (resBs p.2 p.1).bind fun r => if r.1.length ≤ szMax then some (.val (.dat (.tuple r.1)), r.2) else none
def dLst (g : BAE) : RE := fun env => (g env).bind fun p => (resBs p.2 p.1).bind fun r => if r.1.length ≤ szMax then some (.val (.own (.list r.1)), r.2) else none
theorem pr_tup {k} (h : PA X es (tOs gs)) : PE X (.Tuple es k pos) (tR (dTup gs)) := PE.imp (pe_tup h) fun σ H Q h => by
  obtain ⟨A, F, env, fp, S, r, env', hf, q⟩ := h
  unfold dTup at hf
  cases e1 : gs env with
  | none => rw [e1] at hf; cases hf
  | some p =>
    obtain ⟨bs, env1⟩ := p
    rw [e1] at hf
    refine ⟨A, F, env, fp, S, bs, env1, e1, fun vs F1 H1 fp1 S1 T1 ok1 => ?_⟩
    have hf : ((resBs env1 bs).bind fun r => if r.1.length ≤ szMax then some (R.val (.dat (.tuple r.1)), r.2) else none) = some (r, env') := hf
    cases e2 : resBs env1 bs with
    | none => rw [e2] at hf; cases hf
    | some p2 =>
      obtain ⟨ds, env2⟩ := p2
      rw [e2] at hf
      have hf : (if ds.length ≤ szMax then some (R.val (.dat (.tuple ds)), env2) else none) = some (r, env') := hf
      split at hf
      · rename_i hz
        cases hf
        obtain ⟨F2, fp2, S2, T2, ra⟩ := ress_ok S1 ok1 e2
        refine ⟨sz_le (by rw [ra.length]; exact hz), fun p hp => ?_⟩
        obtain ⟨S3, T3, ok3⟩ := (Res.newTup (A := A) S2.ex hp ra).fin S2
        exact q _ _ _ fp2 [] S3 ((T1.trans T2).trans T3) ok3
      · cases hf
theorem pr_lst (h : PA X es (tOs gs)) : PE X (.List es pos) (tR (dLst gs)) := PE.imp (pe_lst h) fun σ H Q h => by
  obtain ⟨A, F, env, fp, S, r, env', hf, q⟩ := h
  unfold dLst at hf
  cases e1 : gs env with
  | none => rw [e1] at hf; cases hf
  | some p =>
    obtain ⟨bs, env1⟩ := p
    rw [e1] at hf
    refine ⟨A, F, env, fp, S, bs, env1, e1, fun vs F1 H1 fp1 S1 T1 ok1 => ?_⟩
    have hf : ((resBs env1 bs).bind fun r => if r.1.length ≤ szMax then some (R.val (.own (.list r.1)), r.2) else none) = some (r, env') := hf
    cases e2 : resBs env1 bs with
    | none => rw [e2] at hf; cases hf
    | some p2 =>
      obtain ⟨ds, env2⟩ := p2
      rw [e2] at hf
      have hf : (if ds.length ≤ szMax then some (R.val (.own (.list ds)), env2) else none) = some (r, env') := hf
      split at hf
      · rename_i hz
        cases hf
        obtain ⟨F2, fp2, S2, T2, ra⟩ := ress_ok S1 ok1 e2
        refine ⟨sz_le (by rw [ra.length]; exact hz), fun p hp => ?_⟩
        obtain ⟨S3, T3, ok3⟩ := (Res.newLst (A := A) S2.ex hp ra).fin S2
        exact q _ _ _ fp2 _ S3 ((T1.trans T2).trans T3) ok3
      · cases hf
/-! ### built-in functions by values -/
def CallSpec (r : List V → Hp → VK → Prop) (op : List D → Option Sl) : Prop := ∀ A F H vs ds s (Q : VK), Same F H → Paired (View F H) vs ds → op ds = some s →
  (∀ v F' H' q, Res A F H s v F' H' q → Q v H') → r vs H Q
def dCB (op : List D → Option Sl) (g : BAE) : RE := fun env => (g env).bind fun p => (readBs p.2 p.1).bind fun ds => (op ds).map fun s => (.val s, p.2)
theorem t_cb {r : List V → Hp → VK → Prop} {op : List D → Option Sl} (hs : CallSpec r op) {σ : L2.St} {H : Hp} {Q : VK} (h : tR (dCB op gs) σ H Q) : tCB r (tOs gs) σ H Q := by
  obtain ⟨A, F, env, fp, S, r, env', hf, q⟩ := h
  unfold dCB at hf
  cases e1 : gs env with
  | none => rw [e1] at hf; cases hf
  | some p =>
    obtain ⟨bs, env1⟩ := p
    rw [e1] at hf
    refine ⟨A, F, env, fp, S, bs, env1, e1, fun vs F1 H1 fp1 S1 T1 ok1 => ?_⟩
    have hf : ((readBs env1 bs).bind fun ds => (op ds).map fun s => (R.val s, env1)) = some (r, env') := hf
    cases e2 : readBs env1 bs with
    | none => rw [e2] at hf; cases hf
    | some ds =>
      rw [e2] at hf
      have hf : ((op ds).map fun s => (R.val s, env1)) = some (r, env') := hf
      cases e3 : op ds with
      | none => rw [e3] at hf; cases hf
      | some s =>
        rw [e3] at hf
        cases hf
        refine hs A F1 H1 vs ds s Q S1.ex (reads_view S1 ok1 e2) e3 fun v F3 H3 qs res => ?_
        obtain ⟨S3, T3, ok3⟩ := res.fin S1
        exact q v F3 H3 fp1 qs S3 (T1.trans T3) ok3
theorem pr_callB {x : Str} {p : Pos} {id : String} {r : List V → Hp → VK → Prop} {op : List D → Option Sl} (hc : CallR X (.builtin id) r) (hs : CallSpec r op) (hg : Gl X x) (hm : X.mg x = none) (hv : bootBuiltins x = some (.builtin id)) (ha : PA X (e :: es) (tOs gs)) (hn : x ≠ "__name__" := by decide) (hdb : (x == ("__debug__" : Str)) = false := by decide)
    (he : starEach (e :: es) X.env = (false, eval e X.env) :: starEach es X.env := by rfl) (hpl : (backTo pos (starEach es X.env)).any (·.1) = false := by rfl) : PE X (.Call (.Name x p) (e :: es) [] pos) (tR (dCB op gs)) :=
  PE.imp (pe_callB hc hg hm hv ha hn hdb he hpl) fun _ _ _ h => t_cb hs h
theorem pr_callTy {x : Str} {p : Pos} {T : String} {r : List V → Hp → VK → Prop} {op : List D → Option Sl} (hc : CallR X (.type T) r) (hs : CallSpec r op) (hg : Gl X x) (hm : X.mg x = none) (hv : bootBuiltins x = some (.type T)) (ha : PA X (e :: es) (tOs gs)) (hn : x ≠ "__name__" := by decide) (hdb : (x == ("__debug__" : Str)) = false := by decide)
    (he : starEach (e :: es) X.env = (false, eval e X.env) :: starEach es X.env := by rfl) (hpl : (backTo pos (starEach es X.env)).any (·.1) = false := by rfl) : PE X (.Call (.Name x p) (e :: es) [] pos) (tR (dCB op gs)) :=
  PE.imp (pe_callTy hc hg hm hv ha hn hdb he hpl) fun _ _ _ h => t_cb hs h
end
end DL
namespace DL
open PySem PySem.Spec PyProof.Rows L2

/-! ### statements -/
inductive Fl where
  | nx (e : Env') | bk (e : Env') | ct (e : Env') | rt (s : Sl) (e : Env')
abbrev SE := Env' → Option Fl
def FlOk (A : Addr) (F H : Hp) (fp : Nat → List Addr) (Dn : Ends) : Fl → Prop
  | .nx e => ∀ σ' F' H' fp', StOk A F' H' σ' e fp' → Tr F H (inFp fp) F' H' (inFp fp') → Dn.nx σ' H'
  | .bk e => ∀ σ' F' H' fp', StOk A F' H' σ' e fp' → Tr F H (inFp fp) F' H' (inFp fp') → Dn.bk σ' H'
  | .ct e => ∀ σ' F' H' fp', StOk A F' H' σ' e fp' → Tr F H (inFp fp) F' H' (inFp fp') → Dn.ct σ' H'
  | .rt s e => ∀ v σ' F' H' fp' q, StOk A F' H' σ' e fp' → Tr F H (inFp fp) F' H' (fun a => inFp fp' a ∨ a ∈ q) → SlOk A F' H' s (some v) q → s ≠ .un → (∀ a ∈ q, F' a = none ∧ ¬ inFp fp' a) → Dn.rt v H'
def tS (g : SE) : TS := fun Dn σ H => ∃ A F env fp, StOk A F H σ env fp ∧ ∃ fl, g env = some fl ∧ FlOk A F H fp Dn fl
theorem FlOk.trans {A : Addr} {F H F' H' : Hp} {fp fp' : Nat → List Addr} {Dn : Ends} {fl : Fl} (h : FlOk A F H fp Dn fl) (t : Tr F H (inFp fp) F' H' (inFp fp')) : FlOk A F' H' fp' Dn fl := by
  cases fl with
  | nx e => exact fun σ' F2 H2 fp2 S2 T2 => h σ' F2 H2 fp2 S2 (t.trans T2)
  | bk e => exact fun σ' F2 H2 fp2 S2 T2 => h σ' F2 H2 fp2 S2 (t.trans T2)
  | ct e => exact fun σ' F2 H2 fp2 S2 T2 => h σ' F2 H2 fp2 S2 (t.trans T2)
  | rt s e => exact fun v σ' F2 H2 fp2 q S2 T2 => h v σ' F2 H2 fp2 q S2 (t.trans T2)

def dNext : SE := fun env => some (.nx env)
def dSeq (g k : SE) : SE := fun env => (g env).bind fun fl => match fl with
  | .nx e => k e
  | .bk e => some (.bk e)
  | .ct e => some (.ct e)
  | .rt s e => some (.rt s e)
section
variable {X : Cx} {st : Stmt} {rest : List Stmt} {g k : SE} {pos : Pos} {e c : Expr} {f : RE} {ga : BE} {tc : TTE} {sa sb : List Stmt}
theorem pss_nil' : PSs X [] (tS dNext) := PSs.imp pss_nil fun Dn σ H h => by
  obtain ⟨A, F, env, fp, S, fl, hf, q⟩ := h
  cases hf
  exact q σ F H fp S Tr.refl
theorem pss_cons' (h1 : PS X st (tS g)) (h2 : PSs X rest (tS k)) : PSs X (st :: rest) (tS (dSeq g k)) := PSs.imp (pss_cons h1 h2) fun Dn σ H h => by
  obtain ⟨A, F, env, fp, S, fl, hf, q⟩ := h
  unfold dSeq at hf
  cases e1 : g env with
  | none => rw [e1] at hf; cases hf
  | some f1 =>
    rw [e1] at hf
    refine ⟨A, F, env, fp, S, f1, e1, ?_⟩
    cases f1 with
    | nx e => exact fun σ' F' H' fp' S' T => ⟨A, F', e, fp', S', fl, hf, q.trans T⟩
    | bk e => cases hf; exact q
    | ct e => cases hf; exact q
    | rt s e => cases hf; exact q
theorem pss_one' (h1 : PS X st (tS g)) : PSs X [st] (tS g) := pss_one h1
def dCont : SE := fun env => some (.ct env)
def dBrk : SE := fun env => some (.bk env)
def dFail : SE := fun _ => none
theorem ps_cont' : PS X (.Continue pos) (tS dCont) := PS.imp ps_continue fun Dn σ H h => by
  obtain ⟨A, F, env, fp, S, fl, hf, q⟩ := h
  cases hf
  exact q σ F H fp S Tr.refl
theorem ps_brk' : PS X (.Break pos) (tS dBrk) := PS.imp ps_break fun Dn σ H h => by
  obtain ⟨A, F, env, fp, S, fl, hf, q⟩ := h
  cases hf
  exact q σ F H fp S Tr.refl
theorem ps_fail' : PS X st (tS dFail) := PS.imp ps_never fun Dn σ H h => by
  obtain ⟨A, F, env, fp, S, fl, hf, q⟩ := h
  cases hf
def dIfS (t : TTE) (g k : SE) : SE := fun env => (t env).bind fun p => if p.1 = true then g p.2 else k p.2
theorem ps_if' (hc : PT X c (tQ tc)) (ha : PSs X sa (tS g)) (hb : PSs X sb (tS k)) : PS X (.If c sa sb pos) (tS (dIfS tc g k)) := PS.imp (ps_if hc ha hb) fun Dn σ H h => by
  obtain ⟨A, F, env, fp, S, fl, hf, q⟩ := h
  unfold dIfS at hf
  cases e1 : tc env with
  | none => rw [e1] at hf; cases hf
  | some p =>
    obtain ⟨x, env1⟩ := p
    rw [e1] at hf
    refine ⟨A, F, env, fp, S, x, env1, e1, fun F1 H1 fp1 S1 T1 => ?_⟩
    have hf : (if x = true then g env1 else k env1) = some fl := hf
    cases x with
    | true => exact ⟨A, F1, env1, fp1, S1, fl, hf, q.trans T1⟩
    | false => exact ⟨A, F1, env1, fp1, S1, fl, hf, q.trans T1⟩

/-! ### return -/
def dRet (f : RE) : SE := fun env => (f env).bind fun p => match p.1 with
  | .val s => some (.rt s p.2)
  | .slot i => match p.2[i]? with
    | some (.dat d) => some (.rt (.dat d) p.2)
    | some (.own d) => some (.rt (.own d) (p.2.set i .un))
    | some (.ownLL d) => some (.rt (.ownLL d) (p.2.set i .un))
    | _ => none
end
section
variable {A : Addr} {F H F' H' F2 H2 : Hp} {W W' W2 : Addr → Prop} {σ : L2.St} {env env' : Env'} {fp fp' : Nat → List Addr}
/-- a slot's content is moved out -/
theorem StOk.moved (S : StOk A F H σ env fp) {i : Nat} {s : Sl} (h : env[i]? = some s) {v : V} (hv : σ[i]? = some (some v)) :
    StOk A F H σ (env.set i .un) (fset fp i []) ∧ SlOk A F H s (some v) (fp i) ∧ (∀ a ∈ fp i, F a = none ∧ ¬ inFp (fset fp i []) a) ∧ ∀ a, inFp (fset fp i []) a ∨ a ∈ fp i → inFp fp a := by
  have k := S.at h
  rw [hv] at k
  refine ⟨S.put' (show SlOk A F H .un _ [] from rfl) (StOk.lt h) (fun a m => nomatch m), k, fun a m => ⟨S.free i a m, fun w => ?_⟩, fun a w => ?_⟩
  · obtain ⟨j, hj⟩ := w
    by_cases e : j = i
    · rw [e, fset_same] at hj; cases hj
    · rw [fset_ne e] at hj; exact e (S.disj j i a hj m)
  · rcases w with w | w
    · exact (in_fset w).elim id fun z => nomatch z
    · exact ⟨i, w⟩
end
section
variable {X : Cx} {st : Stmt} {rest : List Stmt} {g k : SE} {pos : Pos} {e c : Expr} {f : RE} {ga gb : BE} {tc : TTE} {sa sb : List Stmt}
theorem ps_ret' (he : PE X e (tR f)) : PS X (.Return (some e) pos) (tS (dRet f)) := PS.imp (ps_ret he) fun Dn σ H h => by
  obtain ⟨A, F, env, fp, S, fl, hf, q⟩ := h
  unfold dRet at hf
  cases e1 : f env with
  | none => rw [e1] at hf; cases hf
  | some p =>
    obtain ⟨r, env1⟩ := p
    rw [e1] at hf
    refine ⟨A, F, env, fp, S, r, env1, e1, fun v F1 H1 fp1 q1 S1 T1 ok => ?_⟩
    cases r with
    | val s =>
      cases hf
      obtain ⟨a, b, c⟩ := ok
      exact q v σ F1 H1 fp1 q1 S1 T1 b a c
    | slot i =>
      obtain ⟨rfl, hv⟩ := ok
      have T1 := T1.weak (V' := inFp fp1) fun a x => .inl x
      have hf : (match env1[i]? with
        | some (.dat d) => some (Fl.rt (.dat d) env1)
        | some (.own d) => some (.rt (.own d) (env1.set i .un))
        | some (.ownLL d) => some (.rt (.ownLL d) (env1.set i .un))
        | _ => none) = some fl := hf
      cases e2 : env1[i]? with
      | none => rw [e2] at hf; cases hf
      | some s =>
        rw [e2] at hf
        cases s with
        | un => cases hf
        | fix _ => cases hf
        | io d => cases hf
        | dat d =>
          cases hf
          have z := S1.at e2
          rw [hv] at z
          obtain ⟨hz, z⟩ := z
          exact q v σ F1 H1 fp1 [] S1 (T1.weak fun a x => x.elim id fun y => nomatch y) ⟨rfl, z⟩ (nomatch ·) fun a x => nomatch x
        | own d =>
          cases hf
          obtain ⟨a, b, c, d⟩ := S1.moved e2 hv
          exact q v σ F1 H1 _ _ a (T1.weak d) b (nomatch ·) c
        | ownLL d =>
          cases hf
          obtain ⟨a, b, c, d⟩ := S1.moved e2 hv
          exact q v σ F1 H1 _ _ a (T1.weak d) b (nomatch ·) c
def dRetN : SE := fun env => some (.rt (.dat .none) env)
theorem ps_retN' : PS X (.Return none pos) (tS dRetN) := PS.imp ps_retN fun Dn σ H h => by
  obtain ⟨A, F, env, fp, S, fl, hf, q⟩ := h
  cases hf
  exact q .non σ F H fp [] S (Tr.refl.weak fun a x => x.elim id fun y => nomatch y) ⟨rfl, _, rfl, .non⟩ (nomatch ·) fun a x => nomatch x

/-! ### name = e -/
def putSl (i : Nat) (s : Sl) (e : Env') : Option Fl := if i < e.length then some (.nx (e.set i s)) else none
def storeR (i : Nat) (p : R × Env') : Option Fl := match p.1 with
  | .val s => putSl i s p.2
  | .slot j => (resB p.2 (.slot j)).bind fun r => putSl i (.dat r.1) r.2
def dSet (i : Nat) (f : RE) : SE := fun env => (f env).bind (storeR i)
end
section
variable {A : Addr} {F H F' H' F2 H2 : Hp} {W W' W2 : Addr → Prop} {σ : L2.St} {env env' : Env'} {fp fp' : Nat → List Addr} {Dn : Ends} {fl : Fl}
/-- a content is stored -/
theorem store_val {s : Sl} {v : V} {q : List Addr} {i : Nat} (S : StOk A F H σ env fp) (ok : SlOk A F H s (some v) q) (hq : ∀ a ∈ q, F a = none ∧ ¬ inFp fp a) (hf : putSl i s env = some fl)
    (k : FlOk A F H (fun j => fp j) Dn fl) (T : Tr F' H' W' F H (fun a => inFp fp a ∨ a ∈ q)) : ∃ e fp2, fl = .nx e ∧ StOk A F H (σ.set i (some v)) e fp2 ∧ Tr F' H' W' F H (inFp fp2) := by
  unfold putSl at hf
  split at hf
  · rename_i hi
    cases hf
    exact ⟨_, _, rfl, S.put hi ok fun a m => ⟨(hq a m).1, fun j _ w => (hq a m).2 ⟨j, w⟩⟩, T.weak fun a w => in_fset w⟩
  · cases hf
theorem store_ok' {r : R} {v : V} {q : List Addr} {i : Nat} (S : StOk A F H σ env fp) (ok : ROk A F H σ env fp r v q) (hf : storeR i (r, env) = some fl)
    (T : Tr F' H' (inFp fp') F H (fun a => inFp fp a ∨ a ∈ q)) (k : FlOk A F' H' fp' Dn fl) : Dn.nx (σ.set i (some v)) H := by
  cases r with
  | val s =>
    obtain ⟨_, ok, hq⟩ := ok
    have hf : putSl i s env = some fl := hf
    unfold putSl at hf
    split at hf
    · rename_i hi
      cases hf
      exact k _ F H _ (S.put hi ok fun a m => ⟨(hq a m).1, fun j _ w => (hq a m).2 ⟨j, w⟩⟩) (T.weak fun a w => in_fset w)
    · cases hf
  | slot j =>
    obtain ⟨rfl, hv⟩ := ok
    have hf : (resB env (.slot j)).bind (fun r => putSl i (.dat r.1) r.2) = some fl := hf
    cases e1 : resB env (.slot j) with
    | none => rw [e1] at hf; cases hf
    | some p =>
      obtain ⟨d, e2⟩ := p
      rw [e1] at hf
      have hf : putSl i (.dat d) e2 = some fl := hf
      unfold putSl at hf
      split at hf
      · rename_i hi
        cases hf
        obtain ⟨F1, fp1, S1, T1, rb⟩ := res_ok S (b := .slot j) hv e1
        refine k _ F1 H _ (S1.put (q := []) hi ⟨rfl, v, rfl, rb⟩ fun a m => nomatch m) ?_
        exact ((T.weak (V' := inFp fp) fun a x => .inl x).trans T1).weak fun a w => (in_fset w).elim id fun z => nomatch z
      · cases hf
end
section
variable {X : Cx} {st : Stmt} {rest : List Stmt} {g k : SE} {pos : Pos} {e c : Expr} {f : RE} {ga gb : BE} {tc : TTE} {sa sb : List Stmt}
theorem t_set {i : Nat} {Dn : Ends} {σ : L2.St} {H : Hp} (h : tS (dSet i f) Dn σ H) : tAsg (tR f) (gName i) Dn σ H := by
  obtain ⟨A, F, env, fp, S, fl, hf, q⟩ := h
  unfold dSet at hf
  cases e1 : f env with
  | none => rw [e1] at hf; cases hf
  | some p =>
    obtain ⟨r, env1⟩ := p
    rw [e1] at hf
    refine ⟨A, F, env, fp, S, r, env1, e1, fun v F1 H1 fp1 q1 S1 T1 ok => ?_⟩
    exact store_ok' S1 ok hf T1 q
theorem ps_set' {i : Nat} {x : Str} {pos' : Pos} (hN : X.N.Nodup) (hi : X.N[i]? = some x) (hx : Loc X.env.scope x) (he : PE X e (tR f)) (hs : swapsWith e (some (.Name x pos')) pos.line X.env = pure false := by rfl) (hf : X.fn x = true ∨ X.env.scope.names.lookup x = some .local := by first | exact .inl rfl | exact .inr rfl | assumption) :
    PS X (.Assign [.Name x pos'] e pos) (tS (dSet i f)) := PS.imp (ps_set hN hi hx he hs hf) fun _ _ _ h => t_set h

/-! ### lists of ours -/
def lstAt (env : Env') (i : Nat) : Option (Bool × List D) := match env[i]? with
  | some (.own (.list xs)) => some (false, xs)
  | some (.io (.list xs)) => some (true, xs)
  | _ => none
def putL (env : Env') (i : Nat) (b : Bool) (d : D) : Env' := env.set i (if b = true then .io d else .own d)
end
section
variable {A : Addr} {F H F' H' F2 H2 : Hp} {W W' W2 : Addr → Prop} {σ : L2.St} {env env' : Env'} {fp fp' : Nat → List Addr} {Dn : Ends} {fl : Fl}
theorem own_ok (S : StOk A F H σ env fp) {i : Nat} {d : D} {b : Bool} (h : env[i]? = some (if b = true then .io d else .own d)) : ∃ a, σ[i]? = some (some (.ref a)) ∧ fp i = [a] ∧ View F H (.ref a) d ∧ (b = true → a = A) := by
  have k := S.at h
  have hl : i < σ.length := by rw [S.len]; exact StOk.lt h
  rw [List.getElem?_eq_getElem hl] at k ⊢
  cases b with
  | false => obtain ⟨a, e, e2, w⟩ := k; exact ⟨a, by rw [← e]; rfl, e2, w, fun z => nomatch z⟩
  | true => obtain ⟨e, e2, w⟩ := k; exact ⟨A, by rw [← e]; rfl, e2, w, fun _ => rfl⟩
theorem lst_at {i : Nat} {b : Bool} {xs : List D} (h : lstAt env i = some (b, xs)) : env[i]? = some (if b = true then .io (.list xs) else .own (.list xs)) := by
  unfold lstAt at h
  cases e : env[i]? with
  | none => rw [e] at h; cases h
  | some s =>
    rw [e] at h
    cases s with
    | own d => cases d with
      | list ys => cases h; rfl
      | none => cases h
      | bool _ => cases h
      | int _ => cases h
      | str _ => cases h
      | tuple _ => cases h
      | dict _ => cases h
    | io d => cases d with
      | list ys => cases h; rfl
      | none => cases h
      | bool _ => cases h
      | int _ => cases h
      | str _ => cases h
      | tuple _ => cases h
      | dict _ => cases h
    | un => cases h
    | dat _ => cases h
    | ownLL _ => cases h
    | fix _ => cases h
theorem lst_ok (S : StOk A F H σ env fp) {i : Nat} {b : Bool} {xs : List D} (h : lstAt env i = some (b, xs)) : ∃ a vs, σ[i]? = some (some (.ref a)) ∧ fp i = [a] ∧ H a = some (.lst vs) ∧ RbA F vs xs := by
  obtain ⟨a, h1, h2, w, _⟩ := own_ok S (lst_at h)
  cases w with
  | lst h r => exact ⟨a, _, h1, h2, h, r⟩
/-- one of our objects is changed -/
theorem own_put (S : StOk A F H σ env fp) {i : Nat} {d d' : D} {b : Bool} {a : Addr} {o : HO} (h : env[i]? = some (if b = true then .io d else .own d)) (hv : σ[i]? = some (some (.ref a))) (hp : fp i = [a]) (w : View F (upd H a o) (.ref a) d') :
    StOk A F (upd H a o) σ (putL env i b d') fp ∧ Tr F H (inFp fp) F (upd H a o) (inFp fp) := by
  have hin : inFp fp a := ⟨i, by rw [hp]; exact List.mem_cons_self⟩
  refine ⟨⟨by unfold putL; rw [List.length_set]; exact S.len, fun j => ?_, S.disj, S.free, fun c u e => ?_⟩, ⟨fun c u e nw => ?_, Same.refl F, fun c e => .inl e, fun c e => .inl e⟩⟩
  · unfold putL
    by_cases e : j = i
    · subst e
      rw [getD_set_same (StOk.lt h), hv, hp]
      have k := S.at h
      rw [hv] at k
      cases b with
      | false => exact ⟨a, rfl, rfl, w⟩
      | true =>
        obtain ⟨e1, _, _⟩ := k
        have e2 : a = A := by cases e1; rfl
        subst e2
        exact ⟨rfl, rfl, w⟩
    · rw [getD_set_ne e]
      refine (S.slot j).mono (Same.refl F) fun c hc u hu => ?_
      rw [upd_ne fun z : c = a => e (S.disj j i a (by rw [← z]; exact hc) (by rw [hp]; exact List.mem_cons_self))]
      exact hu
  · rw [upd_ne fun z : c = a => by rw [z, S.freeW hin] at e; cases e]
    exact S.ex c u e
  · rw [upd_ne fun z : c = a => nw (by rw [z]; exact hin)]
    exact e
end
section
variable {X : Cx} {st : Stmt} {rest : List Stmt} {g k : SE} {pos apos : Pos} {e c o : Expr} {f : RE} {ga gb : BE} {tc : TTE} {sa sb : List Stmt}
/-- xs.append(e) -/
def dApp (i : Nat) (ga : BE) : SE := fun env => (lstAt env i).bind fun _ => (ga env).bind fun p => (resB p.2 p.1).bind fun r => (lstAt r.2 i).bind fun l =>
  if l.2.length < szMax then some (.nx (putL r.2 i l.1 (.list (l.2 ++ [r.1])))) else none
theorem t_app {i : Nat} {Dn : Ends} {σ : L2.St} {H : Hp} {K : PySem.W.Frag} (h : tS (dApp i ga) Dn σ H) : tDrop (tBM K "list" rAppend (tVar i) (tCons (tO ga) tNil)) Dn σ H := by
  obtain ⟨A, F, env, fp, S, fl, hf, q⟩ := h
  unfold dApp at hf
  cases e0 : lstAt env i with
  | none => rw [e0] at hf; cases hf
  | some l0 =>
    rw [e0] at hf
    obtain ⟨a, vs0, hv, _, ha0, _⟩ := lst_ok S (b := l0.1) (xs := l0.2) e0
    refine ⟨.ref a, hv, .inl ⟨rfl, _, .inl (.inl ha0)⟩, ?_⟩
    have hf : ((ga env).bind fun p => (resB p.2 p.1).bind fun r => (lstAt r.2 i).bind fun l => if l.2.length < szMax then some (Fl.nx (putL r.2 i l.1 (.list (l.2 ++ [r.1])))) else none) = some fl := hf
    cases e1 : ga env with
    | none => rw [e1] at hf; cases hf
    | some p =>
      obtain ⟨x, env1⟩ := p
      rw [e1] at hf
      refine ⟨A, F, env, fp, S, x, env1, e1, fun v F1 H1 fp1 S1 T1 ok1 => ?_⟩
      have hf : ((resB env1 x).bind fun r => (lstAt r.2 i).bind fun l => if l.2.length < szMax then some (Fl.nx (putL r.2 i l.1 (.list (l.2 ++ [r.1])))) else none) = some fl := hf
      cases e2 : resB env1 x with
      | none => rw [e2] at hf; cases hf
      | some p2 =>
        obtain ⟨d, env2⟩ := p2
        rw [e2] at hf
        have hf : ((lstAt env2 i).bind fun l => if l.2.length < szMax then some (Fl.nx (putL env2 i l.1 (.list (l.2 ++ [d])))) else none) = some fl := hf
        obtain ⟨F2, fp2, S2, T2, rb⟩ := res_ok S1 ok1 e2
        cases e3 : lstAt env2 i with
        | none => rw [e3] at hf; cases hf
        | some l =>
          obtain ⟨b, xs⟩ := l
          rw [e3] at hf
          have hf : (if xs.length < szMax then some (Fl.nx (putL env2 i b (.list (xs ++ [d])))) else none) = some fl := hf
          split at hf
          · rename_i hz
            cases hf
            obtain ⟨a', vs, hv', hp, ha, ra⟩ := lst_ok S2 e3
            have ea : a' = a := by rw [hv] at hv'; cases hv'; rfl
            subst ea
            have hz' : vs.length < sizeLine := by rw [ra.length]; exact Nat.lt_of_lt_of_le hz (by decide)
            obtain ⟨S3, T3⟩ := own_put S2 (o := .lst (vs ++ [v])) (d' := .list (xs ++ [d])) (lst_at e3) hv hp (.lst upd_same (ra.app (.cons rb .nil)))
            exact ⟨a', vs, v, rfl, rfl, ha, hz', q σ F2 _ fp2 S3 ((T1.trans T2).trans T3)⟩
          · cases hf
/-- xs.extend(e) -/
def dExt (i : Nat) (ga : BE) : SE := fun env => (lstAt env i).bind fun _ => (ga env).bind fun p => (readB p.2 p.1).bind fun d => match d with
  | .list ys => (lstAt p.2 i).bind fun l => if l.2.length + ys.length ≤ szMax then some (.nx (putL p.2 i l.1 (.list (l.2 ++ ys)))) else none
  | _ => none
theorem t_ext {i : Nat} {Dn : Ends} {σ : L2.St} {H : Hp} {K : PySem.W.Frag} (h : tS (dExt i ga) Dn σ H) : tDrop (tBM K "list" rExtend (tVar i) (tCons (tO ga) tNil)) Dn σ H := by
  obtain ⟨A, F, env, fp, S, fl, hf, q⟩ := h
  unfold dExt at hf
  cases e0 : lstAt env i with
  | none => rw [e0] at hf; cases hf
  | some l0 =>
    rw [e0] at hf
    obtain ⟨a, vs0, hv, _, ha0, _⟩ := lst_ok S (b := l0.1) (xs := l0.2) e0
    refine ⟨.ref a, hv, .inl ⟨rfl, _, .inl (.inl ha0)⟩, ?_⟩
    have hf : ((ga env).bind fun p => (readB p.2 p.1).bind fun d => match d with
      | .list ys => (lstAt p.2 i).bind fun l => if l.2.length + ys.length ≤ szMax then some (Fl.nx (putL p.2 i l.1 (.list (l.2 ++ ys)))) else none
      | _ => none) = some fl := hf
    cases e1 : ga env with
    | none => rw [e1] at hf; cases hf
    | some p =>
      obtain ⟨x, env1⟩ := p
      rw [e1] at hf
      refine ⟨A, F, env, fp, S, x, env1, e1, fun v F1 H1 fp1 S1 T1 ok1 => ?_⟩
      have hf : ((readB env1 x).bind fun d => match d with
        | .list ys => (lstAt env1 i).bind fun l => if l.2.length + ys.length ≤ szMax then some (Fl.nx (putL env1 i l.1 (.list (l.2 ++ ys)))) else none
        | _ => none) = some fl := hf
      cases e2 : readB env1 x with
      | none => rw [e2] at hf; cases hf
      | some d =>
        rw [e2] at hf
        cases d with
        | list ys =>
          have hf : ((lstAt env1 i).bind fun l => if l.2.length + ys.length ≤ szMax then some (Fl.nx (putL env1 i l.1 (.list (l.2 ++ ys)))) else none) = some fl := hf
          have w := read_view S1 ok1 e2
          cases w with
          | lst hb rb =>
            cases e3 : lstAt env1 i with
            | none => rw [e3] at hf; cases hf
            | some l =>
              obtain ⟨b, xs⟩ := l
              rw [e3] at hf
              have hf : (if xs.length + ys.length ≤ szMax then some (Fl.nx (putL env1 i b (.list (xs ++ ys)))) else none) = some fl := hf
              split at hf
              · rename_i hz
                cases hf
                obtain ⟨a', vs, hv', hp, ha, ra⟩ := lst_ok S1 e3
                have ea : a' = a := by rw [hv] at hv'; cases hv'; rfl
                subst ea
                obtain ⟨S3, T3⟩ := own_put S1 (d' := .list (xs ++ ys)) (lst_at e3) hv hp (.lst upd_same (ra.app rb))
                exact ⟨a', _, vs, _, rfl, rfl, ha, hb, by rw [ra.length, rb.length]; exact sz_le hz, q σ F1 _ fp1 S3 (T1.trans T3)⟩
              · cases hf
        | none => cases hf
        | bool _ => cases hf
        | int _ => cases hf
        | str _ => cases hf
        | tuple _ => cases hf
        | dict _ => cases hf
/-- xs[k] = e -/
def dSetIx (i : Nat) (f gk : BE) : SE := fun env => (f env).bind fun p => (resB p.2 p.1).bind fun r => (lstAt r.2 i).bind fun _ => (gk r.2).bind fun p2 => (readB p2.2 p2.1).bind fun k => match k with
  | .int j => (lstAt p2.2 i).bind fun l => (ixN l.2.length j).map fun n => .nx (putL p2.2 i l.1 (.list (l.2.set n r.1)))
  | _ => none
theorem t_setIx {i : Nat} {Dn : Ends} {σ : L2.St} {H : Hp} (h : tS (dSetIx i ga gb) Dn σ H) : tAsg (tO ga) (gSub (tVar i) (tO gb) rSetL) Dn σ H := by
  obtain ⟨A, F, env, fp, S, fl, hf, q⟩ := h
  unfold dSetIx at hf
  cases e1 : ga env with
  | none => rw [e1] at hf; cases hf
  | some p =>
    obtain ⟨x, env1⟩ := p
    rw [e1] at hf
    refine ⟨A, F, env, fp, S, x, env1, e1, fun v F1 H1 fp1 S1 T1 ok1 => ?_⟩
    have hf : ((resB env1 x).bind fun r => (lstAt r.2 i).bind fun _ => (gb r.2).bind fun p2 => (readB p2.2 p2.1).bind fun k => match k with
      | .int j => (lstAt p2.2 i).bind fun l => (ixN l.2.length j).map fun n => Fl.nx (putL p2.2 i l.1 (.list (l.2.set n r.1)))
      | _ => none) = some fl := hf
    cases e2 : resB env1 x with
    | none => rw [e2] at hf; cases hf
    | some p2 =>
      obtain ⟨d, env2⟩ := p2
      rw [e2] at hf
      have hf : ((lstAt env2 i).bind fun _ => (gb env2).bind fun p2 => (readB p2.2 p2.1).bind fun k => match k with
        | .int j => (lstAt p2.2 i).bind fun l => (ixN l.2.length j).map fun n => Fl.nx (putL p2.2 i l.1 (.list (l.2.set n d)))
        | _ => none) = some fl := hf
      obtain ⟨F2, fp2, S2, T2, rb⟩ := res_ok S1 ok1 e2
      cases e3 : lstAt env2 i with
      | none => rw [e3] at hf; cases hf
      | some l0 =>
        rw [e3] at hf
        obtain ⟨a, vs0, hv, _, ha0, _⟩ := lst_ok S2 (b := l0.1) (xs := l0.2) e3
        refine ⟨.ref a, hv, A, F2, env2, fp2, S2, ?_⟩
        have hf : ((gb env2).bind fun p2 => (readB p2.2 p2.1).bind fun k => match k with
          | .int j => (lstAt p2.2 i).bind fun l => (ixN l.2.length j).map fun n => Fl.nx (putL p2.2 i l.1 (.list (l.2.set n d)))
          | _ => none) = some fl := hf
        cases e4 : gb env2 with
        | none => rw [e4] at hf; cases hf
        | some p3 =>
          obtain ⟨y, env3⟩ := p3
          rw [e4] at hf
          refine ⟨y, env3, rfl, fun v3 F3 H3 fp3 S3 T3 ok3 => ?_⟩
          have hf : ((readB env3 y).bind fun k => match k with
            | .int j => (lstAt env3 i).bind fun l => (ixN l.2.length j).map fun n => Fl.nx (putL env3 i l.1 (.list (l.2.set n d)))
            | _ => none) = some fl := hf
          cases e5 : readB env3 y with
          | none => rw [e5] at hf; cases hf
          | some k =>
            rw [e5] at hf
            cases k with
            | int j =>
              have hf : ((lstAt env3 i).bind fun l => (ixN l.2.length j).map fun n => Fl.nx (putL env3 i l.1 (.list (l.2.set n d)))) = some fl := hf
              have w := read_view S3 ok3 e5
              cases w
              cases e6 : lstAt env3 i with
              | none => rw [e6] at hf; cases hf
              | some l =>
                obtain ⟨b, xs⟩ := l
                rw [e6] at hf
                have hf : ((ixN xs.length j).map fun n => Fl.nx (putL env3 i b (.list (xs.set n d)))) = some fl := hf
                cases e7 : ixN xs.length j with
                | none => rw [e7] at hf; cases hf
                | some n =>
                  rw [e7] at hf
                  cases hf
                  obtain ⟨a', vs, hv', hp, ha, ra⟩ := lst_ok S3 e6
                  have ea : a' = a := by rw [hv] at hv'; cases hv'; rfl
                  subst ea
                  obtain ⟨S4, T4⟩ := own_put S3 (d' := .list (xs.set n d)) (lst_at e6) hv hp (.lst upd_same (RbA.set (rb.mono T3.grow) n ra))
                  exact ⟨a', vs, j, n, rfl, rfl, ha, by rw [ra.length]; exact e7, q σ F3 _ fp3 S4 (((T1.trans T2).trans T3).trans T4)⟩
            | none => cases hf
            | bool _ => cases hf
            | str _ => cases hf
            | list _ => cases hf
            | tuple _ => cases hf
            | dict _ => cases hf
theorem ps_app' {oname : Str} {np cpos p2 : Pos} (i : Nat) (ho : PE X (.Name oname np) (tVar i)) (ha : PE X e (tO ga))
    (hs : swapsWith (.Call (.Attribute (.Name oname np) "append" apos) [e] [] cpos) none p2.line X.env = pure false := by rfl)
    (hbase : attributeBase (.Name oname np) "append" X.env (eval (.Name oname np) X.env) = eval (.Name oname np) X.env := by rfl)
    (hfew : ((backTo cpos (starEach [e] X.env)).all (fun x => !x.1) && (backToKw cpos (keywordEach [] X.env)).all (fun x => x.1.isSome)
      && decide ([e].length + ([] : List Keyword).length + (if ([] : List Keyword).isEmpty then 0 else 1) < 30)) = true := by rfl)
    (hline : (apos.endLine == cpos.line) = true := by rfl) (hst : starEach [e] X.env = (false, eval e X.env) :: starEach [] X.env := by rfl) (hplain : (backTo cpos (starEach [] X.env)).any (·.1) = false := by rfl) :
    PS X (.Expr (.Call (.Attribute (.Name oname np) "append" apos) [e] [] cpos) p2) (tS (dApp i ga)) :=
  PS.imp (ps_expr (pe_bm PySem.F.plainAttrs_list PySem.F.slot_list_append PySem.F.type_list_append mt_append ho (pa_cons ha pa_nil hst) hbase hfew hline hst hplain) hs) fun _ _ _ h => t_app h
theorem ps_ext' {oname : Str} {np cpos p2 : Pos} (i : Nat) (ho : PE X (.Name oname np) (tVar i)) (ha : PE X e (tO ga))
    (hs : swapsWith (.Call (.Attribute (.Name oname np) "extend" apos) [e] [] cpos) none p2.line X.env = pure false := by rfl)
    (hbase : attributeBase (.Name oname np) "extend" X.env (eval (.Name oname np) X.env) = eval (.Name oname np) X.env := by rfl)
    (hfew : ((backTo cpos (starEach [e] X.env)).all (fun x => !x.1) && (backToKw cpos (keywordEach [] X.env)).all (fun x => x.1.isSome)
      && decide ([e].length + ([] : List Keyword).length + (if ([] : List Keyword).isEmpty then 0 else 1) < 30)) = true := by rfl)
    (hline : (apos.endLine == cpos.line) = true := by rfl) (hst : starEach [e] X.env = (false, eval e X.env) :: starEach [] X.env := by rfl) (hplain : (backTo cpos (starEach [] X.env)).any (·.1) = false := by rfl) :
    PS X (.Expr (.Call (.Attribute (.Name oname np) "extend" apos) [e] [] cpos) p2) (tS (dExt i ga)) :=
  PS.imp (ps_expr (pe_bm PySem.F.plainAttrs_list PySem.F.slot_list_extend PySem.F.type_list_extend mt_extend ho (pa_cons ha pa_nil hst) hbase hfew hline hst hplain) hs) fun _ _ _ h => t_ext h
end

/-! ### while -/
def whileD : Nat → TTE → SE → Env' → Option Fl
  | 0, _, _, _ => none
  | n + 1, t, g, env => (t env).bind fun p => if p.1 = true then (g p.2).bind fun fl => match fl with
      | .nx e => whileD n t g e
      | .ct e => whileD n t g e
      | .bk e => some (.nx e)
      | .rt s e => some (.rt s e)
    else some (.nx p.2)
section
variable {X : Cx} {pos : Pos} {c : Expr} {tc : TTE} {body : List Stmt} {g : SE}
theorem ps_while' (n : Nat) (hp : PassesOwn (model X.prog X.w) X.A X.env X.xe) (hc : PT X c (tQ tc)) (hb : PSs X body (tS g)) : PS X (.While c body [] pos) (tS (whileD n tc g)) := PS.imp (ps_while hp hc hb) fun Dn σ H h => by
  obtain ⟨A, F, env, fp, S, fl, hf, q⟩ := h
  refine ⟨fun m σ H => ∃ F env fp, StOk A F H σ env fp ∧ ∃ fl, whileD m tc g env = some fl ∧ FlOk A F H fp Dn fl, ⟨n, F, env, fp, S, fl, hf, q⟩, ?_⟩
  rintro m σ H ⟨F, env, fp, S, fl, hf, q⟩
  cases m with
  | zero => cases hf
  | succ m =>
    have hf : ((tc env).bind fun p => if p.1 = true then (g p.2).bind fun fl => match fl with
      | .nx e => whileD m tc g e
      | .ct e => whileD m tc g e
      | .bk e => some (.nx e)
      | .rt s e => some (.rt s e)
    else some (.nx p.2)) = some fl := hf
    cases e1 : tc env with
    | none => rw [e1] at hf; cases hf
    | some p =>
      obtain ⟨x, env1⟩ := p
      rw [e1] at hf
      refine ⟨A, F, env, fp, S, x, env1, e1, fun F1 H1 fp1 S1 T1 => ?_⟩
      cases x with
      | false => cases hf; exact q σ F1 H1 fp1 S1 T1
      | true =>
        have hf : ((g env1).bind fun fl => match fl with
          | .nx e => whileD m tc g e
          | .ct e => whileD m tc g e
          | .bk e => some (.nx e)
          | .rt s e => some (.rt s e)) = some fl := hf
        rw [if_pos rfl]
        cases e2 : g env1 with
        | none => rw [e2] at hf; cases hf
        | some f2 =>
          rw [e2] at hf
          refine ⟨fun σ H => ∃ F env fp, StOk A F H σ env fp ∧ ∃ fl, whileD m tc g env = some fl ∧ FlOk A F H fp Dn fl, fun σ' H' h => ⟨m, Nat.lt_succ_self _, h⟩, A, F1, env1, fp1, S1, f2, e2, ?_⟩
          cases f2 with
          | nx e => exact fun σ' F' H' fp' S' T => ⟨F', e, fp', S', fl, hf, q.trans (T1.trans T)⟩
          | ct e => exact fun σ' F' H' fp' S' T => ⟨F', e, fp', S', fl, hf, q.trans (T1.trans T)⟩
          | bk e => cases hf; exact fun σ' F' H' fp' S' T => q σ' F' H' fp' S' (T1.trans T)
          | rt s e => cases hf; exact fun v σ' F' H' fp' q' S' T => q v σ' F' H' fp' q' S' (T1.trans T)
end
end DL
namespace DL
open PySem PySem.Spec PyProof.Rows L2

/-! ### targets of loops -/
inductive Pat where
  | name (i : Nat) | tup (ps : List Pat)
mutual
def gPat (K : PySem.W.Frag) : Pat → TG
  | .name i => gName i
  | .tup ps => gTup K ps.length (gPats K ps)
def gPats (K : PySem.W.Frag) : List Pat → TGs
  | [] => gNil
  | p :: ps => gCons (gPat K p) (gPats K ps)
end
mutual
def bindP : Pat → D → Env' → Option Env'
  | .name i, d, env => if i < env.length then some (env.set i (.dat d)) else none
  | .tup ps, .tuple ds, env => bindPs ps ds env
  | .tup _, .none, _ => none
  | .tup _, .bool _, _ => none
  | .tup _, .int _, _ => none
  | .tup _, .str _, _ => none
  | .tup _, .list _, _ => none
  | .tup _, .dict _, _ => none
def bindPs : List Pat → List D → Env' → Option Env'
  | [], [], env => some env
  | p :: ps, d :: ds, env => (bindP p d env).bind fun e => bindPs ps ds e
  | [], _ :: _, _ => none
  | _ :: _, [], _ => none
end
mutual
def Pat.names : Pat → List Nat
  | .name i => [i]
  | .tup ps => patNames ps
def patNames : List Pat → List Nat
  | [] => []
  | p :: ps => p.names ++ patNames ps
end
theorem wipe_get (σ : L2.St) : ∀ (vs : List Nat) (j : Nat), (wipe σ vs)[j]? = if j ∈ vs then (σ[j]?).map (fun _ => none) else σ[j]?
  | [], j => by simp [wipe]
  | v :: vs, j => by
    unfold wipe
    by_cases e : v = j
    · subst e
      rw [if_pos List.mem_cons_self]
      by_cases hl : v < (wipe σ vs).length
      · rw [List.getElem?_set_self hl]
        rw [wipe_length] at hl
        rw [List.getElem?_eq_getElem hl]
        rfl
      · rw [List.getElem?_eq_none (by simpa using hl)]
        rw [wipe_length] at hl
        rw [List.getElem?_eq_none (by omega)]
        rfl
    · rw [List.getElem?_set_ne e, wipe_get σ vs j]
      by_cases m : j ∈ vs
      · rw [if_pos m, if_pos (List.mem_cons_of_mem _ m)]
      · rw [if_neg m, if_neg (fun z => (List.mem_cons.mp z).elim (fun z => e z.symm) m)]
theorem wipe_set {σ : L2.St} {i : Nat} {x : Option V} {vs : List Nat} (h : i ∈ vs) : wipe (σ.set i x) vs = wipe σ vs := by
  refine List.ext_getElem? fun j => ?_
  rw [wipe_get, wipe_get]
  by_cases e : j = i
  · subst e
    rw [if_pos h, if_pos h]
    by_cases hl : j < σ.length
    · rw [List.getElem?_set_self hl, List.getElem?_eq_getElem hl]; rfl
    · rw [List.getElem?_eq_none (by simpa using hl), List.getElem?_eq_none (by omega)]
  · rw [List.getElem?_set_ne (Ne.symm e)]
section
variable {A : Addr} {F H : Hp} {K : PySem.W.Frag}
mutual
theorem bind_ok : ∀ (p : Pat) {σ : L2.St} {env env' : Env'} {fp : Nat → List Addr} {v : V} {d : D} {Q : L2.St → Hp → Prop}, StOk A F H σ env fp → Rb F v d → bindP p d env = some env' →
    (∀ σ' fp', StOk A F H σ' env' fp' → (∀ a, inFp fp' a → inFp fp a) → (∀ vs, (∀ i ∈ p.names, i ∈ vs) → wipe σ' vs = wipe σ vs) → Q σ' H) → gPat K p v σ H Q
  | .name i, σ, env, env', fp, v, d, Q, S, r, hb, k => by
    unfold bindP at hb
    split at hb
    · rename_i hi
      cases hb
      show Q (σ.set i (some v)) H
      exact k _ _ (S.put (q := []) hi ⟨rfl, v, rfl, r⟩ fun a m => nomatch m) (fun a w => (in_fset w).elim id fun z => nomatch z) fun vs hv => wipe_set (hv i (by simp [Pat.names]))
    · cases hb
  | .tup ps, σ, env, env', fp, v, d, Q, S, r, hb, k => by
    cases d with
    | tuple ds =>
      cases r with
      | tup h ra =>
        have hb : bindPs ps ds env = some env' := by rw [bindP] at hb; exact hb
        show gTup K ps.length (gPats K ps) _ σ H Q
        have hlen : ds.length = ps.length := bindPs_len ps ds env env' hb
        refine ⟨_, _, rfl, SqT.of (S.ex _ _ h), by rw [ra.length]; exact hlen, ?_⟩
        exact binds_ok ps S ra hb fun σ' fp' S' hs hw => k σ' fp' S' hs fun vs hv => hw vs (by rw [Pat.names] at hv; exact hv)
    | none => simp [bindP] at hb
    | bool _ => simp [bindP] at hb
    | int _ => simp [bindP] at hb
    | str _ => simp [bindP] at hb
    | list _ => simp [bindP] at hb
    | dict _ => simp [bindP] at hb
theorem binds_ok : ∀ (ps : List Pat) {σ : L2.St} {env env' : Env'} {fp : Nat → List Addr} {vs : List V} {ds : List D} {Q : L2.St → Hp → Prop}, StOk A F H σ env fp → RbA F vs ds → bindPs ps ds env = some env' →
    (∀ σ' fp', StOk A F H σ' env' fp' → (∀ a, inFp fp' a → inFp fp a) → (∀ vs, (∀ i ∈ patNames ps, i ∈ vs) → wipe σ' vs = wipe σ vs) → Q σ' H) → gPats K ps vs σ H Q
  | [], σ, env, env', fp, vs, ds, Q, S, r, hb, k => by
    cases r with
    | nil =>
      rw [bindPs] at hb
      cases hb
      exact ⟨rfl, k σ fp S (fun _ w => w) fun _ _ => rfl⟩
    | cons _ _ => simp [bindPs] at hb
  | p :: ps, σ, env, env', fp, vs, ds, Q, S, r, hb, k => by
    cases r with
    | nil => simp [bindPs] at hb
    | @cons v vs d ds h t =>
      rw [bindPs] at hb
      cases e1 : bindP p d env with
      | none => rw [e1] at hb; cases hb
      | some env1 =>
        rw [e1] at hb
        have hb : bindPs ps ds env1 = some env' := hb
        refine ⟨v, vs, rfl, ?_⟩
        refine bind_ok p S h e1 fun σ1 fp1 S1 hs1 hw1 => ?_
        refine binds_ok ps S1 t hb fun σ2 fp2 S2 hs2 hw2 => ?_
        refine k σ2 fp2 S2 (fun a w => hs1 a (hs2 a w)) fun ws hv => ?_
        rw [patNames] at hv
        rw [hw2 ws fun i m => hv i (List.mem_append_right _ m), hw1 ws fun i m => hv i (List.mem_append_left _ m)]
theorem bindPs_len : ∀ (ps : List Pat) (ds : List D) (env env' : Env'), bindPs ps ds env = some env' → ds.length = ps.length
  | [], [], _, _, _ => rfl
  | [], _ :: _, _, _, h => by simp [bindPs] at h
  | _ :: _, [], _, _, h => by simp [bindPs] at h
  | p :: ps, d :: ds, env, env', h => by
    rw [bindPs] at h
    cases e1 : bindP p d env with
    | none => rw [e1] at h; cases h
    | some env1 =>
      rw [e1] at h
      rw [List.length_cons, List.length_cons, bindPs_len ps ds env1 env' h]
end
end
section
variable {X : Cx} {pos : Pos}
theorem pgp_name {i : Nat} {x : Str} (hN : X.N.Nodup) (hi : X.N[i]? = some x) (hx : Loc X.env.scope x) (hf : X.fn x = true ∨ X.env.scope.names.lookup x = some .local := by first | exact .inl rfl | exact .inr rfl | assumption) : PG X (.Name x pos) (gPat X.K (.name i)) := by
  have e : gPat X.K (.name i) = gName i := by rw [gPat]
  rw [e]; exact pg_name hN hi hx hf
theorem pgp_nil : PGs X [] (gPats X.K []) := by
  have e : gPats X.K [] = gNil := by rw [gPats]
  rw [e]; exact pgs_nil
theorem pgp_cons {e : Expr} {es : List Expr} {p : Pat} {ps : List Pat} (h1 : PG X e (gPat X.K p)) (h2 : PGs X es (gPats X.K ps))
    (hs : (assignEach (e :: es) X.env).map (·.2) = assign e X.env :: (assignEach es X.env).map (·.2) := by rfl) : PGs X (e :: es) (gPats X.K (p :: ps)) := by
  have e : gPats X.K (p :: ps) = gCons (gPat X.K p) (gPats X.K ps) := by rw [gPats]
  rw [e]; exact pgs_cons h1 h2 hs
theorem pgp_tup {es : List Expr} {k : Nat} {ps : List Pat} (hc : X.calm = true) (h : PGs X es (gPats X.K ps))
    (hn : (assignEach es X.env).length = ps.length := by rfl) (hst : (assignEach es X.env).findIdx? (·.1) = none := by rfl) : PG X (.Tuple es k pos) (gPat X.K (.tup ps)) := by
  have e : gPat X.K (.tup ps) = gTup X.K ps.length (gPats X.K ps) := by rw [gPat]
  rw [e]; exact pg_tup hc h hn hst
end

/-! ### what is walked -/
structure ItOk (J : It) (F : Hp) (xs : List D) : Prop where
  go : ∀ i H, Same F H → i < xs.length → J.go i H
  stop : ∀ i H, Same F H → xs.length ≤ i → J.stop i H
  yld : ∀ i H F2 x H' d, Same F F2 → Same F2 H → J.yld i H x H' → xs[i]? = some d → ∃ F3, Tr F2 H (fun _ => False) F3 H' (fun _ => False) ∧ Same F3 H' ∧ Rb F3 x d
abbrev IE := Env' → Option (List D × Env')
def tI (f : IE) : TI := fun σ H Q => ∃ A F env fp, StOk A F H σ env fp ∧ ∃ xs env', f env = some (xs, env') ∧
  ∀ J F' H' fp', StOk A F' H' σ env' fp' → Tr F H (inFp fp) F' H' (inFp fp') → ItOk J F' xs → Q J H'
theorem PI.imp {X : Cx} {tg e : Expr} {t t' : TI} (h : PI X tg e t) (k : ∀ σ H Q, t' σ H Q → t σ H Q) : PI X tg e t' := ⟨fun pins s σ H Q I q => h.run pins s σ H Q I (k σ H Q q)⟩
section
variable {X : Cx} {tg : Expr}
def iSeq (K : PySem.W.Frag) (tl : TE) : TI := fun σ H R => tl σ H fun x H1 => (∃ a, x = .ref a ∧ (∃ xs, SqL K H1 a xs) ∧ R (Itl K a) H1) ∨ ∃ a, x = .ref a ∧ (∃ xs, SqT K H1 a xs) ∧ R (Itt K a) H1
theorem pi_iseq {l : Expr} {tl : TE} (hl : PE X l tl) : PI X tg l (iSeq X.K tl) := by
  refine ⟨fun pins s σ H R I h => ?_⟩
  refine thn (hl.run pins s σ H _ I h) fun v s1 ⟨x, H1, I1, r1, q1⟩ => ?_
  rcases q1 with ⟨a, e, ⟨xs, hq⟩, q⟩ | ⟨a, e, ⟨xs, hq⟩, q⟩
  · subst e
    cases r1
    obtain ⟨its, rv, p, hz⟩ := I1.list hq
    refine wpAny_pyIter_list p.isList ?_
    refine ⟨s1.heap.objs.size, [s1.heap.objs.size], _, _, H1, rfl, I1.kept (t' := s1.toks) fun b o e => Heap.get?_push_of_some _ e, turn_list a _, ⟨_, Heap.get?_push_size _ rfl, rfl, rfl⟩, fun b hb => ?_, q⟩
    have e : b = s1.heap.objs.size := by simpa using hb
    subst e
    exact I1.fpOk (Nat.le_refl _) (I1.hok.fresh (Nat.le_refl _))
  · subst e
    cases r1
    obtain ⟨its, rv, p, hz⟩ := I1.tuple hq
    refine wpAny_pyIter_tuple (show s1.heap.IsTuple a its.toArray from p) ?_
    refine ⟨s1.heap.objs.size, [s1.heap.objs.size], _, _, H1, rfl, I1.kept (t' := s1.toks) fun b o e => Heap.get?_push_of_some _ e, turn_tuple a _, ⟨_, Heap.get?_push_size _ rfl, rfl, rfl⟩, fun b hb => ?_, q⟩
    have e : b = s1.heap.objs.size := by simpa using hb
    subst e
    exact I1.fpOk (Nat.le_refl _) (I1.hok.fresh (Nat.le_refl _))
theorem sqL_eq {K : PySem.W.Frag} {H : Hp} {a : Addr} {xs ys : List V} (h : H a = some (.lst xs)) (k : Rd H a (.lst ys)) : xs = ys := by
  rcases k with k | ⟨o, k⟩
  · rw [h] at k; cases k; rfl
  · rw [h] at k; cases k
theorem itl_ok {K : PySem.W.Frag} {F : Hp} {a : Addr} {vs : List V} {xs : List D} (h : F a = some (.lst vs)) (r : RbA F vs xs) : ItOk (Itl K a) F xs where
  go := fun i H e hi => by
    obtain ⟨v, hv, _⟩ := r.get (List.getElem?_eq_getElem hi)
    exact ⟨vs, v, SqL.of (e _ _ h), hv⟩
  stop := fun i H e hi => ⟨vs, SqL.of (e _ _ h), by rw [r.length]; exact hi⟩
  yld := fun i H F2 x H' d e1 e2 y hd => by
    obtain ⟨eh, y⟩ := y
    subst eh
    obtain ⟨v, hv, rb⟩ := r.get hd
    have := y vs (SqL.of (e2 _ _ (e1 _ _ h)))
    rw [hv] at this
    cases this
    exact ⟨F2, Tr.refl, e2, rb.mono e1⟩
theorem itt_ok {K : PySem.W.Frag} {F : Hp} {a : Addr} {vs : List V} {xs : List D} (h : F a = some (.tup vs)) (r : RbA F vs xs) : ItOk (Itt K a) F xs where
  go := fun i H e hi => by
    obtain ⟨v, hv, _⟩ := r.get (List.getElem?_eq_getElem hi)
    exact ⟨vs, v, SqT.of (e _ _ h), hv⟩
  stop := fun i H e hi => ⟨vs, SqT.of (e _ _ h), by rw [r.length]; exact hi⟩
  yld := fun i H F2 x H' d e1 e2 y hd => by
    obtain ⟨eh, y⟩ := y
    subst eh
    obtain ⟨v, hv, rb⟩ := r.get hd
    have := y vs (SqT.of (e2 _ _ (e1 _ _ h)))
    rw [hv] at this
    cases this
    exact ⟨F2, Tr.refl, e2, rb.mono e1⟩
def intsFrom (lo : Int) (n : Nat) : List D := (List.range n).map fun (i : Nat) => PyData.int (lo + (i : Int))
theorem itr_ok {F : Hp} {lo : Int} {n : Nat} : ItOk (Itr lo n) F (intsFrom lo n) where
  go := fun i H e hi => by unfold intsFrom at hi; rw [List.length_map, List.length_range] at hi; exact hi
  stop := fun i H e hi => by unfold intsFrom at hi; rw [List.length_map, List.length_range] at hi; exact hi
  yld := fun i H F2 x H' d e1 e2 y hd => by
    obtain ⟨eh, ex⟩ := y
    subst eh
    subst ex
    unfold intsFrom at hd
    rw [List.getElem?_map] at hd
    cases hr : (List.range n)[i]? with
    | none => rw [hr] at hd; cases hd
    | some j =>
      rw [hr] at hd
      cases hd
      have : j = i := by
        obtain ⟨hl, e⟩ := List.getElem?_eq_some_iff.mp hr
        rw [List.getElem_range] at e
        exact e.symm
      subst this
      exact ⟨F2, Tr.refl, e2, .int _⟩
def enumD : Nat → List D → List D
  | _, [] => []
  | i, x :: xs => .tuple [.int (i : Int), x] :: enumD (i + 1) xs
theorem enumD_len : ∀ (i : Nat) (xs : List D), (enumD i xs).length = xs.length
  | _, [] => rfl
  | i, x :: xs => by rw [enumD, List.length_cons, List.length_cons, enumD_len]
theorem enumD_get : ∀ (xs : List D) (k i : Nat) (d : D), (enumD k xs)[i]? = some d → ∃ x, xs[i]? = some x ∧ d = .tuple [.int ((k + i : Nat) : Int), x]
  | [], k, i, d, h => by simp [enumD] at h
  | x :: xs, k, 0, d, h => by
    rw [enumD] at h
    cases h
    exact ⟨x, rfl, rfl⟩
  | x :: xs, k, i + 1, d, h => by
    rw [enumD, List.getElem?_cons_succ] at h
    obtain ⟨y, h1, h2⟩ := enumD_get xs (k + 1) i d h
    refine ⟨y, by rw [List.getElem?_cons_succ]; exact h1, ?_⟩
    rw [h2, show k + 1 + i = k + (i + 1) by omega]
theorem ite_ok {K : PySem.W.Frag} {F : Hp} {a : Addr} {vs : List V} {xs : List D} (h : F a = some (.lst vs)) (r : RbA F vs xs) : ItOk (Ite K a) F (enumD 0 xs) where
  go := fun i H e hi => by
    rw [enumD_len] at hi
    obtain ⟨v, hv, _⟩ := r.get (List.getElem?_eq_getElem hi)
    exact ⟨vs, v, SqL.of (e _ _ h), hv⟩
  stop := fun i H e hi => by
    rw [enumD_len] at hi
    exact ⟨vs, SqL.of (e _ _ h), by rw [r.length]; exact hi⟩
  yld := fun i H F2 x H' d e1 e2 y hd => by
    obtain ⟨T, z, rfl, nT, rfl, fz⟩ := y
    obtain ⟨y, hy, rfl⟩ := enumD_get xs 0 i d hd
    obtain ⟨v, hv, rb⟩ := r.get hy
    have := fz vs (SqL.of (e2 _ _ (e1 _ _ h)))
    rw [hv] at this
    have ez : v = z := Option.some.inj this
    subst ez
    have res := Res.newTup (A := T) e2 nT (vs := [.int (i : Nat), v]) (ds := [.int ((0 + i : Nat) : Int), y]) (.cons (by rw [Nat.zero_add]; exact .int _) (.cons (rb.mono e1) .nil))
    obtain ⟨_, w, e3, k⟩ := res.ok
    cases e3
    exact ⟨_, res.tr.weak (V' := fun _ => False) fun a z => False.elim z, res.ex, k⟩

def dIt (ga : BE) : IE := fun env => (ga env).bind fun p => (resB p.2 p.1).bind fun r => match r.1 with
  | .list xs => some (xs, r.2)
  | .tuple xs => some (xs, r.2)
  | _ => none
variable {l e a b : Expr} {ga gb : BE} {p pos tpos : Pos}
theorem pii_seq (hl : PE X l (tO ga)) : PI X tg l (tI (dIt ga)) := PI.imp (pi_iseq hl) fun σ H R h => by
  obtain ⟨A, F, env, fp, S, xs, env', hf, q⟩ := h
  unfold dIt at hf
  cases e1 : ga env with
  | none => rw [e1] at hf; cases hf
  | some p =>
    obtain ⟨x, env1⟩ := p
    rw [e1] at hf
    refine ⟨A, F, env, fp, S, x, env1, e1, fun v F1 H1 fp1 S1 T1 ok1 => ?_⟩
    have hf : ((resB env1 x).bind fun r => match r.1 with
      | .list xs => some (xs, r.2)
      | .tuple xs => some (xs, r.2)
      | _ => none) = some (xs, env') := hf
    cases e2 : resB env1 x with
    | none => rw [e2] at hf; cases hf
    | some p2 =>
      obtain ⟨d, env2⟩ := p2
      rw [e2] at hf
      obtain ⟨F2, fp2, S2, T2, rb⟩ := res_ok S1 ok1 e2
      cases d with
      | list ys =>
        cases hf
        cases rb with
        | lst h r => exact .inl ⟨_, rfl, ⟨_, SqL.of (S2.ex _ _ h)⟩, q _ F2 H1 fp2 S2 (T1.trans T2) (itl_ok h r)⟩
      | tuple ys =>
        cases hf
        cases rb with
        | tup h r => exact .inr ⟨_, rfl, ⟨_, SqT.of (S2.ex _ _ h)⟩, q _ F2 H1 fp2 S2 (T1.trans T2) (itt_ok h r)⟩
      | none => cases hf
      | bool _ => cases hf
      | int _ => cases hf
      | str _ => cases hf
      | dict _ => cases hf
def rng1 : List D → Option (List D)
  | [.int j] => if j.natAbs ≤ szMax then some (intsFrom 0 j.toNat) else none
  | _ => none
def rng2 : List D → Option (List D)
  | [.int i, .int j] => if i.natAbs ≤ szMax ∧ j.natAbs ≤ szMax then some (intsFrom i (j - i).toNat) else none
  | _ => none
theorem rng1_some {ds xs : List D} (h : rng1 ds = some xs) : ∃ j, ds = [.int j] ∧ -(2 ^ 62) ≤ j ∧ j < 2 ^ 62 ∧ xs = intsFrom 0 j.toNat := by
  unfold rng1 at h
  split at h
  · split at h
    · rename_i j hj
      cases h
      unfold szMax at hj; exact ⟨j, rfl, by omega, by omega, rfl⟩
    · cases h
  · cases h
theorem rng2_some {ds xs : List D} (h : rng2 ds = some xs) : ∃ i j, ds = [.int i, .int j] ∧ (-(2 ^ 62) ≤ i ∧ i < 2 ^ 62 ∧ -(2 ^ 62) ≤ j ∧ j < 2 ^ 62) ∧ xs = intsFrom i (j - i).toNat := by
  unfold rng2 at h
  split at h
  · split at h
    · rename_i i j hj
      cases h
      unfold szMax at hj; exact ⟨i, j, rfl, by omega, rfl⟩
    · cases h
  · cases h
def dRng (rng : List D → Option (List D)) (g : BAE) : IE := fun env => (g env).bind fun p => (readBs p.2 p.1).bind fun ds => (rng ds).map fun xs => (xs, p.2)
def dEnm (ga : BE) : IE := fun env => (ga env).bind fun p => (resB p.2 p.1).bind fun r => match r.1 with
  | .list xs => some (enumD 0 xs, r.2)
  | _ => none
theorem t_rng {gs : BAE} {rng : List D → Option (List D)} {σ : L2.St} {H : Hp} {R : It → Hp → Prop} (h : tI (dRng rng gs) σ H R) {P : List V → (It → Prop) → Prop}
    (k : ∀ ds xs vs F H1, Paired (View F H1) vs ds → rng ds = some xs → P vs fun J => ∀ F, ItOk J F xs) {T : TA} (hT : ∀ (Q : List V → Hp → Prop), tOs gs σ H Q → T σ H Q) :
    T σ H fun vs H1 => ∃ p : (It → Prop), P vs p ∧ ∀ J, p J → R J H1 := by
  obtain ⟨A, F, env, fp, S, xs, env', hf, q⟩ := h
  unfold dRng at hf
  cases e1 : gs env with
  | none => rw [e1] at hf; cases hf
  | some p =>
    obtain ⟨bs, env1⟩ := p
    rw [e1] at hf
    refine hT _ ⟨A, F, env, fp, S, bs, env1, e1, fun vs F1 H1 fp1 S1 T1 ok1 => ?_⟩
    have hf : ((readBs env1 bs).bind fun ds => (rng ds).map fun xs => (xs, env1)) = some (xs, env') := hf
    cases e2 : readBs env1 bs with
    | none => rw [e2] at hf; cases hf
    | some ds =>
      rw [e2] at hf
      have w := reads_view S1 ok1 e2
      have hf : ((rng ds).map fun xs => (xs, env1)) = some (xs, env') := hf
      cases e3 : rng ds with
      | none => rw [e3] at hf; cases hf
      | some ys =>
        rw [e3] at hf
        cases hf
        exact ⟨_, k ds _ vs F1 H1 w e3, fun J hJ => q J F1 H1 fp1 S1 T1 (hJ F1)⟩
theorem tOs_mono {gs : BAE} {σ : L2.St} {H : Hp} {Q Q' : List V → Hp → Prop} (h : tOs gs σ H Q) (k : ∀ vs H', Q vs H' → Q' vs H') : tOs gs σ H Q' := by
  obtain ⟨A, F, env, fp, S, xs, env', hf, q⟩ := h
  exact ⟨A, F, env, fp, S, xs, env', hf, fun vs F' H' fp' a b c => k _ _ (q vs F' H' fp' a b c)⟩
theorem pii_range1 {gs : BAE} (hg : Gl X "range") (hm : X.mg "range" = none) (ha : PA X [a] (tOs gs)) (hs : starEach [a] X.env = [(false, eval a X.env)] := by rfl) : PI X tg (.Call (.Name "range" p) [a] [] pos) (tI (dRng rng1 gs)) := PI.imp (pi_range1 hg hm ha hs) fun σ H R h => by
  have k := t_rng (T := tOs gs) (P := fun vs p => ∃ j : Int, vs = [.int j] ∧ -(2 ^ 62) ≤ j ∧ j < 2 ^ 62 ∧ p (Itr 0 j.toNat)) h (fun ds xs vs F H1 w e => by
    obtain ⟨j, rfl, h1, h2, rfl⟩ := rng1_some e
    cases w with
    | cons w t =>
      cases t
      cases w
      exact ⟨j, rfl, h1, h2, fun F => itr_ok⟩) fun _ q => q
  exact tOs_mono k fun vs H' ⟨p, ⟨j, e1, e2, e3, hp⟩, q⟩ => ⟨j, e1, e2, e3, q _ hp⟩
theorem pii_range2 {gs : BAE} (hg : Gl X "range") (hm : X.mg "range" = none) (ha : PA X [a, b] (tOs gs)) (hs : starEach [a, b] X.env = [(false, eval a X.env), (false, eval b X.env)] := by rfl) (hs2 : starEach [b] X.env = [(false, eval b X.env)] := by rfl) :
    PI X tg (.Call (.Name "range" p) [a, b] [] pos) (tI (dRng rng2 gs)) := PI.imp (pi_range2 hg hm ha hs hs2) fun σ H R h => by
  have k := t_rng (T := tOs gs) (P := fun vs p => ∃ i j : Int, vs = [.int i, .int j] ∧ (-(2 ^ 62) ≤ i ∧ i < 2 ^ 62 ∧ -(2 ^ 62) ≤ j ∧ j < 2 ^ 62) ∧ p (Itr i (j - i).toNat)) h (fun ds xs vs F H1 w e => by
    obtain ⟨i, j, rfl, h1, rfl⟩ := rng2_some e
    cases w with
    | cons w t =>
      cases t with
      | cons w2 t =>
        cases t
        cases w
        cases w2
        exact ⟨i, j, rfl, h1, fun F => itr_ok⟩) fun _ q => q
  exact tOs_mono k fun vs H' ⟨p, ⟨i, j, e1, e2, hp⟩, q⟩ => ⟨i, j, e1, e2, q _ hp⟩
theorem pii_enum {elts : List Expr} {kk : Nat} (hg : Gl X "enumerate") (hm : X.mg "enumerate" = none) (ha : PE X e (tO ga)) (hs : starEach [e] X.env = [(false, eval e X.env)] := by rfl) :
    PI X (.Tuple elts kk tpos) (.Call (.Name "enumerate" p) [e] [] pos) (tI (dEnm ga)) := PI.imp (pi_enum hg hm (pa_cons ha pa_nil hs) hs) fun σ H R h => by
  obtain ⟨A, F, env, fp, S, xs, env', hf, q⟩ := h
  unfold dEnm at hf
  cases e1 : ga env with
  | none => rw [e1] at hf; cases hf
  | some p =>
    obtain ⟨x, env1⟩ := p
    rw [e1] at hf
    refine ⟨A, F, env, fp, S, x, env1, e1, fun v F1 H1 fp1 S1 T1 ok1 => ?_⟩
    have hf : ((resB env1 x).bind fun r => match r.1 with
      | .list xs => some (enumD 0 xs, r.2)
      | _ => none) = some (xs, env') := hf
    cases e2 : resB env1 x with
    | none => rw [e2] at hf; cases hf
    | some p2 =>
      obtain ⟨d, env2⟩ := p2
      rw [e2] at hf
      obtain ⟨F2, fp2, S2, T2, rb⟩ := res_ok S1 ok1 e2
      cases d with
      | list ys =>
        cases hf
        cases rb with
        | lst h r => exact ⟨_, _, rfl, SqL.of (S2.ex _ _ h), q _ F2 H1 fp2 S2 (T1.trans T2) (ite_ok h r)⟩
      | tuple ys => cases hf
      | none => cases hf
      | bool _ => cases hf
      | int _ => cases hf
      | str _ => cases hf
      | dict _ => cases hf
end

/-! ### for -/
def forD (pat : Pat) (g : SE) : List D → Env' → Option Fl
  | [], env => some (.nx env)
  | x :: xs, env => (bindP pat x env).bind fun e => (g e).bind fun fl => match fl with
    | .nx e => forD pat g xs e
    | .ct e => forD pat g xs e
    | .bk e => some (.nx e)
    | .rt s e => some (.rt s e)
def dFor (it : IE) (pat : Pat) (g : SE) : SE := fun env => (it env).bind fun p => forD pat g p.1 p.2
theorem Tr.id {F H F' H' : Hp} {W : Addr → Prop} (t : Tr F H (fun _ => False) F' H' (fun _ => False)) : Tr F H W F' H' W :=
  ⟨fun a o e _ => t.keep a o e fun z => z, t.grow, fun a h => (t.newF a h).imp _root_.id fun z => z.elim (fun z => z.elim) .inr, fun a h => .inl h⟩
section
variable {X : Cx} {tg iter : Expr} {body : List Stmt} {it : IE} {pat : Pat} {g : SE} {pos : Pos}
theorem ps_for' (hp : PassesOwn (model X.prog X.w) X.A X.env X.xe) (hc : X.calm = true) (hi : PI X tg iter (tI it)) (hg : PG X tg (gPat X.K pat)) (hb : PSs X body (tS g))
    (hs : ∀ x, foldedSetIterable iter X.env x = pure x := by intro _; rfl) : PS X (.For tg iter body [] pos) (tS (dFor it pat g)) := PS.imp (ps_for hp hc hi hg hb hs) fun Dn σ H h => by
  obtain ⟨A, F, env, fp, S, fl, hf, q⟩ := h
  unfold dFor at hf
  cases e1 : it env with
  | none => rw [e1] at hf; cases hf
  | some p =>
    obtain ⟨xs, env1⟩ := p
    rw [e1] at hf
    refine ⟨A, F, env, fp, S, xs, env1, e1, fun J F1 H1 fp1 S1 T1 ok => ?_⟩
    have hf : forD pat g xs env1 = some fl := hf
    refine ⟨fun i m σ H => m = xs.length - i ∧ i ≤ xs.length ∧ ∃ F env fp, StOk A F H σ env fp ∧ Same F1 F ∧ ∃ fl, forD pat g (xs.drop i) env = some fl ∧ FlOk A F H fp Dn fl,
      ⟨xs.length - 0, rfl, Nat.zero_le _, F1, env1, fp1, S1, Same.refl _, fl, hf, q.trans T1⟩, ?_⟩
    rintro i m σ H ⟨rfl, hi, F, env, fp, S, gr, fl, hf, q⟩
    by_cases hlt : i < xs.length
    · refine .inr ⟨ok.go i H (gr.trans S.ex) hlt, fun σ H => i + 1 ≤ xs.length ∧ ∃ F env fp, StOk A F H σ env fp ∧ Same F1 F ∧ ∃ fl, forD pat g (xs.drop (i + 1)) env = some fl ∧ FlOk A F H fp Dn fl,
        fun σ' H' h => ⟨xs.length - (i + 1), by omega, rfl, h⟩, fun x H' y => ?_⟩
      rw [List.drop_eq_getElem_cons hlt] at hf
      rw [forD] at hf
      obtain ⟨F3, T3, ex3, rb⟩ := ok.yld i H F x H' xs[i] gr S.ex y (List.getElem?_eq_getElem hlt)
      have S3 := S.lift T3 ex3
      cases e2 : bindP pat xs[i] env with
      | none => rw [e2] at hf; cases hf
      | some env2 =>
        rw [e2] at hf
        refine bind_ok pat S3 rb e2 fun σ4 fp4 S4 sub _ => ?_
        have hf : ((g env2).bind fun fl => match fl with
          | .nx e => forD pat g (xs.drop (i + 1)) e
          | .ct e => forD pat g (xs.drop (i + 1)) e
          | .bk e => some (.nx e)
          | .rt s e => some (.rt s e)) = some fl := hf
        cases e3 : g env2 with
        | none => rw [e3] at hf; cases hf
        | some f2 =>
          rw [e3] at hf
          have T4 : Tr F H (inFp fp) F3 H' (inFp fp4) := (T3.id (W := inFp fp)).weak sub
          refine ⟨A, F3, env2, fp4, S4, f2, e3, ?_⟩
          cases f2 with
          | nx e => exact fun σ' F' H' fp' S' T => ⟨hlt, F', e, fp', S', (gr.trans T3.grow).trans T.grow, fl, hf, q.trans (T4.trans T)⟩
          | ct e => exact fun σ' F' H' fp' S' T => ⟨hlt, F', e, fp', S', (gr.trans T3.grow).trans T.grow, fl, hf, q.trans (T4.trans T)⟩
          | bk e => cases hf; exact fun σ' F' H' fp' S' T => q σ' F' H' fp' S' (T4.trans T)
          | rt s e => cases hf; exact fun v σ' F' H' fp' q' S' T => q v σ' F' H' fp' q' S' (T4.trans T)
    · have e : i = xs.length := by omega
      subst e
      rw [List.drop_length] at hf
      cases hf
      exact .inl ⟨ok.stop _ H (gr.trans S.ex) (Nat.le_refl _), q σ F H fp S Tr.refl⟩
end

/-! ### list comprehensions -/
def wipeE (env : Env') : List Nat → Env'
  | [] => env
  | v :: vs => (wipeE env vs).set v .un
def restE (env0 e : Env') : List Nat → Env'
  | [] => e
  | v :: vs => (restE env0 e vs).set v ((env0[v]?).getD .un)
open Classical in
noncomputable def fmix (fp0 fp : Nat → List Addr) (vs : List Nat) : Nat → List Addr := fun j => if j ∈ vs then fp0 j else fp j
theorem wipeE_len (env : Env') : ∀ vs, (wipeE env vs).length = env.length
  | [] => rfl
  | v :: vs => by rw [wipeE, List.length_set, wipeE_len]
theorem restE_len (env0 e : Env') : ∀ vs, (restE env0 e vs).length = e.length
  | [] => rfl
  | v :: vs => by rw [restE, List.length_set, restE_len]
theorem wipeE_get (env : Env') : ∀ (vs : List Nat) (j : Nat), ((wipeE env vs)[j]?).getD .un = if j ∈ vs then .un else (env[j]?).getD .un
  | [], j => by simp [wipeE]
  | v :: vs, j => by
    unfold wipeE
    by_cases e : v = j
    · subst e
      rw [if_pos List.mem_cons_self]
      by_cases hl : v < (wipeE env vs).length
      · rw [List.getElem?_set_self hl]; rfl
      · rw [List.getElem?_eq_none (by simpa using hl)]; rfl
    · rw [List.getElem?_set_ne e, wipeE_get env vs j]
      by_cases m : j ∈ vs
      · rw [if_pos m, if_pos (List.mem_cons_of_mem _ m)]
      · rw [if_neg m, if_neg (fun z => (List.mem_cons.mp z).elim (fun z => e z.symm) m)]
theorem restE_get (env0 e : Env') (hl : e.length = env0.length) : ∀ (vs : List Nat) (j : Nat), ((restE env0 e vs)[j]?).getD .un = if j ∈ vs then (env0[j]?).getD .un else (e[j]?).getD .un
  | [], j => by simp [restE]
  | v :: vs, j => by
    unfold restE
    by_cases e1 : v = j
    · subst e1
      rw [if_pos List.mem_cons_self]
      by_cases hl2 : v < (restE env0 e vs).length
      · rw [List.getElem?_set_self hl2]; rfl
      · rw [List.getElem?_eq_none (by simpa using hl2)]
        rw [restE_len, hl] at hl2
        rw [List.getElem?_eq_none (by omega)]
    · rw [List.getElem?_set_ne e1, restE_get env0 e hl vs j]
      by_cases m : j ∈ vs
      · rw [if_pos m, if_pos (List.mem_cons_of_mem _ m)]
      · rw [if_neg m, if_neg (fun z => (List.mem_cons.mp z).elim (fun z => e1 z.symm) m)]
theorem wipe_getD (σ : L2.St) (vs : List Nat) (j : Nat) (h : j ∉ vs) : ((wipe σ vs)[j]?).getD none = (σ[j]?).getD none := by rw [wipe_get, if_neg h]
section
variable {A : Addr} {F H F' H' F2 H2 : Hp} {W W' W2 : Addr → Prop} {σ : L2.St} {env env' : Env'} {fp fp' : Nat → List Addr}
theorem StOk.wiped (S : StOk A F H σ env fp) (vs : List Nat) : StOk A F H (wipe σ vs) (wipeE env vs) (fmix (fun _ => []) fp vs) ∧ ∀ a, inFp (fmix (fun _ => []) fp vs) a → inFp fp a := by
  refine ⟨⟨by rw [wipe_length, wipeE_len]; exact S.len, fun j => ?_, fun i j a hi hj => ?_, fun i a hi => ?_, S.ex⟩, fun a ⟨i, hi⟩ => ?_⟩
  · rw [wipeE_get]
    unfold fmix
    by_cases m : j ∈ vs
    · rw [if_pos m, if_pos m]; exact (rfl : ([] : List Addr) = [])
    · rw [if_neg m, if_neg m, wipe_getD σ vs j m]; exact S.slot j
  · unfold fmix at hi hj
    split at hi
    · cases hi
    · split at hj
      · cases hj
      · exact S.disj i j a hi hj
  · unfold fmix at hi
    split at hi
    · cases hi
    · exact S.free i a hi
  · unfold fmix at hi
    split at hi
    · cases hi
    · exact ⟨i, hi⟩
/-- behind a block the names it hid are as they were -/
theorem StOk.back {env0 : Env'} {fp0 : Nat → List Addr} {F0 H0 : Hp} {vs : List Nat} {Dl : Addr} (S0 : StOk A F0 H0 σ env0 fp0) (S : StOk A F H (wipe σ vs) (wipeE env vs) fp)
    (T : Tr F0 H0 (inFp (fmix (fun _ => []) fp0 vs)) F H (fun a => inFp fp a ∨ a = Dl)) :
    StOk A F H σ (restE env0 env vs) (fmix fp0 fp vs) ∧ Tr F0 H0 (inFp fp0) F H (fun a => inFp (fmix fp0 fp vs) a ∨ a ∈ [Dl]) ∧ ((∀ i, Dl ∉ fp i) → ¬ inFp (fmix fp0 fp vs) Dl ∨ inFp fp0 Dl) := by
  have hl : env.length = env0.length := by
    have h1 := S.len
    have h2 := S0.len
    rw [wipe_length, wipeE_len] at h1
    omega
  have old : ∀ j, j ∈ vs → ∀ a ∈ fp0 j, F0 a = none ∧ ¬ inFp (fmix (fun _ => []) fp0 vs) a := fun j m a ha => ⟨S0.free j a ha, fun ⟨i, hi⟩ => by
    unfold fmix at hi
    split at hi
    · cases hi
    · rename_i ni
      exact ni ((S0.disj i j a hi ha) ▸ m)⟩
  have st : ∀ j, j ∈ vs → SlOk A F H ((env0[j]?).getD .un) ((σ[j]?).getD none) (fp0 j) ∧ ∀ a ∈ fp0 j, F a = none ∧ ¬ (inFp fp a ∨ a = Dl) := fun j m => (S0.slot j).stay (old j m) T
  have un : ∀ j, j ∈ vs → fp j = [] := fun j m => by
    have k := S.slot j
    rw [wipeE_get, if_pos m] at k
    exact k
  refine ⟨⟨by rw [restE_len, hl]; exact S0.len, fun j => ?_, fun i j a hi hj => ?_, fun i a hi => ?_, S.ex⟩, ?_, fun h => ?_⟩
  · rw [restE_get env0 env hl]
    unfold fmix
    by_cases m : j ∈ vs
    · rw [if_pos m, if_pos m]; exact (st j m).1
    · rw [if_neg m, if_neg m]
      have k := S.slot j
      rw [wipeE_get, if_neg m, wipe_getD σ vs j m] at k
      exact k
  · unfold fmix at hi hj
    by_cases mi : i ∈ vs
    · rw [if_pos mi] at hi
      by_cases mj : j ∈ vs
      · rw [if_pos mj] at hj; exact S0.disj i j a hi hj
      · rw [if_neg mj] at hj; exact absurd (.inl ⟨j, hj⟩) ((st i mi).2 a hi).2
    · rw [if_neg mi] at hi
      by_cases mj : j ∈ vs
      · rw [if_pos mj] at hj; exact absurd (.inl ⟨i, hi⟩) ((st j mj).2 a hj).2
      · rw [if_neg mj] at hj; exact S.disj i j a hi hj
  · unfold fmix at hi
    by_cases mi : i ∈ vs
    · rw [if_pos mi] at hi; exact ((st i mi).2 a hi).1
    · rw [if_neg mi] at hi; exact S.free i a hi
  · have w0 : ∀ a, inFp (fmix (fun _ => []) fp0 vs) a → inFp fp0 a := (S0.wiped vs).2
    refine ⟨(T.wide w0).keep, T.grow, (T.wide w0).newF, fun a h => ?_⟩
    rcases h with ⟨i, hi⟩ | h
    · unfold fmix at hi
      split at hi
      · exact .inl ⟨i, hi⟩
      · exact (T.newW a (.inl ⟨i, hi⟩)).imp (w0 a) _root_.id
    · simp at h
      exact (T.newW a (.inr h)).imp (w0 a) _root_.id
  · by_cases z : inFp fp0 Dl
    · exact .inr z
    · refine .inl fun ⟨i, hi⟩ => ?_
      unfold fmix at hi
      split at hi
      · exact z ⟨i, hi⟩
      · exact h i hi
/-- an object that is neither frozen nor of a slot changes -/
theorem StOk.other (S : StOk A F H σ env fp) {p : Addr} {o : HO} (hF : F p = none) (hp : ¬ inFp fp p) : StOk A F (upd H p o) σ env fp := by
  refine ⟨S.len, fun i => (S.slot i).mono (Same.refl F) fun a ha u hu => ?_, S.disj, S.free, fun a u e => ?_⟩
  · rw [upd_ne fun z : a = p => hp (by rw [← z]; exact ⟨i, ha⟩)]; exact hu
  · rw [upd_ne fun z : a = p => by rw [z, hF] at e; cases e]; exact S.ex a u e
end
def dYes : TTE := fun env => some (true, env)
def compD (pat : Pat) (t : TTE) (el : BE) (vs : List Nat) : List D → Env' → Option (List D × Env')
  | [], env => some ([], env)
  | x :: xs, env => (bindP pat x (wipeE env vs)).bind fun e => (t e).bind fun c => if c.1 = true then (el c.2).bind fun r => (resB r.2 r.1).bind fun d => (compD pat t el vs xs d.2).map fun q => (d.1 :: q.1, q.2) else compD pat t el vs xs c.2
def dLc (it : IE) (pat : Pat) (t : TTE) (el : BE) (vs : List Nat) : RE := fun env => (it env).bind fun p => if p.1.length ≤ szMax then (compD pat t el vs p.1 p.2).map fun q => (.val (.own (.list q.1)), restE p.2 q.2 vs) else none
theorem compD_len {pat : Pat} {t : TTE} {el : BE} {vs : List Nat} : ∀ {xs : List D} {env : Env'} {ds : List D} {e : Env'}, compD pat t el vs xs env = some (ds, e) → ds.length ≤ xs.length
  | [], env, ds, e, h => by cases h; exact Nat.le_refl _
  | x :: xs, env, ds, e, h => by
    rw [compD] at h
    cases e1 : bindP pat x (wipeE env vs) with
    | none => rw [e1] at h; cases h
    | some env1 =>
      rw [e1] at h
      have h : ((t env1).bind fun c => if c.1 = true then (el c.2).bind fun r => (resB r.2 r.1).bind fun d => (compD pat t el vs xs d.2).map fun q => (d.1 :: q.1, q.2) else compD pat t el vs xs c.2) = some (ds, e) := h
      cases e2 : t env1 with
      | none => rw [e2] at h; cases h
      | some c =>
        rw [e2] at h
        have h : (if c.1 = true then (el c.2).bind fun r => (resB r.2 r.1).bind fun d => (compD pat t el vs xs d.2).map fun q => (d.1 :: q.1, q.2) else compD pat t el vs xs c.2) = some (ds, e) := h
        split at h
        · cases e3 : el c.2 with
          | none => rw [e3] at h; cases h
          | some r =>
            rw [e3] at h
            have h : ((resB r.2 r.1).bind fun d => (compD pat t el vs xs d.2).map fun q => (d.1 :: q.1, q.2)) = some (ds, e) := h
            cases e4 : resB r.2 r.1 with
            | none => rw [e4] at h; cases h
            | some d =>
              rw [e4] at h
              have h : ((compD pat t el vs xs d.2).map fun q => (d.1 :: q.1, q.2)) = some (ds, e) := h
              cases e5 : compD pat t el vs xs d.2 with
              | none => rw [e5] at h; cases h
              | some q =>
                rw [e5] at h
                cases h
                have := compD_len e5
                rw [List.length_cons, List.length_cons]
                omega
        · have := compD_len h
          rw [List.length_cons]
          omega
theorem t_lc {K : PySem.W.Frag} {it : IE} {pat : Pat} {t : TTE} {el : BE} {vs : List Nat} (hv : ∀ i ∈ pat.names, i ∈ vs) {σ : L2.St} {H : Hp} {Q : VK} (h : tR (dLc it pat t el vs) σ H Q) : tLc (tI it) (gPat K pat) (tQ t) (tO el) vs σ H Q := by
  obtain ⟨A, F, env, fp, S, r, env', hf, q⟩ := h
  unfold dLc at hf
  cases e1 : it env with
  | none => rw [e1] at hf; cases hf
  | some p =>
    obtain ⟨xs, env1⟩ := p
    rw [e1] at hf
    refine ⟨A, F, env, fp, S, xs, env1, e1, fun J F1 H1 fp1 S1 T1 ok Dl hD => ?_⟩
    have hf : (if xs.length ≤ szMax then (compD pat t el vs xs env1).map fun q => (R.val (.own (.list q.1)), restE env1 q.2 vs) else none) = some (r, env') := hf
    split at hf
    · rename_i hz
      cases e2 : compD pat t el vs xs env1 with
      | none => rw [e2] at hf; cases hf
      | some p2 =>
        obtain ⟨ds, ee⟩ := p2
        rw [e2] at hf
        cases hf
        have hdl := compD_len e2
        have hF1 : F1 Dl = none := fresh_F S1.ex hD
        have hn1 : ¬ inFp fp1 Dl := fun w => by
          obtain ⟨o, ho⟩ := S1.live w
          rw [hD] at ho; cases ho
        obtain ⟨Sw, subw⟩ := S1.wiped vs
        refine ⟨fun i m H => m = xs.length - i ∧ i ≤ xs.length ∧ ∃ F env fp acc da dr, StOk A F H (wipe σ vs) (wipeE env vs) fp ∧ Same F1 F ∧ compD pat t el vs (xs.drop i) env = some (dr, ee) ∧ H Dl = some (.lst acc) ∧ RbA F acc da ∧ da ++ dr = ds ∧
          F Dl = none ∧ ¬ inFp fp Dl ∧ Tr F1 H1 (inFp (fmix (fun _ => []) fp1 vs)) F H (fun a => inFp fp a ∨ a = Dl), ?_, ?_⟩
        · refine ⟨xs.length - 0, rfl, Nat.zero_le _, F1, env1, _, [], [], ds, Sw.other hF1 fun w => hn1 (subw _ w), Same.refl _, e2, upd_same, .nil, rfl, hF1, fun w => hn1 (subw _ w), ?_⟩
          refine ⟨fun a o e w => ?_, Same.refl _, fun a h => .inl h, fun a h => ?_⟩
          · rw [upd_ne fun z : a = Dl => by rw [z, hD] at e; cases e]; exact e
          · rcases h with h | h
            · exact .inl h
            · subst h; exact .inr hD
        · rintro i m H ⟨rfl, hi, F, env, fp, acc, da, dr, S, gr, hc, hacc, ra, eds, hFD, hnD, T⟩
          by_cases hlt : i < xs.length
          · refine .inr ⟨ok.go i H (gr.trans S.ex) hlt, fun H => i + 1 ≤ xs.length ∧ ∃ F env fp acc da dr, StOk A F H (wipe σ vs) (wipeE env vs) fp ∧ Same F1 F ∧ compD pat t el vs (xs.drop (i + 1)) env = some (dr, ee) ∧ H Dl = some (.lst acc) ∧ RbA F acc da ∧ da ++ dr = ds ∧
              F Dl = none ∧ ¬ inFp fp Dl ∧ Tr F1 H1 (inFp (fmix (fun _ => []) fp1 vs)) F H (fun a => inFp fp a ∨ a = Dl), fun H' h => ⟨xs.length - (i + 1), by omega, rfl, h⟩, fun x H' y => ?_⟩
            rw [List.drop_eq_getElem_cons hlt, compD] at hc
            obtain ⟨F3, T3, ex3, rb⟩ := ok.yld i H F x H' xs[i] gr S.ex y (List.getElem?_eq_getElem hlt)
            have S3 := S.lift T3 ex3
            -- the new list all the while: a temporary of ours
            have tmp : SlOk A F H (.own (.list da)) (some (.ref Dl)) [Dl] := ⟨Dl, rfl, rfl, .lst hacc ra⟩
            have tmq : ∀ a ∈ [Dl], F a = none ∧ ¬ inFp fp a := fun a m => by simp at m; subst m; exact ⟨hFD, hnD⟩
            cases e3 : bindP pat xs[i] (wipeE env vs) with
            | none => rw [e3] at hc; cases hc
            | some env2 =>
              rw [e3] at hc
              refine bind_ok pat S3 rb e3 fun σ4 fp4 S4 sub hw => ⟨?_, ?_⟩
              · rw [hw vs hv]
                exact List.ext_getElem? fun j => by
                  rw [wipe_get, wipe_get]
                  split
                  · cases σ[j]? <;> rfl
                  · rfl
              have hw' : wipe σ4 vs = wipe σ vs := by
                rw [hw vs hv]
                exact List.ext_getElem? fun j => by
                  rw [wipe_get, wipe_get]
                  split
                  · cases σ[j]? <;> rfl
                  · rfl
              have T4 : Tr F H (inFp fp) F3 H' (inFp fp4) := (T3.id (W := inFp fp)).weak sub
              have hc : ((t env2).bind fun c => if c.1 = true then (el c.2).bind fun r => (resB r.2 r.1).bind fun d => (compD pat t el vs (xs.drop (i + 1)) d.2).map fun q => (d.1 :: q.1, q.2) else compD pat t el vs (xs.drop (i + 1)) c.2) = some (dr, ee) := hc
              cases e4 : t env2 with
              | none => rw [e4] at hc; cases hc
              | some c =>
                obtain ⟨cb, env3⟩ := c
                rw [e4] at hc
                refine ⟨A, F3, env2, fp4, S4, cb, env3, e4, fun F5 H5 fp5 S5 T5 => ?_⟩
                have hc : (if cb = true then (el env3).bind fun r => (resB r.2 r.1).bind fun d => (compD pat t el vs (xs.drop (i + 1)) d.2).map fun q => (d.1 :: q.1, q.2) else compD pat t el vs (xs.drop (i + 1)) env3) = some (dr, ee) := hc
                have nxt : ∀ {F7 H7 : Hp} {env7 : Env'} {fp7 : Nat → List Addr}, StOk A F7 H7 σ4 env7 fp7 → Tr F H (inFp fp) F7 H7 (inFp fp7) → ∃ acc, H7 Dl = some (.lst acc) ∧ RbA F7 acc da ∧ F7 Dl = none ∧ ¬ inFp fp7 Dl := fun {F7 H7 env7 fp7} S7 T7 => by
                  obtain ⟨⟨a, ea, eq, w⟩, k⟩ := tmp.stay tmq T7
                  cases ea
                  cases w with
                  | lst h r => exact ⟨_, h, r, (k Dl List.mem_cons_self).1, (k Dl List.mem_cons_self).2⟩
                have big : ∀ {F7 H7 : Hp} {fp7 : Nat → List Addr}, Tr F H (inFp fp) F7 H7 (inFp fp7) → Tr F1 H1 (inFp (fmix (fun _ => []) fp1 vs)) F7 H7 (fun a => inFp (fmix (fun _ => []) fp7 vs) a ∨ a = Dl) := fun {F7 H7 fp7} T7 => by
                  have t2 : Tr F H (fun a => inFp fp a ∨ a = Dl) F7 H7 (fun a => inFp fp7 a ∨ a = Dl) := by
                    have w := T7.wide (V0 := fun a => inFp fp a ∨ a = Dl) fun a h => .inl h
                    exact ⟨w.keep, w.grow, w.newF, fun a h => h.elim (fun h => w.newW a h) fun h => .inl (.inr h)⟩
                  refine (T.trans t2).weak fun a h => h.imp (fun h => ?_) _root_.id
                  obtain ⟨j, hj⟩ := h
                  unfold fmix at hj
                  split at hj
                  · cases hj
                  · exact ⟨j, hj⟩
                cases cb with
                | false =>
                  refine iteF ?_
                  have hc : compD pat t el vs (xs.drop (i + 1)) env3 = some (dr, ee) := hc
                  have T45 := T4.trans T5
                  obtain ⟨acc', h1, h2, h3, h4⟩ := nxt S5 T45
                  obtain ⟨S6, sub6⟩ := S5.wiped vs
                  rw [hw'] at S6
                  exact ⟨hlt, F5, env3, _, acc', da, dr, S6, gr.trans T45.grow, hc, h1, h2, eds, h3, fun w => h4 (sub6 _ w), big T45⟩
                | true =>
                  refine iteT ?_
                  have hc : ((el env3).bind fun r => (resB r.2 r.1).bind fun d => (compD pat t el vs (xs.drop (i + 1)) d.2).map fun q => (d.1 :: q.1, q.2)) = some (dr, ee) := hc
                  cases e5 : el env3 with
                  | none => rw [e5] at hc; cases hc
                  | some p5 =>
                    obtain ⟨b5, env5⟩ := p5
                    rw [e5] at hc
                    refine ⟨A, F5, env3, fp5, S5, b5, env5, e5, fun v F6 H6 fp6 S6 T6 ok6 => ?_⟩
                    have hc : ((resB env5 b5).bind fun d => (compD pat t el vs (xs.drop (i + 1)) d.2).map fun q => (d.1 :: q.1, q.2)) = some (dr, ee) := hc
                    cases e6 : resB env5 b5 with
                    | none => rw [e6] at hc; cases hc
                    | some p6 =>
                      obtain ⟨d6, env6⟩ := p6
                      rw [e6] at hc
                      have hc : ((compD pat t el vs (xs.drop (i + 1)) env6).map fun q => (d6 :: q.1, q.2)) = some (dr, ee) := hc
                      obtain ⟨F7, fp7, S7, T7, rb7⟩ := res_ok S6 ok6 e6
                      cases e7 : compD pat t el vs (xs.drop (i + 1)) env6 with
                      | none => rw [e7] at hc; cases hc
                      | some p7 =>
                        obtain ⟨dr7, ee7⟩ := p7
                        rw [e7] at hc
                        cases hc
                        have T47 := ((T4.trans T5).trans T6).trans T7
                        obtain ⟨acc', h1, h2, h3, h4⟩ := nxt S7 T47
                        obtain ⟨S8, sub8⟩ := S7.wiped vs
                        rw [hw'] at S8
                        have hlen : da.length ≤ ds.length := by rw [← eds, List.length_append]; exact Nat.le_add_right _ _
                        have hsl : acc'.length < sizeLine := by
                          rw [h2.length]
                          have : szMax < sizeLine := by decide
                          omega
                        refine ⟨acc', h1, hsl, hlt, F7, env6, _, acc' ++ [v], da ++ [d6], dr7, S8.other h3 fun w => h4 (sub8 _ w), gr.trans T47.grow, e7, upd_same, h2.app (.cons rb7 .nil), by rw [List.append_assoc]; exact eds, h3, fun w => h4 (sub8 _ w), ?_⟩
                        have B := big T47
                        refine ⟨fun a o e w => ?_, B.grow, B.newF, B.newW⟩
                        rw [upd_ne fun z : a = Dl => by rw [z, hD] at e; cases e]
                        exact B.keep a o e w
          · have e : i = xs.length := by omega
            subst e
            rw [List.drop_length] at hc
            cases hc
            rw [List.append_nil] at eds
            subst eds
            refine .inl ⟨ok.stop _ H (gr.trans S.ex) (Nat.le_refl _), ?_⟩
            obtain ⟨S9, T9, n9⟩ := S1.back (Dl := Dl) S T
            have n9' : ¬ inFp (fmix fp1 fp vs) Dl := (n9 fun i hi => hnD ⟨i, hi⟩).elim _root_.id fun z => absurd z hn1
            exact q (.ref Dl) F H _ [Dl] S9 (T1.trans T9) ⟨(nomatch ·), ⟨Dl, rfl, rfl, .lst hacc ra⟩, fun a m => by simp at m; subst m; exact ⟨hFD, n9'⟩⟩
    · cases hf
section
variable {X : Cx} {elt tg iter : Expr} {ifs : List Expr} {scope : Scope} {own : List (Str × Nat)} {pos spos : Pos} {it : IE} {pat : Pat} {t : TTE} {el : BE}
theorem pqs_nil : PTs X [] (tQ dYes) := ⟨fun pins s σ H Q I h => pts_nil.run pins s σ H Q I (by
  obtain ⟨A, F, env, fp, S, r, env', hf, q⟩ := h
  cases hf
  exact q F H fp S Tr.refl)⟩
theorem pqs_one {c : Expr} (h : PT X c (tQ t)) : PTs X [c] (tQ t) := pts_one h
theorem pr_lc (hc : X.calm = true) (hN : X.N.Nodup) (hi : PI X tg iter (tI it)) (ok : BlkOk X.N X.env.scope scope own) (hv : ∀ i ∈ pat.names, i ∈ own.map (·.2))
    (hg : ∀ (s : Shared) (H : Hp) (C : Addr) (cl : List (Str × Addr)) (fp : List Addr), PG (X.blk s H scope (compEnvC scope cl C X.env) fp) tg (gPat X.K pat)) (ht : ∀ (s : Shared) (H : Hp) (C : Addr) (cl : List (Str × Addr)) (fp : List Addr), PTs (X.blk s H scope (compEnvC scope cl C X.env) fp) ifs (tQ t))
    (he : ∀ (s : Shared) (H : Hp) (C : Addr) (cl : List (Str × Addr)) (fp : List Addr), PE (X.blk s H scope (compEnvC scope cl C X.env) fp) elt (tO el)) (hs : ∀ x, foldedSetIterable iter X.env x = pure x := by intro _; rfl) :
    PE X (.ListComp elt [⟨tg, iter, ifs, 0⟩] scope pos) (tR (dLc it pat t el (own.map (·.2)))) := PE.imp (pe_lc hc hN hi ok hg ht he hs) fun _ _ _ h => t_lc hv h
theorem ps_setLc' {i : Nat} {y : Str} {py : Pos} (hc : X.calm = true) (hN : X.N.Nodup) (hy : X.N[i]? = some y) (hyl : X.env.scope.names.lookup y = some .local)
    (hsw : swapsWith (.ListComp elt [⟨tg, iter, ifs, 0⟩] scope pos) (some (.Name y py)) spos.line X.env = pure true) (hi : PI X tg iter (tI it)) (ok : BlkOk X.N X.env.scope scope own) (hv : ∀ i ∈ pat.names, i ∈ own.map (·.2))
    (hg : ∀ (s : Shared) (H : Hp) (C : Addr) (cl : List (Str × Addr)) (fp : List Addr), PG (X.blk s H scope (compEnvC scope cl C X.env) fp) tg (gPat X.K pat)) (ht : ∀ (s : Shared) (H : Hp) (C : Addr) (cl : List (Str × Addr)) (fp : List Addr), PTs (X.blk s H scope (compEnvC scope cl C X.env) fp) ifs (tQ t))
    (he : ∀ (s : Shared) (H : Hp) (C : Addr) (cl : List (Str × Addr)) (fp : List Addr), PE (X.blk s H scope (compEnvC scope cl C X.env) fp) elt (tO el)) (hs : ∀ x, foldedSetIterable iter X.env x = pure x := by intro _; rfl) :
    PS X (.Assign [.Name y py] (.ListComp elt [⟨tg, iter, ifs, 0⟩] scope pos) spos) (tS (dSet i (dLc it pat t el (own.map (·.2))))) := PS.imp (ps_setLc hc hN hy hyl hsw hi ok hg ht he hs) fun Dn σ H h => by
  have k := t_set h
  exact t_lc (Q := fun x H1 => gName i x σ H1 Dn.nx) hv k
end
end DL
namespace DL
open PySem PySem.Spec PyProof.Rows L2

/-! ### several values at once, each kept as it was made -/
def dTmp (f : RE) : Env' → Option (Sl × Env') := fun env => (f env).bind fun p => match p.1 with
  | .val s => some (s, p.2)
  | .slot i => (resB p.2 (.slot i)).map fun r => (.dat r.1, r.2)
abbrev TSE := Env' → Option (List Sl × Env')
def dTsNil : TSE := fun env => some ([], env)
def dTsCons (f : RE) (g : TSE) : TSE := fun env => (dTmp f env).bind fun p => (g p.2).map fun r => (p.1 :: r.1, r.2)
inductive TmpOk (A : Addr) (F H : Hp) (W : Addr → Prop) : List Sl → List V → List (List Addr) → Prop
  | nil : TmpOk A F H W [] [] []
  | cons {s : Sl} {v : V} {q : List Addr} {ss : List Sl} {vs : List V} {qs : List (List Addr)} : s ≠ .un → SlOk A F H s (some v) q → (∀ a ∈ q, F a = none ∧ ¬ W a ∧ a ∉ qs.flatten) → TmpOk A F H W ss vs qs → TmpOk A F H W (s :: ss) (v :: vs) (q :: qs)
def tTs (f : TSE) : TA := fun σ H Q => ∃ A F env fp, StOk A F H σ env fp ∧ ∃ ss env', f env = some (ss, env') ∧
  ∀ vs F' H' fp' qs, StOk A F' H' σ env' fp' → Tr F H (inFp fp) F' H' (fun a => inFp fp' a ∨ a ∈ qs.flatten) → TmpOk A F' H' (inFp fp') ss vs qs → Q vs H'
theorem TmpOk.reW {A : Addr} {F H : Hp} {W W' : Addr → Prop} {ss : List Sl} {vs : List V} {qs : List (List Addr)} (h : TmpOk A F H W ss vs qs) (k : ∀ a ∈ qs.flatten, W' a → W a) : TmpOk A F H W' ss vs qs := by
  induction h with
  | nil => exact .nil
  | @cons s v q ss vs qs ne ok hq t ih =>
    exact .cons ne ok (fun a m => ⟨(hq a m).1, fun w => (hq a m).2.1 (k a (by rw [List.flatten_cons]; exact List.mem_append_left _ m) w), (hq a m).2.2⟩) (ih fun a m w => k a (by rw [List.flatten_cons]; exact List.mem_append_right _ m) w)
section
variable {X : Cx} {e : Expr} {es : List Expr} {f : RE} {g : TSE} {pos : Pos}
theorem pts_nil' : PA X [] (tTs dTsNil) := PA.imp pa_nil fun σ H Q h => by
  obtain ⟨A, F, env, fp, S, r, env', hf, q⟩ := h
  cases hf
  exact q [] F H fp [] S (Tr.refl.weak fun a x => x.elim id fun y => nomatch y) .nil
theorem pts_cons' (h : PE X e (tR f)) (k : PA X es (tTs g)) (hs : starEach (e :: es) X.env = (false, eval e X.env) :: starEach es X.env := by rfl) : PA X (e :: es) (tTs (dTsCons f g)) := PA.imp (pa_cons h k hs) fun σ H Q h => by
  obtain ⟨A, F, env, fp, S, ss, env', hf, q⟩ := h
  unfold dTsCons dTmp at hf
  cases e1 : f env with
  | none => rw [e1] at hf; cases hf
  | some p =>
    obtain ⟨r, env1⟩ := p
    rw [e1] at hf
    refine ⟨A, F, env, fp, S, r, env1, e1, fun v F1 H1 fp1 q1 S1 T1 ok1 => ?_⟩
    cases r with
    | val s =>
      have hf : ((g env1).map fun r => (s :: r.1, r.2)) = some (ss, env') := hf
      cases e2 : g env1 with
      | none => rw [e2] at hf; cases hf
      | some p2 =>
        obtain ⟨ss2, env2⟩ := p2
        rw [e2] at hf
        cases hf
        obtain ⟨ne, ok, hq⟩ := ok1
        refine ⟨A, F1, env1, fp1, S1, ss2, _, e2, fun vs F2 H2 fp2 qs S2 T2 tm => ?_⟩
        obtain ⟨ok', hq'⟩ := ok.stay hq T2
        refine q (v :: vs) F2 H2 fp2 (q1 :: qs) S2 ?_ (.cons ne ok' (fun a m => ⟨(hq' a m).1, fun w => (hq' a m).2 (.inl w), fun w => (hq' a m).2 (.inr w)⟩) tm)
        refine (T1.trans (T2.beside (V0 := fun a => inFp fp1 a ∨ a ∈ q1) fun a w => .inl w)).weak fun a w => ?_
        rcases w with w | w
        · exact .inl (.inl w)
        · rw [List.flatten_cons] at w
          rcases List.mem_append.mp w with w | w
          · exact .inr (.inr w)
          · exact .inl (.inr w)
    | slot i =>
      obtain ⟨rfl, hv⟩ := ok1
      have T1 := T1.weak (V' := inFp fp1) fun a x => .inl x
      have hf : (((resB env1 (.slot i)).map fun r => (Sl.dat r.1, r.2)).bind fun p => (g p.2).map fun r => (p.1 :: r.1, r.2)) = some (ss, env') := hf
      cases e3 : resB env1 (.slot i) with
      | none => rw [e3] at hf; cases hf
      | some p3 =>
        obtain ⟨d, env3⟩ := p3
        rw [e3] at hf
        have hf : ((g env3).map fun r => (Sl.dat d :: r.1, r.2)) = some (ss, env') := hf
        obtain ⟨F3, fp3, S3, T3, rb⟩ := res_ok S1 (b := .slot i) hv e3
        cases e2 : g env3 with
        | none => rw [e2] at hf; cases hf
        | some p2 =>
          obtain ⟨ss2, env2⟩ := p2
          rw [e2] at hf
          cases hf
          refine ⟨A, F3, env3, fp3, S3, ss2, _, e2, fun vs F2 H2 fp2 qs S2 T2 tm => ?_⟩
          exact q (v :: vs) F2 H2 fp2 ([] :: qs) S2 ((T1.trans T3).trans T2) (.cons (nomatch ·) ⟨rfl, v, rfl, rb.mono T2.grow⟩ (fun a m => nomatch m) tm)
end
def putAll : List Nat → List Sl → Env' → Option Fl
  | [], [], e => some (.nx e)
  | i :: is, s :: ss, e => if i < e.length then putAll is ss (e.set i s) else none
  | [], _ :: _, _ => none
  | _ :: _, [], _ => none
def dPar (is : List Nat) (f : TSE) : SE := fun env => (f env).bind fun p => putAll is p.1 p.2
def setAll : L2.St → List Nat → List V → L2.St
  | σ, i :: is, v :: vs => setAll (σ.set i (some v)) is vs
  | σ, [], _ => σ
  | σ, _ :: _, [] => σ
section
variable {A : Addr} {F H F' H' F2 H2 : Hp} {W W' W2 : Addr → Prop} {σ : L2.St} {env env' : Env'} {fp fp' : Nat → List Addr}
theorem puts_ok {is : List Nat} {ss : List Sl} {vs : List V} {qs : List (List Addr)} {fl : Fl} (S : StOk A F H σ env fp) (t : TmpOk A F H (inFp fp) ss vs qs) (hf : putAll is ss env = some fl) :
    ∃ e fp', fl = .nx e ∧ StOk A F H (setAll σ is vs) e fp' ∧ (∀ a, inFp fp' a → inFp fp a ∨ a ∈ qs.flatten) ∧ vs.length = is.length := by
  induction is generalizing ss vs qs σ env fp with
  | nil =>
    cases ss with
    | nil =>
      cases hf
      cases t
      exact ⟨env, fp, rfl, S, fun a w => .inl w, rfl⟩
    | cons _ _ => cases hf
  | cons i is ih =>
    cases ss with
    | nil => cases hf
    | cons s ss =>
      rw [putAll] at hf
      split at hf
      · rename_i hi
        cases t with
        | @cons _ v q _ vs qs ne ok hq t =>
          have S1 := S.put hi ok fun a m => ⟨(hq a m).1, fun j _ w => (hq a m).2.1 ⟨j, w⟩⟩
          have t1 := t.reW (W' := inFp (fset fp i q)) fun a m w => (in_fset w).elim id fun w => absurd m (hq a w).2.2
          obtain ⟨e, fp', h1, h2, h3, h4⟩ := ih S1 t1 hf
          refine ⟨e, fp', h1, h2, fun a w => ?_, by rw [List.length_cons, List.length_cons, h4]⟩
          rw [List.flatten_cons]
          rcases h3 a w with w | w
          · exact (in_fset w).imp id fun w => List.mem_append_left _ w
          · exact .inr (List.mem_append_right _ w)
      · cases hf
end
theorem gpats_names {K : PySem.W.Frag} {H : Hp} {Q : L2.St → Hp → Prop} : ∀ {is : List Nat} {vs : List V} {σ : L2.St}, vs.length = is.length → Q (setAll σ is vs) H → gPats K (is.map .name) vs σ H Q
  | [], [], σ, _, h => by
    rw [List.map_nil, gPats]
    exact ⟨rfl, h⟩
  | [], _ :: _, _, hl, _ => nomatch hl
  | _ :: _, [], _, hl, _ => nomatch hl
  | i :: is, v :: vs, σ, hl, h => by
    rw [List.map_cons, gPats, gPat]
    exact ⟨v, vs, rfl, gpats_names (by simpa using hl) h⟩
section
variable {X : Cx} {pos : Pos} {g : TSE}
theorem t_par {is : List Nat} {Dn : Ends} {σ : L2.St} {H : Hp} (h : tS (dPar is g) Dn σ H) : tTs g σ H fun vs H1 => vs.length = is.length ∧ Dn.nx (setAll σ is vs) H1 := by
  obtain ⟨A, F, env, fp, S, fl, hf, q⟩ := h
  unfold dPar at hf
  cases e1 : g env with
  | none => rw [e1] at hf; cases hf
  | some p =>
    obtain ⟨ss, env1⟩ := p
    rw [e1] at hf
    refine ⟨A, F, env, fp, S, ss, env1, e1, fun vs F1 H1 fp1 qs S1 T1 tm => ?_⟩
    obtain ⟨e, fp', rfl, S2, sub, hl⟩ := puts_ok S1 tm hf
    exact ⟨hl, q _ F1 H1 fp' S2 (T1.weak sub)⟩
theorem TmpOk.other {A : Addr} {F H : Hp} {W : Addr → Prop} {p : Addr} {o : HO} (hp : H p = none) {ss : List Sl} {vs : List V} {qs : List (List Addr)} (t : TmpOk A F H W ss vs qs) : TmpOk A F (upd H p o) W ss vs qs := by
  induction t with
  | nil => exact .nil
  | cons ne ok hq t ih => exact .cons ne (ok.mono (Same.refl F) fun a m u hu => same_upd hp a u hu) hq ih
/-- through the tuple itself -/
theorem t_parT {K : PySem.W.Frag} {is : List Nat} {Dn : Ends} {σ : L2.St} {H : Hp} (hz : is.length ≤ 100) (h : tS (dPar is g) Dn σ H) : tAsg (tTup (tTs g)) (gPat K (.tup (is.map .name))) Dn σ H := by
  obtain ⟨A, F, env, fp, S, fl, hf, q⟩ := h
  unfold dPar at hf
  cases e1 : g env with
  | none => rw [e1] at hf; cases hf
  | some p =>
    obtain ⟨ss, env1⟩ := p
    rw [e1] at hf
    refine ⟨A, F, env, fp, S, ss, env1, e1, fun vs F1 H1 fp1 qs S1 T1 tm => ?_⟩
    obtain ⟨e, fp', rfl, S2, sub, hl⟩ := puts_ok S1 tm hf
    refine ⟨sz_le (by rw [hl]; exact Nat.le_trans hz (by decide)), fun p hp => ?_⟩
    rw [gPat]
    refine ⟨p, vs, rfl, SqT.of upd_same, by rw [hl, List.length_map], ?_⟩
    refine gpats_names hl ?_
    have hn : ¬ inFp fp' p := fun w => by
      obtain ⟨o, ho⟩ := S2.live w
      rw [hp] at ho; cases ho
    refine q _ F1 _ fp' (S2.other (fresh_F S2.ex hp) hn) ?_
    have T2 := T1.weak sub
    exact ⟨fun a o e w => by rw [upd_ne (ne_of_none (T2.keep a o e w) hp)]; exact T2.keep a o e w, T2.grow, T2.newF, T2.newW⟩
theorem ps_par2' {i j : Nat} {x y : Str} {a b : Expr} {px py pt : Pos} {kt k2 pt2} (hc : X.calm = true) (hN : X.N.Nodup) (hi : X.N[i]? = some x) (hj : X.N[j]? = some y) (hij : i ≠ j)
    (hx : X.env.scope.names.lookup x = some .local) (hy : X.env.scope.names.lookup y = some .local) (ha : PA X [a, b] (tTs g))
    (hw : swappedStores [.Tuple [.Name x px, .Name y py] kt pt] (.Tuple [a, b] k2 pt2) X.env = pure (some [x, y]) := by rfl)
    (hs : swapsWithSole [.Tuple [.Name x px, .Name y py] kt pt] (.Tuple [a, b] k2 pt2) pos.line X.env = pure false := by rfl) :
    PS X (.Assign [.Tuple [.Name x px, .Name y py] kt pt] (.Tuple [a, b] k2 pt2) pos) (tS (dPar [i, j] g)) := PS.imp (ps_par hc hN hi hj hij hx hy ha hw hs) fun Dn σ H h => by
  have k := t_par h
  obtain ⟨A, F, env, fp, S, ss, env', hf, q⟩ := k
  refine ⟨A, F, env, fp, S, ss, env', hf, fun vs F' H' fp' qs a b c => ?_⟩
  obtain ⟨hl, q⟩ := q vs F' H' fp' qs a b c
  match vs, hl with
  | [v, w], _ => exact ⟨v, w, rfl, q⟩
theorem ps_par3' {i j l : Nat} {x y z : Str} {a b c : Expr} {px py pz pt : Pos} {kt k2 pt2} (hc : X.calm = true) (hN : X.N.Nodup) (hi : X.N[i]? = some x) (hj : X.N[j]? = some y) (hl : X.N[l]? = some z) (hij : i ≠ j) (hil : i ≠ l) (hjl : j ≠ l)
    (hx : X.env.scope.names.lookup x = some .local) (hy : X.env.scope.names.lookup y = some .local) (hz : X.env.scope.names.lookup z = some .local) (ha : PA X [a, b, c] (tTs g))
    (hw : swappedStores [.Tuple [.Name x px, .Name y py, .Name z pz] kt pt] (.Tuple [a, b, c] k2 pt2) X.env = pure (some [x, y, z]) := by rfl)
    (hs : swapsWithSole [.Tuple [.Name x px, .Name y py, .Name z pz] kt pt] (.Tuple [a, b, c] k2 pt2) pos.line X.env = pure false := by rfl) :
    PS X (.Assign [.Tuple [.Name x px, .Name y py, .Name z pz] kt pt] (.Tuple [a, b, c] k2 pt2) pos) (tS (dPar [i, j, l] g)) := PS.imp (ps_par3 hc hN hi hj hl hij hil hjl hx hy hz ha hw hs) fun Dn σ H h => by
  have k := t_par h
  obtain ⟨A, F, env, fp, S, ss, env', hf, q⟩ := k
  refine ⟨A, F, env, fp, S, ss, env', hf, fun vs F' H' fp' qs a b c => ?_⟩
  obtain ⟨hl, q⟩ := q vs F' H' fp' qs a b c
  match vs, hl with
  | [v, w, u], _ => exact ⟨v, w, u, rfl, q⟩
theorem ps_parT' {tg : List Expr} {kt : Nat} {pt : Pos} {es : List Expr} {k2 : Nat} {pt2 : Pos} {is : List Nat} (hz : is.length ≤ 100) (ha : PA X es (tTs g)) (hg : PG X (.Tuple tg kt pt) (gPat X.K (.tup (is.map .name))))
    (hs : swapsWithSole [.Tuple tg kt pt] (.Tuple es k2 pt2) pos.line X.env = pure false := by rfl) (hw : swappedStores [.Tuple tg kt pt] (.Tuple es k2 pt2) X.env = pure none := by rfl)
    (h1 : (assignEach [.Tuple tg kt pt] X.env).map (·.2) = [assign (.Tuple tg kt pt) X.env] := by rfl) :
    PS X (.Assign [.Tuple tg kt pt] (.Tuple es k2 pt2) pos) (tS (dPar is g)) := PS.imp (ps_asg (pe_tup ha) hg hs hw h1) fun Dn σ H h => t_parT hz h
end

/-! ### defs -/
def Sl.res : Sl → Bool
  | .dat _ => true
  | .own _ => true
  | .ownLL _ => true
  | .un => false
  | .io _ => false
  | .fix _ => false
abbrev Sem' := List D → List D → Option (Sl × List D)
theorem SlOk.anyA {A A' : Addr} {F H : Hp} {s : Sl} {o : Option V} {q : List Addr} (h : SlOk A F H s o q) (r : s.res = true) : SlOk A' F H s o q := by
  cases s with
  | un => cases r
  | fix _ => cases r
  | io d => cases r
  | dat d => exact h
  | own d => exact h
  | ownLL d => exact h
/-- what a def promises: of its first argument, if io, that it is a list of ours and what it holds behind -/
def spD (io : Bool) (n : Nat) (sem : Sem') : Sp := fun vs H Q E => vs.length = n ∧ ∃ (A : Addr) (F : Hp) (xs0 ds : List D) (vr : List V), Same F H ∧
  vs = (if io = true then [V.ref A] else []) ++ vr ∧ RbA F vr ds ∧ (io = true → View F H (.ref A) (.list xs0) ∧ F A = none) ∧ (io = false → xs0 = []) ∧
  ∃ s xs1, sem xs0 ds = some (s, xs1) ∧ ∀ v F' H' q, Tr F H (fun a => io = true ∧ a = A) F' H' (fun a => (io = true ∧ a = A) ∨ a ∈ q) → Same F' H' → SlOk A F' H' s (some v) q → s.res = true →
    (∀ a ∈ q, F' a = none ∧ ¬ (io = true ∧ a = A)) → (io = true → View F' H' (.ref A) (.list xs1) ∧ F' A = none) → Q v H'
def dCall (sem : Sem') (g : BAE) : RE := fun env => (g env).bind fun p => (resBs p.2 p.1).bind fun r => (sem [] r.1).map fun o => (.val o.1, r.2)
def dCallIo (sem : Sem') (i : Nat) (g : BAE) : RE := fun env => (g env).bind fun p => match p.1 with
  | .slot j :: bs => if j = i then (resBs p.2 bs).bind fun r => (lstAt r.2 i).bind fun l => (sem l.2 r.1).map fun o => (.val o.1, putL r.2 i l.1 (.list o.2)) else none
  | _ => none
section
variable {A : Addr} {F H F' H' F2 H2 : Hp} {W W' W2 : Addr → Prop} {σ : L2.St} {env env' : Env'} {fp fp' : Nat → List Addr}
theorem t_call {sem : Sem'} {n : Nat} {g : BAE} {σ : L2.St} {H : Hp} {Q : VK} {E : XK} (hn : ∀ env bs e, g env = some (bs, e) → bs.length = n) (h : tR (dCall sem g) σ H Q) : tCall (spD false n sem) [] E (tOs g) σ H Q := by
  obtain ⟨A, F, env, fp, S, r, env', hf, q⟩ := h
  unfold dCall at hf
  cases e1 : g env with
  | none => rw [e1] at hf; cases hf
  | some p =>
    obtain ⟨bs, env1⟩ := p
    rw [e1] at hf
    refine ⟨A, F, env, fp, S, bs, env1, e1, fun vs F1 H1 fp1 S1 T1 ok1 => ?_⟩
    have hf : ((resBs env1 bs).bind fun r => (sem [] r.1).map fun o => (R.val o.1, r.2)) = some (r, env') := hf
    cases e2 : resBs env1 bs with
    | none => rw [e2] at hf; cases hf
    | some p2 =>
      obtain ⟨ds, env2⟩ := p2
      rw [e2] at hf
      have hf : ((sem [] ds).map fun o => (R.val o.1, env2)) = some (r, env') := hf
      obtain ⟨F2, fp2, S2, T2, ra⟩ := ress_ok S1 ok1 e2
      cases e3 : sem [] ds with
      | none => rw [e3] at hf; cases hf
      | some o =>
        obtain ⟨s, xs1⟩ := o
        rw [e3] at hf
        cases hf
        refine ⟨?_, A, F2, [], ds, vs, S2.ex, by rw [List.append_nil]; rfl, ra, (fun z => nomatch z), fun _ => rfl, s, xs1, e3, fun v F3 H3 q3 T3 ex3 ok3 hr hq _ => ?_⟩
        · rw [List.append_nil, ← Paired.length ok1]
          exact hn _ _ _ e1
        · have T3' : Tr F2 H1 (fun _ => False) F3 H3 (fun a => a ∈ q3) := (T3.wide (V0 := fun _ => False) fun a x => nomatch x.1).weak fun a x => .inr x
          have res : Res A F2 H1 s v F3 H3 q3 := ⟨T3', ex3, ok3, (fun z => by subst z; cases hr), fun a m => (hq a m).1⟩
          obtain ⟨a, b, c⟩ := res.fin S2
          exact q v F3 H3 fp2 q3 a ((T1.trans T2).trans b) c
theorem t_callIo {sem : Sem'} {n i : Nat} {g : BAE} {σ : L2.St} {H : Hp} {Q : VK} {E : XK} (hn : ∀ env bs e, g env = some (bs, e) → bs.length = n) (h : tR (dCallIo sem i g) σ H Q) : tCall (spD true n sem) [] E (tOs g) σ H Q := by
  obtain ⟨A, F, env, fp, S, r, env', hf, q⟩ := h
  unfold dCallIo at hf
  cases e1 : g env with
  | none => rw [e1] at hf; cases hf
  | some p =>
    obtain ⟨bs0, env1⟩ := p
    rw [e1] at hf
    refine ⟨A, F, env, fp, S, bs0, env1, e1, fun vs0 F1 H1 fp1 S1 T1 ok1 => ?_⟩
    cases bs0 with
    | nil => cases hf
    | cons b0 bs =>
      cases b0 with
      | d x => cases hf
      | slot j =>
        cases ok1 with
        | @cons _ v0 _ vs hv ok1 =>
          have hf : (if j = i then (resBs env1 bs).bind fun r => (lstAt r.2 i).bind fun l => (sem l.2 r.1).map fun o => (R.val o.1, putL r.2 i l.1 (.list o.2)) else none) = some (r, env') := hf
          split at hf
          · rename_i ej
            subst ej
            have hv : σ[j]? = some (some v0) := hv
            cases e2 : resBs env1 bs with
            | none => rw [e2] at hf; cases hf
            | some p2 =>
              obtain ⟨ds, env2⟩ := p2
              rw [e2] at hf
              have hf : ((lstAt env2 j).bind fun l => (sem l.2 ds).map fun o => (R.val o.1, putL env2 j l.1 (.list o.2))) = some (r, env') := hf
              obtain ⟨F2, fp2, S2, T2, ra⟩ := ress_ok S1 ok1 e2
              cases e4 : lstAt env2 j with
              | none => rw [e4] at hf; cases hf
              | some l =>
                obtain ⟨b, xs⟩ := l
                rw [e4] at hf
                have hf : ((sem xs ds).map fun o => (R.val o.1, putL env2 j b (.list o.2))) = some (r, env') := hf
                cases e3 : sem xs ds with
                | none => rw [e3] at hf; cases hf
                | some o =>
                  obtain ⟨s, xs1⟩ := o
                  rw [e3] at hf
                  cases hf
                  have at2 := lst_at e4
                  obtain ⟨a, ha, hp, w, hA⟩ := own_ok S2 at2
                  have ev : v0 = .ref a := by rw [hv] at ha; cases ha; rfl
                  subst ev
                  have hin : inFp fp2 a := ⟨j, by rw [hp]; exact List.mem_cons_self⟩
                  refine ⟨?_, a, F2, xs, ds, vs, S2.ex, by rw [List.append_nil]; rfl, ra, fun _ => ⟨w, S2.freeW hin⟩, (fun z => nomatch z), s, xs1, e3, fun v F3 H3 q3 T3 ex3 ok3 hr hq w3 => ?_⟩
                  · rw [List.append_nil]
                    have hl := hn _ _ _ e1
                    rw [← hl, List.length_cons, List.length_cons, Paired.length ok1]
                  · obtain ⟨w3, hF3⟩ := w3 rfl
                    have T3' : Tr F2 H1 (fun c => c = a) F3 H3 (fun c => c = a ∨ c ∈ q3) := (T3.wide (V0 := fun c => c = a) fun c x => x.2).weak fun c x => x.imp (fun x => ⟨rfl, x⟩) id
                    have slots : ∀ k, k ≠ j → SlOk A F3 H3 ((env2[k]?).getD .un) ((σ[k]?).getD none) (fp2 k) ∧ ∀ c ∈ fp2 k, F3 c = none ∧ ¬ (c = a ∨ c ∈ q3) := fun k hk =>
                      (S2.slot k).stay (W := fun c => c = a) (fun c hc => ⟨S2.free k c hc, fun z => hk (S2.disj k j c hc (by rw [hp, z]; exact List.mem_cons_self))⟩) T3'
                    have S3 : StOk A F3 H3 σ (putL env2 j b (.list xs1)) fp2 := by
                      refine ⟨by unfold putL; rw [List.length_set]; exact S2.len, fun k => ?_, S2.disj, fun k c hc => ?_, ex3⟩
                      · unfold putL
                        by_cases ek : k = j
                        · subst ek
                          rw [getD_set_same (StOk.lt at2), ha, hp]
                          cases b with
                          | false => exact ⟨a, rfl, rfl, w3⟩
                          | true =>
                            have ea := hA rfl
                            subst ea
                            exact ⟨rfl, rfl, w3⟩
                        · rw [getD_set_ne ek]
                          exact (slots k ek).1
                      · by_cases ek : k = j
                        · subst ek
                          rw [hp] at hc
                          simp at hc
                          subst hc
                          exact hF3
                        · exact ((slots k ek).2 c hc).1
                    have T4 : Tr F2 H1 (inFp fp2) F3 H3 (fun c => inFp fp2 c ∨ c ∈ q3) := by
                      have z := T3'.wide (V0 := inFp fp2) fun c x => by rw [x]; exact hin
                      exact ⟨z.keep, z.grow, z.newF, fun c x => x.elim .inl fun x => z.newW c (.inr x)⟩
                    refine q v F3 H3 fp2 q3 S3 ((T1.trans T2).trans T4) ⟨(fun z => by subst z; cases hr), ok3.anyA hr, fun c m => ⟨(hq c m).1, fun wc => ?_⟩⟩
                    obtain ⟨k, hk⟩ := wc
                    by_cases ek : k = j
                    · subst ek
                      rw [hp] at hk
                      simp at hk
                      exact (hq c m).2 ⟨rfl, hk⟩
                    · exact ((slots k ek).2 c hk).2 (.inr m)
          · cases hf
end
/-- a def's body run -/
def env0 (io : Bool) (N : Nat) (xs0 ds : List D) : Env' := (if io = true then [Sl.io (.list xs0)] else []) ++ ds.map .dat ++ List.replicate (N - ((if io = true then 1 else 0) + ds.length)) .un
def fin0 (io : Bool) (s : Sl) (e : Env') : Option (Sl × List D) := if s.res = true then if io = true then match (e[0]? : Option Sl) with
    | some (.io (.list xs1)) => some (s, xs1)
    | _ => none
  else some (s, []) else none
def runBody (io : Bool) (N : Nat) (g : SE) : Sem' := fun xs0 ds => (g (env0 io N xs0 ds)).bind fun fl => match fl with
  | .rt s e => fin0 io s e
  | .nx e => fin0 io (.dat .none) e
  | .bk _ => none
  | .ct _ => none
section
variable {A : Addr} {F H F' H' F2 H2 : Hp} {W W' W2 : Addr → Prop} {σ : L2.St} {env env' : Env'} {fp fp' : Nat → List Addr}
theorem getD_app_left {α : Type} {l m : List α} {i : Nat} {d : α} (h : i < l.length) : ((l ++ m)[i]?).getD d = (l[i]?).getD d := by rw [List.getElem?_append_left h]
theorem getD_rep {α : Type} {n i : Nat} {d : α} : ((List.replicate n d)[i]?).getD d = d := by
  rw [List.getElem?_replicate]; split <;> rfl
theorem body_start {io : Bool} {N : List Str} {xs0 ds : List D} {vr : List V} (ex : Same F H) (ra : RbA F vr ds) (hio : io = true → View F H (.ref A) (.list xs0) ∧ F A = none)
    (hl : ((if io = true then [V.ref A] else []) ++ vr).length ≤ N.length) : ∃ fp, StOk A F H (L2.start N ((if io = true then [V.ref A] else []) ++ vr)) (env0 io N.length xs0 ds) fp ∧ ∀ a, inFp fp a ↔ (io = true ∧ a = A) := by
  have hlen := ra.length
  cases io with
  | false =>
    refine ⟨fun _ => [], ⟨?_, fun i => ?_, (fun i j a h => nomatch h), (fun i a h => nomatch h), ex⟩, fun a => ⟨fun ⟨i, h⟩ => (nomatch h), (fun h => nomatch h.1)⟩⟩
    · have hl : vr.length ≤ N.length := hl
      show (L2.start N vr).length = ([] ++ ds.map Sl.dat ++ List.replicate (N.length - (0 + ds.length)) Sl.un).length
      unfold L2.start
      simp only [List.length_append, List.length_map, List.length_replicate, List.length_nil]
      omega
    · show SlOk A F H ((([] ++ ds.map Sl.dat ++ List.replicate (N.length - (0 + ds.length)) Sl.un)[i]?).getD .un) (((L2.start N vr)[i]?).getD none) []
      rw [List.nil_append]
      unfold L2.start
      by_cases hi : i < ds.length
      · rw [getD_app_left (by simpa using hi), getD_app_left (by rw [List.length_map]; omega)]
        obtain ⟨v, hv, rb⟩ := ra.get (List.getElem?_eq_getElem hi)
        rw [List.getElem?_map, List.getElem?_map, List.getElem?_eq_getElem hi, hv]
        exact ⟨rfl, v, rfl, rb⟩
      · rw [List.getElem?_append_right (by simpa using hi), getD_rep]
        exact (rfl : ([] : List Addr) = [])
  | true =>
    obtain ⟨w, hF⟩ := hio rfl
    refine ⟨fset (fun _ => []) 0 [A], ⟨?_, fun i => ?_, fun i j a h k => ?_, fun i a h => ?_, ex⟩, fun a => ⟨fun ⟨i, h⟩ => ?_, fun h => ⟨0, by rw [fset_same, h.2]; exact List.mem_cons_self⟩⟩⟩
    · have hl : (V.ref A :: vr).length ≤ N.length := hl
      rw [List.length_cons] at hl
      show (L2.start N (V.ref A :: vr)).length = (Sl.io (.list xs0) :: (ds.map Sl.dat ++ List.replicate (N.length - (1 + ds.length)) Sl.un)).length
      unfold L2.start
      simp only [List.length_append, List.length_map, List.length_replicate, List.length_cons]
      omega
    · show SlOk A F H (((Sl.io (.list xs0) :: (ds.map Sl.dat ++ List.replicate (N.length - (1 + ds.length)) Sl.un))[i]?).getD .un) (((L2.start N (V.ref A :: vr))[i]?).getD none) (fset (fun _ => []) 0 [A] i)
      unfold L2.start
      cases i with
      | zero => exact ⟨rfl, rfl, w⟩
      | succ i =>
        rw [fset_ne (Nat.succ_ne_zero i), List.getElem?_cons_succ, List.map_cons, List.cons_append, List.getElem?_cons_succ]
        by_cases hi : i < ds.length
        · rw [getD_app_left (by simpa using hi), getD_app_left (by rw [List.length_map]; omega)]
          obtain ⟨v, hv, rb⟩ := ra.get (List.getElem?_eq_getElem hi)
          rw [List.getElem?_map, List.getElem?_map, List.getElem?_eq_getElem hi, hv]
          exact ⟨rfl, v, rfl, rb⟩
        · rw [List.getElem?_append_right (by simpa using hi), getD_rep]
          exact (rfl : ([] : List Addr) = [])
    · by_cases hi : i = 0
      · by_cases hj : j = 0
        · rw [hi, hj]
        · rw [fset_ne hj] at k; cases k
      · rw [fset_ne hi] at h; cases h
    · by_cases hi : i = 0
      · rw [hi, fset_same] at h; simp at h; subst h; exact hF
      · rw [fset_ne hi] at h; cases h
    · by_cases hi : i = 0
      · rw [hi, fset_same] at h; simp at h; exact ⟨rfl, h⟩
      · rw [fset_ne hi] at h; cases h
theorem fin_ok {io : Bool} {s : Sl} {e : Env'} {o : Sl × List D} (S : StOk A F' H' σ e fp') (h : fin0 io s e = some o) : o.1 = s ∧ s.res = true ∧ (io = true → View F' H' (.ref A) (.list o.2) ∧ F' A = none ∧ inFp fp' A) := by
  unfold fin0 at h
  split at h
  · rename_i hr
    cases io with
    | false => cases h; exact ⟨rfl, hr, (fun z => nomatch z)⟩
    | true =>
      rw [if_pos rfl] at h
      cases e0 : e[0]? with
      | none => rw [e0] at h; cases h
      | some s0 =>
        rw [e0] at h
        cases s0 with
        | io d =>
          cases d with
          | list xs1 =>
            cases h
            refine ⟨rfl, hr, fun _ => ?_⟩
            obtain ⟨h1, h2, h3⟩ := S.at e0
            have hin : A ∈ fp' 0 := by rw [h2]; exact List.mem_cons_self
            exact ⟨h3, S.free 0 A hin, 0, hin⟩
          | none => cases h
          | bool _ => cases h
          | int _ => cases h
          | str _ => cases h
          | tuple _ => cases h
          | dict _ => cases h
        | un => cases h
        | dat _ => cases h
        | own _ => cases h
        | ownLL _ => cases h
        | fix _ => cases h
  · cases h
end
section
variable {P : Program} {w : World} {K : PySem.W.Frag} {mg : Str → Option Value} {base : Heap}
/-- a body's reading from what the def promises -/
theorem t_body {N : List Str} {n : Nat} {io : Bool} {g : SE} {vs : List V} {H : Hp} {Q : VK} {E : XK} (hNp : n ≤ N.length) (h : spD io n (runBody io N.length g) vs H Q E) :
    tS g { nx := fun _ H' => Q .non H', rt := Q } (L2.start N vs) H := by
  obtain ⟨hl, A, F0, xs0, ds, vr, ex, rfl, ra, hio, _, sr, xs1, hsem, q⟩ := h
  obtain ⟨fp, S0, hfp⟩ := body_start (N := N) ex ra hio (by rw [hl]; exact hNp)
  unfold runBody at hsem
  cases e1 : g (env0 io N.length xs0 ds) with
  | none => rw [e1] at hsem; cases hsem
  | some fl =>
    rw [e1] at hsem
    refine ⟨A, F0, _, fp, S0, fl, e1, ?_⟩
    have hW : ∀ {F' H' : Hp} {W' : Addr → Prop}, Tr F0 H (inFp fp) F' H' W' → Tr F0 H (fun a => io = true ∧ a = A) F' H' W' := fun t => t.wide fun a x => (hfp a).mp x
    cases fl with
    | rt s' e =>
      intro v σ' F' H' fp' q' S' T ok ne hq
      have hf : fin0 io s' e = some (sr, xs1) := hsem
      obtain ⟨h1, h2, h3⟩ := fin_ok S' hf
      cases h1
      refine q v F' H' q' ?_ S'.ex ok h2 (fun a m => ⟨(hq a m).1, fun z => ?_⟩) fun z => ⟨(h3 z).1, (h3 z).2.1⟩
      · exact (hW T).weak fun a x => x.elim (fun x => .inl (by obtain ⟨z, rfl⟩ := x; exact (h3 z).2.2)) .inr
      · obtain ⟨z, rfl⟩ := z
        exact (hq _ m).2 (h3 z).2.2
    | nx e =>
      intro σ' F' H' fp' S' T
      have hf : fin0 io (.dat .none) e = some (sr, xs1) := hsem
      obtain ⟨h1, h2, h3⟩ := fin_ok S' hf
      cases h1
      refine q .non F' H' [] ?_ S'.ex ⟨rfl, _, rfl, .non⟩ h2 (fun a m => nomatch m) fun z => ⟨(h3 z).1, (h3 z).2.1⟩
      exact (hW T).weak fun a x => x.elim (fun x => by obtain ⟨z, rfl⟩ := x; exact (h3 z).2.2) fun x => nomatch x
    | bk e => cases hsem
    | ct e => cases hsem
/-- THE RULE for a def -/
theorem fn_d {x qual : Str} {st : Stmt} {f : Addr} {fd : FuncData} {N ps : List Str} {k : Nat} (io : Bool) {g : SE} (F : Fun K x qual st f fd) (S : FnScope N ps (defScope st)) (hNp : ps.length ≤ N.length)
    (hbody : ∀ (cdv : Value) (A : Around) (outer : List Env) (s : Shared) (H : Hp) (E : XK), Room k (A.deeper (envOfC qual (defScope st) s.heap.objs.size f cdv)) →
      PSs (cxOf CX0 P w K mg base N qual (defScope st) f cdv A outer s H E).nox (defBody st) (tS g)) : FnOk P w K mg base CX0 (k + 1) f fd ps (spD io ps.length (runBody io N.length g)) := by
  refine F.ok S (fun vs H Q E h => h.1) fun cdv A0 outer s H vs Q E hr h => ⟨_, hbody cdv A0 outer s H E hr, t_body hNp h⟩
end
section
variable {X : Cx} {CX : CXT} {k : Nat} {f : Addr} {fd : FuncData} {ps : List Str} {E : XK} {x : Str} {p pos : Pos} {e : Expr} {es : List Expr} {g : BAE} {sem : Sem'}
theorem pr_call {n : Nat} (Fo : FnOk X.prog X.w X.K X.mg X.base CX k f fd ps (spD false n sem)) (hr : Room k X.A) (hg : Gl X x) (hm : X.mg x = some (.ref f)) (hk : PySem.W.keepIn X.K (.ref f) = true) (hb : Binds X.K fd ps []) (hx : Passes CX X E)
    (ha : PA X (e :: es) (tOs g)) (hn : ∀ env bs e, g env = some (bs, e) → bs.length = n) (hdb : (x == ("__debug__" : Str)) = false := by decide) (he : starEach (e :: es) X.env = (false, eval e X.env) :: starEach es X.env := by rfl) (hpl : (backTo pos (starEach es X.env)).any (·.1) = false := by rfl) :
    PE X (.Call (.Name x p) (e :: es) [] pos) (tR (dCall sem g)) := PE.imp (pe_call Fo hr hg hm hk hb .nil hx ha hdb he hpl) fun _ _ _ h => t_call hn h
theorem pr_callIo {n i : Nat} (Fo : FnOk X.prog X.w X.K X.mg X.base CX k f fd ps (spD true n sem)) (hr : Room k X.A) (hg : Gl X x) (hm : X.mg x = some (.ref f)) (hk : PySem.W.keepIn X.K (.ref f) = true) (hb : Binds X.K fd ps []) (hx : Passes CX X E)
    (ha : PA X (e :: es) (tOs g)) (hn : ∀ env bs e, g env = some (bs, e) → bs.length = n) (hdb : (x == ("__debug__" : Str)) = false := by decide) (he : starEach (e :: es) X.env = (false, eval e X.env) :: starEach es X.env := by rfl) (hpl : (backTo pos (starEach es X.env)).any (·.1) = false := by rfl) :
    PE X (.Call (.Name x p) (e :: es) [] pos) (tR (dCallIo sem i g)) := PE.imp (pe_call Fo hr hg hm hk hb .nil hx ha hdb he hpl) fun _ _ _ h => t_callIo hn h
end
theorem len_nil : ∀ env bs e, dNil env = some (bs, e) → bs.length = 0 := fun env bs e h => by cases h; rfl
theorem len_cons {f : BE} {g : BAE} {n : Nat} (h : ∀ env bs e, g env = some (bs, e) → bs.length = n) : ∀ env bs e, dCons f g env = some (bs, e) → bs.length = n + 1 := fun env bs e hf => by
  unfold dCons at hf
  cases e1 : f env with
  | none => rw [e1] at hf; cases hf
  | some p =>
    rw [e1] at hf
    have hf : ((g p.2).map fun p2 => (p.1 :: p2.1, p2.2)) = some (bs, e) := hf
    cases e2 : g p.2 with
    | none => rw [e2] at hf; cases hf
    | some p2 =>
      rw [e2] at hf
      cases hf
      rw [List.length_cons, h _ _ _ e2]
end DL
namespace DL
open PySem PySem.Spec PyProof.Rows L2

/-! ### operators -/
def addD : D → D → Option Sl
  | .int i, .int j => some (.dat (.int (i + j)))
  | .str x, .str y => if x.length + y.length ≤ szMax then some (.dat (.str (x ++ y))) else none
  | .list xs, .list ys => if xs.length + ys.length ≤ szMax then some (.own (.list (xs ++ ys))) else none
  | .tuple xs, .tuple ys => if xs.length + ys.length ≤ szMax then some (.dat (.tuple (xs ++ ys))) else none
  | _, _ => none
def rAddU (K : PySem.W.Frag) : R2 := fun x y H Q => rI0 (fun i j => .int (i + j)) x y H Q ∨ (rCat x y H Q ∨ (rCatA K x y H Q ∨ (∃ i j, x = .str i ∧ y = .str j ∧ i.length + j.length ≤ sizeLine ∧ Q (.str (i ++ j)) H)))
theorem op_addU {X : Cx} : OpR X (binaryOp .Add) (rAddU X.K) := OpR.or op_add (OpR.or op_cat (OpR.or op_catA op_add_str))
theorem View.tupRb {F H : Hp} {v : V} {ds : List D} (h : View F H v (.tuple ds)) : Rb F v (.tuple ds) := by
  cases h with
  | tup g _ r => exact .tup g r
theorem sp_add {K : PySem.W.Frag} : OpSpec (rAddU K) addD := by
  intro A F H v1 v2 d1 d2 s Q ex w1 w2 hs k
  cases w1 with
  | int i =>
    cases w2 with
    | int j => cases hs; exact .inl ⟨i, j, rfl, rfl, k _ F H [] (Res.old ex (.int _))⟩
    | _ => cases hs
  | str x =>
    cases w2 with
    | str y =>
      simp only [addD] at hs
      split at hs
      · rename_i hz; cases hs; exact .inr (.inr (.inr ⟨x, y, rfl, rfl, sz_le hz, k _ F H [] (Res.old ex (.str _))⟩))
      · cases hs
    | _ => cases hs
  | lst h1 r1 =>
    cases w2 with
    | lst h2 r2 =>
      simp only [addD] at hs
      split at hs
      · rename_i hz
        cases hs
        exact .inr (.inl ⟨_, _, _, _, rfl, rfl, h1, h2, by rw [r1.length, r2.length]; exact sz_le hz, fun p hp => k _ _ _ _ (Res.newLst ex hp (r1.app r2))⟩)
      · cases hs
    | _ => cases hs
  | @tup a vs xs g1 h1 r1 =>
    cases w2 with
    | @tup b ws ys g2 h2 r2 =>
      simp only [addD] at hs
      split at hs
      · rename_i hz
        cases hs
        refine .inr (.inr (.inl ⟨_, _, _, _, rfl, rfl, SqT.of h1, SqT.of h2, by rw [r1.length, r2.length]; exact sz_le hz, fun e => ?_, fun _ e => ?_, fun _ _ p hp => k _ _ _ _ (Res.newTup ex hp (r1.app r2))⟩))
        · subst e
          cases r1
          exact k _ F H [] (Res.old ex (.tup g2 r2))
        · subst e
          cases r2
          rw [List.append_nil] at k
          exact k _ F H [] (Res.old ex (.tup g1 r1))
      · cases hs
    | _ => cases hs
  | _ => cases hs
def subD : D → D → Option Sl
  | .int i, .int j => some (.dat (.int (i - j)))
  | _, _ => none
theorem sp_sub : OpSpec (rI0 fun i j => .int (i - j)) subD := by
  intro A F H v1 v2 d1 d2 s Q ex w1 w2 hs k
  cases w1 with
  | int i =>
    cases w2 with
    | int j => cases hs; exact ⟨i, j, rfl, rfl, k _ F H [] (Res.old ex (.int _))⟩
    | _ => cases hs
  | _ => cases hs
instance (i j : Int) : Decidable (CMul i j) := by unfold CMul; infer_instance
def bigI : Nat := 1152921504606846976
def mulD : D → D → Option Sl
  | .int i, .int j => if i.natAbs ≤ bigI ∨ j.natAbs ≤ bigI then some (.dat (.int (i * j))) else none
  | .list xs, .int k => if k.natAbs ≤ szMax ∧ xs.length * k.toNat ≤ szMax then some (.own (.list (List.replicate k.toNat xs).flatten)) else none
  | .tuple xs, .int k => if xs ≠ [] ∧ 2 ≤ k.toNat ∧ k.toNat ≤ 1000 ∧ xs.length ≤ 1000 then some (.dat (.tuple (List.replicate k.toNat xs).flatten)) else none
  | .str x, .int k => if 1 ≤ k ∧ k ≤ 100000 ∧ x.length * k.toNat ≤ 100000 then some (.dat (.str (Txt.mul x k))) else none
  | _, _ => none
def rMulS : R2 := fun x y H Q => ∃ i k, x = .str i ∧ y = .int k ∧ (1 ≤ k ∧ k ≤ 100000 ∧ i.length * k.toNat ≤ 100000) ∧ Q (.str (Txt.mul i k)) H
theorem op_mulS {X : Cx} : OpR X (binaryOp .Mult) rMulS := by
  intro pins s σ H x y v u Q I rx ry h
  obtain ⟨i, k, rfl, rfl, ⟨h1, h2, h3⟩, q⟩ := h
  obtain ⟨t, rfl⟩ := rx
  obtain ⟨t', rfl⟩ := ry
  have z : (sizeLine : Nat) ≥ 100000 := by decide
  refine SB.mul ⟨?_, fun _ _ => ?_, fun _ _ => ?_⟩ fun t' tk => ⟨.str (Txt.mul i k), H, I.tok _, ⟨_, rfl⟩, q⟩
  · rw [decide_eq_false (by omega), decide_eq_false (by omega)]; rfl
  · have d : (2 ^ 63 - 1 : Int) / k ≥ 100000 := by
      refine (Int.le_ediv_iff_mul_le (by omega)).mpr ?_
      omega
    have hl : i.length ≤ i.length * k.toNat := Nat.le_mul_of_pos_right _ (by omega)
    omega
  · show decide (_ > sizeLine) = false
    rw [decide_eq_false (by omega)]
def rMulU (K : PySem.W.Frag) : R2 := fun x y H Q => rI CMul (fun i j => .int (i * j)) x y H Q ∨ (rRep x y H Q ∨ (rRepT K x y H Q ∨ rMulS x y H Q))
theorem op_mulU {X : Cx} : OpR X (binaryOp .Mult) (rMulU X.K) := OpR.or op_mul (OpR.or op_rep (OpR.or op_repT op_mulS))
theorem sp_mul {K : PySem.W.Frag} : OpSpec (rMulU K) mulD := by
  intro A F H v1 v2 d1 d2 s Q ex w1 w2 hs k
  cases w1 with
  | int i =>
    cases w2 with
    | int j =>
      simp only [mulD] at hs
      split at hs
      · rename_i hc; cases hs; unfold bigI at hc; exact .inl ⟨i, j, rfl, rfl, (by unfold CMul; omega), k _ F H [] (Res.old ex (.int _))⟩
      · cases hs
    | _ => cases hs
  | lst h1 r1 =>
    cases w2 with
    | int j =>
      simp only [mulD] at hs
      split at hs
      · rename_i hc
        cases hs
        exact .inr (.inl ⟨_, j, _, rfl, rfl, h1, (by have := hc.1; unfold szMax at this; omega), (by have := hc.1; unfold szMax at this; omega), by rw [r1.length]; exact sz_le hc.2, fun p hp => k _ _ _ _ (Res.newLst ex hp (r1.rep _))⟩)
      · cases hs
    | _ => cases hs
  | tup g1 h1 r1 =>
    cases w2 with
    | int j =>
      simp only [mulD] at hs
      split at hs
      · rename_i hc
        cases hs
        refine .inr (.inr (.inl ⟨_, j, _, rfl, rfl, SqT.of h1, fun e => ?_, (by have := hc.2.1; omega), (by have := hc.2.2.1; omega), by rw [r1.length]; exact hc.2.2.2, fun p hp => k _ _ _ _ (Res.newTup ex hp (r1.rep _))⟩))
        subst e
        cases r1
        exact hc.1 rfl
      · cases hs
    | _ => cases hs
  | str i =>
    cases w2 with
    | int j =>
      simp only [mulD] at hs
      split at hs
      · rename_i hc; cases hs; exact .inr (.inr (.inr ⟨i, j, rfl, rfl, hc, k _ F H [] (Res.old ex (.str _))⟩))
      · cases hs
    | _ => cases hs
  | _ => cases hs
def cmpD (p : Int → Int → Bool) : D → D → Option Sl
  | .int i, .int j => some (.dat (.bool (p i j)))
  | _, _ => none
theorem sp_cmp (p : Int → Int → Bool) : OpSpec (rI0 fun i j => .bl (p i j)) (cmpD p) := by
  intro A F H v1 v2 d1 d2 s Q ex w1 w2 hs k
  cases w1 with
  | int i =>
    cases w2 with
    | int j => cases hs; exact ⟨i, j, rfl, rfl, k _ F H [] (Res.old ex (.bl _))⟩
    | _ => cases hs
  | _ => cases hs
/-! ### == -/
mutual
theorem Rb.dp {K : PySem.W.Frag} {F H : Hp} (e : Same F H) : ∀ {v : V} {d : D}, Rb F v d → PyData.canLay0 d = true → Dp K H v d
  | _, _, .non, _ => .non
  | _, _, .bl b, _ => .bl b
  | _, _, .int i, _ => .int i
  | _, _, .str x, _ => .str x
  | _, _, .lst h r, c => .lst (SqL.of (e _ _ h)) (RbA.dp e r (by simpa [PyData.canLay0] using c))
  | _, _, .tup h r, c => .tup (SqT.of (e _ _ h)) (RbA.dp e r (by simpa [PyData.canLay0] using c))
  | _, _, .dK h r, c => by simp [PyData.canLay0] at c
  | _, _, .dT h n r, c => by simp [PyData.canLay0] at c
theorem RbA.dp {K : PySem.W.Frag} {F H : Hp} (e : Same F H) : ∀ {vs : List V} {ds : List D}, RbA F vs ds → PyData.canLayAll0 ds = true → DpAll K H vs ds
  | _, _, .nil, _ => .nil
  | _, _, .cons h r, c => by
    have c' := c
    rw [PyData.canLayAll0, Bool.and_eq_true] at c'
    exact .cons (Rb.dp e h c'.1) (RbA.dp e r c'.2)
end
theorem View.dp {K : PySem.W.Frag} {F H : Hp} {v : V} {d : D} (e : Same F H) (h : View F H v d) (c : PyData.canLay0 d = true) : Dp K H v d := by
  cases h with
  | non => exact .non
  | bl b => exact .bl b
  | int i => exact .int i
  | str x => exact .str x
  | lst h r => exact .lst (SqL.of h) (RbA.dp e r (by simpa [PyData.canLay0] using c))
  | tup _ h r => exact .tup (SqT.of h) (RbA.dp e r (by simpa [PyData.canLay0] using c))
  | dK h r => simp [PyData.canLay0] at c
  | dT h n r => simp [PyData.canLay0] at c
def eqD (a b : D) : Option Sl := if SeqAt.shaped a = true ∧ SeqAt.shaped b = true then some (.dat (.bool (PyData.eqv a b))) else match a, b with
  | .str x, .str y => some (.dat (.bool (x == y)))
  | _, _ => none
def neD (a b : D) : Option Sl := if SeqAt.shaped a = true ∧ SeqAt.shaped b = true then some (.dat (.bool (!PyData.eqv a b))) else match a, b with
  | .str x, .str y => some (.dat (.bool (!(x == y))))
  | _, _ => none
def rEqU (K : PySem.W.Frag) : R2 := fun x y H Q => rEqD K x y H Q ∨ rEq x y H Q
def rNeU (K : PySem.W.Frag) : R2 := fun x y H Q => rNeD K x y H Q ∨ rNe x y H Q
theorem op_eqU {X : Cx} (hu : X.A.units + 64 < cLine) : OpR X (compareOp .Eq) (rEqU X.K) := OpR.or (op_eqD hu) op_eq
theorem op_neU {X : Cx} (hu : X.A.units + 64 < cLine) : OpR X (compareOp .NotEq) (rNeU X.K) := OpR.or (op_neD hu) op_ne
theorem dec_str (x y : Str) : decide (V.str x = V.str y) = (x == y) := by
  by_cases h : x = y
  · subst h; rw [decide_eq_true rfl]; exact (beq_self_eq_true x).symm
  · rw [decide_eq_false (fun z => h (V.str.inj z))]; exact (beq_eq_false_iff_ne.mpr h).symm
theorem sp_eq {K : PySem.W.Frag} : OpSpec (rEqU K) eqD := by
  intro A F H v1 v2 d1 d2 s Q ex w1 w2 hs k
  unfold eqD at hs
  split at hs
  · rename_i hc
    cases hs
    exact .inl ⟨d1, d2, w1.dp ex (SeqAt.canLay_of_shaped hc.1), w2.dp ex (SeqAt.canLay_of_shaped hc.2), hc.1, hc.2, k _ F H [] (Res.old ex (.bl _))⟩
  · split at hs
    · cases hs
      cases w1
      cases w2
      exact .inr ⟨rfl, by rw [dec_str]; exact k _ F H [] (Res.old ex (.bl _))⟩
    · cases hs
theorem sp_ne {K : PySem.W.Frag} : OpSpec (rNeU K) neD := by
  intro A F H v1 v2 d1 d2 s Q ex w1 w2 hs k
  unfold neD at hs
  split at hs
  · rename_i hc
    cases hs
    exact .inl ⟨d1, d2, w1.dp ex (SeqAt.canLay_of_shaped hc.1), w2.dp ex (SeqAt.canLay_of_shaped hc.2), hc.1, hc.2, k _ F H [] (Res.old ex (.bl _))⟩
  · split at hs
    · cases hs
      cases w1
      cases w2
      exact .inr ⟨rfl, by rw [dec_str]; exact k _ F H [] (Res.old ex (.bl _))⟩
    · cases hs
/-! ### is -/
def isNone : D → Bool
  | .none => true
  | _ => false
def isN (neg : Bool) : D → D → Option Sl
  | a, .none => some (.dat (.bool (if neg then !isNone a else isNone a)))
  | _, _ => none
theorem view_none {F H : Hp} {v : V} {d : D} (h : View F H v d) : decide (v = .non) = isNone d := by cases h <;> first | rfl | exact decide_eq_false (nomatch ·)
theorem sp_isN : OpSpec (fun x y H Q => y = .non ∧ Q (.bl (decide (x = .non))) H) (isN false) := by
  intro A F H v1 v2 d1 d2 s Q ex w1 w2 hs k
  cases w2 with
  | non =>
    cases hs
    refine ⟨rfl, ?_⟩
    rw [view_none w1]
    exact k _ F H [] (Res.old ex (.bl _))
  | _ => cases hs
theorem sp_notN : OpSpec (fun x y H Q => y = .non ∧ Q (.bl (!decide (x = .non))) H) (isN true) := by
  intro A F H v1 v2 d1 d2 s Q ex w1 w2 hs k
  cases w2 with
  | non =>
    cases hs
    refine ⟨rfl, ?_⟩
    rw [view_none w1]
    exact k _ F H [] (Res.old ex (.bl _))
  | _ => cases hs
def isB (neg : Bool) : D → D → Option Sl
  | .bool a, .bool b => some (.dat (.bool (if neg then !decide (a = b) else decide (a = b))))
  | _, _ => none
theorem sp_isB : OpSpec rIsB (isB false) := by
  intro A F H v1 v2 d1 d2 s Q ex w1 w2 hs k
  cases w1 with
  | bl a =>
    cases w2 with
    | bl b => cases hs; exact ⟨a, b, rfl, rfl, k _ F H [] (Res.old ex (.bl _))⟩
    | _ => cases hs
  | _ => cases hs
theorem sp_notB : OpSpec rNotB (isB true) := by
  intro A F H v1 v2 d1 d2 s Q ex w1 w2 hs k
  cases w1 with
  | bl a =>
    cases w2 with
    | bl b => cases hs; exact ⟨a, b, rfl, rfl, k _ F H [] (Res.old ex (.bl _))⟩
    | _ => cases hs
  | _ => cases hs
/-! ### in, over texts -/
def strD : D → Option Str
  | .str x => some x
  | _ => none
def strsD : List D → Option (List Str)
  | [] => some []
  | d :: ds => (strD d).bind fun x => (strsD ds).map fun xs => x :: xs
theorem strs_vs {F : Hp} : ∀ {vs : List V} {ds : List D} {xs : List Str}, RbA F vs ds → strsD ds = some xs → vs = xs.map V.str
  | _, _, xs, .nil, h => by cases h; rfl
  | _, _, xs, .cons (d := d) (ds := ds) h r, e => by
    rw [strsD] at e
    cases h with
    | str x =>
      have e : ((strsD ds).map fun xs => x :: xs) = some xs := e
      cases e2 : strsD ds with
      | none => rw [e2] at e; cases e
      | some ys =>
        rw [e2] at e
        cases e
        rw [strs_vs r e2]; rfl
    | _ => cases e
def inD (neg : Bool) : D → D → Option Sl
  | .str x, .tuple ds => (strsD ds).map fun xs => .dat (.bool (if neg then !(xs.any fun y => y == x) else xs.any fun y => y == x))
  | .str x, .list ds => (strsD ds).map fun xs => .dat (.bool (if neg then !(xs.any fun y => y == x) else xs.any fun y => y == x))
  | _, _ => none
theorem inV_str (x : Str) : ∀ xs : List Str, inV (.str x) (xs.map V.str) = xs.any fun y => y == x
  | [] => rfl
  | y :: ys => by
    have := inV_str x ys
    unfold inV at this ⊢
    rw [List.map_cons, List.any_cons, List.any_cons, this]
    rfl
theorem flat_strs : ∀ xs : List Str, (xs.map V.str).all flatV = true
  | [] => rfl
  | y :: ys => by rw [List.map_cons, List.all_cons, flat_strs ys]; rfl
theorem sp_in {K : PySem.W.Frag} (neg : Bool) : OpSpec (rIn K neg) (inD neg) := by
  intro A F H v1 v2 d1 d2 s Q ex w1 w2 hs k
  cases w1 with
  | str x =>
    cases w2 with
    | @tup a vs ds g h r =>
      simp only [inD] at hs
      cases e : strsD ds with
      | none => rw [e] at hs; cases hs
      | some xs =>
        rw [e] at hs
        cases hs
        have ev := strs_vs r e
        subst ev
        refine ⟨_, _, rfl, .inr (SqT.of h), rfl, flat_strs xs, ?_⟩
        rw [inV_str]
        exact k _ F H [] (Res.old ex (.bl _))
    | @lst a vs ds h r =>
      simp only [inD] at hs
      cases e : strsD ds with
      | none => rw [e] at hs; cases hs
      | some xs =>
        rw [e] at hs
        cases hs
        have ev := strs_vs r e
        subst ev
        refine ⟨_, _, rfl, .inl (SqL.of h), rfl, flat_strs xs, ?_⟩
        rw [inV_str]
        exact k _ F H [] (Res.old ex (.bl _))
    | _ => cases hs
  | _ => cases hs
/-! ### xs[i] -/
def ixD : D → D → Option Sl
  | .list xs, .int i => (atI xs i).map .dat
  | .tuple xs, .int i => (atI xs i).map .dat
  | _, _ => none
theorem RbA.atI {F : Hp} {vs : List V} {ds : List D} (r : RbA F vs ds) {i : Int} {d : D} (h : L2.atI ds i = some d) : ∃ v, L2.atI vs i = some v ∧ Rb F v d := by
  unfold L2.atI at h ⊢
  rw [r.length]
  cases e : ixN ds.length i with
  | none => rw [e] at h; cases h
  | some j =>
    rw [e] at h
    exact r.get h
theorem sp_ix {K : PySem.W.Frag} : OpSpec (rIx K) ixD := by
  intro A F H v1 v2 d1 d2 s Q ex w1 w2 hs k
  cases w1 with
  | @lst a vs ds h r =>
    cases w2 with
    | int i =>
      simp only [ixD] at hs
      cases e : L2.atI ds i with
      | none => rw [e] at hs; cases hs
      | some d =>
        rw [e] at hs
        cases hs
        obtain ⟨v, hv, rb⟩ := r.atI e
        exact .inl ⟨_, _, i, v, rfl, rfl, SqL.of h, hv, k _ F H [] (Res.old ex rb)⟩
    | _ => cases hs
  | @tup a vs ds g h r =>
    cases w2 with
    | int i =>
      simp only [ixD] at hs
      cases e : L2.atI ds i with
      | none => rw [e] at hs; cases hs
      | some d =>
        rw [e] at hs
        cases hs
        obtain ⟨v, hv, rb⟩ := r.atI e
        exact .inr (.inl ⟨_, _, i, v, rfl, rfl, SqT.of h, hv, k _ F H [] (Res.old ex rb)⟩)
    | _ => cases hs
  | _ => cases hs
/-! ### slices -/
abbrev OE := Env' → Option (Option Int × Env')
def tOp' (f : OE) : TO := fun σ H Q => ∃ A F env fp, StOk A F H σ env fp ∧ ∃ o env', f env = some (o, env') ∧ ∀ F' H' fp', StOk A F' H' σ env' fp' → Tr F H (inFp fp) F' H' (inFp fp') → Q o H'
def dNoP : OE := fun env => some (none, env)
def intD : D → Option Int
  | .int i => some i
  | _ => none
def dPart (f : BE) : OE := fun env => (f env).bind fun p => (readB p.2 p.1).bind fun d => (intD d).map fun i => (some i, p.2)
section
variable {X : Cx} {e a : Expr} {ga : BE} {lo hi : Option Expr} {fl fh : OE} {pos p2 : Pos}
theorem PO.imp {X : Cx} {e : Option Expr} {t t' : TO} (h : PO X e t) (k : ∀ σ H Q, t' σ H Q → t σ H Q) : PO X e t' := ⟨fun pins s σ H Q I q => h.run pins s σ H Q I (k σ H Q q)⟩
theorem poo_none : PO X none (tOp' dNoP) := PO.imp po_none fun σ H Q h => by
  obtain ⟨A, F, env, fp, S, o, env', hf, q⟩ := h
  cases hf
  exact q F H fp S Tr.refl
theorem poo_some (h : PE X e (tO ga)) : PO X (some e) (tOp' (dPart ga)) := PO.imp (po_some h) fun σ H Q h => by
  obtain ⟨A, F, env, fp, S, o, env', hf, q⟩ := h
  unfold dPart at hf
  cases e1 : ga env with
  | none => rw [e1] at hf; cases hf
  | some p =>
    obtain ⟨b, env1⟩ := p
    rw [e1] at hf
    refine ⟨A, F, env, fp, S, b, env1, e1, fun v F1 H1 fp1 S1 T1 ok1 => ?_⟩
    have hf : ((readB env1 b).bind fun d => (intD d).map fun i => (some i, env1)) = some (o, env') := hf
    cases e2 : readB env1 b with
    | none => rw [e2] at hf; cases hf
    | some d =>
      rw [e2] at hf
      have w := read_view S1 ok1 e2
      cases w with
      | int i => cases hf; exact ⟨i, rfl, q F1 H1 fp1 S1 T1⟩
      | _ => cases hf
def cutD (xs : List D) (lo hi : Option Int) : List D := (xs.drop (HT.sIx xs.length 0 lo)).take (HT.sIx xs.length xs.length hi - HT.sIx xs.length 0 lo)
def slD : D → Option Int → Option Int → Option Sl
  | .list xs, lo, hi => some (.own (.list (cutD xs lo hi)))
  | .tuple xs, lo, hi => some (.dat (.tuple (cutD xs lo hi)))
  | _, _, _ => none
def dSl (f : BE) (fl fh : OE) : RE := fun env => (f env).bind fun p => (fl p.2).bind fun l => (fh l.2).bind fun h => (readB h.2 p.1).bind fun d => (slD d l.1 h.1).map fun s => (.val s, h.2)
theorem RbA.cut {F : Hp} {vs : List V} {ds : List D} (r : RbA F vs ds) (lo hi : Option Int) : RbA F (cutV vs lo hi) (cutD ds lo hi) := by
  unfold cutV cutD
  rw [r.length]
  exact RbA.take _ (RbA.drop _ r)
theorem cut_all {xs : List D} {lo hi : Option Int} (h : HT.sIx xs.length 0 lo = 0 ∧ HT.sIx xs.length xs.length hi = xs.length) : cutD xs lo hi = xs := by
  unfold cutD
  rw [h.1, h.2, List.drop_zero, Nat.sub_zero, List.take_length]
theorem pr_slice (he : PE X e (tO ga)) (hl : PO X lo (tOp' fl)) (hu : PO X hi (tOp' fh)) : PE X (.Subscript e (.Slice lo hi none p2) pos) (tR (dSl ga fl fh)) :=
  PE.imp (pe_slice (SlR.or sl_list sl_tupA) he hl hu) fun σ H Q h => by
    obtain ⟨A, F, env, fp, S, r, env', hf, q⟩ := h
    unfold dSl at hf
    cases e1 : ga env with
    | none => rw [e1] at hf; cases hf
    | some p =>
      obtain ⟨b, env1⟩ := p
      rw [e1] at hf
      refine ⟨A, F, env, fp, S, b, env1, e1, fun v F1 H1 fp1 S1 T1 ok1 => ?_⟩
      have hf : ((fl env1).bind fun l => (fh l.2).bind fun h => (readB h.2 b).bind fun d => (slD d l.1 h.1).map fun s => (R.val s, h.2)) = some (r, env') := hf
      cases e2 : fl env1 with
      | none => rw [e2] at hf; cases hf
      | some p =>
        obtain ⟨l, env2⟩ := p
        rw [e2] at hf
        refine ⟨A, F1, env1, fp1, S1, l, env2, e2, fun F2 H2 fp2 S2 T2 => ?_⟩
        have hf : ((fh env2).bind fun h => (readB h.2 b).bind fun d => (slD d l h.1).map fun s => (R.val s, h.2)) = some (r, env') := hf
        cases e3 : fh env2 with
        | none => rw [e3] at hf; cases hf
        | some p =>
          obtain ⟨h, env3⟩ := p
          rw [e3] at hf
          refine ⟨A, F2, env2, fp2, S2, h, env3, e3, fun F3 H3 fp3 S3 T3 => ?_⟩
          have hf : ((readB env3 b).bind fun d => (slD d l h).map fun s => (R.val s, env3)) = some (r, env') := hf
          cases e4 : readB env3 b with
          | none => rw [e4] at hf; cases hf
          | some d =>
            rw [e4] at hf
            have hf : ((slD d l h).map fun s => (R.val s, env3)) = some (r, env') := hf
            have w := read_view S3 ((ok1.mono T2.grow).mono T3.grow) e4
            have go : ∀ {s : Sl} {v : V} {F' H' : Hp} {qs : List Addr}, Res A F3 H3 s v F' H' qs → r = .val s → env' = env3 → Q v H' := fun {s v F' H' qs} res er ee => by
              subst er ee
              obtain ⟨a, b, c⟩ := res.fin S3
              exact q v F' H' fp3 qs a (((T1.trans T2).trans T3).trans b) c
            cases w with
            | lst hh rr =>
              cases hf
              exact .inl ⟨_, _, rfl, SqL.of hh, fun p hp => go (Res.newLst S3.ex hp (rr.cut l h)) rfl rfl⟩
            | tup g hh rr =>
              cases hf
              refine .inr ⟨_, _, rfl, SqT.of hh, fun hw => go (Res.old S3.ex (.tup g ?_)) rfl rfl, fun hw p hp => go (Res.newTup S3.ex hp (rr.cut l h)) rfl rfl⟩
              rw [rr.length] at hw
              rw [cut_all hw]
              exact rr
            | _ => cases hf
/-- xs[::-1] -/
def dRevL (f : BE) : RE := fun env => (f env).bind fun p => (readB p.2 p.1).bind fun d => match d with
  | .list xs => some (.val (.own (.list xs.reverse)), p.2)
  | _ => none
theorem pr_revL {k : Nat} {q1 q2 q3 : Pos} (he : PE X e (tO ga)) : PE X (.Subscript e (.Slice none none (some (.UnaryOp .USub (.Constant (.int 1) k q1) q2)) q3) pos) (tR (dRevL ga)) :=
  PE.imp (pe_revL he) fun σ H Q h => by
    obtain ⟨A, F, env, fp, S, r, env', hf, q⟩ := h
    unfold dRevL at hf
    cases e1 : ga env with
    | none => rw [e1] at hf; cases hf
    | some p =>
      obtain ⟨b, env1⟩ := p
      rw [e1] at hf
      refine ⟨A, F, env, fp, S, b, env1, e1, fun v F1 H1 fp1 S1 T1 ok1 => ?_⟩
      have hf : ((readB env1 b).bind fun d => match d with
        | .list xs => some (R.val (.own (.list xs.reverse)), env1)
        | _ => none) = some (r, env') := hf
      cases e4 : readB env1 b with
      | none => rw [e4] at hf; cases hf
      | some d =>
        rw [e4] at hf
        have w := read_view S1 ok1 e4
        cases w with
        | lst hh rr =>
          cases hf
          refine ⟨_, _, rfl, SqL.of hh, fun p hp => ?_⟩
          obtain ⟨a, b, c⟩ := (Res.newLst (A := A) S1.ex hp rr.rev).fin S1
          exact q _ _ _ fp1 _ a (T1.trans b) c
        | _ => cases hf
/-! ### -x -/
def dNeg (f : BE) : RE := fun env => (f env).bind fun p => (readB p.2 p.1).bind fun d => (intD d).map fun i => (.val (.dat (.int (-i))), p.2)
theorem pr_neg (he : PE X e (tO ga)) : PE X (.UnaryOp .USub e pos) (tR (dNeg ga)) := PE.imp (pe_un un_neg he) fun σ H Q h => by
  obtain ⟨A, F, env, fp, S, r, env', hf, q⟩ := h
  unfold dNeg at hf
  cases e1 : ga env with
  | none => rw [e1] at hf; cases hf
  | some p =>
    obtain ⟨b, env1⟩ := p
    rw [e1] at hf
    refine ⟨A, F, env, fp, S, b, env1, e1, fun v F1 H1 fp1 S1 T1 ok1 => ?_⟩
    have hf : ((readB env1 b).bind fun d => (intD d).map fun i => (R.val (.dat (.int (-i))), env1)) = some (r, env') := hf
    cases e2 : readB env1 b with
    | none => rw [e2] at hf; cases hf
    | some d =>
      rw [e2] at hf
      have w := read_view S1 ok1 e2
      cases w with
      | int i =>
        cases hf
        obtain ⟨a, b, c⟩ := (Res.old (A := A) S1.ex (.int (-i))).fin S1
        exact ⟨i, rfl, q _ F1 H1 fp1 [] a (T1.trans b) c⟩
      | _ => cases hf
/-! ### list(range(..)) -/
def dLstRg (g : BAE) : RE := fun env => (g env).bind fun p => (readBs p.2 p.1).bind fun ds => match ds with
  | [.int j] => if 0 ≤ j ∧ j.toNat ≤ szMax then some (.val (.own (.list (intsFrom 0 j.toNat))), p.2) else none
  | _ => none
end
theorem rgV_rb {F : Hp} (lo : Int) (l : List Nat) : RbA F (l.map fun (i : Nat) => V.int (lo + (i : Int))) (l.map fun (i : Nat) => PyData.int (lo + (i : Int))) := by
  induction l with
  | nil => exact .nil
  | cons a l ih => rw [List.map_cons, List.map_cons]; exact .cons (.int _) ih
def dLstR (f : BE) : RE := fun env => (f env).bind fun p => (readB p.2 p.1).bind fun d => (intD d).bind fun j => if 0 ≤ j ∧ j.toNat ≤ szMax then some (.val (.own (.list (intsFrom 0 j.toNat))), p.2) else none
section
variable {X : Cx} {e a : Expr} {ga : BE} {pos pos2 p p2 : Pos}
theorem pr_lstR (hc : X.calm = true) (hgl : Gl X "list") (hml : X.mg "list" = none) (hg : Gl X "range") (hm : X.mg "range" = none) (ha : PE X a (tO ga)) (na : starEach [a] X.env = (false, eval a X.env) :: starEach [] X.env := by rfl)
    (nb : starEach [.Call (.Name "range" p2) [a] [] pos2] X.env = (false, eval (.Call (.Name "range" p2) [a] [] pos2) X.env) :: starEach [] X.env := by rfl) :
    PE X (.Call (.Name "list" p) [.Call (.Name "range" p2) [a] [] pos2] [] pos) (tR (dLstR ga)) := PE.imp (pe_listRg hc hgl hml (prg_1 hg hm ha na) nb) fun σ H Q h => by
  obtain ⟨A, F, env, fp, S, r, env', hf, q⟩ := h
  unfold dLstR at hf
  cases e1 : ga env with
  | none => rw [e1] at hf; cases hf
  | some p =>
    obtain ⟨b, env1⟩ := p
    rw [e1] at hf
    refine ⟨A, F, env, fp, S, b, env1, e1, fun v F1 H1 fp1 S1 T1 ok1 => ?_⟩
    have hf : ((readB env1 b).bind fun d => (intD d).bind fun j => if 0 ≤ j ∧ j.toNat ≤ szMax then some (R.val (.own (.list (intsFrom 0 j.toNat))), env1) else none) = some (r, env') := hf
    cases e2 : readB env1 b with
    | none => rw [e2] at hf; cases hf
    | some d =>
      rw [e2] at hf
      have w := read_view S1 ok1 e2
      cases w with
      | int i =>
        have hf : (if 0 ≤ i ∧ i.toNat ≤ szMax then some (R.val (.own (.list (intsFrom 0 i.toNat))), env1) else none) = some (r, env') := hf
        split at hf
        · rename_i hi
          cases hf
          refine ⟨i, rfl, ⟨by have := hi.2; unfold szMax at this; omega, by have := hi.2; unfold szMax at this; omega, by have := hi.2; unfold szMax at this; omega, by have := hi.2; unfold szMax at this; omega, by have := hi.2; unfold szMax at this; omega⟩, fun p hp => ?_⟩
          have rr : RbA F1 (rgV 0 i) (intsFrom 0 i.toNat) := by
            unfold rgV intsFrom
            rw [Int.sub_zero]
            exact rgV_rb 0 _
          obtain ⟨a, b, c⟩ := (Res.newLst (A := A) S1.ex hp rr).fin S1
          exact q _ _ _ fp1 _ a (T1.trans b) c
        · cases hf
      | _ => cases hf
end

/-! ### built-ins -/
def lenD : List D → Option Sl
  | [.list xs] => some (.dat (.int xs.length))
  | [.tuple xs] => some (.dat (.int xs.length))
  | [.str x] => if x.length ≤ szMax then some (.dat (.int x.length)) else none
  | _ => none
def rLenU (K : PySem.W.Frag) : List V → Hp → VK → Prop := fun xs H Q => (∃ p ys, xs = [.ref p] ∧ (SqL K H p ys ∨ SqT K H p ys) ∧ Q (.int ys.length) H) ∨ (∃ z, xs = [.str z] ∧ z.length ≤ sizeLine ∧ Q (.int z.length) H)
theorem cr_len {X : Cx} : CallR X (.builtin "len") (rLenU X.K) := CallR.or call_len_seq call_len_str
theorem sp_len {K : PySem.W.Frag} : CallSpec (rLenU K) lenD := by
  intro A F H vs ds s Q ex w hs k
  match ds, w, hs with
  | [.list xs], .cons (.lst h r) .nil, hs =>
    cases hs
    refine .inl ⟨_, _, rfl, .inl (SqL.of h), ?_⟩
    rw [r.length]
    exact k _ F H [] (Res.old ex (.int _))
  | [.tuple xs], .cons (.tup g h r) .nil, hs =>
    cases hs
    refine .inl ⟨_, _, rfl, .inr (SqT.of h), ?_⟩
    rw [r.length]
    exact k _ F H [] (Res.old ex (.int _))
  | [.str x], .cons (.str _) .nil, hs =>
    simp only [lenD] at hs
    split at hs
    · rename_i hz; cases hs; exact .inr ⟨x, rfl, sz_le hz, k _ F H [] (Res.old ex (.int _))⟩
    · cases hs
def listD : List D → Option Sl
  | [.list xs] => some (.own (.list xs))
  | [.tuple xs] => some (.own (.list xs))
  | _ => none
theorem sp_list {K : PySem.W.Frag} : CallSpec (fun xs H Q => ∃ p ys, xs = [.ref p] ∧ (SqL K H p ys ∨ SqT K H p ys) ∧ ∀ l, H l = none → Q (.ref l) (upd H l (.lst ys))) listD := by
  intro A F H vs ds s Q ex w hs k
  match ds, w, hs with
  | [.list xs], .cons (.lst h r) .nil, hs => cases hs; exact ⟨_, _, rfl, .inl (SqL.of h), fun l hl => k _ _ _ _ (Res.newLst ex hl r)⟩
  | [.tuple xs], .cons (.tup g h r) .nil, hs => cases hs; exact ⟨_, _, rfl, .inr (SqT.of h), fun l hl => k _ _ _ _ (Res.newLst ex hl r)⟩
def tupleD : List D → Option Sl
  | [.list xs] => some (.dat (.tuple xs))
  | [.tuple xs] => some (.dat (.tuple xs))
  | _ => none
theorem sp_tuple {K : PySem.W.Frag} : CallSpec (fun xs H Q => ∃ p ys, xs = [.ref p] ∧ ((SqL K H p ys ∧ ∀ l, H l = none → Q (.ref l) (upd H l (.tup ys))) ∨ (SqT K H p ys ∧ Q (.ref p) H))) tupleD := by
  intro A F H vs ds s Q ex w hs k
  match ds, w, hs with
  | [.list xs], .cons (.lst h r) .nil, hs => cases hs; exact ⟨_, _, rfl, .inl ⟨SqL.of h, fun l hl => k _ _ _ _ (Res.newTup ex hl r)⟩⟩
  | [.tuple xs], .cons (.tup g h r) .nil, hs => cases hs; exact ⟨_, _, rfl, .inr ⟨SqT.of h, k _ _ _ _ (Res.old ex (.tup g r))⟩⟩
def intsD : List D → Option (List Int)
  | [] => some []
  | d :: ds => (intD d).bind fun x => (intsD ds).map fun xs => x :: xs
theorem ints_vs {F : Hp} : ∀ {vs : List V} {ds : List D} {xs : List Int}, RbA F vs ds → intsD ds = some xs → vs = xs.map V.int
  | _, _, xs, .nil, h => by cases h; rfl
  | _, _, xs, .cons (d := d) (ds := ds) h r, e => by
    rw [intsD] at e
    cases h with
    | int x =>
      have e : ((intsD ds).map fun xs => x :: xs) = some xs := e
      cases e2 : intsD ds with
      | none => rw [e2] at e; cases e
      | some ys =>
        rw [e2] at e
        cases e
        rw [ints_vs r e2]; rfl
    | _ => cases e
def boolD : D → Option Bool
  | .bool i => some i
  | _ => none
def boolsD : List D → Option (List Bool)
  | [] => some []
  | d :: ds => (boolD d).bind fun x => (boolsD ds).map fun xs => x :: xs
theorem bools_vs {F : Hp} : ∀ {vs : List V} {ds : List D} {xs : List Bool}, RbA F vs ds → boolsD ds = some xs → vs = xs.map V.bl
  | _, _, xs, .nil, h => by cases h; rfl
  | _, _, xs, .cons (d := d) (ds := ds) h r, e => by
    rw [boolsD] at e
    cases h with
    | bl x =>
      have e : ((boolsD ds).map fun xs => x :: xs) = some xs := e
      cases e2 : boolsD ds with
      | none => rw [e2] at e; cases e
      | some ys =>
        rw [e2] at e
        cases e
        rw [bools_vs r e2]; rfl
    | _ => cases e
def sumD : List D → Option Sl
  | [.list xs] => (intsD xs).map fun ns => .dat (.int ns.sum)
  | _ => none
theorem sp_sum {K : PySem.W.Frag} : CallSpec (rSum K) sumD := by
  intro A F H vs ds s Q ex w hs k
  match ds, w, hs with
  | [.list xs], .cons (.lst h r) .nil, hs =>
    simp only [sumD] at hs
    cases e : intsD xs with
    | none => rw [e] at hs; cases hs
    | some ns =>
      rw [e] at hs
      cases hs
      have ev := ints_vs r e
      subst ev
      exact ⟨_, ns, rfl, SqL.of h, k _ F H [] (Res.old ex (.int _))⟩
def allD : List D → Option Sl
  | [.list xs] => (boolsD xs).map fun ns => .dat (.bool (ns.all id))
  | _ => none
theorem sp_all {K : PySem.W.Frag} : CallSpec (rAll K) allD := by
  intro A F H vs ds s Q ex w hs k
  match ds, w, hs with
  | [.list xs], .cons (.lst h r) .nil, hs =>
    simp only [allD] at hs
    cases e : boolsD xs with
    | none => rw [e] at hs; cases hs
    | some ns =>
      rw [e] at hs
      cases hs
      have ev := bools_vs r e
      subst ev
      exact ⟨_, ns, rfl, SqL.of h, k _ F H [] (Res.old ex (.bl _))⟩
def maxD : List D → Option Sl
  | [.int i, .int j] => some (.dat (.int (if j > i then j else i)))
  | _ => none
theorem sp_max2 : CallSpec (fun xs H Q => ∃ i j, xs = [.int i, .int j] ∧ Q (.int (if j > i then j else i)) H) maxD := by
  intro A F H vs ds s Q ex w hs k
  match ds, w, hs with
  | [.int i, .int j], .cons (.int _) (.cons (.int _) .nil), hs => cases hs; exact ⟨i, j, rfl, k _ F H [] (Res.old ex (.int _))⟩
def maxD3 : List D → Option Sl
  | [.int i, .int j, .int l] => some (.dat (.int (if l > (if j > i then j else i) then l else (if j > i then j else i))))
  | _ => none
theorem nuMax2_int (i j : Int) : nuMax2 (.int i) (.int j) = some (.int (if j > i then j else i)) := by
  show some (if decide (i < j) = true then V.int j else V.int i) = _
  by_cases h : i < j
  · rw [if_pos (decide_eq_true h), if_pos h]
  · rw [if_neg (by simp [h]), if_neg h]
theorem sp_max3 : CallSpec (rNuC3 nuMax3) maxD3 := by
  intro A F H vs ds s Q ex w hs k
  match ds, w, hs with
  | [.int i, .int j, .int l], .cons (.int _) (.cons (.int _) (.cons (.int _) .nil)), hs =>
    cases hs
    refine ⟨_, _, _, _, rfl, ?_, k _ F H [] (Res.old ex (.int _))⟩
    unfold nuMax3
    rw [nuMax2_int]
    exact nuMax2_int _ _
def intOfD : List D → Option Sl
  | [.int i] => some (.dat (.int i))
  | [.bool b] => some (.dat (.int (if b then 1 else 0)))
  | _ => none
theorem sp_int : CallSpec (fun xs H Q => (∃ i, xs = [.int i] ∧ Q (.int i) H) ∨ ∃ k, xs = [.bl k] ∧ Q (.int (if k then 1 else 0)) H) intOfD := by
  intro A F H vs ds s Q ex w hs k
  match ds, w, hs with
  | [.int i], .cons (.int _) .nil, hs => cases hs; exact .inl ⟨i, rfl, k _ F H [] (Res.old ex (.int _))⟩
  | [.bool b], .cons (.bl _) .nil, hs => cases hs; exact .inr ⟨b, rfl, k _ F H [] (Res.old ex (.int _))⟩
def strOfD : List D → Option Sl
  | [.int i] => if i.natAbs.log2 < 1920 then some (.dat (.str (toString i))) else none
  | _ => none
theorem sp_str : CallSpec (fun xs H Q => ∃ i, xs = [.int i] ∧ i.natAbs.log2 < 1920 ∧ Q (.str (toString i)) H) strOfD := by
  intro A F H vs ds s Q ex w hs k
  match ds, w, hs with
  | [.int i], .cons (.int _) .nil, hs =>
    simp only [strOfD] at hs
    split at hs
    · rename_i hz; cases hs; exact ⟨i, rfl, hz, k _ F H [] (Res.old ex (.str _))⟩
    · cases hs
/-! ### isinstance -/
def tyD : D → String
  | .none => "NoneType"
  | .bool _ => "bool"
  | .int _ => "int"
  | .str _ => "str"
  | .list _ => "list"
  | .tuple _ => "tuple"
  | .dict _ => "dict"
def kOf (d : D) (T : String) : Bool := tyD d == T || (tyD d == "bool" && T == "int")
theorem View.ty {K : PySem.W.Frag} {F H : Hp} {v : V} {d : D} (h : View F H v d) : TyX K H v (.type (tyD d)) := by
  cases h with
  | non => exact .base .non
  | bl b => exact .base (.bl b)
  | int i => exact .base (.int i)
  | str x => exact .base (.str x)
  | lst h r => exact .base (.lst h)
  | tup _ h r => exact .base (.tup h)
  | dK h r => exact .base (.dK h)
  | dT h n r => exact .base (.dT h)
def tysOk : List String := ["NoneType", "bool", "int", "str", "list", "tuple", "dict"]
theorem kit_all : ∀ T ∈ ["bool", "int", "str", "list", "tuple", "dict"], ∀ S ∈ tysOk, kitB S T = some (S == T || (S == "bool" && T == "int")) := by decide +kernel
theorem tyD_mem (d : D) : tyD d ∈ tysOk := by cases d <;> simp [tyD, tysOk]
theorem kit_d {K : PySem.W.Frag} (d : D) {T : String} (hT : T ∈ ["bool", "int", "str", "list", "tuple", "dict"]) : PySem.W.kitOne K (.type (tyD d)) (.type T) = some (kOf d T) :=
  kit_ty (kit_all T hT _ (tyD_mem d))
def dIsi (T : String) (f : BE) : RE := fun env => (f env).bind fun p => (readB p.2 p.1).map fun d => (.val (.dat (.bool (kOf d T))), p.2)
def dIsi2 (T S : String) (f : BE) : RE := fun env => (f env).bind fun p => (readB p.2 p.1).map fun d => (.val (.dat (.bool (kOf d T || kOf d S))), p.2)
section
variable {X : Cx} {e : Expr} {ga : BE} {pos p p2 p3 p4 : Pos} {k : Nat}
theorem pr_isi {T : String} {Tn : Str} (hT : T ∈ ["bool", "int", "str", "list", "tuple", "dict"]) (hg : Gl X "isinstance") (hm : X.mg "isinstance" = none) (ha : PE X e (tO ga)) (hgT : Gl X Tn) (hmT : X.mg Tn = none) (hvT : bootBuiltins Tn = some (.type T)) (hn : Tn ≠ "__name__" := by decide) (hd : (Tn == ("__debug__" : Str)) = false := by decide)
    (he : starEach [e, .Name Tn p2] X.env = (false, eval e X.env) :: starEach [.Name Tn p2] X.env := by rfl) (he2 : starEach [.Name Tn p2] X.env = (false, eval (.Name Tn p2) X.env) :: starEach [] X.env := by rfl) (hpl : (backTo pos (starEach [.Name Tn p2] X.env)).any (·.1) = false := by rfl) :
    PE X (.Call (.Name "isinstance" p) [e, .Name Tn p2] [] pos) (tR (dIsi T ga)) :=
  PE.imp (pe_callB call_isi hg hm (by decide +kernel) (pa_cons ha (pa_cons (pe_bltn hgT hmT hvT (v := .ty T) rfl hn hd) pa_nil he2) he) (by decide) (by decide) he hpl) fun σ H Q h => by
    obtain ⟨A, F, env, fp, S, r, env', hf, q⟩ := h
    unfold dIsi at hf
    cases e1 : ga env with
    | none => rw [e1] at hf; cases hf
    | some p =>
      obtain ⟨b, env1⟩ := p
      rw [e1] at hf
      refine ⟨A, F, env, fp, S, b, env1, e1, fun v F1 H1 fp1 S1 T1 ok1 => ?_⟩
      have hf : ((readB env1 b).map fun d => (R.val (.dat (.bool (kOf d T))), env1)) = some (r, env') := hf
      cases e2 : readB env1 b with
      | none => rw [e2] at hf; cases hf
      | some d =>
        rw [e2] at hf
        cases hf
        obtain ⟨a, b, c⟩ := (Res.old (A := A) S1.ex (.bl (kOf d T))).fin S1
        exact ⟨v, .ty T, .type (tyD d), .type T, kOf d T, rfl, .ty T, (read_view S1 ok1 e2).ty, kit_d d hT, q _ F1 H1 fp1 [] a (T1.trans b) c⟩
theorem pr_isi2 {T U : String} {Tn Un : Str} (hT : T ∈ ["bool", "int", "str", "list", "tuple", "dict"]) (hU : U ∈ ["bool", "int", "str", "list", "tuple", "dict"]) (hg : Gl X "isinstance") (hm : X.mg "isinstance" = none) (ha : PE X e (tO ga))
    (hgT : Gl X Tn) (hmT : X.mg Tn = none) (hvT : bootBuiltins Tn = some (.type T)) (hgU : Gl X Un) (hmU : X.mg Un = none) (hvU : bootBuiltins Un = some (.type U)) (hn : Tn ≠ "__name__" := by decide) (hd : (Tn == ("__debug__" : Str)) = false := by decide) (hn2 : Un ≠ "__name__" := by decide) (hd2 : (Un == ("__debug__" : Str)) = false := by decide)
    (he : starEach [e, .Tuple [.Name Tn p2, .Name Un p3] k p4] X.env = (false, eval e X.env) :: starEach [.Tuple [.Name Tn p2, .Name Un p3] k p4] X.env := by rfl)
    (he2 : starEach [.Tuple [.Name Tn p2, .Name Un p3] k p4] X.env = (false, eval (.Tuple [.Name Tn p2, .Name Un p3] k p4) X.env) :: starEach [] X.env := by rfl)
    (he3 : starEach [.Name Tn p2, .Name Un p3] X.env = (false, eval (.Name Tn p2) X.env) :: starEach [.Name Un p3] X.env := by rfl) (he4 : starEach [.Name Un p3] X.env = (false, eval (.Name Un p3) X.env) :: starEach [] X.env := by rfl)
    (hpl : (backTo pos (starEach [.Tuple [.Name Tn p2, .Name Un p3] k p4] X.env)).any (·.1) = false := by rfl) :
    PE X (.Call (.Name "isinstance" p) [e, .Tuple [.Name Tn p2, .Name Un p3] k p4] [] pos) (tR (dIsi2 T U ga)) :=
  PE.imp (pe_callB call_isiT hg hm (by decide +kernel) (pa_cons ha (pa_cons (pe_tup (pa_cons (pe_bltn hgT hmT hvT (v := .ty T) rfl hn hd) (pa_cons (pe_bltn hgU hmU hvU (v := .ty U) rfl hn2 hd2) pa_nil he4) he3)) pa_nil he2) he) (by decide) (by decide) he hpl) fun σ H Q h => by
    obtain ⟨A, F, env, fp, S, r, env', hf, q⟩ := h
    unfold dIsi2 at hf
    cases e1 : ga env with
    | none => rw [e1] at hf; cases hf
    | some p =>
      obtain ⟨b, env1⟩ := p
      rw [e1] at hf
      refine ⟨A, F, env, fp, S, b, env1, e1, fun v F1 H1 fp1 S1 T1 ok1 => ?_⟩
      have hf : ((readB env1 b).map fun d => (R.val (.dat (.bool (kOf d T || kOf d U))), env1)) = some (r, env') := hf
      cases e2 : readB env1 b with
      | none => rw [e2] at hf; cases hf
      | some d =>
        rw [e2] at hf
        cases hf
        refine ⟨by show 2 ≤ sizeLine; decide, fun tp ht => ?_⟩
        have w := read_view S1 ok1 e2
        have w2 : View F1 (upd H1 tp (.tup [.ty T, .ty U])) v d := w.mono (Same.refl _) fun a _ o ho => same_upd ht a o ho
        have res : Res A F1 H1 (.dat (.bool (kOf d T || kOf d U))) (.bl (kOf d T || kOf d U)) F1 (upd H1 tp (.tup [.ty T, .ty U])) [] :=
          ⟨⟨fun a u x _ => same_upd ht a u x, Same.refl _, fun a x => .inl x, fun a x => nomatch x⟩, S1.ex.trans (same_upd ht), ⟨rfl, _, rfl, .bl _⟩, (nomatch ·), fun a x => nomatch x⟩
        obtain ⟨a, b, c⟩ := res.fin S1
        refine ⟨v, tp, [.ty T, .ty U], .type (tyD d), [.type T, .type U], kOf d T || kOf d U, rfl, upd_same, .cons (.ty T) (.cons (.ty U) .nil), w2.ty, ?_, q _ F1 _ fp1 [] a (T1.trans b) c⟩
        refine kitAny_cons (kit_d d hT) (fun h => ?_) fun h => by rw [h]; rfl
        rw [h, Bool.false_or]
        refine kitAny_cons (kit_d d hU) (fun h => ?_) fun h => h
        rw [h]; exact kitAny_nil
end
end DL
namespace DL
open PySem PySem.Spec PyProof.Rows L2

/-! ### dicts whose keys are tuples of ints and texts -/
def toKey : D → Option Key
  | .int i => some (.inl i)
  | .str x => some (.inr x)
  | _ => none
def toKeys : List D → Option (List Key)
  | [] => some []
  | d :: ds => (toKey d).bind fun k => (toKeys ds).map fun ks => k :: ks
def toTK : D → Option (List Key)
  | .tuple ds => toKeys ds
  | _ => none
abbrev TKV := List (List Key × D)
def decT : List (D × D) → Option TKV
  | [] => some []
  | p :: ps => (toTK p.1).bind fun k => (decT ps).map fun r => (k, p.2) :: r
def encT (l : TKV) : List (D × D) := l.map fun p => (tkeyD p.1, p.2)
def lookK {α : Type} (l : List (List Key × α)) (k : List Key) : Option α := (l.find? fun kv => decide (kv.1 = k)).map (·.2)
def putKD (l : TKV) (k : List Key) (d : D) : TKV := if (l.any fun kv => decide (kv.1 = k)) = true then l.map fun kv => if kv.1 = k then (kv.1, d) else kv else l ++ [(k, d)]
theorem putKD_ne {l : TKV} {k : List Key} {d : D} : putKD l k d ≠ [] := fun z => by
  unfold putKD at z
  split at z
  · rename_i h
    rw [List.map_eq_nil_iff] at z
    subst z
    cases h
  · exact absurd (List.append_eq_nil_iff.mp z).2 (by simp)
theorem merged_ne : ∀ {l acc : TKV}, acc ≠ [] → l.foldl (fun acc kv => putKD acc kv.1 kv.2) acc ≠ []
  | [], _, h => h
  | x :: l, acc, _ => by
    show List.foldl _ (putKD acc x.1 x.2) l ≠ []
    exact merged_ne putKD_ne
theorem toKey_keyD (k : Key) : toKey (keyD k) = some k := by cases k <;> rfl
theorem toKeys_map : ∀ ks : List Key, toKeys (ks.map keyD) = some ks
  | [] => rfl
  | k :: ks => by rw [List.map_cons, toKeys, toKey_keyD, toKeys_map ks]; rfl
theorem decT_encT : ∀ l : TKV, decT (encT l) = some l
  | [] => rfl
  | p :: ps => by
    have h : encT (p :: ps) = (tkeyD p.1, p.2) :: encT ps := rfl
    rw [h, decT]
    have e : toTK (tkeyD p.1) = some p.1 := toKeys_map p.1
    rw [show toTK ((tkeyD p.1, p.2) : D × D).1 = some p.1 from e, decT_encT ps]; rfl
abbrev DKV (F : Hp) : List (List Key × V) → TKV → Prop := Paired fun p q => p.1 = q.1 ∧ Rb F p.2 q.2
section
variable {F H : Hp}
theorem DKV.enc : ∀ {kvs : List (List Key × V)} {l : TKV}, DKV F kvs l → encT l = (kvs.map fun p => tkeyD p.1).zip (l.map (·.2)) ∧ RbA F (kvs.map (·.2)) (l.map (·.2))
  | _, _, .nil => ⟨rfl, .nil⟩
  | _, _, .cons (a := p) (b := q) h t => by
    obtain ⟨h1, h2⟩ := DKV.enc t
    refine ⟨?_, .cons h.2 h2⟩
    show (tkeyD q.1, q.2) :: encT _ = (tkeyD p.1, q.2) :: _
    rw [h1, h.1]
    rfl
theorem DKV.of : ∀ {kvs : List (List Key × V)} {ds : List D}, RbA F (kvs.map (·.2)) ds → ∃ l, DKV F kvs l ∧ (kvs.map fun p => tkeyD p.1).zip ds = encT l
  | [], _, .nil => ⟨[], .nil, rfl⟩
  | p :: ps, _, .cons (d := d) h t => by
    obtain ⟨l, h1, h2⟩ := DKV.of t
    refine ⟨(p.1, d) :: l, .cons ⟨rfl, h⟩ h1, ?_⟩
    show (tkeyD p.1, d) :: _ = (tkeyD p.1, d) :: encT l
    rw [← h2]; rfl
theorem DKV.view {a : Addr} {kvs : List (List Key × V)} {l : TKV} (h : H a = some (.dT kvs)) (n : l ≠ []) (r : DKV F kvs l) : View F H (.ref a) (.dict (encT l)) := by
  obtain ⟨h1, h2⟩ := r.enc
  rw [h1]
  exact .dT h (fun z => by subst z; cases r; exact n rfl) h2
theorem DKV.val (k : List Key) : ∀ {kvs : List (List Key × V)} {l : TKV} {d : D}, DKV F kvs l → lookK l k = some d → ∃ v, valV kvs k = some v ∧ Rb F v d
  | _, _, _, .nil, h => by cases h
  | _, _, d, .cons (a := p) (b := q) (l₁ := ps) (l₂ := qs) h t, e => by
    unfold lookK at e
    rw [List.find?_cons] at e
    by_cases hk : q.1 = k
    · rw [decide_eq_true hk] at e
      cases e
      refine ⟨p.2, ?_, h.2⟩
      unfold valV
      rw [List.find?_cons, decide_eq_true (h.1.trans hk)]
      rfl
    · rw [decide_eq_false hk] at e
      obtain ⟨v, h1, h2⟩ := DKV.val k t e
      refine ⟨v, ?_, h2⟩
      unfold valV at h1 ⊢
      rw [List.find?_cons, decide_eq_false (fun z => hk (h.1.symm.trans z))]
      exact h1
theorem DKV.any (k : List Key) : ∀ {kvs : List (List Key × V)} {l : TKV}, DKV F kvs l → (kvs.any fun kv => decide (kv.1 = k)) = l.any fun kv => decide (kv.1 = k)
  | _, _, .nil => rfl
  | _, _, .cons h t => by
    rw [List.any_cons, List.any_cons, DKV.any k t, h.1]
theorem paired_append {α β : Type} {P : α → β → Prop} : ∀ {l : List α} {m : List β} {l' : List α} {m' : List β}, Paired P l m → Paired P l' m' → Paired P (l ++ l') (m ++ m')
  | _, _, _, _, .nil, s => s
  | _, _, _, _, .cons h t, s => .cons h (paired_append t s)
theorem DKV.repl {k : List Key} {v : V} {d : D} (rb : Rb F v d) : ∀ {kvs : List (List Key × V)} {l : TKV}, DKV F kvs l → DKV F (kvs.map fun kv => if kv.1 = k then (kv.1, v) else kv) (l.map fun kv => if kv.1 = k then (kv.1, d) else kv)
  | _, _, .nil => .nil
  | _, _, .cons (a := p) (b := q) hp t => by
    rw [List.map_cons, List.map_cons]
    refine .cons ?_ (DKV.repl rb t)
    by_cases hk : p.1 = k
    · rw [if_pos hk, if_pos (hp.1.symm.trans hk)]; exact ⟨hp.1, rb⟩
    · rw [if_neg hk, if_neg (fun z => hk (hp.1.trans z))]; exact hp
theorem DKV.put {k : List Key} {v : V} {d : D} (rb : Rb F v d) {kvs : List (List Key × V)} {l : TKV} (h : DKV F kvs l) : DKV F (putK kvs k v) (putKD l k d) := by
  unfold putK putKD
  rw [h.any k]
  split
  · exact h.repl rb
  · exact paired_append h (.cons ⟨rfl, rb⟩ .nil)
theorem keys_vs : ∀ {vs : List V} {ds : List D} {ks : List Key}, RbA F vs ds → toKeys ds = some ks → vs = ks.map kV
  | _, _, ks, .nil, e => by cases e; rfl
  | _, _, ks, .cons (v := v) (vs := vs) (d := d) (ds := ds) h r, e => by
    rw [toKeys] at e
    cases e1 : toKey d with
    | none => rw [e1] at e; cases e
    | some k =>
      rw [e1] at e
      have e : ((toKeys ds).map fun ks => k :: ks) = some ks := e
      cases e2 : toKeys ds with
      | none => rw [e2] at e; cases e
      | some ls =>
        rw [e2] at e
        cases e
        have ev : v = kV k := by
          cases h with
          | int i => cases e1; rfl
          | str x => cases e1; rfl
          | _ => cases e1
        rw [List.map_cons, ev, keys_vs r e2]
theorem view_key {v : V} {d : D} {k : List Key} (h : View F H v d) (e : toTK d = some k) : ∃ b, v = .ref b ∧ H b = some (.tup (k.map kV)) := by
  cases h with
  | @tup a vs ds g hh r =>
    have ev := keys_vs r e
    subst ev
    exact ⟨_, rfl, hh⟩
  | _ => cases e
theorem view_dict {v : V} {kvs : List (D × D)} {l : TKV} (h : View F H v (.dict kvs)) (e : decT kvs = some l) : (∃ a xs, v = .ref a ∧ H a = some (.dT xs) ∧ DKV F xs l) ∨ l = [] := by
  cases h with
  | @dT a xs ds hh n r =>
    obtain ⟨l', h1, h2⟩ := DKV.of r
    rw [h2, decT_encT] at e
    cases e
    exact .inl ⟨a, xs, rfl, hh, h1⟩
  | @dK a xs ds hh r =>
    cases xs with
    | nil => cases e; exact .inr rfl
    | cons p ps =>
      cases r with
      | cons h t =>
        have e : decT ((keyD p.1, _) :: _) = some l := e
        rw [decT] at e
        have z : toTK (keyD p.1) = none := by cases p.1 <;> rfl
        rw [show toTK ((keyD p.1, _) : D × D).1 = none from z] at e
        cases e
end
/-- d[(a, b)] -/
def dgD : D → D → Option Sl
  | .dict kvs, k => (decT kvs).bind fun l => (toTK k).bind fun ks => (lookK l ks).map .dat
  | _, _ => none
def dDGet (f g : BE) : RE := dOp dgD f g
section
variable {X : Cx} {o i : Expr} {ga gb : BE} {pos : Pos}
theorem pr_dget (hu : X.A.units + 1 < cLine) (ho : PE X o (tO ga)) (hi : PE X i (tO gb)) (hs : NoSl i := by exact fun _ _ => rfl) : PE X (.Subscript o i pos) (tR (dDGet ga gb)) := PE.imp (pe_dget hu ho hi hs) fun σ H Q h => by
  have k := t_op (r := fun x y H2 Q => ∃ a v, x = .ref a ∧ DGet H2 a y (some v) ∧ Q v H2) (fun A F H v1 v2 d1 d2 s Q ex w1 w2 hs k => by
    cases d1 with
    | dict kvs =>
      simp only [dgD] at hs
      cases e1 : decT kvs with
      | none => rw [e1] at hs; cases hs
      | some l =>
        rw [e1] at hs
        have hs : ((toTK d2).bind fun ks => (lookK l ks).map Sl.dat) = some s := hs
        cases e2 : toTK d2 with
        | none => rw [e2] at hs; cases hs
        | some ks =>
          rw [e2] at hs
          have hs : (lookK l ks).map Sl.dat = some s := hs
          cases e3 : lookK l ks with
          | none => rw [e3] at hs; cases hs
          | some d =>
            rw [e3] at hs
            cases hs
            rcases view_dict w1 e1 with ⟨a, xs, rfl, ha, r⟩ | rfl
            · obtain ⟨b, rfl, hb⟩ := view_key w2 e2
              obtain ⟨v, hv, rb⟩ := r.val ks e3
              exact ⟨a, v, rfl, .inr ⟨xs, ks, b, .inl ha, rfl, hb, hv.symm⟩, k _ F H [] (Res.old ex rb)⟩
            · cases e3
    | _ => cases hs) h
  exact k
end
def dctAt (env : Env') (i : Nat) : Option (Bool × List (D × D)) := match env[i]? with
  | some (.own (.dict xs)) => some (false, xs)
  | some (.io (.dict xs)) => some (true, xs)
  | _ => none
theorem dct_at {env : Env'} {i : Nat} {b : Bool} {xs : List (D × D)} (h : dctAt env i = some (b, xs)) : env[i]? = some (if b = true then .io (.dict xs) else .own (.dict xs)) := by
  unfold dctAt at h
  cases e : env[i]? with
  | none => rw [e] at h; cases h
  | some s =>
    rw [e] at h
    cases s with
    | own d => cases d with
      | dict ys => cases h; rfl
      | _ => cases h
    | io d => cases d with
      | dict ys => cases h; rfl
      | _ => cases h
    | _ => cases h
/-- d[(a, b)] = e, d a dict of ours that has keys already -/
def dDPut (i : Nat) (f gk : BE) : SE := fun env => (f env).bind fun p => (resB p.2 p.1).bind fun r => (dctAt r.2 i).bind fun _ => (gk r.2).bind fun p2 => (readB p2.2 p2.1).bind fun kd =>
  (dctAt p2.2 i).bind fun l => (decT l.2).bind fun t => (toTK kd).bind fun ks => if t ≠ [] ∧ t.length < szMax then some (.nx (putL p2.2 i l.1 (.dict (encT (putKD t ks r.1))))) else none
section
variable {X : Cx} {o i value : Expr} {ga gb : BE} {pos pos' np : Pos} {on : Str}
theorem t_dput {i : Nat} {Dn : Ends} {σ : L2.St} {H : Hp} (h : tS (dDPut i ga gb) Dn σ H) : sDPut (tVar i) (tO gb) (tO ga) Dn σ H := by
  obtain ⟨A, F, env, fp, S, fl, hf, q⟩ := h
  unfold dDPut at hf
  cases e1 : ga env with
  | none => rw [e1] at hf; cases hf
  | some p =>
    obtain ⟨x, env1⟩ := p
    rw [e1] at hf
    refine ⟨A, F, env, fp, S, x, env1, e1, fun v F1 H1 fp1 S1 T1 ok1 => ?_⟩
    simp only [Option.bind_some] at hf
    cases e2 : resB env1 x with
    | none => rw [e2] at hf; cases hf
    | some p2 =>
      obtain ⟨d, env2⟩ := p2
      rw [e2] at hf
      simp only [Option.bind_some] at hf
      obtain ⟨F2, fp2, S2, T2, rb⟩ := res_ok S1 ok1 e2
      cases e3 : dctAt env2 i with
      | none => rw [e3] at hf; cases hf
      | some l0 =>
        rw [e3] at hf
        simp only [Option.bind_some] at hf
        obtain ⟨a, hv, hp0, w0, _⟩ := own_ok S2 (dct_at (b := l0.1) (xs := l0.2) e3)
        refine ⟨.ref a, hv, A, F2, env2, fp2, S2, ?_⟩
        cases e4 : gb env2 with
        | none => rw [e4] at hf; cases hf
        | some p3 =>
          obtain ⟨y, env3⟩ := p3
          rw [e4] at hf
          refine ⟨y, env3, rfl, fun v3 F3 H3 fp3 S3 T3 ok3 => ?_⟩
          simp only [Option.bind_some] at hf
          cases e5 : readB env3 y with
          | none => rw [e5] at hf; cases hf
          | some kd =>
            rw [e5] at hf
            simp only [Option.bind_some] at hf
            cases e6 : dctAt env3 i with
            | none => rw [e6] at hf; cases hf
            | some l =>
              obtain ⟨b, xs⟩ := l
              rw [e6] at hf
              simp only [Option.bind_some] at hf
              cases e7 : decT xs with
              | none => rw [e7] at hf; cases hf
              | some t =>
                rw [e7] at hf
                simp only [Option.bind_some] at hf
                cases e8 : toTK kd with
                | none => rw [e8] at hf; cases hf
                | some ks =>
                  rw [e8] at hf
                  simp only [Option.bind_some] at hf
                  split at hf
                  · rename_i hz
                    cases hf
                    obtain ⟨a', hv', hp, w, _⟩ := own_ok S3 (dct_at e6)
                    have ea : a' = a := by rw [hv] at hv'; cases hv'; rfl
                    subst ea
                    rcases view_dict w e7 with ⟨c, ys, ec, hc, r⟩ | rfl
                    · cases ec
                      obtain ⟨kb, rfl, hb⟩ := view_key (read_view S3 ok3 e5) e8
                      have r2 := r.put (k := ks) (rb.mono T3.grow)
                      obtain ⟨S4, T4⟩ := own_put S3 (d' := .dict (encT (putKD t ks d))) (dct_at e6) hv hp (r2.view upd_same putKD_ne)
                      have hlen : ys.length < sizeLine := by
                        rw [Paired.length r]
                        exact Nat.lt_of_lt_of_le hz.2 (by decide)
                      exact ⟨a', _, rfl, .inr ⟨ys, ks, kb, hc, rfl, hb, hlen, rfl⟩, q σ F3 _ fp3 S4 (((T1.trans T2).trans T3).trans T4)⟩
                    · exact absurd rfl hz.1
                  · cases hf
theorem ps_dput' {i : Nat} {ix : Expr} (hu : X.A.units + 1 < cLine) (ho : PE X (.Name on np) (tVar i)) (hi : PE X ix (tO gb)) (hv : PE X value (tO ga)) (hs : swapsWith value (some (.Subscript (.Name on np) ix pos')) pos.line X.env = pure false := by rfl) :
    PS X (.Assign [.Subscript (.Name on np) ix pos'] value pos) (tS (dDPut i ga gb)) := PS.imp (ps_dput hu ho hi hv hs) fun _ _ _ h => t_dput h
/-- {} -/
def dEmp : RE := fun env => some (.val (.own (.dict [])), env)
theorem pr_emp : PE X (.Dict [] [] pos) (tR dEmp) := PE.imp pe_dnewK fun σ H Q h => by
  obtain ⟨A, F, env, fp, S, r, env', hf, q⟩ := h
  cases hf
  intro p hp
  obtain ⟨a, b, c⟩ := (Res.newO (A := A) (o := .dK []) (d := .dict []) S.ex hp (View.dK (kvs := []) (ds := []) upd_same .nil)).fin S
  exact q _ _ _ fp _ a b c
end

/-! ### dict(pairs), the keys tuples -/
def mergeT (kvs : List (List Key × V)) : List (List Key × V) := kvs.foldl (fun acc kv => putK acc kv.1 kv.2) []
def mergeD (l : TKV) : TKV := l.foldl (fun acc kv => putKD acc kv.1 kv.2) []
def PairT (H : Hp) (b : Addr) (kv : List Key × V) : Prop := ∃ kt, H b = some (.tup [.ref kt, kv.2]) ∧ H kt = some (.tup (kv.1.map kV))
section
variable {X : Cx} {pins : List (Addr × Obj)} {σ : L2.St} {H : Hp} {s : Shared}
theorem pairsT (I : Inv X pins σ H s) : ∀ {bs : List Addr} {kvs : List (List Key × V)}, Paired (PairT H) bs kvs →
    ∃ ps : List (List Key × Addr × Value), KT H kvs ps ∧ ps.length = bs.length ∧ ∀ (j : Nat) (q : List Key × Addr × Value), ps[j]? = some q → ∃ b, bs[j]? = some b ∧ s.heap.IsTuple b #[.ref q.2.1, q.2.2]
  | _, _, .nil => ⟨[], .nil, rfl, fun j q e => by simp at e⟩
  | b :: bs, kv :: kvs, .cons h t => by
    obtain ⟨ps, r, hl, hp⟩ := pairsT I t
    obtain ⟨kt, h1, h2⟩ := h
    obtain ⟨its, rv, ht, _⟩ := I.tuple (SqT.of h1)
    obtain ⟨u, y, ei, ru, ry⟩ := vals2 rv
    cases (show u = Value.ref kt from ru)
    subst ei
    refine ⟨(kv.1, kt, y) :: ps, .cons ⟨rfl, h2, ry⟩ r, congrArg (· + 1) hl, fun j q e => ?_⟩
    match j, e with
    | 0, e => cases (Option.some.inj e); exact ⟨b, rfl, ht⟩
    | j + 1, e =>
      obtain ⟨b', e1, e2⟩ := hp j q (by simpa using e)
      exact ⟨b', by simpa using e1, e2⟩
theorem kt_mem {H' : Hp} : ∀ {kvs : List (List Key × V)} {ps : List (List Key × Addr × Value)} {x : List Key × Addr × Value}, KT H' kvs ps → x ∈ ps → ∃ kv : List Key × V, kv.1 = x.1 ∧ H' x.2.1 = some (.tup (kv.1.map kV))
  | _, _, _, .nil, hx => nomatch hx
  | _, _, _, .cons (a := p) hh t, hx => by
    rcases List.mem_cons.mp hx with e | hx
    · subst e; exact ⟨p, hh.1, hh.2.1⟩
    · exact kt_mem t hx
theorem mergeT_rel {H' : Hp} : ∀ {kvs : List (List Key × V)} {ps : List (List Key × Addr × Value)} {acc : List (List Key × V)} {pa : List (List Key × Addr × Value)}, KT H' kvs ps → KT H' acc pa →
    KT H' (kvs.foldl (fun acc kv => putK acc kv.1 kv.2) acc) (storedAllH pa ps)
  | _, _, _, _, .nil, ha => ha
  | p :: kvs, q :: ps, acc, pa, .cons h t, ha => by
    obtain ⟨h1, h2, h3⟩ := h
    have k := ha.put p.1 h2 h3
    rw [h1] at k
    have k2 := mergeT_rel t k
    show KT H' (kvs.foldl (fun acc kv => putK acc kv.1 kv.2) (putK acc p.1 p.2)) (storedAllH (storedH pa q.1 q.2.1 q.2.2) ps)
    rw [h1]
    exact k2
theorem mergeT_len : ∀ (kvs acc : List (List Key × V)), (kvs.foldl (fun acc kv => putK acc kv.1 kv.2) acc).length ≤ acc.length + kvs.length
  | [], acc => Nat.le_refl _
  | kv :: kvs, acc => by
    have h1 := mergeT_len kvs (putK acc kv.1 kv.2)
    have h2 := length_putK acc kv.1 kv.2
    rw [List.foldl_cons, List.length_cons]
    omega
def rDictT (K : PySem.W.Frag) : List V → Hp → VK → Prop := fun xs H Q => ∃ (a : Addr) (bs : List Addr) (kvs : List (List Key × V)), xs = [.ref a] ∧ H a = some (.lst (bs.map V.ref)) ∧ Paired (PairT H) bs kvs ∧ ∀ p, H p = none → Q (.ref p) (upd H p (.dT (mergeT kvs)))
theorem cr_dictT (hc : X.calm = true) (hu : X.A.units + 2 < cLine) : CallR X (.type "dict") (rDictT X.K) := by
  intro pins s σ H xs us Q I r q
  obtain ⟨a, bs, kvs, rfl, ha, hp, q⟩ := q
  obtain ⟨u, rfl, rx⟩ := vals1 r
  cases (show u = Value.ref a from rx)
  obtain ⟨its, rv, pl, hz⟩ := I.list (SqL.of ha)
  have ei := refs_at rv
  subst ei
  obtain ⟨ps, rel, hl, hpr⟩ := pairsT I hp
  obtain ⟨o, n, ho, hcl, hd, hdat⟩ := pl
  have look : ∀ {j : Nat} {k v : Value}, (ps.map fun p => ((Value.ref p.2.1, p.2.2) : Value × Value))[j]? = some (k, v) → ∃ q, ps[j]? = some q ∧ k = .ref q.2.1 ∧ v = q.2.2 := fun {j k v} e => by
    rw [List.getElem?_map] at e
    cases e2 : ps[j]? with
    | none => rw [e2] at e; cases e
    | some q => rw [e2] at e; cases e; exact ⟨q, rfl, rfl, rfl⟩
  have ok : PlainSeq "list" s.heap a (bs.map Value.ref).toArray ∧ PairItems s.heap (bs.map Value.ref).toArray (fun j => bs.getD j 0) (ps.map fun p => ((Value.ref p.2.1, p.2.2) : Value × Value)) := by
    refine ⟨⟨o, n, ho, hcl, hd, hdat⟩, by simp [hl], fun j k v e => ?_⟩
    obtain ⟨q, e1, rfl, rfl⟩ := look e
    obtain ⟨b, e2, e3⟩ := hpr j q e1
    have eb : bs.getD j 0 = b := by rw [List.getD_eq_getElem?_getD, e2]; rfl
    refine ⟨?_, .inl ?_⟩
    · show (bs.map Value.ref).toArray[j]? = some (.ref (bs.getD j 0))
      rw [eb, ← Array.getElem?_toList, List.getElem?_map, e2]
      rfl
    · show s.heap.IsTuple (bs.getD j 0) _
      rw [eb]; exact e3
  have hkeys : ∀ h' : Heap, (∀ b o, b ≠ s.heap.objs.size → b ∉ ([] : List Addr) → s.heap.get? b = some o → h'.get? b = some o) → ∀ x ∈ ps, (tupleKind (mixKind X.prog X.w)).is h' x.1 x.2.1 := by
    intro h' hk x hx
    have : ∃ kv : List Key × V, kv.1 = x.1 ∧ H x.2.1 = some (.tup (kv.1.map kV)) := kt_mem rel hx
    obtain ⟨kv, e1, e2⟩ := this
    have z := key_of I.hok e2
    rw [e1] at z
    obtain ⟨oo, it, nn, g1, g2, g3, g4⟩ := z
    exact ⟨oo, it, nn, hk _ _ (Nat.ne_of_lt (Heap.lt_size g1)) (by simp) g1, g2, g3, g4⟩
  have hlen : ps.length ≤ sizeLine := by rw [hl]; simpa using hz
  refine call_dict_pairsH (knd := tupleKind (mixKind X.prog X.w)) (ps := ps) (PairArg.list a (bs.map Value.ref).toArray (fun j => bs.getD j 0) (ps.map fun p => ((Value.ref p.2.1, p.2.2) : Value × Value))) (I.ok.hd hc)
    (tupleKind_room_in1 (A := X.A.in1) (by show X.A.units + 1 + 1 < cLine; omega)) ok ⟨by rw [List.length_map], fun i key v e => ?_⟩ hkeys (by rw [List.length_map]; exact hlen) fun h' tk dd hk => ?_
  · obtain ⟨q', e1, rfl, rfl⟩ := look e
    exact ⟨q'.1, q'.2.1, e1, rfl⟩
  · have hm : (s.heap.objs.size == sysModules) = false := beq_eq_false_iff_ne.mpr (Nat.ne_of_gt I.big)
    have hml : (mergeT kvs).length ≤ sizeLine := by
      have h1 := mergeT_len kvs []
      have h2 := Paired.length rel
      unfold mergeT
      rw [List.length_nil, Nat.zero_add] at h1
      omega
    obtain ⟨oo, es, ep, hq, h2, h3, h4, _, h5⟩ := dd
    have hfr : H s.heap.objs.size = none := I.hok.fresh (Nat.le_refl _)
    have kt : KT (upd H s.heap.objs.size (.dT (mergeT kvs))) (mergeT kvs) (storedAllH [] ps) := (mergeT_rel rel .nil).keeps fun b ys eb => by
      rw [upd_ne (ne_of_none eb hfr)]; exact eb
    exact ⟨.ref s.heap.objs.size, _, I.laid (t' := tk) (o := .dT (mergeT kvs)) (fun b u e => hk b u (by simp) e) (Nat.le_refl _) ⟨hml, hm, _, kt, oo, es, ep, hq, h2, h3, h4, h5⟩, rfl, q _ hfr⟩
end
def pairD : D → Option (List Key × D)
  | .tuple [k, v] => (toTK k).map fun ks => (ks, v)
  | _ => none
def pairsD : List D → Option TKV
  | [] => some []
  | d :: ds => (pairD d).bind fun p => (pairsD ds).map fun r => p :: r
def dictOfD : List D → Option Sl
  | [.list xs] => (pairsD xs).bind fun l => if l.isEmpty = true then none else some (.own (.dict (encT (mergeD l))))
  | _ => none
theorem mergeD_rel {F : Hp} : ∀ {kvs : List (List Key × V)} {l : TKV} {acc : List (List Key × V)} {la : TKV}, DKV F kvs l → DKV F acc la → DKV F (kvs.foldl (fun acc kv => putK acc kv.1 kv.2) acc) (l.foldl (fun acc kv => putKD acc kv.1 kv.2) la)
  | _, _, _, _, .nil, ha => ha
  | _, _, _, _, .cons (a := p) (b := q) h t, ha => by
    rw [List.foldl_cons, List.foldl_cons]
    refine mergeD_rel t ?_
    rw [← h.1]
    exact ha.put h.2
theorem pairD_some {d : D} {p : List Key × D} (h : pairD d = some p) : ∃ k, d = .tuple [k, p.2] ∧ toTK k = some p.1 := by
  unfold pairD at h
  split at h
  · rename_i k v
    cases e : toTK k with
    | none => rw [e] at h; cases h
    | some ks => rw [e] at h; cases h; exact ⟨k, rfl, e⟩
  · cases h
theorem pairs_rel {F H : Hp} (ex : Same F H) : ∀ {vs : List V} {ds : List D} {l : TKV}, RbA F vs ds → pairsD ds = some l → ∃ bs kvs, vs = bs.map V.ref ∧ Paired (PairT H) bs kvs ∧ DKV F kvs l
  | _, _, l, .nil, e => by cases e; exact ⟨[], [], rfl, .nil, .nil⟩
  | _, _, l, .cons (d := d) (ds := ds) h r, e => by
    rw [pairsD] at e
    cases e1 : pairD d with
    | none => rw [e1] at e; cases e
    | some p =>
      rw [e1] at e
      have e : (pairsD ds).map (fun r => p :: r) = some l := e
      cases e2 : pairsD ds with
      | none => rw [e2] at e; cases e
      | some l2 =>
        rw [e2] at e
        cases e
        obtain ⟨bs, kvs, rfl, h1, h2⟩ := pairs_rel ex r e2
        obtain ⟨k, rfl, hk⟩ := pairD_some e1
        cases h with
        | tup hb rr =>
          cases rr with
          | cons rk rr =>
            cases rr with
            | cons rv rr =>
              cases rr
              obtain ⟨kt, rfl, hkt⟩ := view_key (rk.view ex) hk
              exact ⟨_ :: bs, (p.1, _) :: kvs, rfl, .cons ⟨kt, ex _ _ hb, hkt⟩ h1, .cons ⟨rfl, rv⟩ h2⟩
theorem sp_dict {K : PySem.W.Frag} : CallSpec (rDictT K) dictOfD := by
  intro A F H vs ds s Q ex w hs k
  match ds, w, hs with
  | [.list xs], .cons (.lst h r) .nil, hs =>
    simp only [dictOfD] at hs
    cases e : pairsD xs with
    | none => rw [e] at hs; cases hs
    | some l =>
      rw [e] at hs
      have hs : (if l.isEmpty = true then none else some (Sl.own (.dict (encT (mergeD l))))) = some s := hs
      cases l with
      | nil => cases hs
      | cons y ys =>
        cases hs
        obtain ⟨bs, kvs, rfl, h1, h2⟩ := pairs_rel ex r e
        refine ⟨_, bs, kvs, rfl, h, h1, fun p hp => k _ _ _ _ (Res.newO ex hp ?_)⟩
        refine (mergeD_rel h2 .nil).view upd_same ?_
        show List.foldl _ (putKD [] y.1 y.2) ys ≠ []
        exact merged_ne putKD_ne

/-! ### calls by keywords alone -/
def permL {α : Type} (is : List Nat) (l : List α) : List α := is.filterMap fun i => l[i]?
def dCallK (sem : Sem') (is : List Nat) (g : BAE) : RE := fun env => (g env).bind fun p => (resBs p.2 p.1).bind fun r => (sem [] (permL is r.1)).map fun o => (.val o.1, r.2)
theorem perm_rb {F : Hp} {vs : List V} {ds : List D} (r : RbA F vs ds) : ∀ is : List Nat, RbA F (permL is vs) (permL is ds)
  | [] => .nil
  | i :: is => by
    unfold permL
    rw [List.filterMap_cons, List.filterMap_cons]
    by_cases hi : i < ds.length
    · obtain ⟨v, hv, rb⟩ := r.get (List.getElem?_eq_getElem hi)
      rw [hv, List.getElem?_eq_getElem hi]
      exact .cons rb (perm_rb r is)
    · have hv : vs[i]? = none := List.getElem?_eq_none (by rw [r.length]; omega)
      have hd : ds[i]? = none := List.getElem?_eq_none (by omega)
      rw [hv, hd]
      exact perm_rb r is
section
variable {X : Cx} {CX : CXT} {k : Nat} {f : Addr} {fd : FuncData} {ps ks : List Str} {E : XK} {x : Str} {p pos : Pos} {e : Expr} {kws : List Keyword} {g : BAE} {sem : Sem'} {tk : TA} {sp : Sp} {gg : List Value → List Value → List Value} {gV : List V → List V → List V}
theorem PK.imp {t t' : TA} (h : PK X kws t) (k : ∀ σ H Q, t' σ H Q → t σ H Q) : PK X kws t' := ⟨fun pos pins s σ H Q I q => h.run pos pins s σ H Q I (k σ H Q q)⟩
theorem pko_nil : PK X [] (tOs dNil) := PK.imp pk_nil fun σ H Q h => by
  obtain ⟨A, F, env, fp, S, r, env', hf, q⟩ := h
  cases hf
  exact q [] F H fp S Tr.refl .nil
theorem pko_cons {nm : Option Str} {kpos : Pos} {ga : BE} {gs : BAE} (h : PE X e (tO ga)) (k : PK X kws (tOs gs)) : PK X (⟨nm, e, kpos⟩ :: kws) (tOs (dCons ga gs)) := PK.imp (pk_cons h k) fun σ H Q h => by
  obtain ⟨A, F, env, fp, S, r, env', hf, q⟩ := h
  unfold dCons at hf
  cases e1 : ga env with
  | none => rw [e1] at hf; cases hf
  | some p =>
    obtain ⟨x, env1⟩ := p
    rw [e1] at hf
    refine ⟨A, F, env, fp, S, x, env1, e1, fun v F1 H1 fp1 S1 T1 ok1 => ?_⟩
    have hf : ((gs env1).map fun p2 => (x :: p2.1, p2.2)) = some (r, env') := hf
    cases e2 : gs env1 with
    | none => rw [e2] at hf; cases hf
    | some p2 =>
      obtain ⟨xs, env2⟩ := p2
      rw [e2] at hf
      cases hf
      exact ⟨A, F1, env1, fp1, S1, xs, _, e2, fun vs F2 H2 fp2 S2 T2 ok2 => q (v :: vs) F2 H2 fp2 S2 (T1.trans T2) (.cons (ok1.mono T2.grow) ok2)⟩
def tKw (sp : Sp) (gV : List V → List V → List V) (E : XK) (tk : TA) : TE := fun σ H Q => tk σ H fun zs H2 => sp (gV [] zs) H2 Q E
theorem pe_kwOnly (Fo : FnOk X.prog X.w X.K X.mg X.base CX k f fd ps sp) (hr : Room k X.A) (hg : Gl X x) (hm : X.mg x = some (.ref f)) (hk : PySem.W.keepIn X.K (.ref f) = true) (hb : KBinds X.K fd ps ks gg gV) (hx : Passes CX X E) (hkw : PK X kws tk)
    (hall : (backToKw pos (keywordEach kws X.env)).all (·.1.isSome) = true := by rfl) (hks : (backToKw pos (keywordEach kws X.env)).filterMap (·.1) = ks := by rfl) (hdb : (x == ("__debug__" : Str)) = false := by decide)
    (hpl : ((backTo pos (starEach [] X.env)).any (·.1) || (backToKw pos (keywordEach kws X.env)).any (·.1.isNone)) = false := by rfl) : PE X (.Call (.Name x p) [] kws pos) (tKw sp gV E tk) :=
  ⟨fun pins s σ H Q I h => wpAny_Call_Name_kw (ld_glob I hg hm (PySem.W.callWith_KW0 (h₀ := X.base) I.ok.mod.kin hk hall
    (thn (hkw.run pos pins s σ H _ I h) fun ws s2 ⟨zs, H2, I2, rz, q2⟩ => ⟨I2.kIn, by rw [hks]; exact run_fnk (us := []) (vs := []) Fo hr hb hx I2 .nil rz q2⟩) hpl) hdb)⟩
theorem vals_perm {vs : List V} {us : List Value} (r : Vals vs us) : ∀ is : List Nat, Vals (permL is vs) (permL is us)
  | [] => .nil
  | i :: is => by
    unfold permL
    rw [List.filterMap_cons, List.filterMap_cons]
    cases hv : vs[i]? with
    | none => rw [r.none_of hv]; exact vals_perm r is
    | some v =>
      obtain ⟨u, hu, ru⟩ := r.get hv
      rw [hu]
      exact .cons ru (vals_perm r is)
def only {α : Type} (is : List Nat) (us ws : List α) : List α := match us with
  | [] => permL is ws
  | _ => []
theorem kbinds_perm {K : PySem.W.Frag} {fd : FuncData} {ps ks : List Str} {is : List Nat} (hp : ps ≠ []) (h : ∀ (s : Shared) (ws : List Value), (permL is ws).length = ps.length → BindsTo s fd ⟨[], ks.zip ws⟩ (ps.zip (permL is ws))) :
    KBinds K fd ps ks (only is) (only is) where
  to := fun s us ws _ hl => by
    cases us with
    | nil => exact h s ws hl
    | cons u us =>
      cases ps with
      | nil => exact absurd rfl hp
      | cons _ _ => cases hl
  rel := fun {vs us zs ws} r q => by
    cases r with
    | nil => exact vals_perm q is
    | cons _ _ => exact .nil
theorem pr_callK {n : Nat} {is : List Nat} (Fo : FnOk X.prog X.w X.K X.mg X.base CX k f fd ps (spD false n sem)) (hr : Room k X.A) (hg : Gl X x) (hm : X.mg x = some (.ref f)) (hk : PySem.W.keepIn X.K (.ref f) = true) (hb : KBinds X.K fd ps ks (only is) (only is)) (hx : Passes CX X E) (hkw : PK X kws (tOs g))
    (hn : ∀ env bs e, g env = some (bs, e) → bs.length = n) (hi : ∀ l : List V, l.length = n → (permL is l).length = n) (hall : (backToKw pos (keywordEach kws X.env)).all (·.1.isSome) = true := by rfl) (hks : (backToKw pos (keywordEach kws X.env)).filterMap (·.1) = ks := by rfl) (hdb : (x == ("__debug__" : Str)) = false := by decide)
    (hpl : ((backTo pos (starEach [] X.env)).any (·.1) || (backToKw pos (keywordEach kws X.env)).any (·.1.isNone)) = false := by rfl) : PE X (.Call (.Name x p) [] kws pos) (tR (dCallK sem is g)) :=
  PE.imp (pe_kwOnly Fo hr hg hm hk hb hx hkw hall hks hdb hpl) fun σ H Q h => by
    obtain ⟨A, F, env, fp, S, r, env', hf, q⟩ := h
    unfold dCallK at hf
    cases e1 : g env with
    | none => rw [e1] at hf; cases hf
    | some p =>
      obtain ⟨bs, env1⟩ := p
      rw [e1] at hf
      refine ⟨A, F, env, fp, S, bs, env1, e1, fun vs F1 H1 fp1 S1 T1 ok1 => ?_⟩
      simp only [Option.bind_some] at hf
      cases e2 : resBs env1 bs with
      | none => rw [e2] at hf; cases hf
      | some p2 =>
        obtain ⟨ds, env2⟩ := p2
        rw [e2] at hf
        simp only [Option.bind_some] at hf
        obtain ⟨F2, fp2, S2, T2, ra⟩ := ress_ok S1 ok1 e2
        cases e3 : sem [] (permL is ds) with
        | none => rw [e3] at hf; cases hf
        | some o =>
          obtain ⟨s, xs1⟩ := o
          rw [e3] at hf
          cases hf
          refine ⟨?_, A, F2, [], permL is ds, permL is vs, S2.ex, rfl, perm_rb ra is, (fun z => nomatch z), fun _ => rfl, s, xs1, e3, fun v F3 H3 q3 T3 ex3 ok3 hr hq _ => ?_⟩
          · show (permL is vs).length = n
            exact hi vs (by rw [← Paired.length ok1]; exact hn _ _ _ e1)
          · have T3' : Tr F2 H1 (fun _ => False) F3 H3 (fun a => a ∈ q3) := (T3.wide (V0 := fun _ => False) fun a x => nomatch x.1).weak fun a x => .inr x
            have res : Res A F2 H1 s v F3 H3 q3 := ⟨T3', ex3, ok3, (fun z => by subst z; cases hr), fun a m => (hq a m).1⟩
            obtain ⟨a, b, c⟩ := res.fin S2
            exact q v F3 H3 fp2 q3 a ((T1.trans T2).trans b) c
end
end DL
namespace DL
open PySem PySem.Spec PyProof.Rows L2

/-! ### a list of new lists -/
section
variable {A : Addr} {F H F' H' F2 H2 : Hp} {W W' W2 : Addr → Prop} {σ : L2.St} {env env' : Env'} {fp fp' : Nat → List Addr}
theorem StOk.backV {env0 : Env'} {fp0 : Nat → List Addr} {F0 H0 : Hp} {vs : List Nat} {G : Addr → Prop} (S0 : StOk A F0 H0 σ env0 fp0) (S : StOk A F H (wipe σ vs) (wipeE env vs) fp)
    (T : Tr F0 H0 (inFp (fmix (fun _ => []) fp0 vs)) F H (fun a => inFp fp a ∨ G a)) :
    StOk A F H σ (restE env0 env vs) (fmix fp0 fp vs) ∧ Tr F0 H0 (inFp fp0) F H (fun a => inFp (fmix fp0 fp vs) a ∨ G a) ∧ ∀ a, G a → ¬ inFp fp a → ¬ inFp (fmix fp0 fp vs) a := by
  have hl : env.length = env0.length := by
    have h1 := S.len
    have h2 := S0.len
    rw [wipe_length, wipeE_len] at h1
    omega
  have st : ∀ j, j ∈ vs → SlOk A F H ((env0[j]?).getD .un) ((σ[j]?).getD none) (fp0 j) ∧ ∀ a ∈ fp0 j, F a = none ∧ ¬ (inFp fp a ∨ G a) := fun j m => (S0.slot j).stay (fun a ha => ⟨S0.free j a ha, fun ⟨i, hi⟩ => by
    unfold fmix at hi
    split at hi
    · cases hi
    · rename_i ni
      exact ni ((S0.disj i j a hi ha) ▸ m)⟩) T
  have pick : ∀ j a, a ∈ fmix fp0 fp vs j → (j ∈ vs ∧ a ∈ fp0 j) ∨ (j ∉ vs ∧ a ∈ fp j) := fun j a h => by
    unfold fmix at h
    split at h
    · exact .inl ⟨by assumption, h⟩
    · exact .inr ⟨by assumption, h⟩
  refine ⟨⟨by rw [restE_len, hl]; exact S0.len, fun j => ?_, fun i j a hi hj => ?_, fun i a hi => ?_, S.ex⟩, ?_, fun a ga na w => ?_⟩
  · rw [restE_get env0 env hl]
    unfold fmix
    by_cases m : j ∈ vs
    · rw [if_pos m, if_pos m]; exact (st j m).1
    · have k := S.slot j
      rw [wipeE_get, if_neg m, wipe_getD σ vs j m] at k
      rw [if_neg m, if_neg m]; exact k
  · rcases pick i a hi with ⟨mi, hi⟩ | ⟨mi, hi⟩ <;> rcases pick j a hj with ⟨mj, hj⟩ | ⟨mj, hj⟩
    · exact S0.disj i j a hi hj
    · exact absurd (.inl ⟨j, hj⟩) ((st i mi).2 a hi).2
    · exact absurd (.inl ⟨i, hi⟩) ((st j mj).2 a hj).2
    · exact S.disj i j a hi hj
  · rcases pick i a hi with ⟨mi, hi⟩ | ⟨mi, hi⟩
    · exact ((st i mi).2 a hi).1
    · exact S.free i a hi
  · have w0 := (S0.wiped vs).2
    refine ⟨(T.wide w0).keep, T.grow, (T.wide w0).newF, fun a h => ?_⟩
    rcases h with ⟨i, hi⟩ | h
    · rcases pick i a hi with ⟨mi, hi⟩ | ⟨mi, hi⟩
      · exact .inl ⟨i, hi⟩
      · exact (T.newW a (.inl ⟨i, hi⟩)).imp (w0 a) _root_.id
    · exact (T.newW a (.inr h)).imp (w0 a) _root_.id
  · obtain ⟨i, hi⟩ := w
    rcases pick i a hi with ⟨mi, hi⟩ | ⟨mi, hi⟩
    · exact ((st i mi).2 a hi).2 (.inr ga)
    · exact na ⟨i, hi⟩
end
def ownOf : R → Option (List D)
  | .val (.own (.list ys)) => some ys
  | _ => none
def compLL (pat : Pat) (f : RE) (vs : List Nat) : List D → Env' → Option (List (List D) × Env')
  | [], env => some ([], env)
  | x :: xs, env => (bindP pat x (wipeE env vs)).bind fun e => (f e).bind fun p => (ownOf p.1).bind fun ys => (compLL pat f vs xs p.2).map fun q => (ys :: q.1, q.2)
def dLL (it : IE) (pat : Pat) (f : RE) (vs : List Nat) : RE := fun env => (it env).bind fun p => if p.1.length ≤ szMax then (compLL pat f vs p.1 p.2).map fun q => (.val (.ownLL q.1), restE p.2 q.2 vs) else none
theorem compLL_len {pat : Pat} {f : RE} {vs : List Nat} : ∀ {xs : List D} {env : Env'} {ds : List (List D)} {e : Env'}, compLL pat f vs xs env = some (ds, e) → ds.length = xs.length
  | [], env, ds, e, h => by cases h; rfl
  | x :: xs, env, ds, e, h => by
    rw [compLL] at h
    cases e1 : bindP pat x (wipeE env vs) with
    | none => rw [e1] at h; cases h
    | some env1 =>
      rw [e1] at h
      simp only [Option.bind_some] at h
      cases e2 : f env1 with
      | none => rw [e2] at h; cases h
      | some p =>
        rw [e2] at h
        simp only [Option.bind_some] at h
        cases e3 : ownOf p.1 with
        | none => rw [e3] at h; cases h
        | some ys =>
          rw [e3] at h
          simp only [Option.bind_some] at h
          cases e5 : compLL pat f vs xs p.2 with
          | none => rw [e5] at h; cases h
          | some q =>
            rw [e5] at h
            cases h
            rw [List.length_cons, List.length_cons, compLL_len e5]
theorem ownOf_some {r : R} {ys : List D} (h : ownOf r = some ys) : r = .val (.own (.list ys)) := by
  unfold ownOf at h
  split at h
  · cases h; rfl
  · cases h
theorem t_ll {K : PySem.W.Frag} {it : IE} {pat : Pat} {f : RE} {vs : List Nat} (hv : ∀ i ∈ pat.names, i ∈ vs) {σ : L2.St} {H : Hp} {Q : VK} (h : tR (dLL it pat f vs) σ H Q) : tLc (tI it) (gPat K pat) (tQ dYes) (tR f) vs σ H Q := by
  obtain ⟨A, F, env, fp, S, r, env', hf, q⟩ := h
  unfold dLL at hf
  cases e1 : it env with
  | none => rw [e1] at hf; cases hf
  | some p =>
    obtain ⟨xs, env1⟩ := p
    rw [e1] at hf
    refine ⟨A, F, env, fp, S, xs, env1, e1, fun J F1 H1 fp1 S1 T1 ok Dl hD => ?_⟩
    simp only [Option.bind_some] at hf
    split at hf
    · rename_i hz
      cases e2 : compLL pat f vs xs env1 with
      | none => rw [e2] at hf; cases hf
      | some p2 =>
        obtain ⟨ds, ee⟩ := p2
        rw [e2] at hf
        cases hf
        have hdl := compLL_len e2
        have hF1 : F1 Dl = none := fresh_F S1.ex hD
        have hn1 : ¬ inFp fp1 Dl := fun w => by
          obtain ⟨o, ho⟩ := S1.live w
          rw [hD] at ho; cases ho
        obtain ⟨Sw, subw⟩ := S1.wiped vs
        have ww : ∀ σ' : L2.St, wipe σ' vs = wipe (wipe σ vs) vs → wipe σ' vs = wipe σ vs := fun σ' e => by
          rw [e]
          refine List.ext_getElem? fun j => ?_
          rw [wipe_get, wipe_get]
          split
          · cases σ[j]? <;> rfl
          · rfl
        refine ⟨fun i m H => m = xs.length - i ∧ i ≤ xs.length ∧ ∃ F env fp rs da dr, StOk A F H (wipe σ vs) (wipeE env vs) fp ∧ Same F1 F ∧ compLL pat f vs (xs.drop i) env = some (dr, ee) ∧ SlOk A F H (.ownLL da) (some (.ref Dl)) (Dl :: rs) ∧ da ++ dr = ds ∧
          (∀ a ∈ Dl :: rs, F a = none ∧ ¬ inFp fp a) ∧ Tr F1 H1 (inFp (fmix (fun _ => []) fp1 vs)) F H (fun a => inFp fp a ∨ a ∈ Dl :: rs), ?_, ?_⟩
        · refine ⟨xs.length - 0, rfl, Nat.zero_le _, F1, env1, _, [], [], ds, Sw.other hF1 fun w => hn1 (subw _ w), Same.refl _, e2, ⟨Dl, [], rfl, rfl, by simp, upd_same, .nil⟩, rfl, fun a m => ?_, ?_⟩
          · simp at m; subst m; exact ⟨hF1, fun w => hn1 (subw _ w)⟩
          · refine ⟨fun a o e w => ?_, Same.refl _, fun a h => .inl h, fun a h => ?_⟩
            · rw [upd_ne fun z : a = Dl => by rw [z, hD] at e; cases e]; exact e
            · rcases h with h | h
              · exact .inl h
              · simp at h; subst h; exact .inr hD
        · rintro i m H ⟨rfl, hi, F, env, fp, rs, da, dr, S, gr, hc, tmp, eds, tmq, T⟩
          by_cases hlt : i < xs.length
          · refine .inr ⟨ok.go i H (gr.trans S.ex) hlt, fun H => i + 1 ≤ xs.length ∧ ∃ F env fp rs da dr, StOk A F H (wipe σ vs) (wipeE env vs) fp ∧ Same F1 F ∧ compLL pat f vs (xs.drop (i + 1)) env = some (dr, ee) ∧ SlOk A F H (.ownLL da) (some (.ref Dl)) (Dl :: rs) ∧ da ++ dr = ds ∧
              (∀ a ∈ Dl :: rs, F a = none ∧ ¬ inFp fp a) ∧ Tr F1 H1 (inFp (fmix (fun _ => []) fp1 vs)) F H (fun a => inFp fp a ∨ a ∈ Dl :: rs), fun H' h => ⟨xs.length - (i + 1), by omega, rfl, h⟩, fun x H' y => ?_⟩
            rw [List.drop_eq_getElem_cons hlt, compLL] at hc
            obtain ⟨F3, T3, ex3, rb⟩ := ok.yld i H F x H' xs[i] gr S.ex y (List.getElem?_eq_getElem hlt)
            have S3 := S.lift T3 ex3
            cases e3 : bindP pat xs[i] (wipeE env vs) with
            | none => rw [e3] at hc; cases hc
            | some env2 =>
              rw [e3] at hc
              simp only [Option.bind_some] at hc
              refine bind_ok pat S3 rb e3 fun σ4 fp4 S4 sub hw => ?_
              have hw' := ww σ4 (hw vs hv)
              refine ⟨hw', A, F3, env2, fp4, S4, true, env2, rfl, fun F5 H5 fp5 S5 T5 => iteT ?_⟩
              have T4 : Tr F H (inFp fp) F3 H' (inFp fp4) := (T3.id (W := inFp fp)).weak sub
              cases e5 : f env2 with
              | none => rw [e5] at hc; cases hc
              | some p5 =>
                obtain ⟨r5, env5⟩ := p5
                rw [e5] at hc
                simp only [Option.bind_some] at hc
                refine ⟨A, F5, env2, fp5, S5, r5, env5, e5, fun v F6 H6 fp6 q6 S6 T6 ok6 => ?_⟩
                cases e6 : ownOf r5 with
                | none => rw [e6] at hc; cases hc
                | some ys =>
                  rw [e6] at hc
                  simp only [Option.bind_some] at hc
                  have er := ownOf_some e6
                  subst er
                  obtain ⟨_, ⟨ra, ev6, rfl, rw6⟩, hq6⟩ := ok6
                  cases ev6
                  cases e7 : compLL pat f vs (xs.drop (i + 1)) env5 with
                  | none => rw [e7] at hc; cases hc
                  | some p7 =>
                    obtain ⟨dr7, ee7⟩ := p7
                    rw [e7] at hc
                    cases hc
                    have T46 := (T4.trans T5).trans T6
                    obtain ⟨⟨a0, rs', ea, eq, nd, hDl, pr⟩, k⟩ := tmp.stay tmq T46
                    cases ea
                    have ers : rs' = rs := by cases eq; rfl
                    subst ers
                    have hra := hq6 ra List.mem_cons_self
                    have hnr : ∀ a ∈ Dl :: rs', a ≠ ra := fun a m z => (k a m).2 (.inr (by rw [z]; exact List.mem_cons_self))
                    have hDr : Dl ≠ ra := hnr Dl List.mem_cons_self
                    obtain ⟨S8, sub8⟩ := S6.wiped vs
                    rw [hw'] at S8
                    have hDF := k Dl List.mem_cons_self
                    have hlen : rs'.length < sizeLine := by
                      have h1 := Paired.length pr
                      have h2 : da.length ≤ ds.length := by rw [← eds, List.length_append]; exact Nat.le_add_right _ _
                      have : szMax < sizeLine := by decide
                      omega
                    refine ⟨rs'.map V.ref, hDl, by rw [List.length_map]; exact hlen, hlt, F6, env5, _, rs' ++ [ra], da ++ [ys], dr7, S8.other hDF.1 (fun w => hDF.2 (.inl (sub8 _ w))), gr.trans T46.grow, e7, ?_, by rw [List.append_assoc]; exact eds, fun a m => ?_, ?_⟩
                    · refine ⟨Dl, rs' ++ [ra], rfl, rfl, ?_, by rw [upd_same, List.map_append]; rfl, paired_append (paired_imp pr fun r ws m w => w.mono (Same.refl _) fun a ea o ho => ?_) (.cons (rw6.mono (Same.refl _) fun a ea o ho => ?_) .nil)⟩
                      · show (Dl :: rs' ++ [ra]).Nodup
                        exact List.nodup_append.mpr ⟨nd, by simp, fun a m b mb => by simp at mb; subst mb; exact hnr a m⟩
                      · cases ea
                        rw [upd_ne fun z : r = Dl => (List.nodup_cons.mp nd).1 (z ▸ m)]; exact ho
                      · cases ea
                        rw [upd_ne (Ne.symm hDr)]; exact ho
                    · have ma : a ∈ Dl :: rs' ∨ a = ra := by
                        rw [List.mem_cons, List.mem_append] at m
                        rcases m with m | m | m
                        · exact .inl (List.mem_cons.mpr (.inl m))
                        · exact .inl (List.mem_cons_of_mem _ m)
                        · simp at m; exact .inr m
                      rcases ma with m | rfl
                      · exact ⟨(k a m).1, fun w => (k a m).2 (.inl (sub8 _ w))⟩
                      · exact ⟨hra.1, fun w => hra.2 (sub8 _ w)⟩
                    · have t2 : Tr F H (fun a => inFp fp a ∨ a ∈ Dl :: rs') F6 H6 (fun a => inFp fp6 a ∨ a ∈ Dl :: (rs' ++ [ra])) := by
                        have w := T46.wide (V0 := fun a => inFp fp a ∨ a ∈ Dl :: rs') fun a h => .inl h
                        refine ⟨w.keep, w.grow, w.newF, fun a h => ?_⟩
                        rcases h with h | h
                        · exact w.newW a (.inl h)
                        · rw [List.mem_cons, List.mem_append] at h
                          rcases h with h | h | h
                          · exact .inl (.inr (List.mem_cons.mpr (.inl h)))
                          · exact .inl (.inr (List.mem_cons_of_mem _ h))
                          · exact w.newW a (.inr h)
                      have B := (T.trans t2).weak (V' := fun a => inFp (fmix (fun _ => []) fp6 vs) a ∨ a ∈ Dl :: (rs' ++ [ra])) fun a h => h.imp (sub8 a) _root_.id
                      refine ⟨fun a o e w => ?_, B.grow, B.newF, B.newW⟩
                      rw [upd_ne fun z : a = Dl => by rw [z, hD] at e; cases e]
                      exact B.keep a o e w
          · have e : i = xs.length := by omega
            subst e
            rw [List.drop_length] at hc
            cases hc
            rw [List.append_nil] at eds
            subst eds
            refine .inl ⟨ok.stop _ H (gr.trans S.ex) (Nat.le_refl _), ?_⟩
            obtain ⟨S9, T9, n9⟩ := S1.backV (G := fun a => a ∈ Dl :: rs) S T
            exact q (.ref Dl) F H _ (Dl :: rs) S9 (T1.trans T9) ⟨(nomatch ·), tmp, fun a m => ⟨(tmq a m).1, n9 a m (tmq a m).2⟩⟩
    · cases hf
section
variable {X : Cx} {elt tg iter : Expr} {scope : Scope} {own : List (Str × Nat)} {pos spos : Pos} {it : IE} {pat : Pat} {f : RE}
theorem ps_setLL' {i : Nat} {y : Str} {py : Pos} (hc : X.calm = true) (hN : X.N.Nodup) (hy : X.N[i]? = some y) (hyl : X.env.scope.names.lookup y = some .local)
    (hsw : swapsWith (.ListComp elt [⟨tg, iter, [], 0⟩] scope pos) (some (.Name y py)) spos.line X.env = pure true) (hi : PI X tg iter (tI it)) (ok : BlkOk X.N X.env.scope scope own) (hv : ∀ i ∈ pat.names, i ∈ own.map (·.2))
    (hg : ∀ (s : Shared) (H : Hp) (C : Addr) (cl : List (Str × Addr)) (fp : List Addr), PG (X.blk s H scope (compEnvC scope cl C X.env) fp) tg (gPat X.K pat))
    (he : ∀ (s : Shared) (H : Hp) (C : Addr) (cl : List (Str × Addr)) (fp : List Addr), PE (X.blk s H scope (compEnvC scope cl C X.env) fp) elt (tR f)) (hs : ∀ x, foldedSetIterable iter X.env x = pure x := by intro _; rfl) :
    PS X (.Assign [.Name y py] (.ListComp elt [⟨tg, iter, [], 0⟩] scope pos) spos) (tS (dSet i (dLL it pat f (own.map (·.2))))) := PS.imp (ps_setLc hc hN hy hyl hsw hi ok hg (fun _ _ _ _ _ => pqs_nil) he hs) fun Dn σ H h => by
  have k := t_set h
  exact t_ll (Q := fun x H1 => gName i x σ H1 Dn.nx) hv k
/-! ### xss[i][j] = e -/
def llAt (env : Env') (i : Nat) : Option (List (List D)) := match env[i]? with
  | some (.ownLL xss) => some xss
  | _ => none
theorem ll_at {env : Env'} {i : Nat} {xss : List (List D)} (h : llAt env i = some xss) : env[i]? = some (.ownLL xss) := by
  unfold llAt at h
  cases e : env[i]? with
  | none => rw [e] at h; cases h
  | some s => rw [e] at h; cases s <;> first | (cases h; rfl) | cases h
def slotInt (env : Env') (i : Nat) : Option Int := match env[i]? with
  | some (.dat (.int j)) => some j
  | _ => none
theorem slot_int {A : Addr} {F H : Hp} {σ : L2.St} {env : Env'} {fp : Nat → List Addr} (S : StOk A F H σ env fp) {i : Nat} {j : Int} (h : slotInt env i = some j) : σ[i]? = some (some (.int j)) := by
  unfold slotInt at h
  cases e : env[i]? with
  | none => rw [e] at h; cases h
  | some s =>
    rw [e] at h
    cases s with
    | dat d =>
      cases d with
      | int k =>
        cases h
        obtain ⟨_, v, hv, rb⟩ := S.at e
        cases rb
        have hl : i < σ.length := by rw [S.len]; exact StOk.lt e
        rw [List.getElem?_eq_getElem hl] at hv ⊢
        rw [← hv]; rfl
      | _ => cases h
    | _ => cases h
def dSetLL (i : Nat) (fv : BE) (j k : Nat) : SE := fun env => (fv env).bind fun p => (resB p.2 p.1).bind fun r => (llAt r.2 i).bind fun xss => (slotInt r.2 j).bind fun a => (slotInt r.2 k).bind fun b => (ixN xss.length a).bind fun m => (xss[m]?).bind fun row =>
  (ixN row.length b).map fun n => .nx (r.2.set i (.ownLL (xss.set m (row.set n r.1))))
theorem paired_get {α β : Type} {P : α → β → Prop} : ∀ {l : List α} {m : List β} {i : Nat} {b : β}, Paired P l m → m[i]? = some b → ∃ a, l[i]? = some a ∧ P a b
  | _, _, _, _, .nil, h => by simp at h
  | _, _, 0, _, .cons h _, e => by cases e; exact ⟨_, rfl, h⟩
  | _, _, i + 1, b, .cons _ t, e => by
    obtain ⟨a, h1, h2⟩ := paired_get (i := i) (b := b) t (by simpa using e)
    exact ⟨a, by simpa using h1, h2⟩
theorem paired_set {α β : Type} {P Q : α → β → Prop} {a : α} {b : β} (h : Q a b) : ∀ {l : List α} {m : List β} (i : Nat), Paired P l m → l[i]? = some a → (∀ x y, x ∈ l → x ≠ a → P x y → Q x y) → l.Nodup → Paired Q l (m.set i b)
  | _, _, _, .nil, _, _, _ => .nil
  | x :: l, y :: m, 0, .cons p t, e, k, nd => by
    cases e
    exact .cons h (paired_imp t fun x y mx px => k x y (List.mem_cons_of_mem _ mx) (fun z => (List.nodup_cons.mp nd).1 (z ▸ mx)) px)
  | x :: l, y :: m, i + 1, .cons p t, e, k, nd => by
    have e' : l[i]? = some a := by simpa using e
    have nd' := List.nodup_cons.mp nd
    exact .cons (k x y List.mem_cons_self (fun z => nd'.1 (z ▸ List.mem_of_getElem? e')) p) (paired_set h i t e' (fun x y mx => k x y (List.mem_cons_of_mem _ mx)) nd'.2)
theorem t_setLL {K : PySem.W.Frag} {i j k : Nat} {fv : BE} {Dn : Ends} {σ : L2.St} {H : Hp} (h : tS (dSetLL i fv j k) Dn σ H) : tAsg (tO fv) (gSub (tOp (rIx K) (tVar i) (tVar j)) (tVar k) rSetL) Dn σ H := by
  obtain ⟨A, F, env, fp, S, fl, hf, q⟩ := h
  unfold dSetLL at hf
  cases e1 : fv env with
  | none => rw [e1] at hf; cases hf
  | some p =>
    obtain ⟨x, env1⟩ := p
    rw [e1] at hf
    refine ⟨A, F, env, fp, S, x, env1, e1, fun v F1 H1 fp1 S1 T1 ok1 => ?_⟩
    simp only [Option.bind_some] at hf
    cases e2 : resB env1 x with
    | none => rw [e2] at hf; cases hf
    | some p2 =>
      obtain ⟨d, env2⟩ := p2
      rw [e2] at hf
      simp only [Option.bind_some] at hf
      obtain ⟨F2, fp2, S2, T2, rb⟩ := res_ok S1 ok1 e2
      cases e3 : llAt env2 i with
      | none => rw [e3] at hf; cases hf
      | some xss =>
        rw [e3] at hf
        simp only [Option.bind_some] at hf
        cases e4 : slotInt env2 j with
        | none => rw [e4] at hf; cases hf
        | some ia =>
          rw [e4] at hf
          simp only [Option.bind_some] at hf
          cases e5 : slotInt env2 k with
          | none => rw [e5] at hf; cases hf
          | some ib =>
            rw [e5] at hf
            simp only [Option.bind_some] at hf
            cases e6 : ixN xss.length ia with
            | none => rw [e6] at hf; cases hf
            | some m =>
              rw [e6] at hf
              simp only [Option.bind_some] at hf
              cases e7 : xss[m]? with
              | none => rw [e7] at hf; cases hf
              | some row =>
                rw [e7] at hf
                simp only [Option.bind_some] at hf
                cases e8 : ixN row.length ib with
                | none => rw [e8] at hf; cases hf
                | some n =>
                  rw [e8] at hf
                  cases hf
                  have hl0 : i < σ.length := by rw [S2.len]; exact StOk.lt (ll_at e3)
                  obtain ⟨a, rs, hv0, hp, nd, ha, pr⟩ := S2.at (ll_at e3)
                  have hv : σ[i]? = some (some (.ref a)) := by
                    rw [List.getElem?_eq_getElem hl0] at hv0 ⊢
                    rw [← hv0]; rfl
                  obtain ⟨ra, hr, vr⟩ := paired_get pr e7
                  have hne : a ≠ ra := fun z => (List.nodup_cons.mp (hp ▸ nd)).1 (z ▸ List.mem_of_getElem? hr)
                  have hra : ra ∈ fp2 i := by rw [hp]; exact List.mem_cons_of_mem _ (List.mem_of_getElem? hr)
                  cases vr with
                  | @lst _ ws _ hh rr =>
                    refine ⟨.ref a, hv, .int ia, slot_int S2 e4, .inl ⟨a, rs.map V.ref, ia, .ref ra, rfl, rfl, SqL.of ha, ?_, .int ib, slot_int S2 e5, ra, ws, ib, n, rfl, rfl, hh, by rw [rr.length]; exact e8, ?_⟩⟩
                    · unfold L2.atI
                      rw [List.length_map, Paired.length pr, e6]
                      show (rs.map V.ref)[m]? = _
                      rw [List.getElem?_map, hr]; rfl
                    · refine q σ F2 _ fp2 ⟨by rw [List.length_set]; exact S2.len, fun l => ?_, S2.disj, S2.free, fun c u e => ?_⟩ ((T1.trans T2).trans ⟨fun c u e w => ?_, Same.refl _, fun c e => .inl e, fun c e => .inl e⟩)
                      · by_cases el : l = i
                        · subst el
                          rw [getD_set_same (StOk.lt (ll_at e3)), hv, hp]
                          refine ⟨a, rs, rfl, rfl, hp ▸ nd, by rw [upd_ne hne]; exact ha, paired_set (.lst upd_same (RbA.set rb n rr)) m pr hr (fun x y mx ne w => w.mono (Same.refl _) fun c ec o ho => ?_) (List.nodup_cons.mp (hp ▸ nd)).2⟩
                          cases ec
                          rw [upd_ne ne]; exact ho
                        · rw [getD_set_ne el]
                          refine (S2.slot l).mono (Same.refl _) fun c hc u hu => ?_
                          rw [upd_ne fun z : c = ra => el (S2.disj l i ra (z ▸ hc) hra)]
                          exact hu
                      · rw [upd_ne fun z : c = ra => by rw [z, S2.free i ra hra] at e; cases e]
                        exact S2.ex c u e
                      · rw [upd_ne fun z : c = ra => w ⟨i, by rw [z]; exact hra⟩]
                        exact e
theorem ps_setIxIx' {i j k : Nat} {value oe ie je : Expr} {p1 p2 : Pos} {fv : BE} (ho : PE X oe (tVar i)) (hi : PE X ie (tVar j)) (hj : PE X je (tVar k)) (hv : PE X value (tO fv)) (hp : PlainIx ie := by exact fun _ _ => rfl)
    (ha : ∀ v, assign (.Subscript (.Subscript oe ie p1) je p2) X.env v = (do
      let ov ← holding [v] (eval (.Subscript oe ie p1) X.env)
      let iv ← holding [v, ov] (eval je X.env)
      standAt p2
      holding [v, ov, iv] (setItem ov iv v)
      release [v, ov, iv] []) := by intro _; rfl)
    (hs : swapsWithSole [.Subscript (.Subscript oe ie p1) je p2] value pos.line X.env = pure false := by rfl) (hw : swappedStores [.Subscript (.Subscript oe ie p1) je p2] value X.env = pure none := by rfl)
    (h1 : (assignEach [.Subscript (.Subscript oe ie p1) je p2] X.env).map (·.2) = [assign (.Subscript (.Subscript oe ie p1) je p2) X.env] := by rfl) :
    PS X (.Assign [.Subscript (.Subscript oe ie p1) je p2] value pos) (tS (dSetLL i fv j k)) := PS.imp (ps_asg hv (pg_sub (pe_ix ix_seq ho hi hp) hj set_list ha) hs hw h1) fun _ _ _ h => t_setLL h
/-- xs[i] = e, xs a list of ours -/
theorem ps_setIx' {i : Nat} {value oe ie : Expr} {p2 : Pos} {fv gi : BE} (ho : PE X oe (tVar i)) (hi : PE X ie (tO gi)) (hv : PE X value (tO fv))
    (ha : ∀ v, assign (.Subscript oe ie p2) X.env v = (do
      let ov ← holding [v] (eval oe X.env)
      let iv ← holding [v, ov] (eval ie X.env)
      standAt p2
      holding [v, ov, iv] (setItem ov iv v)
      release [v, ov, iv] []) := by intro _; rfl)
    (hs : swapsWithSole [.Subscript oe ie p2] value pos.line X.env = pure false := by rfl) (hw : swappedStores [.Subscript oe ie p2] value X.env = pure none := by rfl)
    (h1 : (assignEach [.Subscript oe ie p2] X.env).map (·.2) = [assign (.Subscript oe ie p2) X.env] := by rfl) :
    PS X (.Assign [.Subscript oe ie p2] value pos) (tS (dSetIx i fv gi)) := PS.imp (ps_asg hv (pg_sub ho hi set_list ha) hs hw h1) fun _ _ _ h => t_setIx h
end
/-! ### repr, where no repr runs around -/
def rpMax : Nat := 8000000
def reprD : List D → Option Sl
  | [d] => if PyData.canLay0 d = true ∧ d.showable = true ∧ d.depth ≤ 20 ∧ d.shown.length ≤ rpMax then some (.dat (.str d.shown)) else none
  | _ => none
def rRepr (K : PySem.W.Frag) : List V → Hp → VK → Prop := fun xs H Q => ∃ x d, xs = [x] ∧ Dp K H x d ∧ d.canLay0 = true ∧ d.showable = true ∧ d.depth ≤ 20 ∧ d.shown.length ≤ sizeLine ∧ Q (.str d.shown) H
theorem cr_repr {X : Cx} (hg : X.A.guards = some []) (hu : X.A.units + 64 < cLine) : CallR X (.builtin "repr") (rRepr X.K) := by
  intro pins s σ H xs us Q I r h
  obtain ⟨x, d, rfl, hd, hc, hs, hdp, hz, q⟩ := h
  obtain ⟨u, rfl, rx⟩ := vals1 r
  have hd' := hd
  cases hd with
  | non =>
    cases rx
    exact PySem.P.repr_of_none (by rw [PyData.shown_none] at q; exact ⟨.str _, H, I.tok _, ⟨_, rfl⟩, q⟩)
  | bl b =>
    cases rx
    exact PySem.P.repr_of_bool (by rw [PyData.shown_bool] at q; exact ⟨.str _, H, I.tok _, ⟨_, rfl⟩, q⟩)
  | int i =>
    obtain ⟨t, rfl⟩ := rx
    rw [PyData.showable, decide_eq_true_eq] at hs
    exact PySem.P.repr_of_int hs (by rw [PyData.shown_int] at q; exact ⟨.str _, H, I.tok _, ⟨_, rfl⟩, q⟩)
  | str y =>
    obtain ⟨t, rfl⟩ := rx
    rw [PyData.shown_str] at q hz
    exact PySem.P.repr_of_str ⟨.str _, H, I.tok _, ⟨_, rfl⟩, q⟩ hz
  | @lst a xs ds ha hb =>
    cases rx
    obtain ⟨as, rd⟩ := Dp.reads I _ _ (.ref a) hd' rfl
    exact repr_of_reads' rd hs (PyData.noDict_hsm (PyData.hasDict_of_canLay _ hc)) hg (by omega) (fun _ _ e => e) (fun h' t tk hk => ⟨.str _, H, I.kept (t' := tk) hk, ⟨_, rfl⟩, q⟩) hz
  | @tup a xs ds ha hb =>
    cases rx
    obtain ⟨as, rd⟩ := Dp.reads I _ _ (.ref a) hd' rfl
    exact repr_of_reads' rd hs (PyData.noDict_hsm (PyData.hasDict_of_canLay _ hc)) hg (by omega) (fun _ _ e => e) (fun h' t tk hk => ⟨.str _, H, I.kept (t' := tk) hk, ⟨_, rfl⟩, q⟩) hz
theorem sp_repr {K : PySem.W.Frag} : CallSpec (fun xs H Q => rRepr K xs H Q) reprD := by
  intro A F H vs ds s Q ex w hs k
  match ds, w, hs with
  | [d], .cons h .nil, hs =>
    simp only [reprD] at hs
    split at hs
    · rename_i hc
      cases hs
      exact ⟨_, _, rfl, h.dp ex hc.1, hc.1, hc.2.1, hc.2.2.1, Nat.le_trans hc.2.2.2 (by decide), k _ F H [] (Res.old ex (.str _))⟩
    · cases hs
end DL
namespace DL
open PySem PySem.Spec PyProof.Rows L2

/-! ### defs that are run where no repr runs around -/
structure FnOkG (P : Program) (w : World) (K : PySem.W.Frag) (mg : Str → Option Value) (base : Heap) (CX : CXT) (k : Nat) (f : Addr) (fd : FuncData) (ps : List Str) (sp : Sp) : Prop where
  many : ∀ xs H0 Qv Ex, sp xs H0 Qv Ex → xs.length = ps.length
  goes : ∀ (B : Around) (fr : List Env) (t : Shared) (H0 : Hp) (as : Args) (ws : List Value) (xs : List V) (Qv : VK) (Ex : XK), Room k B → B.guards = some [] → Env0 P w K mg base B fr t H0 → BindsTo t fd as (ps.zip ws) → Vals xs ws → sp xs H0 Qv Ex →
    codeAny (model P w) B (.call (.ref f) as) (CR CX fr P w H0 t Qv Ex) t
section
variable {P : Program} {w : World} {K : PySem.W.Frag} {mg : Str → Option Value} {base : Heap} {k j : Nat} {f : Addr} {fd : FuncData} {ps : List Str} {sp : Sp} {CX : CXT}
theorem FnOkG.of (h : FnOk P w K mg base CX k f fd ps sp) : FnOkG P w K mg base CX k f fd ps sp :=
  { many := h.len, goes := fun B fr t H0 as ws xs Qv Ex room _ => h.run B fr t H0 as ws xs Qv Ex room }
theorem FnOkG.mono (h : FnOkG P w K mg base CX j f fd ps sp) (le : j ≤ k) : FnOkG P w K mg base CX k f fd ps sp :=
  { many := h.many, goes := fun B fr t H0 as ws xs Qv Ex room => h.goes B fr t H0 as ws xs Qv Ex (room.mono le) }
theorem FnOkG.weak {sp' : Sp} (h : FnOkG P w K mg base CX k f fd ps sp) (le : ∀ xs H0 Qv Ex, sp' xs H0 Qv Ex → sp xs H0 Qv Ex) : FnOkG P w K mg base CX k f fd ps sp' :=
  { many := fun xs H0 Qv Ex z => h.many xs H0 Qv Ex (le _ _ _ _ z), goes := fun B fr t H0 as ws xs Qv Ex r g e b v z => h.goes B fr t H0 as ws xs Qv Ex r g e b v (le _ _ _ _ z) }
theorem guards_deeper {B : Around} {env : Env} (g : B.guards = some []) : (B.deeper env).guards = some [] := g
/-- as fn_of, told of the guards -/
theorem fn_g0 {x qual : Str} {st : Stmt} {N : List Str} (F : Fun K x qual st f fd) (S : FnScope N ps (defScope st)) (many : ∀ xs H0 Qv Ex, sp xs H0 Qv Ex → xs.length = ps.length)
    (hb : ∀ (cdv : Value) (B : Around) (fr : List Env) (t : Shared) (H0 : Hp) (xs : List V) (Qv : VK) (Ex : XK), Room k (B.deeper (envOfC qual (defScope st) t.heap.objs.size f cdv)) → (B.deeper (envOfC qual (defScope st) t.heap.objs.size f cdv)).guards = some [] → sp xs H0 Qv Ex →
      ∃ rd, PSs (cxOf CX0 P w K mg base N qual (defScope st) f cdv B fr t H0 Ex).nox (defBody st) rd ∧ rd { nx := fun _ H1 => Qv .non H1, rt := Qv } (L2.start N xs) H0) : FnOkG P w K mg base CX0 (k + 1) f fd ps sp := by
  obtain ⟨oc, od, kV, doc, pm, an, cdv, ct, osl, rfl, lk, hcd⟩ := F.ex
  refine { many := many, goes := fun B fr t H0 as ws xs Qv Ex room g e0 bt rv hs => ?_ }
  have inK : K.In t.heap := e0.mod.kin.keeps fun b o e => (e0.bs b o e).1
  have free : t.heap.NoLimit := e0.mod.nolimit.keeps fun b o e => (e0.bs b o e).1
  refine codeAny_call_function room.depth (inK _ _ lk) rfl S.co S.gen rfl (PySem.W.codeRec_of inK hcd) (bt _ _ _ _ ?_)
  refine wpAny_newFunctionEnv_cells S.kind (fun y my => (S.par y.1 (List.of_mem_zip my).1).imp id fun z => ⟨z, PySem.W.cellsFrom_some _ _ _ (.inl z)⟩) fun env he t1 x => ?_
  cases he
  refine ⟨free.keeps x.toInCall.keep, codeAny_func ?_⟩
  obtain ⟨rd, run, q⟩ := hb cdv B fr t H0 xs Qv Ex (room.deeper _) (guards_deeper g) hs
  refine wpAny_mono (run.nox.run [] t1 (L2.start N xs) H0 _ (inv_start S room.hd e0 (many _ _ _ _ hs) rv x) q) (fun fl t2 z => ?_) fun _ _ z => z
  match fl, z with
  | .ret _, ⟨v, _, H1, J, rv, q⟩ => exact ⟨v, H1, J.os, J.bare, J.base, J.hok, rv, q⟩
  | .next, ⟨_, H1, J, q⟩ => exact ⟨V.non, H1, J.os, J.bare, J.base, J.hok, rfl, q⟩
  | .brk, ⟨_, _, _, q⟩ => exact q.elim
  | .cont, ⟨_, _, _, q⟩ => exact q.elim
theorem fn_g {x qual : Str} {st : Stmt} {N : List Str} (io : Bool) {g : SE} (F : Fun K x qual st f fd) (S : FnScope N ps (defScope st)) (hNp : ps.length ≤ N.length)
    (hb : ∀ (cdv : Value) (B : Around) (fr : List Env) (t : Shared) (H0 : Hp) (Ex : XK), Room k (B.deeper (envOfC qual (defScope st) t.heap.objs.size f cdv)) → (B.deeper (envOfC qual (defScope st) t.heap.objs.size f cdv)).guards = some [] →
      PSs (cxOf CX0 P w K mg base N qual (defScope st) f cdv B fr t H0 Ex).nox (defBody st) (tS g)) : FnOkG P w K mg base CX0 (k + 1) f fd ps (spD io ps.length (runBody io N.length g)) :=
  fn_g0 F S (fun xs H0 Qv Ex z => z.1) fun cdv B fr t H0 xs Qv Ex r gd z => ⟨_, hb cdv B fr t H0 Ex r gd, t_body hNp z⟩
end
section
variable {X : Cx} {CX : CXT} {k : Nat} {f : Addr} {fd : FuncData} {ps : List Str} {E : XK} {x : Str} {p pos : Pos} {e : Expr} {es : List Expr} {sp : Sp} {t : TA}
theorem pe_callG (Fo : FnOkG X.prog X.w X.K X.mg X.base CX k f fd ps sp) (room : Room k X.A) (gd : X.A.guards = some []) (hg : Gl X x) (hm : X.mg x = some (.ref f)) (hk : PySem.W.keepIn X.K (.ref f) = true) (hb : Binds X.K fd ps []) (hx : Passes CX X E)
    (ha : PA X (e :: es) t) (hdb : (x == ("__debug__" : Str)) = false := by decide) (he : starEach (e :: es) X.env = (false, eval e X.env) :: starEach es X.env := by rfl) (hpl : (backTo pos (starEach es X.env)).any (·.1) = false := by rfl) :
    PE X (.Call (.Name x p) (e :: es) [] pos) (tCall sp [] E t) where
  run pins s σ H Q I h := by
    refine wpAny_Call_Name_kw (ld_glob I hg hm ?_ hdb)
    refine PySem.W.callWith_K (h₀ := X.base) I.ok.mod.kin hk (thn (ha.run pos pins s σ H _ I h) fun ws s1 z => ?_) he hpl
    obtain ⟨vs, H1, I1, r, q⟩ := z
    refine ⟨I1.kIn, wpAny_call (codeAny_mono (Fo.goes X.A X.stack s1 H1 ⟨ws, []⟩ (ws ++ []) (vs ++ []) Q E room gd I1.env0 (hb s1 ws I1.kIn (by rw [← (r.append .nil).length]; exact Fo.many _ _ _ _ q)) (r.append .nil) q) fun res s2 hq => ?_)⟩
    match res, hq with
    | .error err, hq => exact hx pins σ H1 s1 err s2 I1 hq
    | .ok (.ret u), hq => exact I1.after hq
    | .ok .next, hq => exact hq.elim
    | .ok .brk, hq => exact hq.elim
    | .ok .cont, hq => exact hq.elim
theorem pr_callG {n : Nat} {g : BAE} {sem : Sem'} (Fo : FnOkG X.prog X.w X.K X.mg X.base CX k f fd ps (spD false n sem)) (room : Room k X.A) (gd : X.A.guards = some []) (hg : Gl X x) (hm : X.mg x = some (.ref f)) (hk : PySem.W.keepIn X.K (.ref f) = true) (hb : Binds X.K fd ps []) (hx : Passes CX X E)
    (ha : PA X (e :: es) (tOs g)) (hn : ∀ env bs e, g env = some (bs, e) → bs.length = n) (hdb : (x == ("__debug__" : Str)) = false := by decide) (he : starEach (e :: es) X.env = (false, eval e X.env) :: starEach es X.env := by rfl) (hpl : (backTo pos (starEach es X.env)).any (·.1) = false := by rfl) :
    PE X (.Call (.Name x p) (e :: es) [] pos) (tR (dCall sem g)) := PE.imp (pe_callG Fo room gd hg hm hk hb hx ha hdb he hpl) fun _ _ _ z => t_call hn z
theorem pr_callIoG {n i : Nat} {g : BAE} {sem : Sem'} (Fo : FnOkG X.prog X.w X.K X.mg X.base CX k f fd ps (spD true n sem)) (room : Room k X.A) (gd : X.A.guards = some []) (hg : Gl X x) (hm : X.mg x = some (.ref f)) (hk : PySem.W.keepIn X.K (.ref f) = true) (hb : Binds X.K fd ps []) (hx : Passes CX X E)
    (ha : PA X (e :: es) (tOs g)) (hn : ∀ env bs e, g env = some (bs, e) → bs.length = n) (hdb : (x == ("__debug__" : Str)) = false := by decide) (he : starEach (e :: es) X.env = (false, eval e X.env) :: starEach es X.env := by rfl) (hpl : (backTo pos (starEach es X.env)).any (·.1) = false := by rfl) :
    PE X (.Call (.Name x p) (e :: es) [] pos) (tR (dCallIo sem i g)) := PE.imp (pe_callG Fo room gd hg hm hk hb hx ha hdb he hpl) fun _ _ _ z => t_callIo hn z
end

/-! ### _law_draw -/
def drawS (ca cb : Int) : Sem' := fun xs ds => match xs, ds with
  | [.int a, .int b], [.int m] => if 0 < m ∧ m.toNat < 1000000 then
      if a > 0 then some (.dat (.int (a % m)), [.int (a / m), .int b])
      else some (.dat (.int ((((b * ca + cb) % 2147483587) * ((b * ca + cb) % 2147483587) % 2147483563 / 29) % m)), [.int a, .int ((b * ca + cb) % 2147483587)])
    else none
  | _, _ => none
def rDm : List V → Hp → VK → Prop := fun xs H Q => ∃ i j, xs = [.int i, .int j] ∧ CDivP i j ∧ ∀ p, H p = none → Q (.ref p) (upd H p (.tup [.int (i / j), .int (i % j)]))
def rInt1 : List V → Hp → VK → Prop := fun xs H Q => (∃ i, xs = [.int i] ∧ Q (.int i) H) ∨ ∃ k, xs = [.bl k] ∧ Q (.int (if k then 1 else 0)) H
def tIx (K : PySem.W.Frag) (i : Nat) (j : Int) : TE := tOp (rIx K) (tVar i) (tC (.int j))
def tPlus : R2 := rI0 fun i j => .int (i + j)
def tTimes : R2 := rI CMul fun i j => .int (i * j)
def tRest : R2 := rI (fun _ j => 0 < j) fun i j => .int (i % j)
def tWhole : R2 := rI CDiv fun i j => .int (i / j)
def tDraw (K : PySem.W.Frag) (ca cb : Int) : TS :=
  tSeq (tIfS (tTest (tOp (rI0 fun i j => .bl (decide (j < i))) (tIx K 0 0) (tC (.int 0))))
    (tSeq (tAsg (tCB rDm (tCons (tIx K 0 0) (tCons (tVar 1) tNil))) (gTup K 2 (gCons (gSub (tVar 0) (tC (.int 0)) rSetL) (gCons (gName 2) gNil)))) (tRet (tVar 2))) tNext)
  (tSeq (tAsg (tOp tRest (tCB rInt1 (tCons (tOp tPlus (tOp tTimes (tIx K 0 1) (tC (.int ca))) (tC (.int cb))) tNil)) (tC (.int 2147483587))) (gSub (tVar 0) (tC (.int 1)) rSetL))
    (tRet (tOp tRest (tCB rInt1 (tCons (tOp tWhole (tOp tRest (tCB rInt1 (tCons (tOp tTimes (tIx K 0 1) (tIx K 0 1)) tNil)) (tC (.int 2147483563))) (tC (.int 29))) tNil)) (tVar 1))))
theorem cdivp {a m : Int} (h : 0 < m) (h2 : m < 1000000) : CDivP a m := ⟨h, PyProof.noPylong_small (by omega)⟩
theorem ixL_at {K : PySem.W.Frag} {H : Hp} {p : Addr} {xs : List V} {j : Nat} {v : V} {Q : VK} (h : H p = some (.lst xs)) (g : xs[j]? = some v) (q : Q v H) : rIx K (.ref p) (.int j) H Q :=
  .inl ⟨p, xs, _, v, rfl, rfl, .inl (.inl h), atI_nat g, q⟩
theorem ixN2 {j : Nat} (h : j < 2) : ixN 2 (j : Int) = some j := by
  match j, h with
  | 0, _ => rfl
  | 1, _ => rfl
theorem pair_ints {F : Hp} {vs : List V} {a b : Int} (r : RbA F vs [.int a, .int b]) : vs = [.int a, .int b] := by
  cases r with
  | cons h r => cases h; cases r with
    | cons h r => cases h; cases r; rfl
theorem one_int {F : Hp} {vs : List V} {m : Int} (r : RbA F vs [.int m]) : vs = [.int m] := by
  cases r with
  | cons h r => cases h; cases r; rfl
theorem t_draw {K : PySem.W.Frag} {ca cb : Int} {vs : List V} {H : Hp} {Q : VK} {E : XK} (hca : 0 ≤ ca ∧ ca ≤ 1000000) (h : spD true 2 (drawS ca cb) vs H Q E) :
    tDraw K ca cb { nx := fun _ H' => Q .non H', rt := Q } (L2.start ["pot", "many", "digit"] vs) H := by
  obtain ⟨hl, A, F, xs0, ds, vr, ex, rfl, ra, hio, _, s, xs1, hsem, q⟩ := h
  obtain ⟨w, hF⟩ := hio rfl
  unfold drawS at hsem
  match xs0, ds, hsem with
  | [.int a, .int b], [.int m], hsem =>
    cases one_int ra
    have w' := w
    cases w' with
    | @lst _ us _ hA r =>
    cases pair_ints r
    have hsem : (if 0 < m ∧ m.toNat < 1000000 then
      if a > 0 then some (Sl.dat (.int (a % m)), [PyData.int (a / m), .int b])
      else some (Sl.dat (.int ((((b * ca + cb) % 2147483587) * ((b * ca + cb) % 2147483587) % 2147483563 / 29) % m)), [PyData.int a, .int ((b * ca + cb) % 2147483587)])
      else none) = some (s, xs1) := hsem
    split at hsem
    · rename_i hm
      show tDraw K ca cb _ [some (.ref A), some (.int m), none] H
      refine ⟨.ref A, rfl, ixL_at (j := 0) hA rfl ⟨_, _, rfl, rfl, _, rfl, ?_⟩⟩
      by_cases ha : a > 0
      · rw [if_pos ha] at hsem
        cases hsem
        rw [if_pos (decide_eq_true ha)]
        refine ⟨.ref A, rfl, ixL_at (j := 0) hA rfl ⟨.int m, rfl, a, m, rfl, cdivp hm.1 (by omega), fun p hp => ?_⟩⟩
        have hAp : A ≠ p := ne_of_none hA hp
        refine ⟨p, _, rfl, .inl (.inl upd_same), rfl, _, _, rfl, ⟨.ref A, rfl, A, _, _, 0, rfl, rfl, (by rw [upd_ne hAp]; exact hA), rfl, _, _, rfl, ⟨rfl, ?_⟩⟩⟩
        refine ⟨_, rfl, ?_⟩
        refine q (.int (a % m)) F _ [] ⟨fun c o e k => ?_, Same.refl _, fun c h1 => .inl h1, fun c z => z.elim .inl fun z => nomatch z⟩ ?_ ⟨rfl, _, rfl, .int _⟩ rfl (fun _ z => nomatch z) fun _ => ⟨.lst upd_same (.cons (.int _) (.cons (.int _) .nil)), hF⟩
        · rw [upd_ne (fun z => k ⟨rfl, z⟩), upd_ne (ne_of_none e hp)]; exact e
        · intro c o e
          have hc : c ≠ A := fun z => by subst z; rw [hF] at e; cases e
          rw [upd_ne hc, upd_ne (ne_of_none (ex c o e) hp)]
          exact ex c o e
      · rw [if_neg ha] at hsem
        cases hsem
        rw [if_neg (by simpa using ha)]
        have hb : (b * ca + cb) % 2147483587 < 2147483587 := Int.emod_lt_of_pos _ (by decide)
        have hb0 : 0 ≤ (b * ca + cb) % 2147483587 := Int.emod_nonneg _ (by decide)
        generalize hbb : (b * ca + cb) % 2147483587 = b1 at hb hb0 q ⊢
        refine ⟨.ref A, rfl, ixL_at (j := 1) hA rfl ⟨b, ca, rfl, rfl, .inr ⟨by omega, by omega⟩, _, _, rfl, rfl, .inl ⟨_, rfl, _, _, rfl, rfl, (show (0 : Int) < 2147483587 by decide), ?_⟩⟩⟩
        show gSub (tVar 0) (tC (V.int 1)) rSetL (V.int ((b * ca + cb) % 2147483587)) _ H _
        rw [hbb]
        refine ⟨.ref A, rfl, A, _, 1, 1, rfl, rfl, hA, rfl, ?_⟩
        have hA1 : upd H A (.lst ([V.int a, V.int b].set 1 (.int b1))) A = some (.lst [.int a, .int b1]) := upd_same
        refine ⟨.ref A, rfl, ixL_at (j := 1) hA1 rfl ⟨.ref A, rfl, ixL_at (j := 1) hA1 rfl ⟨b1, b1, rfl, rfl, .inr ⟨by omega, by omega⟩, .inl ⟨_, rfl, _, _, rfl, rfl, (show (0 : Int) < 2147483563 by decide), _, _, rfl, rfl, (show CDiv _ 29 from ⟨by decide, by decide⟩), .inl ⟨_, rfl, .int m, rfl, _, _, rfl, rfl, hm.1, ?_⟩⟩⟩⟩⟩
        refine q _ F _ [] ⟨fun c o e k => ?_, Same.refl _, fun c h1 => .inl h1, fun c z => z.elim .inl fun z => nomatch z⟩ ?_ ⟨rfl, _, rfl, .int _⟩ rfl (fun _ z => nomatch z) fun _ => ⟨.lst upd_same (.cons (.int _) (.cons (.int _) .nil)), hF⟩
        · rw [upd_ne (fun z => k ⟨rfl, z⟩)]; exact e
        · intro c o e
          have hc : c ≠ A := fun z => by subst z; rw [hF] at e; cases e
          rw [upd_ne hc]
          exact ex c o e
    · cases hsem

/-! ### _law_pot -/
def rAbs : List V → Hp → VK → Prop := fun xs H Q => ∃ i, xs = [.int i] ∧ Q (.int (if i < 0 then -i else i)) H
def rMax2 : List V → Hp → VK → Prop := fun xs H Q => ∃ i j, xs = [.int i, .int j] ∧ Q (.int (if j > i then j else i)) H
def rMin2 : List V → Hp → VK → Prop := fun xs H Q => ∃ i j, xs = [.int i, .int j] ∧ Q (.int (if j < i then j else i)) H
def rLenS (K : PySem.W.Frag) : List V → Hp → VK → Prop := fun xs H Q => ∃ p ys, xs = [.ref p] ∧ (SqL K H p ys ∨ SqT K H p ys) ∧ Q (.int ys.length) H
def tLess : R2 := rI0 fun i j => .bl (decide (i < j))
def tMinus : R2 := rI0 fun i j => .int (i - j)
def tPow : R2 := rI CPow fun i j => .int (i ^ j.toNat)
def tPot (K : PySem.W.Frag) (a b c : Int) : TS :=
  tSeq (tAsg (tIf (tTest (tOp tLess (tVar 1) (tCB (rLenS K) (tCons (tVar 0) tNil)))) (tCB rAbs (tCons (tOp (rIx K) (tVar 0) (tVar 1)) tNil)) (tOp tPlus (tOp tTimes (tC (.int a)) (tVar 1)) (tC (.int b)))) (gName 2))
    (tRet (tLst (tCons (tCB rMax2 (tCons (tC (.int 0)) (tCons (tOp tMinus (tVar 2) (tOp tPow (tC (.int 10)) (tC (.int 18)))) tNil)))
      (tCons (tOp tPlus (tOp tRest (tCB rInt1 (tCons (tOp tPlus (tOp tPlus (tOp tTimes (tOp tRest (tCB rInt1 (tCons (tVar 2) tNil)) (tC (.int 2147483549))) (tC (.int c))) (tOp tTimes (tC (.int a)) (tVar 1))) (tC (.int b))) tNil)) (tC (.int 2147483563))) (tC (.int 1))) tNil))))
def spPot (K : PySem.W.Frag) : Sp := fun vs H Q _ => ∃ (a : Addr) (ns : List Int) (k : Nat), vs = [.ref a, .int k] ∧ SqL K H a (ns.map V.int) ∧
  ∀ (x y : Int) (p : Addr), 0 ≤ x → 0 ≤ y → H p = none → Q (.ref p) (upd H p (.lst [.int x, .int y]))
theorem t_pot {K : PySem.W.Frag} {a b c : Int} (ha : -(2 ^ 64) < a ∧ a < 2 ^ 64) (hc : -(2 ^ 64) < c ∧ c < 2 ^ 64) {vs : List V} {H : Hp} {Q : VK} {E : XK} (h : spPot K vs H Q E) :
    tPot K a b c { nx := fun _ H' => Q .non H', rt := Q } (L2.start ["script", "k", "cell"] vs) H := by
  obtain ⟨p, ns, k, rfl, hS, q⟩ := h
  show tPot K a b c _ [some (.ref p), some (.int k), none] H
  have fin : ∀ cell : Int, tRet (tLst (tCons (tCB rMax2 (tCons (tC (.int 0)) (tCons (tOp tMinus (tVar 2) (tOp tPow (tC (.int 10)) (tC (.int 18)))) tNil)))
      (tCons (tOp tPlus (tOp tRest (tCB rInt1 (tCons (tOp tPlus (tOp tPlus (tOp tTimes (tOp tRest (tCB rInt1 (tCons (tVar 2) tNil)) (tC (.int 2147483549))) (tC (.int c))) (tOp tTimes (tC (.int a)) (tVar 1))) (tC (.int b))) tNil)) (tC (.int 2147483563))) (tC (.int 1))) tNil)))
      { nx := fun _ H' => Q .non H', rt := Q } [some (.ref p), some (.int k), some (.int cell)] H := fun cell => by
    refine ⟨.int cell, rfl, 10, 18, rfl, rfl, (show CPow 10 18 from ⟨by decide, by decide, by decide⟩), cell, _, rfl, rfl, 0, _, rfl, ?_⟩
    refine ⟨.int cell, rfl, .inl ⟨cell, rfl, cell, _, rfl, rfl, (show (0 : Int) < 2147483549 by decide), _, _, rfl, rfl, .inr hc, ?_⟩⟩
    refine ⟨.int k, rfl, a, k, rfl, rfl, .inl ha, _, _, rfl, rfl, _, _, rfl, rfl, .inl ⟨_, rfl, _, _, rfl, rfl, (show (0 : Int) < 2147483563 by decide), _, _, rfl, rfl, ?_, fun o ho => q _ _ o ?_ ?_ ho⟩⟩
    · exact sz_le (by show 2 ≤ szMax; decide)
    · split <;> omega
    · have := Int.emod_nonneg (cell % 2147483549 * c + a * k + b) (show (2147483563 : Int) ≠ 0 by decide)
      omega
  refine ⟨.int k, rfl, .ref p, rfl, p, _, rfl, .inl hS, (k : Int), _, rfl, rfl, _, rfl, ?_⟩
  by_cases hk : (k : Int) < ((ns.map V.int).length : Nat)
  · rw [decide_eq_true hk]
    have hk' : k < ns.length := by simpa using hk
    refine ⟨.ref p, rfl, .int k, rfl, .inl ⟨p, _, _, _, rfl, rfl, hS, atI_nat (by rw [List.getElem?_map, List.getElem?_eq_getElem hk']; rfl), _, rfl, ?_⟩⟩
    exact fin _
  · rw [decide_eq_false hk]
    refine ⟨.int k, rfl, a, k, rfl, rfl, .inl ha, _, _, rfl, rfl, ?_⟩
    exact fin _

/-! ### law -/
def spLaw (K : PySem.W.Frag) : Sp := fun vs H Q _ => ∃ (a : Addr) (ns : List Int), vs = [.ref a] ∧ SqL K H a (ns.map V.int) ∧ ns.length ≤ 63 ∧ ∀ H', Q (.bl true) H'
def tLaw (K : PySem.W.Frag) (n : Int) (E : XK) (g : SE) : TS :=
  tSeq (tFor (iRng1 (tCons (tCB rMax2 (tCons (tC (.int 1)) (tCons (tCB rMin2 (tCons (tC (.int n)) (tCons (tCB (rLenS K) (tCons (tVar 0) tNil)) tNil))) tNil))) tNil)) (gName 1)
    (tSeq (tAsg (tCall (spPot K) [] E (tCons (tVar 0) (tCons (tVar 1) tNil))) (gName 2)) (tS g))) (tRet (tC (.bl true)))
theorem st_blank {A : Addr} {F H : Hp} {σ : L2.St} {n : Nat} (hn : σ.length = n) (e : Same F H) : StOk A F H σ (List.replicate n .un) (fun _ => []) :=
  ⟨by rw [List.length_replicate]; exact hn, fun i => by rw [getD_rep]; exact (rfl : ([] : List Addr) = []), (fun i j a h => nomatch h), (fun i a h => nomatch h), e⟩
theorem t_law {K : PySem.W.Frag} {n : Int} (hn : 0 ≤ n ∧ n < 1000) {g : SE} {N : List Str} (hN : 3 ≤ N.length) {vs : List V} {H : Hp} {Q : VK} {E E' : XK}
    (hg : ∀ (v : V) (x y : Int), 0 ≤ x → 0 ≤ y → ∃ e, e.length + 1 = N.length ∧ g (.fix v :: .un :: .own (.list [.int x, .int y]) :: List.replicate (N.length - 3) .un) = some (.nx (.fix v :: e)))
    (h : spLaw K vs H Q E') : tLaw K n E g { nx := fun _ H' => Q .non H', rt := Q } (L2.start N vs) H := by
  obtain ⟨a, ns, rfl, hS, hl, q⟩ := h
  have hcnt : ∃ m : Nat, (m : Int) ≤ 1000 ∧ m = (if (if ((ns.map V.int).length : Int) < n then ((ns.map V.int).length : Int) else n) > 1 then (if ((ns.map V.int).length : Int) < n then ((ns.map V.int).length : Int) else n) else 1) := by
    generalize ((ns.map V.int).length : Int) = L
    refine ⟨(if (if L < n then L else n) > 1 then (if L < n then L else n) else 1).toNat, ?_, ?_⟩ <;> (split <;> split <;> omega)
  obtain ⟨m, hm1, hm⟩ := hcnt
  have s0 : (L2.start N [V.ref a])[0]? = some (some (.ref a)) := rfl
  have sl : (L2.start N [V.ref a]).length = N.length := by unfold L2.start; simp; omega
  refine ⟨.ref a, s0, a, _, rfl, .inl hS, n, _, rfl, 1, _, rfl, _, rfl, ?_, ?_, ?_⟩
  · rw [← hm]; omega
  · rw [← hm]; omega
  rw [← hm]
  refine ⟨fun i r σ H' => r = m - i ∧ i ≤ m ∧ σ.length = N.length ∧ σ[0]? = some (some (.ref a)) ∧ Same H H', ⟨m, rfl, Nat.zero_le _, sl, s0, Same.refl _⟩, ?_⟩
  rintro i r σ H' ⟨rfl, hi, hl', h0, sm⟩
  by_cases lt : i < m
  · refine .inr ⟨by show i < ((m : Nat) : Int).toNat; omega, fun σ H2 => i + 1 ≤ m ∧ σ.length = N.length ∧ σ[0]? = some (some (.ref a)) ∧ Same H H2, fun σ' H2 z => ⟨m - (i + 1), by omega, rfl, z⟩, fun x H2 y => ?_⟩
    obtain ⟨rfl, rfl⟩ := y
    have z0 : (σ.set 1 (some (.int (0 + (i : Int)))))[0]? = some (some (.ref a)) := by rw [List.getElem?_set_ne (by decide)]; exact h0
    have z1 : (σ.set 1 (some (.int (0 + (i : Int)))))[1]? = some (some (.int (0 + (i : Int)))) := by rw [List.getElem?_set_self (by omega)]
    refine ⟨.ref a, z0, .int (0 + (i : Int)), z1, a, ns, i, by rw [Int.zero_add]; rfl, sm.seq hS, fun x y p hx hy hp => ?_⟩
    obtain ⟨r, hr⟩ : ∃ r, N.length = r + 3 := ⟨N.length - 3, by omega⟩
    obtain ⟨e, hel, he⟩ := hg (.ref a) x y hx hy
    have tl : ((σ.set 1 (some (.int (0 + (i : Int))))).set 2 (some (.ref p))).length = r + 3 := by rw [List.length_set, List.length_set]; omega
    have t0 : ((σ.set 1 (some (.int (0 + (i : Int))))).set 2 (some (.ref p)))[0]? = some (some (.ref a)) := by rw [List.getElem?_set_ne (by decide)]; exact z0
    have t2 : ((σ.set 1 (some (.int (0 + (i : Int))))).set 2 (some (.ref p)))[2]? = some (some (.ref p)) := by rw [List.getElem?_set_self (by rw [List.length_set]; omega)]
    have sp : Same H2 (upd H2 p (.lst [.int x, .int y])) := fun b o ho => by rw [upd_ne (ne_of_none ho hp)]; exact ho
    have S0 := st_blank (A := a) tl sp
    have S1 := S0.put' (i := 2) (s := .own (.list [.int x, .int y])) (q := [p]) ⟨p, by rw [t2]; rfl, rfl, .lst upd_same (.cons (.int _) (.cons (.int _) .nil))⟩ (by rw [List.length_replicate]; omega) (fun b hb => ⟨by simp at hb; subst hb; exact hp, fun j _ z => nomatch z⟩)
    have S2 := S1.put' (i := 0) (s := .fix (.ref a)) (q := []) ⟨rfl, by rw [t0]; rfl⟩ (by rw [List.length_set, List.length_replicate]; omega) (fun b hb => nomatch hb)
    rw [hr] at he
    refine ⟨a, H2, _, _, S2, .nx (.fix (.ref a) :: e), he, fun σ' F' H' fp' S' T => ⟨lt, by rw [S'.len]; exact hel, ?_, sm.trans (T.grow.trans S'.ex)⟩⟩
    have k0 := (S'.slot 0).2
    cases e0 : σ'[0]? with
    | none => rw [e0] at k0; cases k0
    | some o => rw [e0] at k0; exact congrArg some k0
  · refine .inl ⟨by show ((m : Nat) : Int).toNat ≤ i; omega, q _⟩
end DL
namespace DL
open PySem PySem.Spec PyProof.Rows L2

/-- the script alone is told, where the module does not know it -/
def onlyS (K : PySem.W.Frag) (a : Addr) (vs : List Value) (ns : List Int) : Hp := fun b => if b = a ∧ K.lookup a = none then some (.frz { cls := .type "list", data := .seq vs.toArray } (.lst (ns.map V.int))) else none
section
variable {K : PySem.W.Frag} {a b : Addr} {vs : List Value} {ns : List Int} {u : HO}
theorem onlyS_at (h : onlyS K a vs ns b = some u) : b = a ∧ K.lookup a = none ∧ u = .frz { cls := .type "list", data := .seq vs.toArray } (.lst (ns.map V.int)) := by
  unfold onlyS at h
  split at h
  · rename_i c
    cases h
    exact ⟨c.1, c.2, rfl⟩
  · cases h
theorem onlyS_no (h : b ≠ a) : onlyS K a vs ns b = none := if_neg fun c => h c.1
end
theorem law_q {P : Program} {w : World} {K : PySem.W.Frag} {mg mb : Str → Option Value} {k : Nat} {fa a : Addr} {fd : FuncData} {x : Str} {t : Shared} {vs : List Value} {ns : List Int}
    (inK : K.In t.heap) (gl : t.heap.Ns mainGlobals mg) (bl : t.heap.Ns builtinsNs mb) (bb : ∀ y : Str, y ≠ "__name__" → mb y = bootBuiltins y) (free : t.heap.NoLimit) (gens : t.gens = #[])
    (ha : t.heap.get? a = some { cls := .type "list", data := .seq vs.toArray }) (hi : IntsAre vs ns) (few : ns.length ≤ 63) (room : Room k callerA)
    (F : ∀ base : Heap, K.In base → base.Ns mainGlobals mg → FnOkG P w K mg base CX0 k fa fd [x] (spLaw K)) (bind : ∀ (s : Shared) (u : Value), BindsTo s fd ⟨[u], []⟩ [(x, u)]) :
    codeAny (model P w) callerA (.call (.ref fa) ⟨[.ref a], []⟩) (fun r s' => r = .ok (.ret (.bool true)) ∧ OldK t.heap s'.heap ∧ s'.os = t.os ∧ AllBare s'.gens) t := by
  have size : ns.length ≤ sizeLine := Nat.le_trans few (by decide)
  have rv := vals_ints hi
  have here : HOk P w (onlyS K a vs ns) t.heap := fun b u z => by
    obtain ⟨rfl, _, rfl⟩ := onlyS_at z
    exact ⟨ha, by rw [List.length_map]; exact size, vs, _, rv, ha⟩
  have seen : SqL K (onlyS K a vs ns) a (ns.map V.int) := by
    cases e : K.lookup a with
    | none => exact .inl (.inr ⟨{ cls := .type "list", data := .seq vs.toArray }, if_pos ⟨rfl, e⟩⟩)
    | some o =>
      have z := inK a o e
      rw [ha] at z
      cases z
      exact .inr ⟨_, vs.toArray, _, e, rfl, rfl, rfl, by rw [List.size_toArray, hi.length]; exact size, by simpa using rv⟩
  have low : ∀ {b : Addr} {o : Obj}, t.heap.get? b = some o → (b = a → K.lookup a ≠ none) → (hidT t.heap (onlyS K a vs ns)).get? b = some o := fun {b o} e c => hidT_get e (by
    cases z : onlyS K a vs ns b with
    | none => rfl
    | some u =>
      obtain ⟨h1, h2, _⟩ := onlyS_at z
      exact absurd h2 (c h1))
  have lowN : ∀ {b : Addr} {m : Str → Option Value}, t.heap.Ns b m → (hidT t.heap (onlyS K a vs ns)).Ns b m := fun {b m} z => by
    obtain ⟨o, es, ep, e, d, r⟩ := z
    refine ⟨o, es, ep, low e fun c => ?_, d, r⟩
    subst c
    rw [ha] at e
    cases e
    exact nomatch d
  have inB : K.In (hidT t.heap (onlyS K a vs ns)) := fun b o e => low (inK b o e) fun c => by rw [← c, e]; exact fun z => nomatch z
  have start : Env0 P w K mg (hidT t.heap (onlyS K a vs ns)) callerA [] t (onlyS K a vs ns) :=
    ⟨rfl, ⟨inB, lowN gl, ⟨mb, lowN bl, bb⟩, let ⟨mc, h1, h2⟩ := free; ⟨mc, lowN h1, h2⟩⟩, fun b o e => of_hidT e, Nat.le_of_eq (hidT_size _ _), trivial, (fun b hb => absurd (show b ∈ ([] : List Addr) from hb) (by simp)), here, .of_eq gens⟩
  have run := (F _ inB (lowN gl)).goes callerA [] t (onlyS K a vs ns) ⟨[.ref a], []⟩ [.ref a] [.ref a] (fun v _ => v = .bl true) (fun _ _ _ => False) room rfl start (bind t (.ref a)) (.cons rfl .nil) ⟨a, ns, rfl, seen, few, fun _ => rfl⟩
  refine codeAny_mono run fun r s' z => ?_
  match r, z with
  | .error e, z => exact z.elim
  | .ok .next, z => exact z.elim
  | .ok .brk, z => exact z.elim
  | .ok .cont, z => exact z.elim
  | .ok (.ret u), ⟨v, H', os, bare, un, hok', r', q⟩ =>
    cases (show v = .bl true from q)
    cases (show u = Value.bool true from r')
    refine ⟨rfl, OldK.of_keep fun b o e => ?_, os, bare⟩
    cases z : onlyS K a vs ns b with
    | none => exact un.keep b o e z (fun y => absurd (show b ∈ ([] : List Addr) from y) (by simp)) (by simp)
    | some u =>
      obtain ⟨rfl, _, rfl⟩ := onlyS_at z
      obtain ⟨y, _⟩ := hok' b _ (un.frzs b _ _ z)
      rw [ha] at e
      cases e
      exact y
/-- THE END -/
theorem walk_q {l : PySem.W.OpenLaw} {k : Nat} {q : Program} {loose : List Str} {XP : (Str → Option Value) → Heap → Prop} {YP : World → Heap → Prop} {d : DefRec} {K : Params → PySem.W.Frag} {x : Str}
    (most : l.most = some 63) (plain : d.params.defaults = []) (room : Room k callerA) (inK : ∀ (w : World) (h : Heap), YP w h → (K w.params).In h)
    (F : ∀ (w : World) (mg : Str → Option Value) (fa : Addr) (h : Heap), (K w.params).In h → h.Ns mainGlobals mg → mg d.name = some (.ref fa) →
      ∃ fd : FuncData, (∀ (s : Shared) (u : Value), BindsTo s fd ⟨[u], []⟩ [(x, u)]) ∧ ∀ base : Heap, (K w.params).In base → base.Ns mainGlobals mg → FnOkG l.prog w (K w.params) mg base CX0 k fa fd [x] (spLaw (K w.params))) :
    PySem.W.WalkO q loose XP YP l.row.toRowW d [] (fun f vs => PySem.call f vs) :=
  Att.attach_call most plain fun w s0 s1 mg mb fa o pm cd doc a vs ns G Y ho hd hcd hmg ob iz few gens => by
    obtain ⟨fd, bind, hF⟩ := F w mg fa _ (inK w _ Y) G.T.g hmg
    exact law_q (inK w _ Y) G.T.g G.T.b G.T.builtins G.T.nolimit gens ob iz few room hF bind

/-! ### an expression alone; repr -/
def dDrop (f : RE) : SE := fun env => (f env).map fun p => .nx p.2
section
variable {X : Cx} {e : Expr} {f : RE} {pos : Pos}
theorem ps_expr' (he : PE X e (tR f)) (hs : swapsWith e none pos.line X.env = pure false := by rfl) : PS X (.Expr e pos) (tS (dDrop f)) := PS.imp (ps_expr he hs) fun Dn σ H h => by
  obtain ⟨A, F, env, fp, S, fl, hf, q⟩ := h
  unfold dDrop at hf
  cases e1 : f env with
  | none => rw [e1] at hf; cases hf
  | some p =>
    obtain ⟨r, env1⟩ := p
    rw [e1] at hf
    cases hf
    exact ⟨A, F, env, fp, S, r, env1, e1, fun v F1 H1 fp1 q1 S1 T1 _ => q σ F1 H1 fp1 S1 (T1.weak fun a x => .inl x)⟩
end
abbrev reprL : List D → Option Sl := reprD
theorem sp_reprL {K : PySem.W.Frag} : CallSpec (fun xs H Q => rRepr K xs H Q) reprL := sp_repr
def dCallL (sem : Sem') (is : List Nat) (g : BAE) : RE := dCallK sem is g
def rlS (scope sc : Scope) : Scope := { scope with names := scope.names.map fun (n, k) => if (k == .free && sc.kind == .function && sc.names.lookup n == some .cell) then (n, .cell) else (n, k) }
end DL
namespace DL
open PySem PySem.Spec PyProof.Rows L2

/-! ### how the terms are run -/
section
variable {env : Env'} {f g : RE} {fb gb : BE} {ga : BAE} {t u : TTE} {p k : SE} {i j : Nat} {d : D}
@[simp] theorem sh_dat : Sl.shal (.dat d) = some d := rfl
@[simp] theorem sh_own : Sl.shal (.own d) = some d := rfl
@[simp] theorem sh_io : Sl.shal (.io d) = some d := rfl
@[simp] theorem da_dat : Sl.data (.dat d) = some d := rfl
@[simp] theorem da_own : Sl.data (.own d) = some d := rfl
@[simp] theorem da_io : Sl.data (.io d) = none := rfl
@[simp] theorem da_LL {xss : List (List D)} : Sl.data (.ownLL xss) = some (.list (xss.map .list)) := rfl
@[simp] theorem re_dat : Sl.res (.dat d) = true := rfl
@[simp] theorem re_own : Sl.res (.own d) = true := rfl
@[simp] theorem re_LL {xss : List (List D)} : Sl.res (.ownLL xss) = true := rfl
@[simp] theorem ev_bor : bor f env = (f env).bind fun p => match p.1 with
  | .val s => s.data.map fun d => (.d d, p.2)
  | .slot i => some (.slot i, p.2) := rfl
@[simp] theorem ev_readB_d {x : D} : readB env (.d x) = some x := rfl
@[simp] theorem ev_readB_s : readB env (.slot i) = (env[i]?).bind Sl.shal := rfl
@[simp] theorem ev_readBs_n : readBs env [] = some [] := rfl
@[simp] theorem ev_readBs_c {b : B} {bs : List B} : readBs env (b :: bs) = (readB env b).bind fun d => (readBs env bs).map fun ds => d :: ds := rfl
@[simp] theorem ev_resB_d {x : D} : resB env (.d x) = some (x, env) := rfl
@[simp] theorem ev_resB_s : resB env (.slot i) = (env[i]?).bind fun s => s.data.map fun d => (d, env.set i (.dat d)) := rfl
@[simp] theorem ev_resBs_n : resBs env [] = some ([], env) := rfl
@[simp] theorem ev_resBs_c {b : B} {bs : List B} : resBs env (b :: bs) = (resB env b).bind fun p => (resBs p.2 bs).map fun r => (p.1 :: r.1, r.2) := rfl
@[simp] theorem ev_dVar : dVar i env = (env[i]?).bind fun s => match s with
  | .un => none
  | _ => some (.slot i, env) := rfl
@[simp] theorem ev_dC : dC d env = some (.val (.dat d), env) := rfl
@[simp] theorem ev_dOp {op : D → D → Option Sl} : dOp op fb gb env = (fb env).bind fun p => (gb p.2).bind fun p2 =>
  (readB p2.2 p.1).bind fun x => (readB p2.2 p2.1).bind fun y => (op x y).map fun s => (.val s, p2.2) := rfl
@[simp] theorem ev_asBool_v {b : Bool} : asBool env (.val (.dat (.bool b))) = some b := rfl
@[simp] theorem ev_asBool_s : asBool env (.slot i) = match env[i]? with
    | some (.dat (.bool b)) => some b
    | _ => none := rfl
@[simp] theorem ev_dTest : dTest f env = (f env).bind fun p => (asBool p.2 p.1).map fun b => (b, p.2) := rfl
@[simp] theorem ev_dNot : dNot t env = (t env).map fun p => (!p.1, p.2) := rfl
@[simp] theorem ev_dAnd : dAnd t u env = (t env).bind fun p => if p.1 = true then u p.2 else some (false, p.2) := rfl
@[simp] theorem ev_dOr : dOr t u env = (t env).bind fun p => if p.1 = true then some (true, p.2) else u p.2 := rfl
@[simp] theorem ev_dAndV : dAndV f g env = (f env).bind fun p => (asBool p.2 p.1).bind fun c => if c = true then g p.2 else some (.val (.dat (.bool false)), p.2) := rfl
@[simp] theorem ev_dOrV : dOrV f g env = (f env).bind fun p => (asBool p.2 p.1).bind fun c => if c = true then some (.val (.dat (.bool true)), p.2) else g p.2 := rfl
@[simp] theorem ev_dNotV : dNotV f env = (f env).bind fun p => (asBool p.2 p.1).map fun c => (.val (.dat (.bool (!c))), p.2) := rfl
@[simp] theorem ev_dIf : dIf t f g env = (t env).bind fun p => if p.1 = true then f p.2 else g p.2 := rfl
@[simp] theorem ev_dNil : dNil env = some ([], env) := rfl
@[simp] theorem ev_dCons : dCons fb ga env = (fb env).bind fun p => (ga p.2).map fun p2 => (p.1 :: p2.1, p2.2) := rfl
@[simp] theorem ev_dTup : dTup ga env = (ga env).bind fun p => (resBs p.2 p.1).bind fun r => if r.1.length ≤ szMax then some (.val (.dat (.tuple r.1)), r.2) else none := rfl
@[simp] theorem ev_dLst : dLst ga env = (ga env).bind fun p => (resBs p.2 p.1).bind fun r => if r.1.length ≤ szMax then some (.val (.own (.list r.1)), r.2) else none := rfl
@[simp] theorem ev_dCB {op : List D → Option Sl} : dCB op ga env = (ga env).bind fun p => (readBs p.2 p.1).bind fun ds => (op ds).map fun s => (.val s, p.2) := rfl
@[simp] theorem ev_dNext : dNext env = some (.nx env) := rfl
@[simp] theorem ev_dSeq : dSeq p k env = (p env).bind fun fl => match fl with
  | .nx e => k e
  | .bk e => some (.bk e)
  | .ct e => some (.ct e)
  | .rt s e => some (.rt s e) := rfl
@[simp] theorem ev_dCont : dCont env = some (.ct env) := rfl
@[simp] theorem ev_dBrk : dBrk env = some (.bk env) := rfl
@[simp] theorem ev_dFail : dFail env = none := rfl
@[simp] theorem ev_dIfS : dIfS t p k env = (t env).bind fun c => if c.1 = true then p c.2 else k c.2 := rfl
@[simp] theorem ev_dRet : dRet f env = (f env).bind fun p => match p.1 with
  | .val s => some (.rt s p.2)
  | .slot i => match p.2[i]? with
    | some (.dat d) => some (.rt (.dat d) p.2)
    | some (.own d) => some (.rt (.own d) (p.2.set i .un))
    | some (.ownLL d) => some (.rt (.ownLL d) (p.2.set i .un))
    | _ => none := rfl
@[simp] theorem ev_dRetN : dRetN env = some (.rt (.dat .none) env) := rfl
@[simp] theorem ev_dDrop : dDrop f env = (f env).map fun p => .nx p.2 := rfl
@[simp] theorem ev_putSl {s : Sl} : putSl i s env = if i < env.length then some (.nx (env.set i s)) else none := rfl
@[simp] theorem ev_storeR {r : R} : storeR i (r, env) = match r with
  | .val s => putSl i s env
  | .slot j => (resB env (.slot j)).bind fun r => putSl i (.dat r.1) r.2 := rfl
@[simp] theorem ev_dSet : dSet i f env = (f env).bind (storeR i) := rfl
@[simp] theorem ev_lstAt : lstAt env i = match env[i]? with
  | some (.own (.list xs)) => some (false, xs)
  | some (.io (.list xs)) => some (true, xs)
  | _ => none := rfl
@[simp] theorem ev_putL_f : putL env i false d = env.set i (.own d) := rfl
@[simp] theorem ev_putL_t : putL env i true d = env.set i (.io d) := rfl
@[simp] theorem ev_dApp : dApp i fb env = (lstAt env i).bind fun _ => (fb env).bind fun p => (resB p.2 p.1).bind fun r => (lstAt r.2 i).bind fun l =>
  if l.2.length < szMax then some (.nx (putL r.2 i l.1 (.list (l.2 ++ [r.1])))) else none := rfl
@[simp] theorem ev_dExt : dExt i fb env = (lstAt env i).bind fun _ => (fb env).bind fun p => (readB p.2 p.1).bind fun d => match d with
  | .list ys => (lstAt p.2 i).bind fun l => if l.2.length + ys.length ≤ szMax then some (.nx (putL p.2 i l.1 (.list (l.2 ++ ys)))) else none
  | _ => none := rfl
@[simp] theorem ev_dSetIx : dSetIx i fb gb env = (fb env).bind fun p => (resB p.2 p.1).bind fun r => (lstAt r.2 i).bind fun _ => (gb r.2).bind fun p2 => (readB p2.2 p2.1).bind fun k => match k with
  | .int j => (lstAt p2.2 i).bind fun l => (ixN l.2.length j).map fun n => .nx (putL p2.2 i l.1 (.list (l.2.set n r.1)))
  | _ => none := rfl
@[simp] theorem ev_bind_n {x : D} : bindP (.name i) x env = if i < env.length then some (env.set i (.dat x)) else none := by rw [bindP]
@[simp] theorem ev_bind_t {ps : List Pat} {ds : List D} : bindP (.tup ps) (.tuple ds) env = bindPs ps ds env := by rw [bindP]
@[simp] theorem ev_binds_n : bindPs [] [] env = some env := by rw [bindPs]
@[simp] theorem ev_binds_c {q : Pat} {ps : List Pat} {x : D} {ds : List D} : bindPs (q :: ps) (x :: ds) env = (bindP q x env).bind fun e => bindPs ps ds e := by rw [bindPs]
@[simp] theorem ev_dIt : dIt fb env = (fb env).bind fun p => (resB p.2 p.1).bind fun r => match r.1 with
  | .list xs => some (xs, r.2)
  | .tuple xs => some (xs, r.2)
  | _ => none := rfl
@[simp] theorem ev_dRng {rng : List D → Option (List D)} : dRng rng ga env = (ga env).bind fun p => (readBs p.2 p.1).bind fun ds => (rng ds).map fun xs => (xs, p.2) := rfl
@[simp] theorem ev_dEnm : dEnm fb env = (fb env).bind fun p => (resB p.2 p.1).bind fun r => match r.1 with
  | .list xs => some (enumD 0 xs, r.2)
  | _ => none := rfl
@[simp] theorem ev_dFor {it : IE} {pat : Pat} : dFor it pat p env = (it env).bind fun c => forD pat p c.1 c.2 := rfl
@[simp] theorem ev_dYes : dYes env = some (true, env) := rfl
@[simp] theorem ev_dLc {it : IE} {pat : Pat} {vs : List Nat} : dLc it pat t fb vs env = (it env).bind fun p => if p.1.length ≤ szMax then (compD pat t fb vs p.1 p.2).map fun q => (.val (.own (.list q.1)), restE p.2 q.2 vs) else none := rfl
@[simp] theorem ev_dTmp : dTmp f env = (f env).bind fun p => match p.1 with
  | .val s => some (s, p.2)
  | .slot i => (resB p.2 (.slot i)).map fun r => (.dat r.1, r.2) := rfl
@[simp] theorem ev_dTsNil : dTsNil env = some ([], env) := rfl
@[simp] theorem ev_dTsCons {h : TSE} : dTsCons f h env = (dTmp f env).bind fun p => (h p.2).map fun r => (p.1 :: r.1, r.2) := rfl
@[simp] theorem ev_putAll_n : putAll [] [] env = some (.nx env) := rfl
@[simp] theorem ev_putAll_c {is : List Nat} {s : Sl} {ss : List Sl} : putAll (i :: is) (s :: ss) env = if i < env.length then putAll is ss (env.set i s) else none := rfl
@[simp] theorem ev_dPar {is : List Nat} {h : TSE} : dPar is h env = (h env).bind fun p => putAll is p.1 p.2 := rfl
@[simp] theorem ev_dCall {sem : Sem'} : dCall sem ga env = (ga env).bind fun p => (resBs p.2 p.1).bind fun r => (sem [] r.1).map fun o => (.val o.1, r.2) := rfl
@[simp] theorem ev_dCallIo {sem : Sem'} : dCallIo sem i ga env = (ga env).bind fun p => match p.1 with
  | .slot j :: bs => if j = i then (resBs p.2 bs).bind fun r => (lstAt r.2 i).bind fun l => (sem l.2 r.1).map fun o => (.val o.1, putL r.2 i l.1 (.list o.2)) else none
  | _ => none := rfl
@[simp] theorem ev_dCallK {sem : Sem'} {is : List Nat} : dCallK sem is ga env = (ga env).bind fun p => (resBs p.2 p.1).bind fun r => (sem [] (permL is r.1)).map fun o => (.val o.1, r.2) := rfl
theorem ev_run {io : Bool} {N : Nat} {xs ds : List D} : runBody io N p xs ds = (p (env0 io N xs ds)).bind fun fl => match fl with
  | .rt s e => fin0 io s e
  | .nx e => fin0 io (.dat .none) e
  | .bk _ => none
  | .ct _ => none := rfl
theorem ev_fin_f {s : Sl} : fin0 false s env = if s.res = true then some (s, []) else none := rfl
@[simp] theorem ev_fin_t {s : Sl} {xs : List D} {e : Env'} : fin0 true s (.io (.list xs) :: e) = if s.res = true then some (s, xs) else none := rfl
@[simp] theorem ev_isi {T : String} : dIsi T fb env = (fb env).bind fun p => (readB p.2 p.1).map fun d => (.val (.dat (.bool (kOf d T))), p.2) := rfl
@[simp] theorem ev_isi2 {T S : String} : dIsi2 T S fb env = (fb env).bind fun p => (readB p.2 p.1).map fun d => (.val (.dat (.bool (kOf d T || kOf d S))), p.2) := rfl
@[simp] theorem ev_dNoP : dNoP env = some (none, env) := rfl
@[simp] theorem ev_dPart : dPart fb env = (fb env).bind fun p => (readB p.2 p.1).bind fun d => (intD d).map fun i => (some i, p.2) := rfl
@[simp] theorem ev_dSl {fl fh : OE} : dSl fb fl fh env = (fb env).bind fun p => (fl p.2).bind fun l => (fh l.2).bind fun h => (readB h.2 p.1).bind fun d => (slD d l.1 h.1).map fun s => (.val s, h.2) := rfl
@[simp] theorem ev_dRevL : dRevL fb env = (fb env).bind fun p => (readB p.2 p.1).bind fun d => match d with
  | .list xs => some (.val (.own (.list xs.reverse)), p.2)
  | _ => none := rfl
@[simp] theorem ev_dNeg : dNeg fb env = (fb env).bind fun p => (readB p.2 p.1).bind fun d => (intD d).map fun i => (.val (.dat (.int (-i))), p.2) := rfl
@[simp] theorem ev_dLstR : dLstR fb env = (fb env).bind fun p => (readB p.2 p.1).bind fun d => (intD d).bind fun j => if 0 ≤ j ∧ j.toNat ≤ szMax then some (.val (.own (.list (intsFrom 0 j.toNat))), p.2) else none := rfl
@[simp] theorem ev_dDGet : dDGet fb gb env = dOp dgD fb gb env := rfl
@[simp] theorem ev_dEmp : dEmp env = some (.val (.own (.dict [])), env) := rfl
/-! operators at what they are given -/
@[simp] theorem intD_int {i : Int} : intD (.int i) = some i := rfl
@[simp] theorem add_int {i j : Int} : addD (.int i) (.int j) = some (.dat (.int (i + j))) := rfl
@[simp] theorem add_list {xs ys : List D} : addD (.list xs) (.list ys) = if xs.length + ys.length ≤ szMax then some (.own (.list (xs ++ ys))) else none := rfl
@[simp] theorem add_tup {xs ys : List D} : addD (.tuple xs) (.tuple ys) = if xs.length + ys.length ≤ szMax then some (.dat (.tuple (xs ++ ys))) else none := rfl
@[simp] theorem sub_int {i j : Int} : subD (.int i) (.int j) = some (.dat (.int (i - j))) := rfl
@[simp] theorem cmp_int {q : Int → Int → Bool} {i j : Int} : cmpD q (.int i) (.int j) = some (.dat (.bool (q i j))) := rfl
@[simp] theorem len_list {xs : List D} : lenD [.list xs] = some (.dat (.int xs.length)) := rfl
@[simp] theorem len_tup {xs : List D} : lenD [.tuple xs] = some (.dat (.int xs.length)) := rfl
@[simp] theorem list_list {xs : List D} : listD [.list xs] = some (.own (.list xs)) := rfl
@[simp] theorem list_tup {xs : List D} : listD [.tuple xs] = some (.own (.list xs)) := rfl
@[simp] theorem tuple_list {xs : List D} : tupleD [.list xs] = some (.dat (.tuple xs)) := rfl
@[simp] theorem tuple_tup {xs : List D} : tupleD [.tuple xs] = some (.dat (.tuple xs)) := rfl
@[simp] theorem max_int {i j : Int} : maxD [.int i, .int j] = some (.dat (.int (if j > i then j else i))) := rfl
@[simp] theorem max3_int {i j l : Int} : maxD3 [.int i, .int j, .int l] = some (.dat (.int (if l > (if j > i then j else i) then l else (if j > i then j else i)))) := rfl
@[simp] theorem int_int {i : Int} : intOfD [.int i] = some (.dat (.int i)) := rfl
@[simp] theorem int_bool {b : Bool} : intOfD [.bool b] = some (.dat (.int (if b then 1 else 0))) := rfl
@[simp] theorem ix_list' {xs : List D} {i : Int} : ixD (.list xs) (.int i) = (atI xs i).map .dat := rfl
@[simp] theorem ix_tup' {xs : List D} {i : Int} : ixD (.tuple xs) (.int i) = (atI xs i).map .dat := rfl
@[simp] theorem isN_f {x : D} : isN false x .none = some (.dat (.bool (isNone x))) := by cases x <;> rfl
@[simp] theorem isN_t {x : D} : isN true x .none = some (.dat (.bool (!isNone x))) := by cases x <;> rfl
@[simp] theorem isB_f {a b : Bool} : isB false (.bool a) (.bool b) = some (.dat (.bool (decide (a = b)))) := rfl
@[simp] theorem isB_t {a b : Bool} : isB true (.bool a) (.bool b) = some (.dat (.bool (!decide (a = b)))) := rfl
end
end DL
/-! dicts whose keys are ints and texts; get, displays; pop(0) -/
namespace DL
open PySem PySem.Spec PyProof.Rows L2
abbrev KVD := List (Key × D)
def encK (l : KVD) : List (D × D) := l.map fun p => (keyD p.1, p.2)
def decK : List (D × D) → Option KVD
  | [] => some []
  | p :: ps => (toKey p.1).bind fun k => (decK ps).map fun r => (k, p.2) :: r
theorem decK_encK : ∀ l : KVD, decK (encK l) = some l
  | [] => rfl
  | p :: ps => by
    have h : encK (p :: ps) = (keyD p.1, p.2) :: encK ps := rfl
    rw [h, decK]
    simp only
    rw [toKey_keyD, decK_encK ps]; rfl
def lookKK {α : Type} (l : List (Key × α)) (k : Key) : Option α := (l.find? fun kv => decide (kv.1 = k)).map (·.2)
def putKK (l : KVD) (k : Key) (d : D) : KVD := if (l.any fun kv => decide (kv.1 = k)) = true then l.map fun kv => if kv.1 = k then (kv.1, d) else kv else l ++ [(k, d)]
def mergeKK (acc more : KVD) : KVD := more.foldl (fun acc kv => putKK acc kv.1 kv.2) acc
abbrev DKW (F : Hp) : List (Key × V) → KVD → Prop := Paired fun p q => p.1 = q.1 ∧ Rb F p.2 q.2
section
variable {F H : Hp}
theorem DKW.enc : ∀ {kvs : List (Key × V)} {l : KVD}, DKW F kvs l → encK l = (kvs.map fun p => keyD p.1).zip (l.map (·.2)) ∧ RbA F (kvs.map (·.2)) (l.map (·.2))
  | _, _, .nil => ⟨rfl, .nil⟩
  | _, _, .cons (a := p) (b := q) h t => by
    obtain ⟨h1, h2⟩ := DKW.enc t
    refine ⟨?_, .cons h.2 h2⟩
    show (keyD q.1, q.2) :: encK _ = (keyD p.1, q.2) :: _
    rw [h1, h.1]
    rfl
theorem DKW.of : ∀ {kvs : List (Key × V)} {ds : List D}, RbA F (kvs.map (·.2)) ds → ∃ l, DKW F kvs l ∧ (kvs.map fun p => keyD p.1).zip ds = encK l
  | [], _, .nil => ⟨[], .nil, rfl⟩
  | p :: ps, _, .cons (d := d) h t => by
    obtain ⟨l, h1, h2⟩ := DKW.of t
    refine ⟨(p.1, d) :: l, .cons ⟨rfl, h⟩ h1, ?_⟩
    show (keyD p.1, d) :: _ = (keyD p.1, d) :: encK l
    rw [← h2]; rfl
theorem DKW.view {a : Addr} {kvs : List (Key × V)} {l : KVD} (h : H a = some (.dK kvs)) (r : DKW F kvs l) : View F H (.ref a) (.dict (encK l)) := by
  obtain ⟨h1, h2⟩ := r.enc
  rw [h1]
  exact .dK h h2
theorem DKW.val (k : Key) : ∀ {kvs : List (Key × V)} {l : KVD}, DKW F kvs l → match lookKK l k with
    | some d => ∃ v, valV kvs k = some v ∧ Rb F v d
    | none => valV kvs k = none
  | _, _, .nil => rfl
  | _, _, .cons (a := p) (b := q) (l₁ := ps) (l₂ := qs) h t => by
    unfold lookKK valV
    rw [List.find?_cons, List.find?_cons, ← h.1]
    by_cases hk : p.1 = k
    · rw [decide_eq_true hk]
      exact ⟨_, rfl, h.2⟩
    · rw [decide_eq_false hk]
      exact DKW.val k t
theorem DKW.any (k : Key) : ∀ {kvs : List (Key × V)} {l : KVD}, DKW F kvs l → (kvs.any fun kv => decide (kv.1 = k)) = l.any fun kv => decide (kv.1 = k)
  | _, _, .nil => rfl
  | _, _, .cons h t => by rw [List.any_cons, List.any_cons, DKW.any k t, h.1]
theorem paired_map {α β : Type} {P : α → β → Prop} {f : α → α} {g : β → β} : ∀ {l : List α} {m : List β}, Paired P l m → (∀ a b, P a b → P (f a) (g b)) → Paired P (l.map f) (m.map g)
  | _, _, .nil, _ => .nil
  | _, _, .cons h t, k => .cons (k _ _ h) (paired_map t k)
theorem DKW.put {kvs : List (Key × V)} {l : KVD} {k : Key} {v : V} {d : D} (h : DKW F kvs l) (r : Rb F v d) : DKW F (putK kvs k v) (putKK l k d) := by
  unfold putK putKK
  rw [h.any k]
  split
  · refine paired_map h fun a b q => ?_
    rw [← q.1]
    by_cases e : a.1 = k
    · rw [if_pos e, if_pos e]; exact ⟨rfl, r⟩
    · rw [if_neg e, if_neg e]; exact q
  · exact paired_append h (.cons ⟨rfl, r⟩ .nil)
theorem DKW.merge : ∀ {kvs : List (Key × V)} {l : KVD} {acc : List (Key × V)} {la : KVD}, DKW F kvs l → DKW F acc la → DKW F (mergeK acc kvs) (mergeKK la l)
  | _, _, _, _, .nil, ha => ha
  | _, _, acc, la, .cons (a := p) (b := q) (l₁ := ps) (l₂ := qs) h t, ha => by
    show DKW F (mergeK (putK acc p.1 p.2) ps) (mergeKK (putKK la q.1 q.2) qs)
    rw [← h.1]
    exact DKW.merge t (ha.put h.2)
theorem kv_of {v : V} {d : D} {k : Key} (h : View F H v d) (e : toKey d = some k) : v = kV k := by
  cases h <;> cases e <;> rfl
theorem rb_key {v : V} {d : D} {k : Key} (h : Rb F v d) (e : toKey d = some k) : v = kV k := by
  cases h <;> cases e <;> rfl
theorem view_dictK {v : V} {kvs : List (D × D)} {l : KVD} (h : View F H v (.dict kvs)) (e : decK kvs = some l) : ∃ a xs, v = .ref a ∧ H a = some (.dK xs) ∧ DKW F xs l := by
  cases h with
  | @dK a xs ds hh r =>
    obtain ⟨l', h1, h2⟩ := DKW.of r
    rw [h2, decK_encK] at e
    cases e
    exact ⟨a, xs, rfl, hh, h1⟩
  | @dT a xs ds hh n r =>
    cases xs with
    | nil => exact absurd rfl n
    | cons p ps =>
      cases r with
      | cons h t =>
        have e : decK ((tkeyD p.1, _) :: _) = some l := e
        rw [decK] at e
        have z : toKey (tkeyD p.1) = none := rfl
        rw [show toKey ((tkeyD p.1, _) : D × D).1 = none from z] at e
        cases e
/-- d[k] -/
def gkD : D → D → Option Sl
  | .dict kvs, k => (decK kvs).bind fun l => (toKey k).bind fun ks => (lookKK l ks).map .dat
  | _, _ => none
def dgU (a k : D) : Option Sl := match k with
  | .tuple _ => dgD a k
  | _ => gkD a k
def ixU (a k : D) : Option Sl := match a with
  | .dict _ => dgU a k
  | _ => ixD a k
def rIxDct : R2 := fun x y H Q => ∃ a v, x = .ref a ∧ DGet H a y (some v) ∧ Q v H
theorem ix_dct {X : Cx} (hu : X.A.units + 1 < cLine) : IxR X rIxDct := by
  intro value slice pins s σ H x y v u Q I rx ry h hs
  obtain ⟨a, r, rfl, g, q⟩ := h
  obtain rfl : v = Value.ref a := rx
  exact tail_any (dict_typeIs I g) PySem.F.slot_dict_getitem.lookup (d_getItem hu I g ry fun w' s3 I3 rw' => ⟨r, H, I3, rw', q⟩) hs
def rIxU (K : PySem.W.Frag) : R2 := fun x y H Q => rIx K x y H Q ∨ rIxDct x y H Q
theorem ix_U {X : Cx} (hu : X.A.units + 1 < cLine) : IxR X (rIxU X.K) := IxR.or ix_seq (ix_dct hu)
theorem dgD_ok {v1 v2 : V} {d1 d2 : D} {s : Sl} (w1 : View F H v1 d1) (w2 : View F H v2 d2) (hs : dgD d1 d2 = some s) : ∃ a v d, v1 = .ref a ∧ DGet H a v2 (some v) ∧ s = .dat d ∧ Rb F v d := by
  cases d1 with
  | dict kvs =>
    simp only [dgD, Option.bind_eq_some_iff, Option.map_eq_some_iff] at hs
    obtain ⟨l, e1, ks, e2, d, e3, rfl⟩ := hs
    rcases view_dict w1 e1 with ⟨a, xs, rfl, ha, r⟩ | rfl
    · obtain ⟨b, rfl, hb⟩ := view_key w2 e2
      obtain ⟨v, hv, rb⟩ := r.val ks e3
      exact ⟨a, v, d, rfl, .inr ⟨xs, ks, b, .inl ha, rfl, hb, hv.symm⟩, rfl, rb⟩
    · cases e3
  | _ => cases hs
theorem gkD_ok {v1 v2 : V} {d1 d2 : D} {s : Sl} (w1 : View F H v1 d1) (w2 : View F H v2 d2) (hs : gkD d1 d2 = some s) : ∃ a v d, v1 = .ref a ∧ DGet H a v2 (some v) ∧ s = .dat d ∧ Rb F v d := by
  cases d1 with
  | dict kvs =>
    simp only [gkD, Option.bind_eq_some_iff, Option.map_eq_some_iff] at hs
    obtain ⟨l, e1, ks, e2, d, e3, rfl⟩ := hs
    obtain ⟨a, xs, rfl, ha, r⟩ := view_dictK w1 e1
    have g := r.val ks
    rw [e3] at g
    obtain ⟨v, hv, rb⟩ := g
    refine ⟨a, v, d, rfl, ?_, rfl, rb⟩
    rw [kv_of w2 e2, ← hv]
    exact DGet.k ha
  | _ => cases hs
theorem sp_ixU {K : PySem.W.Frag} : OpSpec (rIxU K) ixU := by
  intro A F H v1 v2 d1 d2 s Q ex w1 w2 hs k
  unfold ixU at hs
  split at hs
  · refine .inr ?_
    unfold dgU at hs
    split at hs
    · obtain ⟨a, v, d, rfl, g, rfl, rb⟩ := dgD_ok w1 w2 hs
      exact ⟨a, v, rfl, g, k _ F H [] (Res.old ex rb)⟩
    · obtain ⟨a, v, d, rfl, g, rfl, rb⟩ := gkD_ok w1 w2 hs
      exact ⟨a, v, rfl, g, k _ F H [] (Res.old ex rb)⟩
  · exact .inl (sp_ix A F H v1 v2 d1 d2 s Q ex w1 w2 hs k)
end
/-! ### d.get(k, e) -/
def isDict : D → Bool
  | .dict _ => true
  | _ => false
/-- what is found: something, nothing -/
def getD' : D → D → Option (Option D)
  | .dict kvs, k => match k with
    | .tuple _ => (decT kvs).bind fun l => (toTK k).bind fun ks => if l.isEmpty = true then none else some (lookK l ks)
    | _ => (decK kvs).bind fun l => (toKey k).map fun ks => lookKK l ks
  | _, _ => none
section
variable {F H : Hp}
theorem DKV.val' (k : List Key) : ∀ {kvs : List (List Key × V)} {l : TKV}, DKV F kvs l → lookK l k = none → valV kvs k = none
  | _, _, .nil, _ => rfl
  | _, _, .cons (a := p) (b := q) (l₁ := ps) (l₂ := qs) h t, e => by
    unfold lookK at e
    unfold valV
    rw [List.find?_cons] at e ⊢
    rw [← h.1] at e
    by_cases hk : p.1 = k
    · rw [decide_eq_true hk] at e; cases e
    · rw [decide_eq_false hk] at e ⊢
      exact DKV.val' k t e
def GotOk (F : Hp) : Option D → Option V → Prop
  | some d, ov => ∃ v, ov = some v ∧ Rb F v d
  | none, ov => ov = none
theorem is_dict {v : V} {d : D} (w : View F H v d) (h : isDict d = true) : ∃ a, v = .ref a ∧ IsD H a := by
  cases w with
  | dK hh r => exact ⟨_, rfl, .inl ⟨_, .inl hh⟩⟩
  | dT hh n r => exact ⟨_, rfl, .inr ⟨_, .inl hh⟩⟩
  | _ => cases h
theorem get_ok {v1 v2 : V} {d1 d2 : D} {o : Option D} (w1 : View F H v1 d1) (w2 : View F H v2 d2) (hs : getD' d1 d2 = some o) : ∃ a ov, v1 = .ref a ∧ DGet H a v2 ov ∧ GotOk F o ov := by
  have kcase : ∀ {kvs l ks}, d1 = .dict kvs → decK kvs = some l → toKey d2 = some ks → lookKK l ks = o → ∃ a ov, v1 = .ref a ∧ DGet H a v2 ov ∧ GotOk F o ov := fun {kvs l ks} e0 e1 e2 e3 => by
    subst e0
    obtain ⟨a, xs, rfl, ha, r⟩ := view_dictK w1 e1
    have g := r.val ks
    rw [e3] at g
    rw [kv_of w2 e2]
    refine ⟨a, valV xs ks, rfl, DGet.k ha, ?_⟩
    cases o with
    | some d => exact g
    | none => exact g
  cases d1 with
  | dict kvs =>
    unfold getD' at hs
    simp only at hs
    split at hs
    · simp only [Option.bind_eq_some_iff] at hs
      obtain ⟨l, e1, ks, e2, e3⟩ := hs
      obtain ⟨b, rfl, hb⟩ := view_key w2 e2
      split at e3
      · cases e3
      · rename_i hn
        have e3 := Option.some.inj e3
        rcases view_dict w1 e1 with ⟨a, ys, rfl, ha, r⟩ | rfl
        · refine ⟨a, valV ys ks, rfl, .inr ⟨ys, ks, b, .inl ha, rfl, hb, rfl⟩, ?_⟩
          cases o with
          | some d => obtain ⟨v, hv, rb⟩ := r.val ks e3; exact ⟨v, hv, rb⟩
          | none => exact r.val' ks e3
        · exact absurd rfl hn
    · simp only [Option.bind_eq_some_iff, Option.map_eq_some_iff] at hs
      obtain ⟨l, e1, ks, e2, e3⟩ := hs
      exact kcase rfl e1 e2 e3
  | _ => cases hs
/-- d.get(k, e) -/
def dGet2 (fa fb fc : BE) : RE := fun env => (fa env).bind fun p => (readB p.2 p.1).bind fun d0 => if isDict d0 = true then (fb p.2).bind fun p2 => (fc p2.2).bind fun p3 =>
  (readB p3.2 p.1).bind fun d => (readB p3.2 p2.1).bind fun k => (getD' d k).bind fun o => match o with
    | some x => some (.val (.dat x), p3.2)
    | none => (resB p3.2 p3.1).map fun r => (.val (.dat r.1), r.2)
  else none
end
section
variable {X : Cx} {o e f : Expr} {apos cpos : Pos} {fa fb fc : BE} {A : Addr} {F H : Hp} {σ : L2.St} {env : Env'} {fp : Nat → List Addr}
theorem rb_q (S : StOk A F H σ env fp) {v : V} {d : D} (r : Rb F v d) : ROk A F H σ env fp (.val (.dat d)) v [] := ⟨(nomatch ·), ⟨rfl, v, rfl, r⟩, fun _ h => nomatch h⟩
theorem t_get2 {H : Hp} {Q : VK} (h : tR (dGet2 fa fb fc) σ H Q) : tDGet2 (tO fa) (tO fb) (tO fc) σ H Q := by
  obtain ⟨A, F, env, fp, S, r, env', hf, q⟩ := h
  unfold dGet2 at hf
  simp only [Option.bind_eq_some_iff] at hf
  obtain ⟨⟨x, env1⟩, e1, d0, e2, hf⟩ := hf
  split at hf
  case isFalse => cases hf
  case isTrue hd =>
  simp only [Option.bind_eq_some_iff] at hf
  obtain ⟨⟨y, env2⟩, e3, ⟨z, env3⟩, e4, d, e5, k, e6, o, e7, hf⟩ := hf
  refine ⟨A, F, env, fp, S, x, env1, e1, fun v1 F1 H1 fp1 S1 T1 ok1 => ?_⟩
  obtain ⟨a, rfl, isd⟩ := is_dict (read_view S1 ok1 e2) hd
  refine ⟨a, rfl, isd, A, F1, env1, fp1, S1, y, env2, e3, fun v2 F2 H2 fp2 S2 T2 ok2 => ?_⟩
  refine ⟨A, F2, env2, fp2, S2, z, env3, e4, fun v3 F3 H3 fp3 S3 T3 ok3 => ?_⟩
  have w1 := read_view S3 ((ok1.mono T2.grow).mono T3.grow) e5
  have w2 := read_view S3 (ok2.mono T3.grow) e6
  obtain ⟨a', ov, ea, g, hv⟩ := get_ok w1 w2 e7
  cases ea
  refine ⟨ov, g, ?_⟩
  cases o with
  | some d' =>
    obtain ⟨v, rfl, rb⟩ := hv
    cases hf
    exact q v F3 H3 fp3 [] S3 (((T1.trans T2).trans T3).weak fun a h => h.elim id fun z => nomatch z) (rb_q S3 rb)
  | none =>
    have hv : ov = none := hv
    subst hv
    have hf : (resB env3 z).map (fun r => (R.val (.dat r.1), r.2)) = some (r, env') := hf
    rw [Option.map_eq_some_iff] at hf
    obtain ⟨⟨d', env4⟩, e8, hf⟩ := hf
    cases hf
    obtain ⟨F4, fp4, S4, T4, rb⟩ := res_ok S3 ok3 e8
    exact q v3 F4 H3 fp4 [] S4 ((((T1.trans T2).trans T3).trans T4).weak fun a h => h.elim id fun z => nomatch z) (rb_q S4 rb)
theorem pr_dget2 (hu : X.A.units + 1 < cLine) (ho : PE X o (tO fa)) (he : PE X e (tO fb)) (hf : PE X f (tO fc)) (m : M2 X o "get" apos e f cpos := by exact ⟨rfl, rfl, rfl, rfl⟩) :
    PE X (.Call (.Attribute o "get" apos) [e, f] [] cpos) (tR (dGet2 fa fb fc)) := PE.imp (pe_dget2 hu ho he hf m) fun _ _ _ h => t_get2 h
end
/-! ### xs.pop(0) -/
def dPop0 (i : Nat) : RE := fun env => (lstAt env i).bind fun l => match l.2 with
  | x :: xs => if xs.length < szMax then some (.val (.dat x), putL env i l.1 (.list xs)) else none
  | [] => none
theorem t_pop0 {i : Nat} {σ : L2.St} {H : Hp} {Q : VK} {K : PySem.W.Frag} (h : tR (dPop0 i) σ H Q) : tBM K "list" rPopAt (tVar i) (tCons (tC (.int 0)) tNil) σ H Q := by
  obtain ⟨A, F, env, fp, S, r, env', hf, q⟩ := h
  unfold dPop0 at hf
  rw [Option.bind_eq_some_iff] at hf
  obtain ⟨⟨b, ys⟩, e0, hf⟩ := hf
  cases ys with
  | nil => cases hf
  | cons x xs =>
    obtain ⟨a, vs, hv, hp, ha, ra⟩ := lst_ok S e0
    simp only at hf
    split at hf
    case isFalse => cases hf
    case isTrue hz =>
    cases hf
    cases ra with
    | cons r1 r2 =>
      rename_i v vs
      obtain ⟨S3, T3⟩ := own_put S (o := .lst vs) (d' := .list xs) (lst_at e0) hv hp (.lst upd_same r2)
      refine ⟨.ref a, hv, .inl ⟨rfl, _, .inl (.inl ha)⟩, ?_⟩
      exact ⟨a, v :: vs, 0, 0, v, rfl, rfl, ha, by decide, by decide, by
        have hl : vs.length < 100000 := by rw [r2.length]; exact hz
        simp [seqIndex?], rfl, q v F _ fp [] S3 (T3.weak fun a h => h.elim id fun z => nomatch z) (rb_q S3 r1)⟩
theorem pr_pop0 {X : Cx} {oname : Str} {np apos cpos p1 : Pos} {j : Nat} (i : Nat) (ho : PE X (.Name oname np) (tVar i))
    (hbase : attributeBase (.Name oname np) "pop" X.env (eval (.Name oname np) X.env) = eval (.Name oname np) X.env := by rfl)
    (hfew : ((backTo cpos (starEach [.Constant (.int 0) j p1] X.env)).all (fun x => !x.1) && (backToKw cpos (keywordEach [] X.env)).all (fun x => x.1.isSome) && decide ([Expr.Constant (.int 0) j p1].length + ([] : List Keyword).length + (if ([] : List Keyword).isEmpty then 0 else 1) < 30)) = true := by rfl)
    (hline : (apos.endLine == cpos.line) = true := by rfl) (hst : starEach [.Constant (.int 0) j p1] X.env = (false, eval (.Constant (.int 0) j p1) X.env) :: starEach [] X.env := by rfl) (hplain : (backTo cpos (starEach [] X.env)).any (·.1) = false := by rfl) :
    PE X (.Call (.Attribute (.Name oname np) "pop" apos) [.Constant (.int 0) j p1] [] cpos) (tR (dPop0 i)) :=
  PE.imp (pe_bm PySem.F.plainAttrs_list PySem.F.slot_list_pop PySem.F.type_list_pop mt_popAt ho (pa_cons pe_int pa_nil hst) hbase hfew hline hst hplain) fun _ _ _ h => t_pop0 h
/-! ### dict(pairs), the keys ints and texts -/
def pairK : D → Option (Key × D)
  | .tuple [k, v] => (toKey k).map fun ks => (ks, v)
  | _ => none
def pairsK : List D → Option KVD
  | [] => some []
  | d :: ds => (pairK d).bind fun p => (pairsK ds).map fun r => p :: r
def dictU : List D → Option Sl
  | [.list xs] => match pairsK xs with
    | some l => some (.own (.dict (encK (mergeKK [] l))))
    | none => dictOfD [.list xs]
  | _ => none
def rDictP (K : PySem.W.Frag) : List V → Hp → VK → Prop := fun xs H Q => ∃ (a : Addr) (ps : List Addr) (kvs : List (Key × V)), xs = [.ref a] ∧ SqL K H a (ps.map V.ref) ∧ Paired (fun p kv => SqT K H p [kV kv.1, kv.2]) ps kvs ∧ ∀ p, H p = none → Q (.ref p) (upd H p (.dK (mergeK [] kvs)))
def rDictU (K : PySem.W.Frag) : List V → Hp → VK → Prop := fun xs H Q => rDictP K xs H Q ∨ rDictT K xs H Q
theorem cr_dictU {X : Cx} (hc : X.calm = true) (hu : X.A.units + 2 < cLine) : CallR X (.type "dict") (rDictU X.K) := CallR.or (call_dictP hc) (cr_dictT hc hu)
theorem pairsK_rel {K : PySem.W.Frag} {F H : Hp} (ex : Same F H) : ∀ {vs : List V} {ds : List D} {l : KVD}, RbA F vs ds → pairsK ds = some l → ∃ ps kvs, vs = ps.map V.ref ∧ Paired (fun p (kv : Key × V) => SqT K H p [kV kv.1, kv.2]) ps kvs ∧ DKW F kvs l
  | _, _, l, .nil, e => by cases e; exact ⟨[], [], rfl, .nil, .nil⟩
  | _, _, l, .cons (d := d) (ds := ds) h r, e => by
    simp only [pairsK, Option.bind_eq_some_iff, Option.map_eq_some_iff] at e
    obtain ⟨p, e1, l2, e2, rfl⟩ := e
    obtain ⟨ps, kvs, rfl, h1, h2⟩ := pairsK_rel (K := K) ex r e2
    unfold pairK at e1
    split at e1
    · rename_i k v
      rw [Option.map_eq_some_iff] at e1
      obtain ⟨ks, e3, rfl⟩ := e1
      cases h with
      | tup hb rr =>
        cases rr with
        | cons rk rr =>
          cases rr with
          | cons rv rr =>
            cases rr
            have ek := rb_key rk e3
            subst ek
            exact ⟨_ :: ps, (ks, _) :: kvs, rfl, .cons (SqT.of (ex _ _ hb)) h1, .cons ⟨rfl, rv⟩ h2⟩
    · cases e1
theorem sp_dictU {K : PySem.W.Frag} : CallSpec (rDictU K) dictU := by
  intro A F H vs ds s Q ex w hs k
  match ds, w, hs with
  | [.list xs], .cons (.lst h r) .nil, hs =>
    simp only [dictU] at hs
    cases e : pairsK xs with
    | some l =>
      rw [e] at hs
      cases hs
      obtain ⟨ps, kvs, rfl, h1, h2⟩ := pairsK_rel (K := K) ex r e
      exact .inl ⟨_, ps, kvs, rfl, SqL.of h, h1, fun p hp => k _ _ _ _ (Res.newO ex hp ((h2.merge .nil).view upd_same))⟩
    | none =>
      rw [e] at hs
      exact .inr (sp_dict A F H _ _ s Q ex (.cons (.lst h r) .nil) hs k)
/-! ### displays of dicts -/
def trsOf : List Key → List BE → List (TE × TE)
  | k :: ks, f :: fs => (tC (kV k), tO f) :: trsOf ks fs
  | _, _ => []
def bae : List BE → BAE
  | [] => dNil
  | f :: fs => dCons f (bae fs)
section
variable {X : Cx} {pos p1 : Pos} {j : Nat} {v : Expr} {f : BE} {ks : List (Option Expr)} {vs : List Expr} {kk : List Key} {fs : List BE}
theorem pd_nil : PPs X pos [] [] (trsOf [] []) := pps_nil
theorem pd_str {x : Str} (hv : PE X v (tO f)) (r : PPs X pos ks vs (trsOf kk fs)) : PPs X pos (some (.Constant (.str x) j p1) :: ks) (v :: vs) (trsOf (.inr x :: kk) (f :: fs)) := pps_cons pe_str hv r
theorem pd_int {i : Int} (hv : PE X v (tO f)) (r : PPs X pos ks vs (trsOf kk fs)) : PPs X pos (some (.Constant (.int i) j p1) :: ks) (v :: vs) (trsOf (.inl i :: kk) (f :: fs)) := pps_cons pe_int hv r
end
theorem t_pairs : ∀ {ks : List Key} {fs : List BE} {σ : L2.St} {H : Hp} {R : List (V × V) → Hp → Prop}, ks.length = fs.length → tOs (bae fs) σ H (fun vs H' => R ((ks.map kV).zip vs) H') → tPairs (trsOf ks fs) σ H R
  | [], [], σ, H, R, _, h => by
    obtain ⟨A, F, env, fp, S, bs, env', hf, q⟩ := h
    cases hf
    exact q [] F H fp S Tr.refl .nil
  | k :: ks, f :: fs, σ, H, R, hl, h => by
    obtain ⟨A, F, env, fp, S, bs, env', hf, q⟩ := h
    have hf : dCons f (bae fs) env = some (bs, env') := hf
    unfold dCons at hf
    simp only [Option.bind_eq_some_iff, Option.map_eq_some_iff] at hf
    obtain ⟨⟨b, env1⟩, e1, ⟨bs', env2⟩, e2, hf⟩ := hf
    cases hf
    show tO f σ H _
    refine ⟨A, F, env, fp, S, b, env1, e1, fun v F1 H1 fp1 S1 T1 ok1 => ?_⟩
    refine t_pairs (by simpa using hl) ⟨A, F1, env1, fp1, S1, bs', env2, e2, fun us F2 H2 fp2 S2 T2 oks => ?_⟩
    exact q (v :: us) F2 H2 fp2 S2 (T1.trans T2) (.cons (ok1.mono T2.grow) oks)
  | [], _ :: _, _, _, _, hl, _ => nomatch hl
  | _ :: _, [], _, _, _, hl, _ => nomatch hl
def dDisp (ks : List Key) (fs : List BE) : RE := fun env => (bae fs env).bind fun p => (resBs p.2 p.1).bind fun r => if r.1.length = ks.length then some (.val (.own (.dict (encK (mergeKK [] (ks.zip r.1))))), r.2) else none
section
variable {A : Addr} {F H F' H' F2 H2 : Hp} {σ : L2.St} {env env' : Env'} {fp fp' : Nat → List Addr} {p : Addr} {o : HO}
theorem tmp_put (S : StOk A F H σ env fp) (h0 : F p = none) (h1 : ¬ inFp fp p) : StOk A F (upd H p o) σ env fp := by
  refine ⟨S.len, fun i => (S.slot i).mono (Same.refl F) fun a ha u hu => ?_, S.disj, S.free, fun a u e => ?_⟩
  · rw [upd_ne fun z : a = p => h1 ⟨i, by rw [← z]; exact ha⟩]; exact hu
  · rw [upd_ne fun z : a = p => by rw [z, h0] at e; cases e]; exact S.ex a u e
theorem dkw_zip : ∀ {ks : List Key} {vs : List V} {ds : List D}, RbA F vs ds → DKW F (ks.zip vs) (ks.zip ds)
  | [], _, _, _ => .nil
  | _ :: _, _, _, .nil => .nil
  | _ :: ks, _, _, .cons h r => .cons ⟨rfl, h⟩ (dkw_zip r)
theorem t_disp {ks : List Key} {fs : List BE} (hl : ks.length = fs.length) (h15 : ks.length ≤ 15) {Q : VK} (h : tR (dDisp ks fs) σ H Q) : tDisp (trsOf ks fs) σ H Q := by
  obtain ⟨A, F, env, fp, S, r, env', hf, q⟩ := h
  unfold dDisp at hf
  simp only [Option.bind_eq_some_iff] at hf
  obtain ⟨⟨bs, env1⟩, e1, ⟨ds, env2⟩, e2, hf⟩ := hf
  split at hf
  case isFalse => cases hf
  case isTrue hk =>
  cases hf
  intro p hp
  have hF : F p = none := fresh_F S.ex hp
  have hW : ¬ inFp fp p := fun z => by obtain ⟨u, hu⟩ := S.live z; rw [hp] at hu; cases hu
  have S0 := tmp_put (o := .dK []) S hF hW
  have T0 : Tr F H (inFp fp) F (upd H p (.dK [])) (inFp fp) := ⟨fun a u e _ => by rw [upd_ne (ne_of_none e hp)]; exact e, Same.refl F, fun a e => .inl e, fun a e => .inl e⟩
  refine t_pairs hl ⟨A, F, env, fp, S0, bs, env1, e1, fun vs F2 H2 fp2 S2 T2 oks => ?_⟩
  obtain ⟨F3, fp3, S3, T3, rb⟩ := ress_ok S2 oks e2
  have T := T2.trans T3
  have keep : H2 p = some (.dK []) := T.keep p _ upd_same hW
  have hl2 : vs.length = ks.length := by rw [rb.length]; exact hk
  refine ⟨keep, ks.zip vs, ?_, ?_, ?_⟩
  · clear keep T rb T3 S3 oks T2 S2
    have : ∀ (ks : List Key) (vs : List V), (ks.map kV).zip vs = (ks.zip vs).map fun kv => (kV kv.1, kv.2) := fun ks => by
      induction ks with
      | nil => intro vs; rfl
      | cons k ks ih => intro vs; cases vs with
        | nil => rfl
        | cons v vs => simp [ih]
    exact this ks vs
  · rw [List.length_zip, hl2]; omega
  have st := SlOk.stay (W := inFp fp) (A := A) (F := F) (H := upd H p (.dK [])) (s := .own (.dict [])) (o := some (.ref p)) (q := [p]) ⟨p, rfl, rfl, View.dK (kvs := []) (ds := []) upd_same .nil⟩ (fun a ha => by rw [List.mem_singleton.mp ha]; exact ⟨hF, hW⟩) T
  have hp3 := st.2 p List.mem_cons_self
  have S4 := tmp_put (o := .dK (mergeK [] (ks.zip vs))) S3 hp3.1 hp3.2
  refine q (.ref p) F3 _ fp3 [p] S4 ?_ ⟨(nomatch ·), ⟨p, rfl, rfl, ((dkw_zip rb).merge .nil).view upd_same⟩, fun a ha => by rw [List.mem_singleton.mp ha]; exact hp3⟩
  have TT := T0.trans T
  exact ⟨fun a u e nw => by rw [upd_ne (ne_of_none e hp)]; exact TT.keep a u e nw, TT.grow, TT.newF, fun a e => by
    rcases e with e | e
    · exact TT.newW a e
    · rw [List.mem_singleton.mp e]; exact .inr hp⟩
end
theorem pr_disp {X : Cx} {pos : Pos} {keys : List (Option Expr)} {values : List Expr} {ks : List Key} {fs : List BE} (h : PPs X pos keys values (trsOf ks fs)) (hl : ks.length = fs.length) (h15 : ks.length ≤ 15)
    (hall : keys.all (·.isSome) = true := by rfl) (hl2 : keys.length = values.length := by rfl) (h0 : keys ≠ [] := by exact fun z => nomatch z) (h16 : keys.length ≤ 15 := by decide) : PE X (.Dict keys values pos) (tR (dDisp ks fs)) :=
  PE.imp (pe_disp h hall hl2 h0 h16) fun _ _ _ q => t_disp hl h15 q
end DL
/-! what repr shows, its size -/
namespace DL
open PySem PySem.Spec PyProof.Rows L2
theorem eq_str {x y : Str} : eqD (.str x) (.str y) = some (.dat (.bool (x == y))) := by
  unfold eqD
  split
  · rfl
  · rfl
theorem ne_str {x y : Str} : neD (.str x) (.str y) = some (.dat (.bool (!(x == y)))) := by
  unfold neD
  split
  · rfl
  · rfl
theorem eq_str_same {x : Str} : eqD (.str x) (.str x) = some (.dat (.bool true)) := by rw [eq_str, beq_self_eq_true]
theorem ne_str_same {x : Str} : neD (.str x) (.str x) = some (.dat (.bool false)) := by rw [ne_str, beq_self_eq_true]; rfl
structure Shd (k w : Nat) (d : D) : Prop where
  can : d.canLay0 = true
  sh : d.showable = true
  lf : d.leavesShort 20 = true
  dp : d.depth ≤ k
  wt : d.weight ≤ w
theorem Shd.up {k w k' w' : Nat} {d : D} (h : Shd k w d) (hk : k ≤ k') (hw : w ≤ w') : Shd k' w' d := ⟨h.can, h.sh, h.lf, Nat.le_trans h.dp hk, Nat.le_trans h.wt hw⟩
theorem shd_none : Shd 0 0 .none := ⟨by rw [PyData.canLay0], by rw [PyData.showable], by rw [PyData.leavesShort], by rw [PyData.depth]; exact Nat.le_refl 0, by rw [PyData.weight]; exact Nat.le_refl 0⟩
theorem shd_bool (b : Bool) : Shd 0 0 (.bool b) := ⟨by rw [PyData.canLay0], by rw [PyData.showable], by rw [PyData.leavesShort], by rw [PyData.depth]; exact Nat.le_refl 0, by rw [PyData.weight]; exact Nat.le_refl 0⟩
theorem shd_int {i : Int} (h : i.natAbs < 10 ^ 12) : Shd 0 40 (.int i) := by
  have h1 := PyData.shown_int_le h
  have h2 : i.natAbs.log2 < 40 := by
    by_cases z : i.natAbs = 0
    · rw [z]; decide
    · exact (Nat.log2_lt z).mpr (Nat.lt_trans h (by decide))
  refine ⟨by rw [PyData.canLay0], ?_, ?_, by rw [PyData.depth]; exact Nat.le_refl 0, ?_⟩
  · rw [PyData.showable, decide_eq_true]; omega
  · rw [PyData.leavesShort, decide_eq_true]; omega
  · rw [PyData.weight]; split <;> omega
theorem shd_str {x : Str} {n : Nat} (h : PyData.strOk x = true) (hl : x.length ≤ n) : Shd 0 n (.str x) := by
  refine ⟨by rw [PyData.canLay0]; exact h, by rw [PyData.showable], ?_, by rw [PyData.depth]; exact Nat.le_refl 0, by rw [PyData.weight]; exact hl⟩
  rw [PyData.leavesShort]
  have h' : x.cps.all (fun c => decide (c < 0x110000)) = true := h
  rw [← Array.all_toList] at h'
  rw [List.all_eq_true] at h' ⊢
  intro c hc
  have := h' c hc
  simp at this ⊢
  omega
structure ShdA (k w : Nat) (xs : List D) : Prop where
  can : PyData.canLayAll0 xs = true
  sh : PyData.showableAll xs = true
  lf : PyData.leavesShortAll 20 xs = true
  dp : PyData.depthAll xs ≤ k
  wt : PyData.weightAll xs ≤ w
theorem shda_nil {k : Nat} : ShdA k 0 [] := ⟨by rw [PyData.canLayAll0], by rw [PyData.showableAll], by rw [PyData.leavesShortAll], by rw [PyData.depthAll]; exact Nat.zero_le _, by rw [PyData.weightAll]; exact Nat.le_refl 0⟩
theorem shda_cons {k v w : Nat} {x : D} {xs : List D} (h : Shd k v x) (hs : ShdA k w xs) : ShdA k (v + 1 + w) (x :: xs) :=
  ⟨by rw [PyData.canLayAll0, h.can, hs.can]; rfl, by rw [PyData.showableAll, h.sh, hs.sh]; rfl, by rw [PyData.leavesShortAll, h.lf, hs.lf]; rfl,
   by rw [PyData.depthAll]; exact Nat.max_le.mpr ⟨h.dp, hs.dp⟩, by rw [PyData.weightAll]; exact Nat.add_le_add (Nat.add_le_add_right h.wt 1) hs.wt⟩
theorem ShdA.up {k w k' w' : Nat} {d : List D} (h : ShdA k w d) (hk : k ≤ k') (hw : w ≤ w') : ShdA k' w' d := ⟨h.can, h.sh, h.lf, Nat.le_trans h.dp hk, Nat.le_trans h.wt hw⟩
theorem shda_all {k w : Nat} : ∀ {xs : List D}, (∀ x ∈ xs, Shd k w x) → ShdA k ((w + 1) * xs.length) xs
  | [], _ => shda_nil
  | x :: xs, h => (shda_cons (h x List.mem_cons_self) (shda_all fun y hy => h y (List.mem_cons_of_mem _ hy))).up (Nat.le_refl k) (by rw [List.length_cons, Nat.mul_add, Nat.mul_one]; omega)
theorem shd_list {k w : Nat} {xs : List D} (h : ShdA k w xs) : Shd (k + 1) w (.list xs) :=
  ⟨by rw [PyData.canLay0]; exact h.can, by rw [PyData.showable]; exact h.sh, by rw [PyData.leavesShort]; exact h.lf, by rw [PyData.depth]; exact Nat.succ_le_succ h.dp, by rw [PyData.weight]; exact h.wt⟩
theorem shd_tup {k w : Nat} {xs : List D} (h : ShdA k w xs) : Shd (k + 1) w (.tuple xs) :=
  ⟨by rw [PyData.canLay0]; exact h.can, by rw [PyData.showable]; exact h.sh, by rw [PyData.leavesShort]; exact h.lf, by rw [PyData.depth]; exact Nat.succ_le_succ h.dp, by rw [PyData.weight]; exact h.wt⟩
theorem Shd.len {k w : Nat} {d : D} (h : Shd k w d) : d.shown.length ≤ 22 * w + 20 :=
  Nat.le_trans (PyData.shown_le 20 (by decide) d h.lf) (Nat.add_le_add_right (Nat.mul_le_mul_left 22 h.wt) 20)
theorem repr_shd {k w : Nat} {d : D} (s : Shd k w d) (hk : k ≤ 20) (hw : w ≤ 300000) : reprD [d] = some (.dat (.str d.shown)) := by
  have l := s.len
  refine if_pos ⟨s.can, s.sh, Nat.le_trans s.dp hk, Nat.le_trans l ?_⟩
  unfold rpMax; omega
theorem repr_list {k w : Nat} {xs : List D} (h : ShdA k w xs) (hk : k ≤ 19) (hw : w ≤ 300000) : reprD [.list xs] = some (.dat (.str (PyData.shown (.list xs)))) := repr_shd (shd_list h) (by omega) hw
end DL
namespace DL
open PySem PySem.Spec PyProof.Rows L2
@[simp] theorem szl_0 : 0 < szMax := by decide
@[simp] theorem sz_1 : 1 ≤ szMax := by decide
@[simp] theorem szl_1 : 1 < szMax := by decide
@[simp] theorem sz_2 : 2 ≤ szMax := by decide
@[simp] theorem szl_2 : 2 < szMax := by decide
@[simp] theorem sz_3 : 3 ≤ szMax := by decide
@[simp] theorem szl_3 : 3 < szMax := by decide
@[simp] theorem sz_4 : 4 ≤ szMax := by decide
@[simp] theorem szl_4 : 4 < szMax := by decide
@[simp] theorem sz_5 : 5 ≤ szMax := by decide
@[simp] theorem szl_5 : 5 < szMax := by decide
@[simp] theorem sz_6 : 6 ≤ szMax := by decide
@[simp] theorem szl_6 : 6 < szMax := by decide
@[simp] theorem sz_7 : 7 ≤ szMax := by decide
@[simp] theorem szl_7 : 7 < szMax := by decide
@[simp] theorem sz_8 : 8 ≤ szMax := by decide
@[simp] theorem szl_8 : 8 < szMax := by decide
@[simp] theorem sz_9 : 9 ≤ szMax := by decide
@[simp] theorem szl_9 : 9 < szMax := by decide
theorem atI_k {α : Type} {xs : List α} {k : Nat} : atI xs (k : Int) = xs[k]? := by
  unfold atI ixN
  rw [if_pos (Int.natCast_nonneg k)]
  by_cases h : k < xs.length
  · rw [if_pos (by omega)]; rfl
  · rw [if_neg (by omega), List.getElem?_eq_none (by omega)]; rfl
theorem atI_k1 {α : Type} {xs : List α} {k : Nat} : atI xs ((k : Int) + 1) = xs[k + 1]? := atI_k (k := k + 1)
@[simp] theorem atI_end {α : Type} {xs : List α} {x : α} : atI (xs ++ [x]) (-1) = some x := atI_last _ _
@[simp] theorem atI_0 {α : Type} {xs : List α} : atI xs 0 = xs[0]? := atI_k (k := 0)
@[simp] theorem atI_1 {α : Type} {xs : List α} : atI xs 1 = xs[1]? := atI_k (k := 1)
@[simp] theorem atI_2 {α : Type} {xs : List α} : atI xs 2 = xs[2]? := atI_k (k := 2)
theorem beq_str {x y : Str} : (x == y) = decide (x = y) := by
  by_cases h : x = y
  · rw [decide_eq_true h]; exact beq_iff_eq.mpr h
  · rw [decide_eq_false h]; exact beq_eq_false_iff_ne.mpr h
/-- a line: of signs that may be laid out, not long -/
structure Ln where
  s : Str
  h : PyData.strOk s = true ∧ s.length ≤ 100 ∧ (PyData.shown (.str s)).length ≤ 1000
deriving DecidableEq
theorem ln_ext {x y : Ln} : x = y ↔ x.s = y.s := ⟨fun h => by rw [h], fun h => by cases x; cases y; cases h; rfl⟩
def lnD (x : Ln) : D := .str x.s
theorem shaped_s {x : Str} (h : PyData.strOk x = true) : SeqAt.shaped (.str x) = true := by simp [SeqAt.shaped, PyData.canLay0, PyData.depth, h]
@[simp] theorem shaped_int {x : Int} : SeqAt.shaped (.int x) = true := by simp [SeqAt.shaped, PyData.canLay0, PyData.depth]
theorem eq_s {x y : Str} (h : PyData.strOk x = true) (k : PyData.strOk y = true) : eqD (.str x) (.str y) = some (.dat (.bool (decide (x = y)))) := by
  show (if _ then _ else _) = _
  rw [if_pos ⟨shaped_s h, shaped_s k⟩]
  show some (Sl.dat (.bool (x == y))) = _
  rw [beq_str]
theorem ne_s {x y : Str} (h : PyData.strOk x = true) (k : PyData.strOk y = true) : neD (.str x) (.str y) = some (.dat (.bool (!decide (x = y)))) := by
  show (if _ then _ else _) = _
  rw [if_pos ⟨shaped_s h, shaped_s k⟩]
  show some (Sl.dat (.bool (!(x == y)))) = _
  rw [beq_str]
@[simp] theorem eq_ln {x y : Ln} : eqD (lnD x) (lnD y) = some (.dat (.bool (decide (x = y)))) := by
  unfold lnD
  rw [eq_s x.h.1 y.h.1]
  simp [ln_ext]
@[simp] theorem ne_ln {x y : Ln} : neD (lnD x) (lnD y) = some (.dat (.bool (!decide (x = y)))) := by
  unfold lnD
  rw [ne_s x.h.1 y.h.1]
  simp [ln_ext]
@[simp] theorem eq_int {x y : Int} : eqD (.int x) (.int y) = some (.dat (.bool (decide (x = y)))) := by
  show (if _ then _ else _) = _
  rw [if_pos (by simp)]
  show some (Sl.dat (.bool (x == y))) = _
  by_cases h : x = y
  · rw [decide_eq_true h]; subst h; simp
  · rw [decide_eq_false h]; simp [h]
@[simp] theorem ne_int {x y : Int} : neD (.int x) (.int y) = some (.dat (.bool (!decide (x = y)))) := by
  show (if _ then _ else _) = _
  rw [if_pos (by simp)]
  show some (Sl.dat (.bool (!(x == y)))) = _
  by_cases h : x = y
  · rw [decide_eq_true h]; subst h; simp
  · rw [decide_eq_false h]; simp [h]
theorem for_nil {pat : Pat} {g : SE} {env : Env'} : forD pat g [] env = some (.nx env) := rfl
theorem for_cons {pat : Pat} {g : SE} {x : D} {xs : List D} {env e e' : Env'} (h : bindP pat x env = some e) (k : g e = some (.nx e') ∨ g e = some (.ct e')) : forD pat g (x :: xs) env = forD pat g xs e' := by
  rw [forD, h]
  rcases k with k | k <;> (rw [Option.bind_some, k]; rfl)
abbrev LD (xs : List Ln) : D := .list (xs.map lnD)
abbrev nD (n : Nat) : D := .int (n : Int)
abbrev rowD (r : List Nat) : D := .list (r.map nD)
abbrev tabD (t : List (List Nat)) : D := .list (t.map rowD)
theorem flat_one {x : D} : ∀ n : Nat, (List.replicate n [x]).flatten = List.replicate n x
  | 0 => rfl
  | n + 1 => by rw [List.replicate_succ, List.flatten_cons, flat_one n, List.replicate_succ]; rfl
theorem mul_zeros {n : Nat} (h : n ≤ 1000) : mulD (.list [.int 0]) (.int (n : Int)) = some (.own (rowD (List.replicate n 0))) := by
  simp only [mulD]
  have z : ((n : Int)).natAbs ≤ szMax ∧ [PyData.int 0].length * ((n : Int)).toNat ≤ szMax := by
    rw [Int.toNat_natCast, List.length_singleton, Nat.one_mul, Int.natAbs_natCast]
    exact ⟨Nat.le_trans h (by decide), Nat.le_trans h (by decide)⟩
  rw [if_pos z, Int.toNat_natCast, flat_one]
  show _ = some (Sl.own (.list ((List.replicate n 0).map nD)))
  rw [List.map_replicate]
  rfl
section
variable {env : Env'} {fb gb : BE} {i : Nat}
@[simp] theorem ev_dctAt : dctAt env i = match env[i]? with
  | some (.own (.dict xs)) => some (false, xs)
  | some (.io (.dict xs)) => some (true, xs)
  | _ => none := rfl
@[simp] theorem ev_dDPut : dDPut i fb gb env = (fb env).bind fun p => (resB p.2 p.1).bind fun r => (dctAt r.2 i).bind fun _ => (gb r.2).bind fun p2 => (readB p2.2 p2.1).bind fun kd =>
  (dctAt p2.2 i).bind fun l => (decT l.2).bind fun t => (toTK kd).bind fun ks => if t ≠ [] ∧ t.length < szMax then some (.nx (putL p2.2 i l.1 (.dict (encT (putKD t ks r.1))))) else none := rfl
end
@[simp] theorem dec_enc (l : TKV) : decT (encT l) = some l := decT_encT l
@[simp] theorem tk2 {i j : Int} : toTK (.tuple [.int i, .int j]) = some [.inl i, .inl j] := rfl
@[simp] theorem dg_at {l : TKV} {i j : Int} : dgD (.dict (encT l)) (.tuple [.int i, .int j]) = (lookK l [.inl i, .inl j]).map .dat := by
  show ((decT (encT l)).bind fun l => (toTK (.tuple [.int i, .int j])).bind fun ks => (lookK l ks).map Sl.dat) = _
  rw [dec_enc]
  rfl
theorem look_cons {l : TKV} {k k' : List Key} {d : D} : lookK ((k, d) :: l) k' = if k = k' then some d else lookK l k' := by
  unfold lookK
  rw [List.find?_cons]
  by_cases h : k = k'
  · rw [if_pos h]
    show Option.map _ (match decide (k = k') with | true => some (k, d) | false => _) = _
    rw [decide_eq_true h]; rfl
  · rw [if_neg h]
    show Option.map _ (match decide (k = k') with | true => some (k, d) | false => _) = _
    rw [decide_eq_false h]
theorem look_app {l : TKV} {k k' : List Key} {d : D} : lookK (l ++ [(k, d)]) k' = (lookK l k').or (if k = k' then some d else none) := by
  induction l with
  | nil => rw [List.nil_append, look_cons]; rfl
  | cons p l ih =>
    obtain ⟨a, b⟩ := p
    rw [List.cons_append, look_cons, look_cons, ih]
    split <;> rfl
theorem look_no {l : TKV} {k : List Key} (h : (l.any fun kv => decide (kv.1 = k)) = false) : lookK l k = none := by
  induction l with
  | nil => rfl
  | cons p l ih =>
    obtain ⟨a, b⟩ := p
    rw [List.any_cons, Bool.or_eq_false_iff] at h
    rw [look_cons, if_neg (of_decide_eq_false h.1), ih h.2]
theorem look_map {l : TKV} {k k' : List Key} {d : D} : lookK (l.map fun kv => if kv.1 = k then (kv.1, d) else kv) k' = if k = k' then (lookK l k').map fun _ => d else lookK l k' := by
  induction l with
  | nil => split <;> rfl
  | cons p l ih =>
    obtain ⟨a, b⟩ := p
    rw [List.map_cons]
    by_cases h : a = k
    · rw [if_pos h, look_cons, ih, look_cons]
      subst h
      by_cases h2 : a = k'
      · rw [if_pos h2, if_pos h2, if_pos h2]; rfl
      · simp only [if_neg h2]
    · rw [if_neg h, look_cons, ih, look_cons]
      by_cases h2 : a = k'
      · rw [if_pos h2, if_pos h2, if_neg (fun z => h (h2.trans z.symm))]
      · rw [if_neg h2, if_neg h2]
theorem look_put {l : TKV} {k k' : List Key} {d : D} : lookK (putKD l k d) k' = if k = k' then some d else lookK l k' := by
  unfold putKD
  by_cases h : (l.any fun kv => decide (kv.1 = k)) = true
  · rw [if_pos h, look_map]
    by_cases e : k = k'
    · subst e
      rw [if_pos rfl, if_pos rfl]
      have : ∃ x, lookK l k = some x := by
        induction l with
        | nil => cases h
        | cons p l ih =>
          obtain ⟨a, b⟩ := p
          rw [look_cons]
          by_cases z : a = k
          · exact ⟨b, if_pos z⟩
          · rw [if_neg z]
            rw [List.any_cons, decide_eq_false z, Bool.false_or] at h
            exact ih h
      obtain ⟨x, hx⟩ := this
      rw [hx]; rfl
    · rw [if_neg e, if_neg e]
  · rw [if_neg h, look_app]
    by_cases e : k = k'
    · subst e
      rw [look_no (Bool.eq_false_iff.mpr h), if_pos rfl]; rfl
    · rw [if_neg e, if_neg e, Option.or_none]
theorem len_put {l : TKV} {k : List Key} {d : D} : (putKD l k d).length ≤ l.length + 1 := by
  unfold putKD
  split
  · rw [List.length_map]; omega
  · rw [List.length_append]; simp
theorem put_ne {l : TKV} {k : List Key} {d : D} : putKD l k d ≠ [] := fun z => by
  have h : lookK (putKD l k d) k = some d := by rw [look_put, if_pos rfl]
  rw [z] at h
  cases h
open Classical in
theorem look_merge {d : D} : ∀ {l acc : TKV} {k : List Key}, (∀ p ∈ l, p.2 = d) → lookK (l.foldl (fun acc kv => putKD acc kv.1 kv.2) acc) k = if k ∈ l.map (·.1) then some d else lookK acc k
  | [], acc, k, _ => by rw [if_neg (by simp)]; rfl
  | p :: l, acc, k, h => by
    rw [List.foldl_cons, look_merge (fun q hq => h q (List.mem_cons_of_mem _ hq)), look_put, h p List.mem_cons_self]
    by_cases e : k ∈ l.map (·.1)
    · rw [if_pos e, if_pos (by rw [List.map_cons]; exact List.mem_cons_of_mem _ e)]
    · rw [if_neg e]
      by_cases e2 : p.1 = k
      · rw [if_pos e2, if_pos (by rw [List.map_cons, ← e2]; exact List.mem_cons_self)]
      · rw [if_neg e2, if_neg (by rw [List.map_cons]; exact fun z => (List.mem_cons.mp z).elim (fun z => e2 z.symm) e)]
theorem len_merge : ∀ {l acc : TKV}, (l.foldl (fun acc kv => putKD acc kv.1 kv.2) acc).length ≤ acc.length + l.length
  | [], acc => Nat.le_refl _
  | p :: l, acc => by
    rw [List.foldl_cons, List.length_cons]
    exact Nat.le_trans len_merge (by have := len_put (l := acc) (k := p.1) (d := p.2); omega)
theorem pairs_map {α : Type} {p q : α → Int} {v : D} : ∀ xs : List α, pairsD (xs.map fun i => .tuple [.tuple [.int (p i), .int (q i)], v]) = some (xs.map fun i => ([.inl (p i), .inl (q i)], v))
  | [] => rfl
  | x :: xs => by
    rw [List.map_cons, pairsD, pairs_map xs]
    rfl
theorem pairs_app : ∀ {xs ys : List D} {a b : TKV}, pairsD xs = some a → pairsD ys = some b → pairsD (xs ++ ys) = some (a ++ b)
  | [], ys, a, b, h, k => by cases h; exact k
  | x :: xs, ys, a, b, h, k => by
    rw [pairsD] at h
    rw [List.cons_append, pairsD]
    cases e1 : pairD x with
    | none => rw [e1] at h; cases h
    | some p =>
      rw [e1] at h
      cases e2 : pairsD xs with
      | none => rw [e2] at h; cases h
      | some r =>
        rw [e2] at h
        cases h
        rw [pairs_app e2 k]
        rfl
theorem ints0 (n : Nat) : intsFrom 0 n = (List.range n).map nD := by
  unfold intsFrom
  exact List.map_congr_left fun i _ => by rw [Int.zero_add]
/-- a comprehension whose elements leave all but its own names as it was -/
theorem comp_pure {pat : Pat} {t : TTE} {el : BE} {vs : List Nat} {E : Env'} {f : D → D} : ∀ {xs : List D} {env : Env'}, wipeE env vs = E →
    (∀ x ∈ xs, ∃ e1, bindP pat x E = some e1 ∧ ∃ e2, t e1 = some (true, e2) ∧ ∃ b e3, el e2 = some (b, e3) ∧ ∃ e4, resB e3 b = some (f x, e4) ∧ wipeE e4 vs = E) →
    ∃ e5, compD pat t el vs xs env = some (xs.map f, e5) ∧ wipeE e5 vs = E
  | [], env, h, _ => ⟨env, rfl, h⟩
  | x :: xs, env, h, k => by
    obtain ⟨e1, h1, e2, h2, b, e3, h3, e4, h4, h5⟩ := k x List.mem_cons_self
    obtain ⟨e5, h6, h7⟩ := comp_pure (xs := xs) h5 fun y hy => k y (List.mem_cons_of_mem _ hy)
    refine ⟨e5, ?_, h7⟩
    rw [compD, h, h1, Option.bind_some, h2, Option.bind_some, if_pos rfl, h3, Option.bind_some, h4, Option.bind_some, h6]
    rfl
theorem comp_map {α : Type} {inp out : α → D} {pat : Pat} {t : TTE} {el : BE} {vs : List Nat} {E : Env'} : ∀ {ys : List α} {env : Env'}, wipeE env vs = E →
    (∀ y ∈ ys, ∃ e1, bindP pat (inp y) E = some e1 ∧ ∃ e2, t e1 = some (true, e2) ∧ ∃ b e3, el e2 = some (b, e3) ∧ ∃ e4, resB e3 b = some (out y, e4) ∧ wipeE e4 vs = E) →
    ∃ e5, compD pat t el vs (ys.map inp) env = some (ys.map out, e5) ∧ wipeE e5 vs = E
  | [], env, h, _ => ⟨env, rfl, h⟩
  | y :: ys, env, h, k => by
    obtain ⟨e1, h1, e2, h2, b, e3, h3, e4, h4, h5⟩ := k y List.mem_cons_self
    obtain ⟨e5, h6, h7⟩ := comp_map (ys := ys) h5 fun z hz => k z (List.mem_cons_of_mem _ hz)
    refine ⟨e5, ?_, h7⟩
    rw [List.map_cons, compD, h, h1, Option.bind_some, h2, Option.bind_some, if_pos rfl, h3, Option.bind_some, h4, Option.bind_some, h6]
    rfl
/-- the same where some elements are left out -/
theorem comp_fmap {α : Type} {inp out : α → D} {p : α → Bool} {pat : Pat} {t : TTE} {el : BE} {vs : List Nat} {E : Env'} : ∀ {ys : List α} {env : Env'}, wipeE env vs = E →
    (∀ y ∈ ys, ∃ e1, bindP pat (inp y) E = some e1 ∧ ∃ e2, t e1 = some (p y, e2) ∧ (p y = false → wipeE e2 vs = E) ∧ (p y = true → ∃ b e3, el e2 = some (b, e3) ∧ ∃ e4, resB e3 b = some (out y, e4) ∧ wipeE e4 vs = E)) →
    ∃ e5, compD pat t el vs (ys.map inp) env = some ((ys.filter p).map out, e5) ∧ wipeE e5 vs = E
  | [], env, h, _ => ⟨env, rfl, h⟩
  | y :: ys, env, h, k => by
    obtain ⟨e1, h1, e2, h2, h0, hT⟩ := k y List.mem_cons_self
    cases hp : p y with
    | true =>
      obtain ⟨b, e3, h3, e4, h4, h5⟩ := hT hp
      obtain ⟨e5, h6, h7⟩ := comp_fmap (ys := ys) h5 fun z hz => k z (List.mem_cons_of_mem _ hz)
      refine ⟨e5, ?_, h7⟩
      rw [List.map_cons, compD, h, h1, Option.bind_some, h2, Option.bind_some, if_pos hp, h3, Option.bind_some, h4, Option.bind_some, h6, List.filter_cons, if_pos hp]
      rfl
    | false =>
      obtain ⟨e5, h6, h7⟩ := comp_fmap (ys := ys) (h0 hp) fun z hz => k z (List.mem_cons_of_mem _ hz)
      refine ⟨e5, ?_, h7⟩
      rw [List.map_cons, compD, h, h1, Option.bind_some, h2, Option.bind_some, if_neg (show ¬ (p y, e2).1 = true by rw [hp]; exact Bool.false_ne_true), h6, List.filter_cons, if_neg (by rw [hp]; exact Bool.false_ne_true)]
/-- the same where some elements are left out -/
theorem comp_filt {pat : Pat} {t : TTE} {el : BE} {vs : List Nat} {E : Env'} {p : D → Bool} {f : D → D} : ∀ {xs : List D} {env : Env'}, wipeE env vs = E →
    (∀ x ∈ xs, ∃ e1, bindP pat x E = some e1 ∧ ∃ e2, t e1 = some (p x, e2) ∧ (p x = false → wipeE e2 vs = E) ∧ (p x = true → ∃ b e3, el e2 = some (b, e3) ∧ ∃ e4, resB e3 b = some (f x, e4) ∧ wipeE e4 vs = E)) →
    ∃ e5, compD pat t el vs xs env = some ((xs.filter p).map f, e5) ∧ wipeE e5 vs = E
  | [], env, h, _ => ⟨env, rfl, h⟩
  | x :: xs, env, h, k => by
    obtain ⟨e1, h1, e2, h2, h0, hT⟩ := k x List.mem_cons_self
    cases hp : p x with
    | true =>
      obtain ⟨b, e3, h3, e4, h4, h5⟩ := hT hp
      obtain ⟨e5, h6, h7⟩ := comp_filt (xs := xs) h5 fun y hy => k y (List.mem_cons_of_mem _ hy)
      refine ⟨e5, ?_, h7⟩
      rw [compD, h, h1, Option.bind_some, h2, Option.bind_some, if_pos hp, h3, Option.bind_some, h4, Option.bind_some, h6, List.filter_cons, if_pos hp]
      rfl
    | false =>
      obtain ⟨e5, h6, h7⟩ := comp_filt (xs := xs) (h0 hp) fun y hy => k y (List.mem_cons_of_mem _ hy)
      refine ⟨e5, ?_, h7⟩
      rw [compD, h, h1, Option.bind_some, h2, Option.bind_some, if_neg (show ¬ (p x, e2).1 = true by rw [hp]; exact Bool.false_ne_true), h6, List.filter_cons, if_neg (by rw [hp]; exact Bool.false_ne_true)]
theorem rest_one {env e : Env'} {v : Nat} (h : wipeE e [v] = wipeE env [v]) (hl : e.length = env.length) : restE env e [v] = env := by
  have h : e.set v .un = env.set v .un := h
  show e.set v ((env[v]?).getD .un) = env
  refine List.ext_getElem? fun i => ?_
  have hi := congrArg (·[i]?) h
  simp only [List.getElem?_set] at hi ⊢
  by_cases e1 : v = i
  · subst e1
    rw [if_pos rfl]
    by_cases z : v < e.length
    · rw [if_pos z, List.getElem?_eq_getElem (by omega)]; rfl
    · rw [if_neg z, List.getElem?_eq_none (by omega)]
  · rw [if_neg e1] at hi ⊢
    rw [if_neg e1] at hi
    exact hi
theorem wipe_len {e : Env'} : ∀ {vs : List Nat}, (wipeE e vs).length = e.length
  | [] => rfl
  | v :: vs => by rw [wipeE, List.length_set, wipe_len]
theorem rest_all {env e : Env'} : ∀ {vs : List Nat}, wipeE e vs = wipeE env vs → restE env e vs = env := fun {vs} h => by
  have hl : e.length = env.length := by rw [← wipe_len (e := e) (vs := vs), h, wipe_len]
  have w : ∀ (a : Env') (us : List Nat) (i : Nat), i ∉ us → (wipeE a us)[i]? = a[i]? := fun a us => by
    induction us with
    | nil => exact fun _ _ => rfl
    | cons u us ih =>
      intro i hi
      rw [wipeE, List.getElem?_set, if_neg (fun z => hi (by rw [z]; exact List.mem_cons_self))]
      exact ih i fun z => hi (List.mem_cons_of_mem _ z)
  have rl : ∀ us : List Nat, (restE env e us).length = e.length := fun us => by
    induction us with
    | nil => rfl
    | cons u us ih => rw [restE, List.length_set, ih]
  have r1 : ∀ (us : List Nat) (i : Nat), i ∈ us → (restE env e us)[i]? = env[i]? := fun us => by
    induction us with
    | nil => exact fun _ h => nomatch h
    | cons u us ih =>
      intro i hi
      rw [restE, List.getElem?_set]
      by_cases z : u = i
      · subst z
        rw [if_pos rfl]
        by_cases y : u < env.length
        · rw [if_pos (by rw [rl]; omega), List.getElem?_eq_getElem y]; rfl
        · rw [if_neg (by rw [rl]; omega), List.getElem?_eq_none (by omega)]
      · rw [if_neg z]
        exact ih i ((List.mem_cons.mp hi).resolve_left fun q => z q.symm)
  have r2 : ∀ (us : List Nat) (i : Nat), i ∉ us → (restE env e us)[i]? = e[i]? := fun us => by
    induction us with
    | nil => exact fun _ _ => rfl
    | cons u us ih =>
      intro i hi
      rw [restE, List.getElem?_set, if_neg (fun z => hi (by rw [z]; exact List.mem_cons_self))]
      exact ih i fun z => hi (List.mem_cons_of_mem _ z)
  refine List.ext_getElem? fun i => ?_
  by_cases z : i ∈ vs
  · exact r1 vs i z
  · rw [r2 vs i z, ← w e vs i z, h, w env vs i z]
@[simp] theorem cut_to {xs : List D} {k : Nat} : cutD xs none (some (k : Int)) = xs.take k := by
  unfold cutD
  rw [HT.sIx_nat, HT.sIx_none, List.drop_zero, Nat.sub_zero]
  exact (List.take_eq_take_iff.mpr (by omega))
@[simp] theorem cut_1 {xs : List D} : cutD xs (some 1) none = xs.drop 1 := by
  unfold cutD
  rw [show HT.sIx xs.length 0 (some 1) = min 1 xs.length from HT.sIx_nat xs.length 0 1, HT.sIx_none]
  cases xs with
  | nil => rfl
  | cons x r =>
    rw [List.length_cons, show min 1 (r.length + 1) = 1 by omega, List.drop_one, List.tail_cons, Nat.add_sub_cancel]
    exact List.take_length
@[simp] theorem sl_list' {xs : List D} {a b : Option Int} : slD (.list xs) a b = some (.own (.list (cutD xs a b))) := rfl
@[simp] theorem sl_tup' {xs : List D} {a b : Option Int} : slD (.tuple xs) a b = some (.dat (.tuple (cutD xs a b))) := rfl
theorem rng1_nat {n : Nat} (h : n ≤ 1000) : rng1 [.int (n : Int)] = some ((List.range n).map nD) := by
  show (if _ then _ else _) = _
  rw [if_pos (by rw [Int.natAbs_natCast]; unfold szMax; omega), ← ints0]; rfl
theorem rng1_nat1 {n : Nat} (h : n ≤ 999) : rng1 [.int ((n : Int) + 1)] = some ((List.range (n + 1)).map nD) := rng1_nat (n := n + 1) (by omega)
/-! ### shapes, likeness -/
theorem can_map {α : Type} {f : α → D} (h : ∀ a, (f a).canLay0 = true) : ∀ xs : List α, PyData.canLayAll0 (xs.map f) = true
  | [] => by rw [List.map_nil, PyData.canLayAll0]
  | x :: xs => by rw [List.map_cons, PyData.canLayAll0, h x, can_map h xs]; rfl
theorem depth_map {α : Type} {f : α → D} {n : Nat} (h : ∀ a, (f a).depth ≤ n) : ∀ xs : List α, PyData.depthAll (xs.map f) ≤ n
  | [] => by rw [List.map_nil, PyData.depthAll]; exact Nat.zero_le _
  | x :: xs => by rw [List.map_cons, PyData.depthAll]; have := h x; have := depth_map h xs; omega
def Neat (n : Nat) (d : D) : Prop := d.canLay0 = true ∧ d.depth ≤ n
theorem Neat.shaped {n : Nat} {d : D} (h : Neat n d) (k : n ≤ 64) : SeqAt.shaped d = true := by
  unfold SeqAt.shaped
  rw [h.1, Bool.true_and]
  exact decide_eq_true (Nat.le_trans h.2 k)
theorem Neat.up {n m : Nat} {d : D} (h : Neat n d) (k : n ≤ m) : Neat m d := ⟨h.1, Nat.le_trans h.2 k⟩
theorem neat_int (i : Int) : Neat 0 (.int i) := ⟨by rw [PyData.canLay0], by rw [PyData.depth]; exact Nat.le_refl 0⟩
theorem neat_none : Neat 0 .none := ⟨by rw [PyData.canLay0], by rw [PyData.depth]; exact Nat.le_refl 0⟩
theorem neat_bool (b : Bool) : Neat 0 (.bool b) := ⟨by rw [PyData.canLay0], by rw [PyData.depth]; exact Nat.le_refl 0⟩
theorem neat_str {x : Str} (h : PyData.strOk x = true) : Neat 0 (.str x) := ⟨by rw [PyData.canLay0]; exact h, by rw [PyData.depth]; exact Nat.le_refl 0⟩
theorem neat_ln (x : Ln) : Neat 0 (lnD x) := neat_str x.h.1
theorem neat_list {α : Type} {f : α → D} {n : Nat} (h : ∀ a, Neat n (f a)) (xs : List α) : Neat (n + 1) (.list (xs.map f)) :=
  ⟨by rw [PyData.canLay0]; exact can_map (fun a => (h a).1) xs, by rw [PyData.depth]; exact Nat.succ_le_succ (depth_map (fun a => (h a).2) xs)⟩
theorem neat_tup {α : Type} {f : α → D} {n : Nat} (h : ∀ a, Neat n (f a)) (xs : List α) : Neat (n + 1) (.tuple (xs.map f)) :=
  ⟨by rw [PyData.canLay0]; exact can_map (fun a => (h a).1) xs, by rw [PyData.depth]; exact Nat.succ_le_succ (depth_map (fun a => (h a).2) xs)⟩
theorem neat_LD (xs : List Ln) : Neat 1 (LD xs) := neat_list neat_ln xs
theorem eqv_map {α : Type} [DecidableEq α] {f : α → D} (h : ∀ a b, PyData.eqv (f a) (f b) = decide (a = b)) : ∀ xs ys : List α, PyData.eqvAll (xs.map f) (ys.map f) = decide (xs = ys)
  | [], [] => by simp [PyData.eqvAll]
  | [], _ :: _ => by simp [PyData.eqvAll]
  | _ :: _, [] => by simp [PyData.eqvAll]
  | x :: xs, y :: ys => by
    rw [List.map_cons, List.map_cons, PyData.eqvAll, h x y, eqv_map h xs ys]
    by_cases a : x = y <;> by_cases b : xs = ys <;> simp [a, b]
theorem eqv_ln (x y : Ln) : PyData.eqv (lnD x) (lnD y) = decide (x = y) := by
  show PyData.eqv (.str x.s) (.str y.s) = _
  rw [PyData.eqv, beq_str]
  simp [ln_ext]
theorem eqv_int (i j : Int) : PyData.eqv (.int i) (.int j) = decide (i = j) := by
  rw [PyData.eqv]
  by_cases h : i = j
  · subst h; simp
  · simp [h]
theorem eqv_nD (i j : Nat) : PyData.eqv (nD i) (nD j) = decide (i = j) := by
  rw [eqv_int]
  by_cases h : i = j
  · subst h; simp
  · rw [decide_eq_false h, decide_eq_false (fun z => h (Int.ofNat_inj.mp z))]
theorem eqv_LD (xs ys : List Ln) : PyData.eqv (LD xs) (LD ys) = decide (xs = ys) := by rw [PyData.eqv]; exact eqv_map eqv_ln xs ys
theorem eq_neat {n m : Nat} {a b : D} (h : Neat n a) (k : Neat m b) (hn : n ≤ 64) (hm : m ≤ 64) : eqD a b = some (.dat (.bool (PyData.eqv a b))) := if_pos ⟨h.shaped hn, k.shaped hm⟩
theorem ne_neat {n m : Nat} {a b : D} (h : Neat n a) (k : Neat m b) (hn : n ≤ 64) (hm : m ≤ 64) : neD a b = some (.dat (.bool (!PyData.eqv a b))) := if_pos ⟨h.shaped hn, k.shaped hm⟩
@[simp] theorem eq_LD {xs ys : List Ln} : eqD (LD xs) (LD ys) = some (.dat (.bool (decide (xs = ys)))) := by rw [eq_neat (neat_LD xs) (neat_LD ys) (by decide) (by decide), eqv_LD]
@[simp] theorem ne_LD {xs ys : List Ln} : neD (LD xs) (LD ys) = some (.dat (.bool (!decide (xs = ys)))) := by rw [ne_neat (neat_LD xs) (neat_LD ys) (by decide) (by decide), eqv_LD]
@[simp] theorem ne_LD0 {xs : List Ln} : neD (LD xs) (.list []) = some (.dat (.bool (!decide (xs = [])))) := ne_LD (ys := [])
/-- a table of whole numbers -/
abbrev rowI (r : List Int) : D := .list (r.map .int)
abbrev tabI (t : List (List Int)) : D := .list (t.map rowI)
theorem neat_rowI (r : List Int) : Neat 1 (rowI r) := neat_list neat_int r
theorem neat_tabI (t : List (List Int)) : Neat 2 (tabI t) := neat_list neat_rowI t
theorem neat_rowD (r : List Nat) : Neat 1 (rowD r) := neat_list (fun n => neat_int _) r
theorem neat_tabD (t : List (List Nat)) : Neat 2 (tabD t) := neat_list neat_rowD t
theorem eqv_rowI (r s : List Int) : PyData.eqv (rowI r) (rowI s) = decide (r = s) := by rw [PyData.eqv]; exact eqv_map eqv_int r s
theorem eqv_tabI (t u : List (List Int)) : PyData.eqv (tabI t) (tabI u) = decide (t = u) := by rw [PyData.eqv]; exact eqv_map eqv_rowI t u
def castT (t : List (List Nat)) : List (List Int) := t.map fun r => r.map fun (n : Nat) => (n : Int)
theorem tabD_I (t : List (List Nat)) : tabD t = tabI (castT t) := by
  unfold tabD tabI castT rowD rowI
  rw [List.map_map]
  refine congrArg PyData.list (List.map_congr_left fun r _ => ?_)
  show PyData.list (r.map nD) = PyData.list ((r.map fun (n : Nat) => (n : Int)).map PyData.int)
  rw [List.map_map]; rfl
@[simp] theorem eq_tabD {t u : List (List Nat)} : eqD (tabD t) (tabD u) = some (.dat (.bool (decide (t = u)))) := by
  rw [eq_neat (neat_tabD t) (neat_tabD u) (by decide) (by decide), PyData.eqv]
  rw [eqv_map (fun r s => by rw [PyData.eqv]; exact eqv_map eqv_nD r s) t u]
@[simp] theorem ne_tabD {t u : List (List Nat)} : neD (tabD t) (tabD u) = some (.dat (.bool (!decide (t = u)))) := by
  rw [ne_neat (neat_tabD t) (neat_tabD u) (by decide) (by decide), PyData.eqv]
  rw [eqv_map (fun r s => by rw [PyData.eqv]; exact eqv_map eqv_nD r s) t u]
theorem neat_pair {n : Nat} {a b : DL.D} (h : Neat n a) (k : Neat n b) : Neat (n + 1) (.tuple [a, b]) := by
  refine ⟨?_, ?_⟩
  · rw [PyData.canLay0, PyData.canLayAll0, PyData.canLayAll0, PyData.canLayAll0, h.1, k.1]; rfl
  · rw [PyData.depth, PyData.depthAll, PyData.depthAll, PyData.depthAll]
    have := h.2
    have := k.2
    omega
theorem bools_rep : ∀ n : Nat, boolsD (List.replicate n (PyData.bool true)) = some (List.replicate n true)
  | 0 => rfl
  | n + 1 => by rw [List.replicate_succ, boolsD, bools_rep n]; rfl
@[simp] theorem all_rep (n : Nat) : allD [.list (List.replicate n (PyData.bool true))] = some (.dat (.bool true)) := by
  show (boolsD _).map _ = _
  rw [bools_rep]
  show some (Sl.dat (.bool ((List.replicate n true).all id))) = _
  rw [show (List.replicate n true).all id = true by simp]
@[simp] theorem all_true {α : Type} (xs : List α) : allD [.list (xs.map fun _ => PyData.bool true)] = some (.dat (.bool true)) := by
  rw [List.map_const']
  exact all_rep _
theorem ints_nat {α : Type} (f : α → Nat) : ∀ xs : List α, intsD (xs.map fun x => nD (f x)) = some (xs.map fun x => (f x : Int))
  | [] => rfl
  | x :: xs => by rw [List.map_cons, intsD, ints_nat f xs]; rfl
theorem sum_nat {α : Type} (f : α → Nat) (xs : List α) : sumD [.list (xs.map fun x => nD (f x))] = some (.dat (.int (((xs.map f).sum : Nat) : Int))) := by
  show (intsD _).map _ = _
  rw [ints_nat]
  show some (Sl.dat (.int ((xs.map fun x => (f x : Int)).sum))) = _
  have : (xs.map fun x => (f x : Int)).sum = (((xs.map f).sum : Nat) : Int) := by
    induction xs with
    | nil => rfl
    | cons x xs ih => rw [List.map_cons, List.sum_cons, ih, List.map_cons, List.sum_cons, Int.natCast_add]
  rw [this]
theorem bools_map {α : Type} (p : α → Bool) : ∀ xs : List α, boolsD (xs.map fun x => PyData.bool (p x)) = some (xs.map p)
  | [] => rfl
  | x :: xs => by rw [List.map_cons, boolsD, bools_map p xs]; rfl
theorem all_map {α : Type} (p : α → Bool) (xs : List α) : allD [.list (xs.map fun x => PyData.bool (p x))] = some (.dat (.bool (xs.all p))) := by
  show (boolsD _).map _ = _
  rw [bools_map]
  show some (Sl.dat (.bool ((xs.map p).all id))) = _
  rw [List.all_map]; rfl
def cnt : DL.D → Bool
  | .int i => decide (0 ≤ i)
  | _ => false
theorem rng2_nat {a n : Nat} (h : a + n ≤ 1000) : rng2 [.int (a : Int), .int ((a : Int) + (n : Int))] = some ((List.range' a n).map nD) := by
  show (if _ then _ else _) = _
  rw [if_pos (by unfold szMax; omega)]
  unfold intsFrom
  rw [show ((a : Int) + (n : Int) - (a : Int)).toNat = n by omega, List.range'_eq_map_range, List.map_map]
  rfl
@[simp] theorem ixN_end {n : Nat} : ixN (n + 1) (-1) = some n := by
  unfold ixN
  rw [if_neg (by decide), if_pos (by omega)]
  exact congrArg some (by omega)
theorem set_end {α : Type} {xs : List α} {y z : α} : (xs ++ [y]).set xs.length z = xs ++ [z] := by
  rw [List.set_append_right _ _ (Nat.le_refl _), Nat.sub_self]; rfl
@[simp] theorem set_endm {α β : Type} {f : α → β} {xs : List α} {y z : β} : (xs.map f ++ [y]).set xs.length z = xs.map f ++ [z] := by
  have := set_end (xs := xs.map f) (y := y) (z := z)
  rw [List.length_map] at this
  exact this
/-! ### drawing -/
def PotOk (xs : List D) : Prop := ∃ a b : Int, xs = [.int a, .int b]
theorem draw_ok {ca cb : Int} {xs : List D} (h : PotOk xs) {m : Nat} (h0 : 0 < m) (h1 : m < 1000000) : ∃ r < m, ∃ xs', PotOk xs' ∧ drawS ca cb xs [nD m] = some (.dat (nD r), xs') := by
  obtain ⟨a, b, rfl⟩ := h
  have hm : (0 : Int) < (m : Int) := by omega
  have hc : (0 : Int) < (m : Int) ∧ ((m : Int)).toNat < 1000000 := ⟨hm, by rw [Int.toNat_natCast]; exact h1⟩
  have key : ∀ z : Int, ∃ r : Nat, r < m ∧ z % (m : Int) = (r : Int) := fun z => by
    have l := Int.emod_nonneg z (show (m : Int) ≠ 0 by omega)
    have u := Int.emod_lt_of_pos z hm
    exact ⟨(z % (m : Int)).toNat, by omega, by omega⟩
  unfold drawS
  simp only
  rw [if_pos hc]
  by_cases ha : a > 0
  · obtain ⟨r, h2, h3⟩ := key a
    rw [if_pos ha, h3]
    exact ⟨r, h2, _, ⟨_, _, rfl⟩, rfl⟩
  · obtain ⟨r, h2, h3⟩ := key (((b * ca + cb) % 2147483587) * ((b * ca + cb) % 2147483587) % 2147483563 / 29)
    rw [if_neg ha, h3]
    exact ⟨r, h2, _, ⟨_, _, rfl⟩, rfl⟩
/-- a comprehension whose elements write to what is around -/
theorem comp_io {P : Env' → Prop} {R : D → Prop} {pat : Pat} {t : TTE} {el : BE} {vs : List Nat} : ∀ {xs : List D} {env : Env'}, P (wipeE env vs) →
    (∀ x ∈ xs, ∀ E, P E → ∃ e1, bindP pat x E = some e1 ∧ ∃ e2, t e1 = some (true, e2) ∧ ∃ b e3, el e2 = some (b, e3) ∧ ∃ d e4, resB e3 b = some (d, e4) ∧ R d ∧ P (wipeE e4 vs)) →
    ∃ ds e5, compD pat t el vs xs env = some (ds, e5) ∧ ds.length = xs.length ∧ (∀ d ∈ ds, R d) ∧ P (wipeE e5 vs)
  | [], env, h, _ => ⟨[], env, rfl, rfl, (fun _ z => nomatch z), h⟩
  | x :: xs, env, h, k => by
    obtain ⟨e1, h1, e2, h2, b, e3, h3, d, e4, h4, hr, h5⟩ := k x List.mem_cons_self _ h
    obtain ⟨ds, e5, h6, h7, h8, h9⟩ := comp_io (xs := xs) h5 fun y hy => k y (List.mem_cons_of_mem _ hy)
    refine ⟨d :: ds, e5, ?_, by rw [List.length_cons, List.length_cons, h7], fun z hz => ?_, h9⟩
    · rw [compD, h1, Option.bind_some, h2, Option.bind_some, if_pos rfl, h3, Option.bind_some, h4, Option.bind_some, h6]
      rfl
    · rcases List.mem_cons.mp hz with rfl | hz
      · exact hr
      · exact h8 z hz
theorem all_as {α : Type} {f : α → D} {Q : α → Prop} : ∀ {ds : List D}, (∀ d ∈ ds, ∃ l, Q l ∧ d = f l) → ∃ ls : List α, ds = ls.map f ∧ ∀ l ∈ ls, Q l
  | [], _ => ⟨[], rfl, fun _ z => nomatch z⟩
  | d :: ds, h => by
    obtain ⟨l, q, rfl⟩ := h d List.mem_cons_self
    obtain ⟨ls, rfl, k⟩ := all_as fun d hd => h d (List.mem_cons_of_mem _ hd)
    exact ⟨l :: ls, rfl, fun x hx => (List.mem_cons.mp hx).elim (fun e => e ▸ q) (k x)⟩
theorem ll_map {α : Type} {inp : α → D} {out : α → List D} {pat : Pat} {f : RE} {vs : List Nat} {E : Env'} : ∀ {ys : List α} {env : Env'}, wipeE env vs = E →
    (∀ y ∈ ys, ∃ e1, bindP pat (inp y) E = some e1 ∧ ∃ e2, f e1 = some (.val (.own (.list (out y))), e2) ∧ wipeE e2 vs = E) →
    ∃ e5, compLL pat f vs (ys.map inp) env = some (ys.map out, e5) ∧ wipeE e5 vs = E
  | [], env, h, _ => ⟨env, rfl, h⟩
  | y :: ys, env, h, k => by
    obtain ⟨e1, h1, e2, h2, h3⟩ := k y List.mem_cons_self
    obtain ⟨e5, h6, h7⟩ := ll_map (ys := ys) h3 fun z hz => k z (List.mem_cons_of_mem _ hz)
    refine ⟨e5, ?_, h7⟩
    rw [List.map_cons, compLL, h, h1, Option.bind_some, h2, Option.bind_some, show ownOf (.val (.own (.list (out y)))) = some (out y) from rfl, Option.bind_some, h6]
    rfl
section
variable {env : Env'} {f : RE} {fb : BE} {i j k : Nat}
@[simp] theorem ev_dLL {it : IE} {pat : Pat} {vs : List Nat} : dLL it pat f vs env = (it env).bind fun p => if p.1.length ≤ szMax then (compLL pat f vs p.1 p.2).map fun q => (.val (.ownLL q.1), restE p.2 q.2 vs) else none := rfl
@[simp] theorem ev_llAt : llAt env i = match env[i]? with
  | some (.ownLL xss) => some xss
  | _ => none := rfl
@[simp] theorem ev_slotInt : slotInt env i = match env[i]? with
  | some (.dat (.int j)) => some j
  | _ => none := rfl
@[simp] theorem ev_dSetLL : dSetLL i fb j k env = (fb env).bind fun p => (resB p.2 p.1).bind fun r => (llAt r.2 i).bind fun xss => (slotInt r.2 j).bind fun a => (slotInt r.2 k).bind fun b => (ixN xss.length a).bind fun m => (xss[m]?).bind fun row =>
  (ixN row.length b).map fun n => .nx (r.2.set i (.ownLL (xss.set m (row.set n r.1)))) := rfl
end
theorem ixN_nat {n k : Nat} (h : k < n) : ixN n (k : Int) = some k := by
  unfold ixN
  rw [if_pos (Int.natCast_nonneg k), if_pos (by omega)]; rfl
theorem seq_nx {g k : SE} {env e' : Env'} {r : Option Fl} (h : g env = some (.nx e')) (h2 : k e' = r) : dSeq g k env = r := by
  rw [ev_dSeq, h, Option.bind_some]; exact h2

section
variable {env : Env'} {i : Nat} {fa fb fc : BE} {xs : List D} {k d : D}
@[simp] theorem ixU_l : ixU (.list xs) k = ixD (.list xs) k := rfl
@[simp] theorem ixU_t : ixU (.tuple xs) k = ixD (.tuple xs) k := rfl
@[simp] theorem ixU_s {x : Str} : ixU (.str x) k = ixD (.str x) k := rfl
@[simp] theorem ixU_d {kvs : List (D × D)} : ixU (.dict kvs) k = dgU (.dict kvs) k := rfl
@[simp] theorem dgU_t : dgU d (.tuple xs) = dgD d (.tuple xs) := rfl
@[simp] theorem dgU_i {j : Int} : dgU d (.int j) = gkD d (.int j) := rfl
@[simp] theorem dgU_s {x : Str} : dgU d (.str x) = gkD d (.str x) := rfl
@[simp] theorem gk_enc {l : KVD} : gkD (.dict (encK l)) k = (toKey k).bind fun ks => (lookKK l ks).map .dat := by
  show (decK (encK l)).bind _ = _
  rw [decK_encK]; rfl
@[simp] theorem toKey_i {j : Int} : toKey (.int j) = some (.inl j) := rfl
@[simp] theorem toKey_s {x : Str} : toKey (.str x) = some (.inr x) := rfl
@[simp] theorem isDict_d {kvs : List (D × D)} : isDict (.dict kvs) = true := rfl
@[simp] theorem getD_i {l : KVD} {j : Int} : getD' (.dict (encK l)) (.int j) = some (lookKK l (.inl j)) := by
  show (decK (encK l)).bind _ = _
  rw [decK_encK]; rfl
@[simp] theorem getD_s {l : KVD} {x : Str} : getD' (.dict (encK l)) (.str x) = some (lookKK l (.inr x)) := by
  show (decK (encK l)).bind _ = _
  rw [decK_encK]; rfl
@[simp] theorem ev_dGet2 : dGet2 fa fb fc env = (fa env).bind fun p => (readB p.2 p.1).bind fun d0 => if isDict d0 = true then (fb p.2).bind fun p2 => (fc p2.2).bind fun p3 =>
  (readB p3.2 p.1).bind fun d => (readB p3.2 p2.1).bind fun k => (getD' d k).bind fun o => match o with
    | some x => some (.val (.dat x), p3.2)
    | none => (resB p3.2 p3.1).map fun r => (.val (.dat r.1), r.2)
  else none := rfl
@[simp] theorem ev_dPop0 : dPop0 i env = (lstAt env i).bind fun l => match l.2 with
  | x :: xs => if xs.length < szMax then some (.val (.dat x), putL env i l.1 (.list xs)) else none
  | [] => none := rfl
@[simp] theorem ev_dDisp {ks : List Key} {fs : List BE} : dDisp ks fs env = (bae fs env).bind fun p => (resBs p.2 p.1).bind fun r => if r.1.length = ks.length then some (.val (.own (.dict (encK (mergeKK [] (ks.zip r.1))))), r.2) else none := rfl
@[simp] theorem bae_n : bae [] = dNil := rfl
@[simp] theorem bae_c {fs : List BE} : bae (fa :: fs) = dCons fa (bae fs) := rfl
end
end DL
namespace K72
open PySem PySem.Spec PyProof.Rows L2 DL
/-! ### the text of k72 -/
def topS (i : Nat) : Stmt := PySem.Challenge.pw_formscountry_k72_whole_patches_that_are.main.body.getD i (.Pass ⟨0, 0, 0, 0⟩)
abbrev st_is_integer : Stmt := topS 1
theorem sc_is_integer : FnScope ["value"] ["value"] (defScope st_is_integer) := ⟨rfl, rfl, rfl, by decide +kernel, rfl, by decide +kernel, by decide +kernel⟩
abbrev st_is_count : Stmt := topS 2
theorem sc_is_count : FnScope ["value"] ["value"] (defScope st_is_count) := ⟨rfl, rfl, rfl, by decide +kernel, rfl, by decide +kernel, by decide +kernel⟩
abbrev st_is_list : Stmt := topS 3
theorem sc_is_list : FnScope ["value"] ["value"] (defScope st_is_list) := ⟨rfl, rfl, rfl, by decide +kernel, rfl, by decide +kernel, by decide +kernel⟩
abbrev st_is_tuple : Stmt := topS 4
theorem sc_is_tuple : FnScope ["value", "many"] ["value", "many"] (defScope st_is_tuple) := ⟨rfl, rfl, rfl, by decide +kernel, rfl, by decide +kernel, by decide +kernel⟩
abbrev st_is_line_any : Stmt := topS 17
theorem sc_is_line_any : FnScope ["value"] ["value"] (defScope st_is_line_any) := ⟨rfl, rfl, rfl, by decide +kernel, rfl, by decide +kernel, by decide +kernel⟩
abbrev st_are_lines_any : Stmt := topS 18
theorem sc_are_lines_any : FnScope ["value", "one"] ["value"] (defScope st_are_lines_any) := ⟨rfl, rfl, rfl, by decide +kernel, rfl, by decide +kernel, by decide +kernel⟩
abbrev st_is_edit_any : Stmt := topS 19
theorem sc_is_edit_any : FnScope ["value", "one"] ["value"] (defScope st_is_edit_any) := ⟨rfl, rfl, rfl, by decide +kernel, rfl, by decide +kernel, by decide +kernel⟩
abbrev st_is_patch_of : Stmt := topS 20
theorem sc_is_patch_of : FnScope ["lines", "value", "one", "edit", "late"] ["lines", "value"] (defScope st_is_patch_of) := ⟨rfl, rfl, rfl, by decide +kernel, rfl, by decide +kernel, by decide +kernel⟩
abbrev st_want_lines : Stmt := topS 21
theorem sc_want_lines : FnScope ["lines"] ["lines"] (defScope st_want_lines) := ⟨rfl, rfl, rfl, by decide +kernel, rfl, by decide +kernel, by decide +kernel⟩
abbrev st_want_patch : Stmt := topS 22
theorem sc_want_patch : FnScope ["lines", "patch"] ["lines", "patch"] (defScope st_want_patch) := ⟨rfl, rfl, rfl, by decide +kernel, rfl, by decide +kernel, by decide +kernel⟩
abbrev st_trace_of : Stmt := topS 23
theorem sc_trace_of : FnScope ["lines", "patch", "found", "at", "word", "told", "line", "place"] ["lines", "patch"] (defScope st_trace_of) := ⟨rfl, rfl, rfl, by decide +kernel, rfl, by decide +kernel, by decide +kernel⟩
abbrev st_edits_put_together : Stmt := topS 24
theorem sc_edits_put_together : FnScope ["edits", "found", "word", "told"] ["edits"] (defScope st_edits_put_together) := ⟨rfl, rfl, rfl, by decide +kernel, rfl, by decide +kernel, by decide +kernel⟩
abbrev st_patch_of_trace : Stmt := topS 25
theorem sc_patch_of_trace : FnScope ["many", "trace", "edits", "at", "new", "line", "place"] ["many", "trace"] (defScope st_patch_of_trace) := ⟨rfl, rfl, rfl, by decide +kernel, rfl, by decide +kernel, by decide +kernel⟩
abbrev st_lines_patched : Stmt := topS 26
theorem sc_lines_patched : FnScope ["lines", "patch", "line", "place"] ["lines", "patch"] (defScope st_lines_patched) := ⟨rfl, rfl, rfl, by decide +kernel, rfl, by decide +kernel, by decide +kernel⟩
abbrev st_cost_of_patch : Stmt := topS 27
theorem sc_cost_of_patch : FnScope ["patch", "word", "told"] ["patch"] (defScope st_cost_of_patch) := ⟨rfl, rfl, rfl, by decide +kernel, rfl, by decide +kernel, by decide +kernel⟩
abbrev st_is_patch : Stmt := topS 28
theorem sc_is_patch : FnScope ["lines", "value"] ["lines", "value"] (defScope st_is_patch) := ⟨rfl, rfl, rfl, by decide +kernel, rfl, by decide +kernel, by decide +kernel⟩
abbrev st_patched : Stmt := topS 29
theorem sc_patched : FnScope ["lines", "patch"] ["lines", "patch"] (defScope st_patched) := ⟨rfl, rfl, rfl, by decide +kernel, rfl, by decide +kernel, by decide +kernel⟩
abbrev st_patch_cost : Stmt := topS 30
theorem sc_patch_cost : FnScope ["lines", "patch"] ["lines", "patch"] (defScope st_patch_cost) := ⟨rfl, rfl, rfl, by decide +kernel, rfl, by decide +kernel, by decide +kernel⟩
abbrev st_normalized : Stmt := topS 31
theorem sc_normalized : FnScope ["lines", "patch"] ["lines", "patch"] (defScope st_normalized) := ⟨rfl, rfl, rfl, by decide +kernel, rfl, by decide +kernel, by decide +kernel⟩
abbrev st_turned_about : Stmt := topS 32
theorem sc_turned_about : FnScope ["lines", "patch", "trace", "found", "places", "to", "line", "place", "at"] ["lines", "patch"] (defScope st_turned_about) := ⟨rfl, rfl, rfl, by decide +kernel, rfl, by decide +kernel, by decide +kernel⟩
abbrev st_joined_patch : Stmt := topS 33
theorem sc_joined_patch : FnScope ["lines", "patch", "far", "near", "late", "line", "place", "to"] ["lines", "patch", "far"] (defScope st_joined_patch) := ⟨rfl, rfl, rfl, by decide +kernel, rfl, by decide +kernel, by decide +kernel⟩
abbrev st__law_pot : Stmt := topS 35
theorem sc__law_pot : FnScope ["script", "k", "cell"] ["script", "k"] (defScope st__law_pot) := ⟨rfl, rfl, rfl, by decide +kernel, rfl, by decide +kernel, by decide +kernel⟩
abbrev st__law_draw : Stmt := topS 36
theorem sc__law_draw : FnScope ["pot", "many", "digit"] ["pot", "many"] (defScope st__law_draw) := ⟨rfl, rfl, rfl, by decide +kernel, rfl, by decide +kernel, by decide +kernel⟩
abbrev st__law_pick : Stmt := topS 37
theorem sc__law_pick : FnScope ["pot", "some"] ["pot", "some"] (defScope st__law_pick) := ⟨rfl, rfl, rfl, by decide +kernel, rfl, by decide +kernel, by decide +kernel⟩
abbrev st__law_some_lines : Stmt := topS 38
theorem sc__law_some_lines : FnScope ["pot", "most", "turn"] ["pot", "most"] (defScope st__law_some_lines) := ⟨rfl, rfl, rfl, by decide +kernel, rfl, by decide +kernel, by decide +kernel⟩
abbrev st__law_marks : Stmt := topS 39
theorem sc__law_marks : FnScope ["pot", "lines", "found", "line", "way"] ["pot", "lines"] (defScope st__law_marks) := ⟨rfl, rfl, rfl, by decide +kernel, rfl, by decide +kernel, by decide +kernel⟩
abbrev st__law_edits : Stmt := topS 40
theorem sc__law_edits : FnScope ["pot", "marks", "found", "at", "size", "some", "word", "line"] ["pot", "marks"] (defScope st__law_edits) := ⟨rfl, rfl, rfl, by decide +kernel, rfl, by decide +kernel, by decide +kernel⟩
abbrev st__law_normal : Stmt := topS 41
theorem sc__law_normal : FnScope ["marks", "found", "taken", "put", "kept", "word", "line"] ["marks"] (defScope st__law_normal) := ⟨rfl, rfl, rfl, by decide +kernel, rfl, by decide +kernel, by decide +kernel⟩
abbrev st__law_behind : Stmt := topS 42
theorem sc__law_behind : FnScope ["marks", "word", "line"] ["marks"] (defScope st__law_behind) := ⟨rfl, rfl, rfl, by decide +kernel, rfl, by decide +kernel, by decide +kernel⟩
abbrev st__law_turned_marks : Stmt := topS 43
theorem sc__law_turned_marks : FnScope ["marks", "word", "line"] ["marks"] (defScope st__law_turned_marks) := ⟨rfl, rfl, rfl, by decide +kernel, rfl, by decide +kernel, by decide +kernel⟩
abbrev st__law_joined_marks : Stmt := topS 44
theorem sc__law_joined_marks : FnScope ["near", "far", "found", "left", "word", "line", "late"] ["near", "far"] (defScope st__law_joined_marks) := ⟨rfl, rfl, rfl, by decide +kernel, rfl, by decide +kernel, by decide +kernel⟩
abbrev st__law_right : Stmt := topS 45
theorem sc__law_right : FnScope ["pot", "lines", "marks", "late", "more", "patch", "far", "away", "shown", "cost", "word", "line", "told", "due", "named", "back", "taken", "near"] ["pot"] (defScope st__law_right) := ⟨rfl, rfl, rfl, by decide +kernel, rfl, by decide +kernel, by decide +kernel⟩
abbrev st__law_is_one : Stmt := topS 46
theorem sc__law_is_one : FnScope ["lines", "value", "gone", "come", "edit", "one"] ["lines", "value"] (defScope st__law_is_one) := ⟨rfl, rfl, rfl, by decide +kernel, rfl, by decide +kernel, by decide +kernel⟩
abbrev st__law_values_right : Stmt := topS 47
theorem sc__law_values_right : FnScope ["pot", "lines", "patch", "values", "at", "value", "due", "shown"] ["pot", "lines", "patch"] (defScope st__law_values_right) := ⟨rfl, rfl, rfl, by decide +kernel, rfl, by decide +kernel, by decide +kernel⟩
abbrev st_law : Stmt := topS 48
theorem sc_law : FnScope ["script", "k", "pot", "turn"] ["script"] (defScope st_law) := ⟨rfl, rfl, rfl, by decide +kernel, rfl, by decide +kernel, by decide +kernel⟩
/-! ### what each def computes -/
def g_is_integer : SE := (dRet (dAndV (dIsi "int" (bor (dVar 0))) (dNotV (dIsi "bool" (bor (dVar 0))))))
def m_is_integer : Sem' := runBody false 1 g_is_integer
def g_is_list : SE := (dRet (dIsi2 "list" "tuple" (bor (dVar 0))))
def m_is_list : Sem' := runBody false 1 g_is_list
def g_is_tuple : SE := (dRet (dAndV (dIsi "tuple" (bor (dVar 0))) (dOp eqD (bor (dCB lenD (dCons (bor (dVar 0)) dNil))) (bor (dVar 1)))))
def m_is_tuple : Sem' := runBody false 2 g_is_tuple
def g_is_line_any : SE := (dRet (dAndV (dIsi "str" (bor (dVar 0))) (dOp (cmpD fun i j => decide (i ≤ j)) (bor (dCB lenD (dCons (bor (dVar 0)) dNil))) (bor (dC (.int 2000))))))
def m_is_line_any : Sem' := runBody false 1 g_is_line_any
def ce_trace_of_1 : BE := (bor (dTup (dCons (bor (dVar 6)) (dCons (bor (dC .none)) dNil))))
def ce_trace_of_2 : BE := (bor (dTup (dCons (bor (dOp ixU (bor (dVar 0)) (bor (dVar 7)))) (dCons (bor (dVar 7)) dNil))))
def lb_trace_of_1 : SE := (dSeq (dIfS (dTest (dOp eqD (bor (dVar 4)) (bor (dC (.str "put"))))) (dSeq (dExt 2 (bor (dLc (dIt (bor (dVar 5))) (.name 6) dYes ce_trace_of_1 [6])))
  dCont) dNext)
  (dSeq (dIfS (dTest (dOp eqD (bor (dVar 4)) (bor (dC (.str "keep"))))) (dExt 2 (bor (dLc (dRng rng2 (dCons (bor (dVar 3)) (dCons (bor (dOp addD (bor (dVar 3)) (bor (dVar 5)))) dNil))) (.name 7) dYes ce_trace_of_2 [7]))) dNext)
  (dSet 3 (dOp addD (bor (dVar 3)) (bor (dVar 5))))))
def g_trace_of : SE := (dSeq (dPar [2, 3] (dTsCons (dLst dNil) (dTsCons (dC (.int 0)) dTsNil)))
  (dSeq (dFor (dIt (bor (dVar 1))) (.tup [(.name 4), (.name 5)])
  lb_trace_of_1)
  (dRet (dVar 2))))
def m_trace_of : Sem' := runBody false 8 g_trace_of
def lb_edits_put_together_1 : SE := (dIfS (dAnd (dTest (dOp neD (bor (dVar 1)) (bor (dLst dNil)))) (dTest (dOp eqD (bor (dOp ixU (bor (dOp ixU (bor (dVar 1)) (bor (dNeg (bor (dC (.int 1))))))) (bor (dC (.int 0))))) (bor (dVar 2))))) (dSetIx 1 (bor (dTup (dCons (bor (dVar 2)) (dCons (bor (dOp addD (bor (dOp ixU (bor (dOp ixU (bor (dVar 1)) (bor (dNeg (bor (dC (.int 1))))))) (bor (dC (.int 1))))) (bor (dVar 3)))) dNil)))) (bor (dNeg (bor (dC (.int 1)))))) (dApp 1 (bor (dTup (dCons (bor (dVar 2)) (dCons (bor (dVar 3)) dNil))))))
def g_edits_put_together : SE := (dSeq (dSet 1 (dLst dNil))
  (dSeq (dFor (dIt (bor (dVar 0))) (.tup [(.name 2), (.name 3)])
  lb_edits_put_together_1)
  (dRet (dCB tupleD (dCons (bor (dVar 1)) dNil)))))
def m_edits_put_together : Sem' := runBody false 4 g_edits_put_together
def ct_cost_of_patch_1 : TTE := (dTest (dOp neD (bor (dVar 1)) (bor (dC (.str "keep")))))
def ce_cost_of_patch_1 : BE := (bor (dIf (dTest (dOp eqD (bor (dVar 1)) (bor (dC (.str "put"))))) (dCB lenD (dCons (bor (dVar 2)) dNil)) (dVar 2)))
def g_cost_of_patch : SE := (dRet (dCB sumD (dCons (bor (dLc (dIt (bor (dVar 0))) (.tup [(.name 1), (.name 2)]) ct_cost_of_patch_1 ce_cost_of_patch_1 [1, 2])) dNil)))
def m_cost_of_patch : Sem' := runBody false 3 g_cost_of_patch
abbrev m__law_draw : Sem' := drawS 44735 5125
def lb__law_normal_1 : SE := (dSeq (dIfS (dAnd (dTest (dOp (inD false) (bor (dVar 5)) (bor (dTup (dCons (bor (dC (.str "keep"))) (dCons (bor (dC (.str "end"))) dNil)))))) (dOr (dTest (dOp (cmpD fun i j => decide (j < i)) (bor (dVar 2)) (bor (dC (.int 0))))) (dTest (dOp neD (bor (dVar 3)) (bor (dLst dNil)))))) (dSeq (dExt 1 (bor (dIf (dTest (dOp (cmpD fun i j => decide (j < i)) (bor (dVar 4)) (bor (dC (.int 0))))) (dLst (dCons (bor (dTup (dCons (bor (dC (.str "keep"))) (dCons (bor (dVar 4)) dNil)))) dNil)) (dLst dNil))))
  (dSeq (dExt 1 (bor (dOp addD (bor (dIf (dTest (dOp (cmpD fun i j => decide (j < i)) (bor (dVar 2)) (bor (dC (.int 0))))) (dLst (dCons (bor (dTup (dCons (bor (dC (.str "take"))) (dCons (bor (dVar 2)) dNil)))) dNil)) (dLst dNil))) (bor (dIf (dTest (dOp neD (bor (dVar 3)) (bor (dLst dNil)))) (dLst (dCons (bor (dTup (dCons (bor (dC (.str "put"))) (dCons (bor (dCB tupleD (dCons (bor (dVar 3)) dNil))) dNil)))) dNil)) (dLst dNil))))))
  (dPar [2, 3, 4] (dTsCons (dC (.int 0)) (dTsCons (dLst dNil) (dTsCons (dC (.int 0)) dTsNil)))))) dNext)
  (dSeq (dPar [2, 4] (dTsCons (dOp addD (bor (dVar 2)) (bor (dCB intOfD (dCons (bor (dOp eqD (bor (dVar 5)) (bor (dC (.str "take"))))) dNil)))) (dTsCons (dOp addD (bor (dVar 4)) (bor (dCB intOfD (dCons (bor (dOp eqD (bor (dVar 5)) (bor (dC (.str "keep"))))) dNil)))) dTsNil)))
  (dSet 3 (dOp addD (bor (dVar 3)) (bor (dIf (dTest (dOp eqD (bor (dVar 5)) (bor (dC (.str "put"))))) (dLst (dCons (bor (dVar 6)) dNil)) (dLst dNil)))))))
def g__law_normal : SE := (dSeq (dPar [1, 2, 3, 4] (dTsCons (dLst dNil) (dTsCons (dC (.int 0)) (dTsCons (dLst dNil) (dTsCons (dC (.int 0)) dTsNil)))))
  (dSeq (dFor (dIt (bor (dOp addD (bor (dCB listD (dCons (bor (dVar 0)) dNil))) (bor (dLst (dCons (bor (dTup (dCons (bor (dC (.str "end"))) (dCons (bor (dC (.str ""))) dNil)))) dNil)))))) (.tup [(.name 5), (.name 6)])
  lb__law_normal_1)
  (dRet (dCB tupleD (dCons (bor (dOp addD (bor (dVar 1)) (bor (dIf (dTest (dOp (cmpD fun i j => decide (j < i)) (bor (dVar 4)) (bor (dC (.int 0))))) (dLst (dCons (bor (dTup (dCons (bor (dC (.str "keep"))) (dCons (bor (dVar 4)) dNil)))) dNil)) (dLst dNil))))) dNil)))))
def m__law_normal : Sem' := runBody false 7 g__law_normal
def ct__law_behind_1 : TTE := (dTest (dOp neD (bor (dVar 1)) (bor (dC (.str "take")))))
def ce__law_behind_1 : BE := (bor (dVar 2))
def g__law_behind : SE := (dRet (dLc (dIt (bor (dVar 0))) (.tup [(.name 1), (.name 2)]) ct__law_behind_1 ce__law_behind_1 [1, 2]))
def m__law_behind : Sem' := runBody false 3 g__law_behind
def ce__law_turned_marks_1 : BE := (bor (dTup (dCons (bor (dOp ixU (bor (dDisp [.inr "keep", .inr "take", .inr "put"] [(bor (dC (.str "keep"))), (bor (dC (.str "put"))), (bor (dC (.str "take")))])) (bor (dVar 1)))) (dCons (bor (dVar 2)) dNil))))
def g__law_turned_marks : SE := (dRet (dLc (dIt (bor (dVar 0))) (.tup [(.name 1), (.name 2)]) dYes ce__law_turned_marks_1 [1, 2]))
def m__law_turned_marks : Sem' := runBody false 3 g__law_turned_marks
def wt__law_joined_marks_1 : TTE := (dTest (dOp eqD (bor (dOp ixU (bor (dOp ixU (bor (dVar 3)) (bor (dC (.int 0))))) (bor (dC (.int 0))))) (bor (dC (.str "put")))))
def lb__law_joined_marks_1 : SE := (dApp 2 (bor (dPop0 3)))
def lb__law_joined_marks_2 : SE := (dIfS (dTest (dOp eqD (bor (dVar 4)) (bor (dC (.str "take"))))) (dApp 2 (bor (dTup (dCons (bor (dVar 4)) (dCons (bor (dVar 5)) dNil))))) (dSeq (whileD 1000 wt__law_joined_marks_1
  lb__law_joined_marks_1)
  (dSeq (dSet 6 (dOp ixU (bor (dPop0 3)) (bor (dC (.int 0)))))
  (dIfS (dTest (dOp eqD (bor (dVar 4)) (bor (dC (.str "keep"))))) (dApp 2 (bor (dTup (dCons (bor (dVar 6)) (dCons (bor (dVar 5)) dNil))))) (dExt 2 (bor (dIf (dTest (dOp eqD (bor (dVar 6)) (bor (dC (.str "keep"))))) (dLst (dCons (bor (dTup (dCons (bor (dC (.str "put"))) (dCons (bor (dVar 5)) dNil)))) dNil)) (dLst dNil))))))))
def g__law_joined_marks : SE := (dSeq (dPar [2, 3] (dTsCons (dLst dNil) (dTsCons (dCB listD (dCons (bor (dVar 1)) dNil)) dTsNil)))
  (dSeq (dFor (dIt (bor (dVar 0))) (.tup [(.name 4), (.name 5)])
  lb__law_joined_marks_2)
  (dRet (dOp addD (bor (dVar 2)) (bor (dVar 3))))))
def m__law_joined_marks : Sem' := runBody false 7 g__law_joined_marks
def ce__law_is_one_1 : BE := (bor (dAndV (dIsi "str" (bor (dVar 5))) (dOp (cmpD fun i j => decide (i ≤ j)) (bor (dCB lenD (dCons (bor (dVar 5)) dNil))) (bor (dC (.int 2000))))))
def lb__law_is_one_1 : SE := (dSeq (dIfS (dOr (dNot (dTest (dIsi "tuple" (bor (dVar 4))))) (dOr (dTest (dOp neD (bor (dCB lenD (dCons (bor (dVar 4)) dNil))) (bor (dC (.int 2))))) (dTest (dOp (inD true) (bor (dOp ixU (bor (dVar 4)) (bor (dC (.int 0))))) (bor (dTup (dCons (bor (dC (.str "keep"))) (dCons (bor (dC (.str "take"))) (dCons (bor (dC (.str "put"))) dNil))))))))) (dRet (dC (.bool false))) dNext)
  (dIfS (dTest (dOp eqD (bor (dOp ixU (bor (dVar 4)) (bor (dC (.int 0))))) (bor (dC (.str "put"))))) (dSeq (dIfS (dOr (dNot (dTest (dIsi "tuple" (bor (dOp ixU (bor (dVar 4)) (bor (dC (.int 1)))))))) (dOr (dTest (dOp eqD (bor (dOp ixU (bor (dVar 4)) (bor (dC (.int 1))))) (bor (dTup dNil)))) (dNot (dTest (dCB allD (dCons (bor (dLc (dIt (bor (dOp ixU (bor (dVar 4)) (bor (dC (.int 1)))))) (.name 5) dYes ce__law_is_one_1 [5])) dNil)))))) (dRet (dC (.bool false))) dNext)
  (dSet 3 (dOp addD (bor (dVar 3)) (bor (dCB lenD (dCons (bor (dOp ixU (bor (dVar 4)) (bor (dC (.int 1))))) dNil)))))) (dIfS (dOr (dNot (dTest (dIsi "int" (bor (dOp ixU (bor (dVar 4)) (bor (dC (.int 1)))))))) (dOr (dTest (dIsi "bool" (bor (dOp ixU (bor (dVar 4)) (bor (dC (.int 1))))))) (dTest (dOp (cmpD fun i j => decide (i < j)) (bor (dOp ixU (bor (dVar 4)) (bor (dC (.int 1))))) (bor (dC (.int 1))))))) (dRet (dC (.bool false))) (dPar [2, 3] (dTsCons (dOp addD (bor (dVar 2)) (bor (dOp ixU (bor (dVar 4)) (bor (dC (.int 1)))))) (dTsCons (dOp addD (bor (dVar 3)) (bor (dIf (dTest (dOp eqD (bor (dOp ixU (bor (dVar 4)) (bor (dC (.int 0))))) (bor (dC (.str "keep"))))) (dOp ixU (bor (dVar 4)) (bor (dC (.int 1)))) (dC (.int 0))))) dTsNil))))))
def g__law_is_one : SE := (dSeq (dIfS (dNot (dTest (dIsi "tuple" (bor (dVar 1))))) (dRet (dC (.bool false))) dNext)
  (dSeq (dPar [2, 3] (dTsCons (dC (.int 0)) (dTsCons (dC (.int 0)) dTsNil)))
  (dSeq (dFor (dIt (bor (dVar 1))) (.name 4)
  lb__law_is_one_1)
  (dRet (dAndV (dOp eqD (bor (dVar 2)) (bor (dCB lenD (dCons (bor (dVar 0)) dNil)))) (dOp (cmpD fun i j => decide (i ≤ j)) (bor (dVar 3)) (bor (dC (.int 200)))))))))
def m__law_is_one : Sem' := runBody false 6 g__law_is_one
def g_is_count : SE := (dRet (dAndV (dCall m_is_integer (dCons (bor (dVar 0)) dNil)) (dOp (cmpD fun i j => decide (j ≤ i)) (bor (dVar 0)) (bor (dC (.int 0))))))
def m_is_count : Sem' := runBody false 1 g_is_count
def ce_are_lines_any_1 : BE := (bor (dCall m_is_line_any (dCons (bor (dVar 1)) dNil)))
def g_are_lines_any : SE := (dRet (dAndV (dCall m_is_list (dCons (bor (dVar 0)) dNil)) (dAndV (dOp (cmpD fun i j => decide (i ≤ j)) (bor (dCB lenD (dCons (bor (dVar 0)) dNil))) (bor (dC (.int 200)))) (dCB allD (dCons (bor (dLc (dIt (bor (dVar 0))) (.name 1) dYes ce_are_lines_any_1 [1])) dNil)))))
def m_are_lines_any : Sem' := runBody false 2 g_are_lines_any
def lb_patch_of_trace_1 : SE := (dSeq (dIfS (dTest (dOp (isN false) (bor (dVar 6)) (bor (dC .none)))) (dSeq (dApp 4 (bor (dVar 5)))
  dCont) dNext)
  (dSeq (dExt 2 (bor (dIf (dTest (dOp (cmpD fun i j => decide (j < i)) (bor (dVar 6)) (bor (dVar 3)))) (dLst (dCons (bor (dTup (dCons (bor (dC (.str "take"))) (dCons (bor (dOp subD (bor (dVar 6)) (bor (dVar 3)))) dNil)))) dNil)) (dLst dNil))))
  (dSeq (dExt 2 (bor (dIf (dTest (dOp neD (bor (dVar 4)) (bor (dLst dNil)))) (dLst (dCons (bor (dTup (dCons (bor (dC (.str "put"))) (dCons (bor (dCB tupleD (dCons (bor (dVar 4)) dNil))) dNil)))) dNil)) (dLst dNil))))
  (dSeq (dExt 2 (bor (dIf (dTest (dOp (cmpD fun i j => decide (i < j)) (bor (dVar 6)) (bor (dVar 0)))) (dLst (dCons (bor (dTup (dCons (bor (dC (.str "keep"))) (dCons (bor (dC (.int 1))) dNil)))) dNil)) (dLst dNil))))
  (dPar [3, 4] (dTsCons (dOp addD (bor (dVar 6)) (bor (dC (.int 1)))) (dTsCons (dLst dNil) dTsNil)))))))
def g_patch_of_trace : SE := (dSeq (dPar [2, 3, 4] (dTsCons (dLst dNil) (dTsCons (dC (.int 0)) (dTsCons (dLst dNil) dTsNil))))
  (dSeq (dFor (dIt (bor (dOp addD (bor (dVar 1)) (bor (dLst (dCons (bor (dTup (dCons (bor (dC (.str ""))) (dCons (bor (dVar 0)) dNil)))) dNil)))))) (.tup [(.name 5), (.name 6)])
  lb_patch_of_trace_1)
  (dRet (dCall m_edits_put_together (dCons (bor (dVar 2)) dNil)))))
def m_patch_of_trace : Sem' := runBody false 7 g_patch_of_trace
def ce_lines_patched_1 : BE := (bor (dVar 2))
def g_lines_patched : SE := (dRet (dLc (dIt (bor (dCall m_trace_of (dCons (bor (dVar 0)) (dCons (bor (dVar 1)) dNil))))) (.tup [(.name 2), (.name 3)]) dYes ce_lines_patched_1 [2, 3]))
def m_lines_patched : Sem' := runBody false 4 g_lines_patched
def g__law_pick : SE := (dRet (dOp ixU (bor (dVar 1)) (bor (dCallIo m__law_draw 0 (dCons (bor (dVar 0)) (dCons (bor (dCB lenD (dCons (bor (dVar 1)) dNil))) dNil))))))
def m__law_pick : Sem' := runBody true 2 g__law_pick
def wt__law_edits_1 : TTE := (dAnd (dTest (dOp (cmpD fun i j => decide (i < j)) (bor (dOp addD (bor (dVar 3)) (bor (dVar 4)))) (bor (dCB lenD (dCons (bor (dVar 1)) dNil))))) (dAnd (dTest (dOp eqD (bor (dOp ixU (bor (dOp ixU (bor (dVar 1)) (bor (dOp addD (bor (dVar 3)) (bor (dVar 4)))))) (bor (dC (.int 0))))) (bor (dOp ixU (bor (dOp ixU (bor (dVar 1)) (bor (dVar 3)))) (bor (dC (.int 0))))))) (dTest (dOp (cmpD fun i j => decide (j < i)) (bor (dCallIo m__law_draw 0 (dCons (bor (dVar 0)) (dCons (bor (dC (.int 3))) dNil)))) (bor (dC (.int 0)))))))
def lb__law_edits_1 : SE := (dSet 4 (dOp addD (bor (dVar 4)) (bor (dC (.int 1)))))
def ce__law_edits_1 : BE := (bor (dVar 7))
def wt__law_edits_2 : TTE := (dTest (dOp (cmpD fun i j => decide (i < j)) (bor (dVar 3)) (bor (dCB lenD (dCons (bor (dVar 1)) dNil)))))
def lb__law_edits_2 : SE := (dSeq (dSet 4 (dC (.int 1)))
  (dSeq (whileD 1000 wt__law_edits_1
  lb__law_edits_1)
  (dSeq (dSet 5 (dSl (bor (dVar 1)) (dPart (bor (dVar 3))) (dPart (bor (dOp addD (bor (dVar 3)) (bor (dVar 4)))))))
  (dSeq (dApp 2 (bor (dIf (dTest (dOp eqD (bor (dOp ixU (bor (dOp ixU (bor (dVar 5)) (bor (dC (.int 0))))) (bor (dC (.int 0))))) (bor (dC (.str "put"))))) (dTup (dCons (bor (dC (.str "put"))) (dCons (bor (dCB tupleD (dCons (bor (dLc (dIt (bor (dVar 5))) (.tup [(.name 6), (.name 7)]) dYes ce__law_edits_1 [6, 7])) dNil))) dNil))) (dTup (dCons (bor (dOp ixU (bor (dOp ixU (bor (dVar 5)) (bor (dC (.int 0))))) (bor (dC (.int 0))))) (dCons (bor (dVar 4)) dNil))))))
  (dSet 3 (dOp addD (bor (dVar 3)) (bor (dVar 4))))))))
def g__law_edits : SE := (dSeq (dPar [2, 3] (dTsCons (dLst dNil) (dTsCons (dC (.int 0)) dTsNil)))
  (dSeq (whileD 1000 wt__law_edits_2
  lb__law_edits_2)
  (dRet (dCB tupleD (dCons (bor (dVar 2)) dNil)))))
def m__law_edits : Sem' := runBody true 8 g__law_edits
def ce_is_edit_any_1 : BE := (bor (dCall m_is_line_any (dCons (bor (dVar 1)) dNil)))
def g_is_edit_any : SE := (dSeq (dIfS (dOr (dNot (dTest (dCall m_is_tuple (dCons (bor (dVar 0)) (dCons (bor (dC (.int 2))) dNil))))) (dNot (dTest (dIsi "str" (bor (dOp ixU (bor (dVar 0)) (bor (dC (.int 0))))))))) (dRet (dC (.bool false))) dNext)
  (dSeq (dIfS (dTest (dOp eqD (bor (dOp ixU (bor (dVar 0)) (bor (dC (.int 0))))) (bor (dC (.str "put"))))) (dRet (dAndV (dIsi "tuple" (bor (dOp ixU (bor (dVar 0)) (bor (dC (.int 1)))))) (dAndV (dOp neD (bor (dOp ixU (bor (dVar 0)) (bor (dC (.int 1))))) (bor (dTup dNil))) (dCB allD (dCons (bor (dLc (dIt (bor (dOp ixU (bor (dVar 0)) (bor (dC (.int 1)))))) (.name 1) dYes ce_is_edit_any_1 [1])) dNil))))) dNext)
  (dRet (dAndV (dOp (inD false) (bor (dOp ixU (bor (dVar 0)) (bor (dC (.int 0))))) (bor (dTup (dCons (bor (dC (.str "keep"))) (dCons (bor (dC (.str "take"))) dNil))))) (dAndV (dCall m_is_count (dCons (bor (dOp ixU (bor (dVar 0)) (bor (dC (.int 1))))) dNil)) (dOp (cmpD fun i j => decide (j < i)) (bor (dOp ixU (bor (dVar 0)) (bor (dC (.int 1))))) (bor (dC (.int 0)))))))))
def m_is_edit_any : Sem' := runBody false 2 g_is_edit_any
def g_want_lines : SE := (dIfS (dNot (dTest (dCall m_are_lines_any (dCons (bor (dVar 0)) dNil)))) dFail dNext)
def m_want_lines : Sem' := runBody false 1 g_want_lines
def ce__law_some_lines_1 : BE := (bor (dCallIo m__law_pick 0 (dCons (bor (dVar 0)) (dCons (bor (dLst (dCons (bor (dC (.str "a"))) (dCons (bor (dC (.str "b"))) (dCons (bor (dC (.str ""))) (dCons (bor (dC (.str "a"))) (dCons (bor (dC (.str "some line"))) dNil))))))) dNil))))
def g__law_some_lines : SE := (dRet (dLc (dRng rng1 (dCons (bor (dCallIo m__law_draw 0 (dCons (bor (dVar 0)) (dCons (bor (dOp addD (bor (dVar 1)) (bor (dC (.int 1))))) dNil)))) dNil)) (.name 2) dYes ce__law_some_lines_1 [2]))
def m__law_some_lines : Sem' := runBody true 3 g__law_some_lines
def lb__law_marks_1 : SE := (dSeq (dSet 4 (dCallIo m__law_draw 0 (dCons (bor (dVar 0)) (dCons (bor (dC (.int 6))) dNil))))
  (dSeq (dIfS (dTest (dOp eqD (bor (dVar 4)) (bor (dC (.int 0))))) (dExt 2 (bor (dLst (dCons (bor (dTup (dCons (bor (dC (.str "put"))) (dCons (bor (dCallIo m__law_pick 0 (dCons (bor (dVar 0)) (dCons (bor (dLst (dCons (bor (dC (.str "a"))) (dCons (bor (dC (.str "b"))) (dCons (bor (dC (.str ""))) dNil))))) dNil)))) dNil)))) dNil)))) dNext)
  (dIfS (dTest (dOp eqD (bor (dVar 4)) (bor (dC (.int 1))))) (dExt 2 (bor (dLst (dCons (bor (dTup (dCons (bor (dC (.str "take"))) (dCons (bor (dVar 3)) dNil)))) (dCons (bor (dTup (dCons (bor (dC (.str "put"))) (dCons (bor (dVar 3)) dNil)))) dNil))))) (dIfS (dTest (dOp eqD (bor (dVar 4)) (bor (dC (.int 2))))) (dExt 2 (bor (dLst (dCons (bor (dTup (dCons (bor (dC (.str "put"))) (dCons (bor (dVar 3)) dNil)))) (dCons (bor (dTup (dCons (bor (dC (.str "take"))) (dCons (bor (dVar 3)) dNil)))) dNil))))) (dApp 2 (bor (dTup (dCons (bor (dIf (dTest (dOp eqD (bor (dVar 4)) (bor (dC (.int 3))))) (dC (.str "take")) (dC (.str "keep")))) (dCons (bor (dVar 3)) dNil)))))))))
def g__law_marks : SE := (dSeq (dSet 2 (dLst dNil))
  (dSeq (dFor (dIt (bor (dVar 1))) (.name 3)
  lb__law_marks_1)
  (dRet (dOp addD (bor (dVar 2)) (bor (dOp mulD (bor (dLst (dCons (bor (dTup (dCons (bor (dC (.str "put"))) (dCons (bor (dC (.str "b"))) dNil)))) dNil))) (bor (dCallIo m__law_draw 0 (dCons (bor (dVar 0)) (dCons (bor (dC (.int 3))) dNil))))))))))
def m__law_marks : Sem' := runBody true 5 g__law_marks
def ce_is_patch_of_1 : BE := (bor (dCall m_is_edit_any (dCons (bor (dVar 2)) dNil)))
def ct_is_patch_of_1 : TTE := (dTest (dOp neD (bor (dOp ixU (bor (dVar 3)) (bor (dC (.int 0))))) (bor (dC (.str "put")))))
def ce_is_patch_of_2 : BE := (bor (dOp ixU (bor (dVar 3)) (bor (dC (.int 1)))))
def ce_is_patch_of_3 : BE := (bor (dIf (dTest (dOp eqD (bor (dOp ixU (bor (dVar 3)) (bor (dC (.int 0))))) (bor (dC (.str "put"))))) (dCB lenD (dCons (bor (dOp ixU (bor (dVar 3)) (bor (dC (.int 1))))) dNil)) (dIf (dTest (dOp eqD (bor (dOp ixU (bor (dVar 3)) (bor (dC (.int 0))))) (bor (dC (.str "keep"))))) (dOp ixU (bor (dVar 3)) (bor (dC (.int 1)))) (dC (.int 0)))))
def g_is_patch_of : SE := (dSeq (dIfS (dOr (dNot (dTest (dIsi "tuple" (bor (dVar 1))))) (dOr (dTest (dOp (cmpD fun i j => decide (j < i)) (bor (dCB lenD (dCons (bor (dVar 1)) dNil))) (bor (dC (.int 400))))) (dNot (dTest (dCB allD (dCons (bor (dLc (dIt (bor (dVar 1))) (.name 2) dYes ce_is_patch_of_1 [2])) dNil)))))) (dRet (dC (.bool false))) dNext)
  (dSeq (dIfS (dTest (dOp neD (bor (dCB sumD (dCons (bor (dLc (dIt (bor (dVar 1))) (.name 3) ct_is_patch_of_1 ce_is_patch_of_2 [3])) dNil))) (bor (dCB lenD (dCons (bor (dVar 0)) dNil))))) (dRet (dC (.bool false))) dNext)
  (dSeq (dSet 4 (dCB sumD (dCons (bor (dLc (dIt (bor (dVar 1))) (.name 3) dYes ce_is_patch_of_3 [3])) dNil)))
  (dRet (dOp (cmpD fun i j => decide (i ≤ j)) (bor (dVar 4)) (bor (dC (.int 200))))))))
def m_is_patch_of : Sem' := runBody false 5 g_is_patch_of
def g_want_patch : SE := (dSeq (dDrop (dCall m_want_lines (dCons (bor (dVar 0)) dNil)))
  (dIfS (dNot (dTest (dCall m_is_patch_of (dCons (bor (dVar 0)) (dCons (bor (dVar 1)) dNil))))) dFail dNext))
def m_want_patch : Sem' := runBody false 2 g_want_patch
def g_is_patch : SE := (dSeq (dDrop (dCall m_want_lines (dCons (bor (dVar 0)) dNil)))
  (dRet (dCall m_is_patch_of (dCons (bor (dVar 0)) (dCons (bor (dVar 1)) dNil)))))
def m_is_patch : Sem' := runBody false 2 g_is_patch
def g_patched : SE := (dSeq (dDrop (dCall m_want_patch (dCons (bor (dVar 0)) (dCons (bor (dVar 1)) dNil))))
  (dRet (dCall m_lines_patched (dCons (bor (dCB listD (dCons (bor (dVar 0)) dNil))) (dCons (bor (dVar 1)) dNil)))))
def m_patched : Sem' := runBody false 2 g_patched
def g_patch_cost : SE := (dSeq (dDrop (dCall m_want_patch (dCons (bor (dVar 0)) (dCons (bor (dVar 1)) dNil))))
  (dRet (dCall m_cost_of_patch (dCons (bor (dVar 1)) dNil))))
def m_patch_cost : Sem' := runBody false 2 g_patch_cost
def g_normalized : SE := (dSeq (dDrop (dCall m_want_patch (dCons (bor (dVar 0)) (dCons (bor (dVar 1)) dNil))))
  (dRet (dCall m_patch_of_trace (dCons (bor (dCB lenD (dCons (bor (dVar 0)) dNil))) (dCons (bor (dCall m_trace_of (dCons (bor (dCB listD (dCons (bor (dVar 0)) dNil))) (dCons (bor (dVar 1)) dNil)))) dNil)))))
def m_normalized : Sem' := runBody false 2 g_normalized
def ct_turned_about_1 : TTE := (dTest (dOp (isN true) (bor (dVar 7)) (bor (dC .none))))
def ce_turned_about_1 : BE := (bor (dTup (dCons (bor (dVar 7)) (dCons (bor (dVar 5)) dNil))))
def lb_turned_about_1 : SE := (dApp 3 (bor (dTup (dCons (bor (dVar 6)) (dCons (bor (dGet2 (bor (dVar 4)) (bor (dVar 8)) (bor (dC .none)))) dNil)))))
def g_turned_about : SE := (dSeq (dDrop (dCall m_want_patch (dCons (bor (dVar 0)) (dCons (bor (dVar 1)) dNil))))
  (dSeq (dPar [2, 3] (dTsCons (dCall m_trace_of (dCons (bor (dCB listD (dCons (bor (dVar 0)) dNil))) (dCons (bor (dVar 1)) dNil))) (dTsCons (dLst dNil) dTsNil)))
  (dSeq (dSet 4 (dCB dictU (dCons (bor (dLc (dEnm (bor (dVar 2))) (.tup [(.name 5), (.tup [(.name 6), (.name 7)])]) ct_turned_about_1 ce_turned_about_1 [5, 6, 7])) dNil)))
  (dSeq (dFor (dEnm (bor (dVar 0))) (.tup [(.name 8), (.name 6)])
  lb_turned_about_1)
  (dRet (dCall m_patch_of_trace (dCons (bor (dCB lenD (dCons (bor (dVar 2)) dNil))) (dCons (bor (dVar 3)) dNil))))))))
def m_turned_about : Sem' := runBody false 9 g_turned_about
def ce_joined_patch_1 : BE := (bor (dVar 5))
def ce_joined_patch_2 : BE := (bor (dTup (dCons (bor (dVar 5)) (dCons (bor (dIf (dTest (dOp (isN false) (bor (dVar 7)) (bor (dC .none)))) (dC .none) (dOp ixU (bor (dOp ixU (bor (dVar 3)) (bor (dVar 7)))) (bor (dC (.int 1)))))) dNil))))
def g_joined_patch : SE := (dSeq (dDrop (dCall m_want_patch (dCons (bor (dVar 0)) (dCons (bor (dVar 1)) dNil))))
  (dSeq (dSet 3 (dCall m_trace_of (dCons (bor (dCB listD (dCons (bor (dVar 0)) dNil))) (dCons (bor (dVar 1)) dNil))))
  (dSeq (dIfS (dNot (dTest (dCall m_is_patch_of (dCons (bor (dVar 3)) (dCons (bor (dVar 2)) dNil))))) dFail dNext)
  (dSeq (dSet 4 (dCall m_trace_of (dCons (bor (dLc (dIt (bor (dVar 3))) (.tup [(.name 5), (.name 6)]) dYes ce_joined_patch_1 [5, 6])) (dCons (bor (dVar 2)) dNil))))
  (dRet (dCall m_patch_of_trace (dCons (bor (dCB lenD (dCons (bor (dVar 0)) dNil))) (dCons (bor (dLc (dIt (bor (dVar 4))) (.tup [(.name 5), (.name 7)]) dYes ce_joined_patch_2 [5, 7])) dNil))))))))
def m_joined_patch : Sem' := runBody false 8 g_joined_patch
def lb__law_values_right_1 : SE := (dSeq (dPar [6, 7] (dTsCons (dCall m__law_is_one (dCons (bor (dVar 1)) (dCons (bor (dVar 5)) dNil))) (dTsCons (dCB reprL (dCons (bor (dVar 5)) dNil)) dTsNil)))
  (dIfS (dOr (dTest (dOp neD (bor (dCB reprL (dCons (bor (dLst (dCons (bor (dCall m_is_patch (dCons (bor (dVar 1)) (dCons (bor (dVar 5)) dNil)))) (dCons (bor (dCallK m_is_patch [1, 0] (dCons (bor (dVar 5)) (dCons (bor (dVar 1)) dNil)))) dNil)))) dNil))) (bor (dCB reprL (dCons (bor (dLst (dCons (bor (dVar 6)) (dCons (bor (dVar 6)) dNil)))) dNil))))) (dTest (dOp neD (bor (dCB reprL (dCons (bor (dVar 5)) dNil))) (bor (dVar 7))))) (dRet (dC (.bool false))) dNext))
def g__law_values_right : SE := (dSeq (dSet 3 (dLst (dCons (bor (dVar 2)) (dCons (bor (dCB listD (dCons (bor (dVar 2)) dNil))) (dCons (bor (dOp addD (bor (dVar 2)) (bor (dTup (dCons (bor (dTup (dCons (bor (dC (.str "keep"))) (dCons (bor (dC (.int 1))) dNil)))) dNil))))) (dCons (bor (dOp addD (bor (dVar 2)) (bor (dTup (dCons (bor (dTup (dCons (bor (dC (.str "take"))) (dCons (bor (dC (.int 0))) dNil)))) dNil))))) (dCons (bor (dSl (bor (dVar 2)) (dPart (bor (dC (.int 1)))) dNoP)) (dCons (bor (dOp addD (bor (dVar 2)) (bor (dTup (dCons (bor (dTup (dCons (bor (dC (.str "put"))) (dCons (bor (dTup dNil)) dNil)))) dNil))))) (dCons (bor (dOp addD (bor (dVar 2)) (bor (dTup (dCons (bor (dTup (dCons (bor (dC (.str "put"))) (dCons (bor (dTup (dCons (bor (dOp mulD (bor (dC (.str "x"))) (bor (dC (.int 2000))))) dNil))) dNil)))) dNil))))) (dCons (bor (dOp addD (bor (dVar 2)) (bor (dTup (dCons (bor (dTup (dCons (bor (dC (.str "put"))) (dCons (bor (dTup (dCons (bor (dOp mulD (bor (dC (.str "x"))) (bor (dC (.int 2001))))) dNil))) dNil)))) dNil))))) dNil))))))))))
  (dSeq (dSet 3 (dOp addD (bor (dVar 3)) (bor (dLst (dCons (bor (dOp addD (bor (dVar 2)) (bor (dTup (dCons (bor (dTup (dCons (bor (dC (.str "put"))) (dCons (bor (dLst (dCons (bor (dC (.str "x"))) dNil))) dNil)))) dNil))))) (dCons (bor (dOp addD (bor (dVar 2)) (bor (dTup (dCons (bor (dTup (dCons (bor (dC (.str "put"))) (dCons (bor (dC (.str "x"))) dNil)))) dNil))))) (dCons (bor (dOp addD (bor (dVar 2)) (bor (dTup (dCons (bor (dTup (dCons (bor (dC (.str "keep"))) (dCons (bor (dC (.bool true))) dNil)))) dNil))))) (dCons (bor (dTup (dCons (bor (dTup (dCons (bor (dC (.str "take"))) (dCons (bor (dCB lenD (dCons (bor (dVar 1)) dNil))) dNil)))) dNil))) (dCons (bor (dTup (dCons (bor (dTup (dCons (bor (dC (.str "put"))) (dCons (bor (dOp mulD (bor (dTup (dCons (bor (dC (.str "x"))) dNil))) (bor (dC (.int 200))))) dNil)))) dNil))) (dCons (bor (dTup (dCons (bor (dTup (dCons (bor (dC (.str "put"))) (dCons (bor (dOp mulD (bor (dTup (dCons (bor (dC (.str "x"))) dNil))) (bor (dC (.int 201))))) dNil)))) dNil))) (dCons (bor (dC .none)) (dCons (bor (dC (.str ""))) (dCons (bor (dC (.int 0))) (dCons (bor (dTup dNil)) dNil))))))))))))))
  (dSeq (dIfS (dTest (dOp neD (bor (dVar 2)) (bor (dTup dNil)))) (dSeq (dSet 4 (dCallIo m__law_draw 0 (dCons (bor (dVar 0)) (dCons (bor (dCB lenD (dCons (bor (dVar 2)) dNil))) dNil))))
  (dSet 3 (dOp addD (bor (dVar 3)) (bor (dLst (dCons (bor (dOp addD (bor (dSl (bor (dVar 2)) dNoP (dPart (bor (dVar 4))))) (bor (dSl (bor (dVar 2)) (dPart (bor (dOp addD (bor (dVar 4)) (bor (dC (.int 1)))))) dNoP)))) (dCons (bor (dOp addD (bor (dOp addD (bor (dSl (bor (dVar 2)) dNoP (dPart (bor (dVar 4))))) (bor (dTup (dCons (bor (dCB listD (dCons (bor (dOp ixU (bor (dVar 2)) (bor (dVar 4)))) dNil))) dNil))))) (bor (dSl (bor (dVar 2)) (dPart (bor (dOp addD (bor (dVar 4)) (bor (dC (.int 1)))))) dNoP)))) (dCons (bor (dOp addD (bor (dOp addD (bor (dSl (bor (dVar 2)) dNoP (dPart (bor (dVar 4))))) (bor (dTup (dCons (bor (dOp addD (bor (dOp ixU (bor (dVar 2)) (bor (dVar 4)))) (bor (dTup (dCons (bor (dC (.int 1))) dNil))))) dNil))))) (bor (dSl (bor (dVar 2)) (dPart (bor (dOp addD (bor (dVar 4)) (bor (dC (.int 1)))))) dNoP)))) (dCons (bor (dOp addD (bor (dOp addD (bor (dSl (bor (dVar 2)) dNoP (dPart (bor (dVar 4))))) (bor (dTup (dCons (bor (dTup (dCons (bor (dC (.str "hold"))) (dCons (bor (dC (.int 1))) dNil)))) dNil))))) (bor (dSl (bor (dVar 2)) (dPart (bor (dVar 4))) dNoP)))) dNil))))))))) dNext)
  (dSeq (dFor (dIt (bor (dVar 3))) (.name 5)
  lb__law_values_right_1)
  (dRet (dC (.bool true)))))))
def m__law_values_right : Sem' := runBody true 8 g__law_values_right
def ct__law_right_1 : TTE := (dTest (dOp neD (bor (dVar 10)) (bor (dC (.str "keep")))))
def ce__law_right_1 : BE := (bor (dVar 10))
def ct__law_right_2 : TTE := (dTest (dOp eqD (bor (dVar 10)) (bor (dC (.str "take")))))
def ce__law_right_2 : BE := (bor (dVar 10))
def g__law_right : SE := (dSeq (dSet 1 (dCallIo m__law_some_lines 0 (dCons (bor (dVar 0)) (dCons (bor (dC (.int 9))) dNil))))
  (dSeq (dSet 2 (dCallIo m__law_marks 0 (dCons (bor (dVar 0)) (dCons (bor (dVar 1)) dNil))))
  (dSeq (dSet 3 (dCallIo m__law_marks 0 (dCons (bor (dVar 0)) (dCons (bor (dCall m__law_behind (dCons (bor (dVar 2)) dNil))) dNil))))
  (dSeq (dSet 4 (dCallIo m__law_marks 0 (dCons (bor (dVar 0)) (dCons (bor (dCall m__law_behind (dCons (bor (dVar 3)) dNil))) dNil))))
  (dSeq (dPar [5, 6, 7] (dTsCons (dCallIo m__law_edits 0 (dCons (bor (dVar 0)) (dCons (bor (dVar 2)) dNil))) (dTsCons (dCallIo m__law_edits 0 (dCons (bor (dVar 0)) (dCons (bor (dVar 3)) dNil))) (dTsCons (dCallIo m__law_edits 0 (dCons (bor (dVar 0)) (dCons (bor (dVar 4)) dNil))) dTsNil))))
  (dSeq (dPar [8, 9] (dTsCons (dCB reprL (dCons (bor (dLst (dCons (bor (dVar 1)) (dCons (bor (dVar 5)) (dCons (bor (dVar 6)) dNil))))) dNil)) (dTsCons (dCB lenD (dCons (bor (dLc (dIt (bor (dVar 2))) (.tup [(.name 10), (.name 11)]) ct__law_right_1 ce__law_right_1 [10, 11])) dNil)) dTsNil)))
  (dSeq (dIfS (dOr (dTest (dOp (isB true) (bor (dCall m_is_patch (dCons (bor (dVar 1)) (dCons (bor (dVar 5)) dNil)))) (bor (dC (.bool true))))) (dOr (dTest (dOp (isB true) (bor (dCallK m_is_patch [1, 0] (dCons (bor (dVar 5)) (dCons (bor (dCB tupleD (dCons (bor (dVar 1)) dNil))) dNil)))) (bor (dC (.bool true))))) (dTest (dOp neD (bor (dCall m_patched (dCons (bor (dVar 1)) (dCons (bor (dVar 5)) dNil)))) (bor (dCall m__law_behind (dCons (bor (dVar 2)) dNil))))))) (dRet (dC (.bool false))) dNext)
  (dSeq (dSet 12 (dLst (dCons (bor (dCall m_normalized (dCons (bor (dVar 1)) (dCons (bor (dVar 5)) dNil)))) (dCons (bor (dCall m_turned_about (dCons (bor (dVar 1)) (dCons (bor (dVar 5)) dNil)))) (dCons (bor (dCall m_joined_patch (dCons (bor (dVar 1)) (dCons (bor (dVar 5)) (dCons (bor (dVar 6)) dNil))))) (dCons (bor (dCall m_patch_cost (dCons (bor (dVar 1)) (dCons (bor (dVar 5)) dNil)))) dNil))))))
  (dSeq (dSet 13 (dLst (dCons (bor (dCall m__law_normal (dCons (bor (dVar 2)) dNil))) (dCons (bor (dCall m__law_normal (dCons (bor (dCall m__law_turned_marks (dCons (bor (dVar 2)) dNil))) dNil))) (dCons (bor (dCall m__law_normal (dCons (bor (dCall m__law_joined_marks (dCons (bor (dVar 2)) (dCons (bor (dVar 3)) dNil)))) dNil))) (dCons (bor (dVar 9)) dNil))))))
  (dSeq (dSet 14 (dLst (dCons (bor (dCallK m_normalized [1, 0] (dCons (bor (dVar 5)) (dCons (bor (dVar 1)) dNil)))) (dCons (bor (dCallK m_turned_about [1, 0] (dCons (bor (dVar 5)) (dCons (bor (dVar 1)) dNil)))) (dCons (bor (dCallK m_joined_patch [2, 1, 0] (dCons (bor (dVar 6)) (dCons (bor (dVar 5)) (dCons (bor (dVar 1)) dNil))))) dNil)))))
  (dSeq (dIfS (dOr (dTest (dOp neD (bor (dCB reprL (dCons (bor (dVar 12)) dNil))) (bor (dCB reprL (dCons (bor (dVar 13)) dNil))))) (dTest (dOp neD (bor (dCB reprL (dCons (bor (dVar 14)) dNil))) (bor (dCB reprL (dCons (bor (dSl (bor (dVar 13)) dNoP (dPart (bor (dC (.int 3)))))) dNil)))))) (dRet (dC (.bool false))) dNext)
  (dSeq (dSet 15 (dCall m_joined_patch (dCons (bor (dVar 1)) (dCons (bor (dVar 5)) (dCons (bor (dOp ixU (bor (dVar 13)) (bor (dC (.int 1))))) dNil)))))
  (dSeq (dSet 16 (dCB lenD (dCons (bor (dLc (dIt (bor (dVar 2))) (.tup [(.name 10), (.name 11)]) ct__law_right_2 ce__law_right_2 [10, 11])) dNil)))
  (dSeq (dIfS (dOr (dTest (dOp neD (bor (dCB reprL (dCons (bor (dVar 15)) dNil))) (bor (dCB reprL (dCons (bor (dCall m__law_normal (dCons (bor (dCall m__law_joined_marks (dCons (bor (dVar 2)) (dCons (bor (dCall m__law_turned_marks (dCons (bor (dVar 2)) dNil))) dNil)))) dNil))) dNil))))) (dOr (dTest (dOp neD (bor (dCall m_patch_cost (dCons (bor (dVar 1)) (dCons (bor (dVar 15)) dNil)))) (bor (dOp mulD (bor (dC (.int 2))) (bor (dVar 16)))))) (dTest (dOp neD (bor (dCall m_patched (dCons (bor (dVar 1)) (dCons (bor (dVar 15)) dNil)))) (bor (dVar 1)))))) (dRet (dC (.bool false))) dNext)
  (dSeq (dIfS (dOr (dTest (dOp neD (bor (dCB reprL (dCons (bor (dCall m_turned_about (dCons (bor (dCall m__law_behind (dCons (bor (dVar 2)) dNil))) (dCons (bor (dOp ixU (bor (dVar 13)) (bor (dC (.int 1))))) dNil)))) dNil))) (bor (dCB reprL (dCons (bor (dOp ixU (bor (dVar 13)) (bor (dC (.int 0))))) dNil))))) (dTest (dOp neD (bor (dCB reprL (dCons (bor (dCall m_normalized (dCons (bor (dVar 1)) (dCons (bor (dOp ixU (bor (dVar 13)) (bor (dC (.int 0))))) dNil)))) dNil))) (bor (dCB reprL (dCons (bor (dOp ixU (bor (dVar 13)) (bor (dC (.int 0))))) dNil)))))) (dRet (dC (.bool false))) dNext)
  (dSeq (dSet 17 (dCall m_joined_patch (dCons (bor (dVar 1)) (dCons (bor (dCall m_joined_patch (dCons (bor (dVar 1)) (dCons (bor (dVar 5)) (dCons (bor (dVar 6)) dNil))))) (dCons (bor (dVar 7)) dNil)))))
  (dSeq (dIfS (dOr (dTest (dOp neD (bor (dCB reprL (dCons (bor (dVar 17)) dNil))) (bor (dCB reprL (dCons (bor (dCall m_joined_patch (dCons (bor (dVar 1)) (dCons (bor (dVar 5)) (dCons (bor (dCall m_joined_patch (dCons (bor (dCall m__law_behind (dCons (bor (dVar 2)) dNil))) (dCons (bor (dVar 6)) (dCons (bor (dVar 7)) dNil))))) dNil))))) dNil))))) (dTest (dOp neD (bor (dCall m_patched (dCons (bor (dVar 1)) (dCons (bor (dVar 17)) dNil)))) (bor (dCall m__law_behind (dCons (bor (dVar 4)) dNil)))))) (dRet (dC (.bool false))) dNext)
  (dRet (dAndV (dCallIo m__law_values_right 0 (dCons (bor (dVar 0)) (dCons (bor (dVar 1)) (dCons (bor (dVar 5)) dNil)))) (dOp eqD (bor (dCB reprL (dCons (bor (dLst (dCons (bor (dVar 1)) (dCons (bor (dVar 5)) (dCons (bor (dVar 6)) dNil))))) dNil))) (bor (dVar 8))))))))))))))))))))))
def m__law_right : Sem' := runBody true 18 g__law_right
def ce_law_1 : BE := (bor (dCallIo m__law_right 2 (dCons (bor (dVar 2)) dNil)))
/-- law's turn behind the pot -/
def g_law : SE := (dIfS (dNot (dTest (dCB allD (dCons (bor (dLc (dRng rng1 (dCons (bor (dC (.int 4))) dNil)) (.name 3) dYes ce_law_1 [3])) dNil)))) (dRet (dC (.bool false))) dNext)
/-! ### the walk -/
theorem hu2_of {A : Around} {k : Nat} (hr : Room k A) : A.units + 2 < cLine := Nat.lt_of_le_of_lt (Nat.add_le_add_left (by decide : 2 ≤ 64) _) hr.units
structure Txt (K : PySem.W.Frag) (mg : Str → Option Value) where
  (f_is_integer : Addr) (fd_is_integer : FuncData) (F_is_integer : Fun K "is_integer" "is_integer" st_is_integer f_is_integer fd_is_integer) (b_is_integer : Binds K fd_is_integer ["value"] []) (g_is_integer : mg "is_integer" = some (.ref f_is_integer))
  (f_is_count : Addr) (fd_is_count : FuncData) (F_is_count : Fun K "is_count" "is_count" st_is_count f_is_count fd_is_count) (b_is_count : Binds K fd_is_count ["value"] []) (g_is_count : mg "is_count" = some (.ref f_is_count))
  (f_is_list : Addr) (fd_is_list : FuncData) (F_is_list : Fun K "is_list" "is_list" st_is_list f_is_list fd_is_list) (b_is_list : Binds K fd_is_list ["value"] []) (g_is_list : mg "is_list" = some (.ref f_is_list))
  (f_is_tuple : Addr) (fd_is_tuple : FuncData) (F_is_tuple : Fun K "is_tuple" "is_tuple" st_is_tuple f_is_tuple fd_is_tuple) (b_is_tuple : Binds K fd_is_tuple ["value", "many"] []) (g_is_tuple : mg "is_tuple" = some (.ref f_is_tuple))
  (f_is_line_any : Addr) (fd_is_line_any : FuncData) (F_is_line_any : Fun K "is_line_any" "is_line_any" st_is_line_any f_is_line_any fd_is_line_any) (b_is_line_any : Binds K fd_is_line_any ["value"] []) (g_is_line_any : mg "is_line_any" = some (.ref f_is_line_any))
  (f_are_lines_any : Addr) (fd_are_lines_any : FuncData) (F_are_lines_any : Fun K "are_lines_any" "are_lines_any" st_are_lines_any f_are_lines_any fd_are_lines_any) (b_are_lines_any : Binds K fd_are_lines_any ["value"] []) (g_are_lines_any : mg "are_lines_any" = some (.ref f_are_lines_any))
  (f_is_edit_any : Addr) (fd_is_edit_any : FuncData) (F_is_edit_any : Fun K "is_edit_any" "is_edit_any" st_is_edit_any f_is_edit_any fd_is_edit_any) (b_is_edit_any : Binds K fd_is_edit_any ["value"] []) (g_is_edit_any : mg "is_edit_any" = some (.ref f_is_edit_any))
  (f_is_patch_of : Addr) (fd_is_patch_of : FuncData) (F_is_patch_of : Fun K "is_patch_of" "is_patch_of" st_is_patch_of f_is_patch_of fd_is_patch_of) (b_is_patch_of : Binds K fd_is_patch_of ["lines", "value"] []) (g_is_patch_of : mg "is_patch_of" = some (.ref f_is_patch_of))
  (f_want_lines : Addr) (fd_want_lines : FuncData) (F_want_lines : Fun K "want_lines" "want_lines" st_want_lines f_want_lines fd_want_lines) (b_want_lines : Binds K fd_want_lines ["lines"] []) (g_want_lines : mg "want_lines" = some (.ref f_want_lines))
  (f_want_patch : Addr) (fd_want_patch : FuncData) (F_want_patch : Fun K "want_patch" "want_patch" st_want_patch f_want_patch fd_want_patch) (b_want_patch : Binds K fd_want_patch ["lines", "patch"] []) (g_want_patch : mg "want_patch" = some (.ref f_want_patch))
  (f_trace_of : Addr) (fd_trace_of : FuncData) (F_trace_of : Fun K "trace_of" "trace_of" st_trace_of f_trace_of fd_trace_of) (b_trace_of : Binds K fd_trace_of ["lines", "patch"] []) (g_trace_of : mg "trace_of" = some (.ref f_trace_of))
  (f_edits_put_together : Addr) (fd_edits_put_together : FuncData) (F_edits_put_together : Fun K "edits_put_together" "edits_put_together" st_edits_put_together f_edits_put_together fd_edits_put_together) (b_edits_put_together : Binds K fd_edits_put_together ["edits"] []) (g_edits_put_together : mg "edits_put_together" = some (.ref f_edits_put_together))
  (f_patch_of_trace : Addr) (fd_patch_of_trace : FuncData) (F_patch_of_trace : Fun K "patch_of_trace" "patch_of_trace" st_patch_of_trace f_patch_of_trace fd_patch_of_trace) (b_patch_of_trace : Binds K fd_patch_of_trace ["many", "trace"] []) (g_patch_of_trace : mg "patch_of_trace" = some (.ref f_patch_of_trace))
  (f_lines_patched : Addr) (fd_lines_patched : FuncData) (F_lines_patched : Fun K "lines_patched" "lines_patched" st_lines_patched f_lines_patched fd_lines_patched) (b_lines_patched : Binds K fd_lines_patched ["lines", "patch"] []) (g_lines_patched : mg "lines_patched" = some (.ref f_lines_patched))
  (f_cost_of_patch : Addr) (fd_cost_of_patch : FuncData) (F_cost_of_patch : Fun K "cost_of_patch" "cost_of_patch" st_cost_of_patch f_cost_of_patch fd_cost_of_patch) (b_cost_of_patch : Binds K fd_cost_of_patch ["patch"] []) (g_cost_of_patch : mg "cost_of_patch" = some (.ref f_cost_of_patch))
  (f_is_patch : Addr) (fd_is_patch : FuncData) (F_is_patch : Fun K "is_patch" "is_patch" st_is_patch f_is_patch fd_is_patch) (b_is_patch : Binds K fd_is_patch ["lines", "value"] []) (g_is_patch : mg "is_patch" = some (.ref f_is_patch))
  (k_is_patch_value_lines : KBinds K fd_is_patch ["lines", "value"] ["value", "lines"] (only [1, 0]) (only [1, 0]))
  (f_patched : Addr) (fd_patched : FuncData) (F_patched : Fun K "patched" "patched" st_patched f_patched fd_patched) (b_patched : Binds K fd_patched ["lines", "patch"] []) (g_patched : mg "patched" = some (.ref f_patched))
  (f_patch_cost : Addr) (fd_patch_cost : FuncData) (F_patch_cost : Fun K "patch_cost" "patch_cost" st_patch_cost f_patch_cost fd_patch_cost) (b_patch_cost : Binds K fd_patch_cost ["lines", "patch"] []) (g_patch_cost : mg "patch_cost" = some (.ref f_patch_cost))
  (f_normalized : Addr) (fd_normalized : FuncData) (F_normalized : Fun K "normalized" "normalized" st_normalized f_normalized fd_normalized) (b_normalized : Binds K fd_normalized ["lines", "patch"] []) (g_normalized : mg "normalized" = some (.ref f_normalized))
  (k_normalized_patch_lines : KBinds K fd_normalized ["lines", "patch"] ["patch", "lines"] (only [1, 0]) (only [1, 0]))
  (f_turned_about : Addr) (fd_turned_about : FuncData) (F_turned_about : Fun K "turned_about" "turned_about" st_turned_about f_turned_about fd_turned_about) (b_turned_about : Binds K fd_turned_about ["lines", "patch"] []) (g_turned_about : mg "turned_about" = some (.ref f_turned_about))
  (k_turned_about_patch_lines : KBinds K fd_turned_about ["lines", "patch"] ["patch", "lines"] (only [1, 0]) (only [1, 0]))
  (f_joined_patch : Addr) (fd_joined_patch : FuncData) (F_joined_patch : Fun K "joined_patch" "joined_patch" st_joined_patch f_joined_patch fd_joined_patch) (b_joined_patch : Binds K fd_joined_patch ["lines", "patch", "far"] []) (g_joined_patch : mg "joined_patch" = some (.ref f_joined_patch))
  (k_joined_patch_far_patch_lines : KBinds K fd_joined_patch ["lines", "patch", "far"] ["far", "patch", "lines"] (only [2, 1, 0]) (only [2, 1, 0]))
  (f__law_pot : Addr) (fd__law_pot : FuncData) (F__law_pot : Fun K "_law_pot" "_law_pot" st__law_pot f__law_pot fd__law_pot) (b__law_pot : Binds K fd__law_pot ["script", "k"] []) (g__law_pot : mg "_law_pot" = some (.ref f__law_pot))
  (f__law_draw : Addr) (fd__law_draw : FuncData) (F__law_draw : Fun K "_law_draw" "_law_draw" st__law_draw f__law_draw fd__law_draw) (b__law_draw : Binds K fd__law_draw ["pot", "many"] []) (g__law_draw : mg "_law_draw" = some (.ref f__law_draw))
  (f__law_pick : Addr) (fd__law_pick : FuncData) (F__law_pick : Fun K "_law_pick" "_law_pick" st__law_pick f__law_pick fd__law_pick) (b__law_pick : Binds K fd__law_pick ["pot", "some"] []) (g__law_pick : mg "_law_pick" = some (.ref f__law_pick))
  (f__law_some_lines : Addr) (fd__law_some_lines : FuncData) (F__law_some_lines : Fun K "_law_some_lines" "_law_some_lines" st__law_some_lines f__law_some_lines fd__law_some_lines) (b__law_some_lines : Binds K fd__law_some_lines ["pot", "most"] []) (g__law_some_lines : mg "_law_some_lines" = some (.ref f__law_some_lines))
  (f__law_marks : Addr) (fd__law_marks : FuncData) (F__law_marks : Fun K "_law_marks" "_law_marks" st__law_marks f__law_marks fd__law_marks) (b__law_marks : Binds K fd__law_marks ["pot", "lines"] []) (g__law_marks : mg "_law_marks" = some (.ref f__law_marks))
  (f__law_edits : Addr) (fd__law_edits : FuncData) (F__law_edits : Fun K "_law_edits" "_law_edits" st__law_edits f__law_edits fd__law_edits) (b__law_edits : Binds K fd__law_edits ["pot", "marks"] []) (g__law_edits : mg "_law_edits" = some (.ref f__law_edits))
  (f__law_normal : Addr) (fd__law_normal : FuncData) (F__law_normal : Fun K "_law_normal" "_law_normal" st__law_normal f__law_normal fd__law_normal) (b__law_normal : Binds K fd__law_normal ["marks"] []) (g__law_normal : mg "_law_normal" = some (.ref f__law_normal))
  (f__law_behind : Addr) (fd__law_behind : FuncData) (F__law_behind : Fun K "_law_behind" "_law_behind" st__law_behind f__law_behind fd__law_behind) (b__law_behind : Binds K fd__law_behind ["marks"] []) (g__law_behind : mg "_law_behind" = some (.ref f__law_behind))
  (f__law_turned_marks : Addr) (fd__law_turned_marks : FuncData) (F__law_turned_marks : Fun K "_law_turned_marks" "_law_turned_marks" st__law_turned_marks f__law_turned_marks fd__law_turned_marks) (b__law_turned_marks : Binds K fd__law_turned_marks ["marks"] []) (g__law_turned_marks : mg "_law_turned_marks" = some (.ref f__law_turned_marks))
  (f__law_joined_marks : Addr) (fd__law_joined_marks : FuncData) (F__law_joined_marks : Fun K "_law_joined_marks" "_law_joined_marks" st__law_joined_marks f__law_joined_marks fd__law_joined_marks) (b__law_joined_marks : Binds K fd__law_joined_marks ["near", "far"] []) (g__law_joined_marks : mg "_law_joined_marks" = some (.ref f__law_joined_marks))
  (f__law_right : Addr) (fd__law_right : FuncData) (F__law_right : Fun K "_law_right" "_law_right" st__law_right f__law_right fd__law_right) (b__law_right : Binds K fd__law_right ["pot"] []) (g__law_right : mg "_law_right" = some (.ref f__law_right))
  (f__law_is_one : Addr) (fd__law_is_one : FuncData) (F__law_is_one : Fun K "_law_is_one" "_law_is_one" st__law_is_one f__law_is_one fd__law_is_one) (b__law_is_one : Binds K fd__law_is_one ["lines", "value"] []) (g__law_is_one : mg "_law_is_one" = some (.ref f__law_is_one))
  (f__law_values_right : Addr) (fd__law_values_right : FuncData) (F__law_values_right : Fun K "_law_values_right" "_law_values_right" st__law_values_right f__law_values_right fd__law_values_right) (b__law_values_right : Binds K fd__law_values_right ["pot", "lines", "patch"] []) (g__law_values_right : mg "_law_values_right" = some (.ref f__law_values_right))
  (f_law : Addr) (fd_law : FuncData) (F_law : Fun K "law" "law" st_law f_law fd_law) (b_law : Binds K fd_law ["script"] []) (g_law : mg "law" = some (.ref f_law))
  (t_KEEP : Tok) (c_KEEP : mg "KEEP" = some (.str "keep" t_KEEP))
  (t_TAKE : Tok) (c_TAKE : mg "TAKE" = some (.str "take" t_TAKE))
  (t_PUT : Tok) (c_PUT : mg "PUT" = some (.str "put" t_PUT))
  (t_MOST_LINES : Tok) (c_MOST_LINES : mg "MOST_LINES" = some (.int 200 t_MOST_LINES))
  (t_MOST_LINE : Tok) (c_MOST_LINE : mg "MOST_LINE" = some (.int 2000 t_MOST_LINE))
  (t_MOST_EDITS : Tok) (c_MOST_EDITS : mg "MOST_EDITS" = some (.int 400 t_MOST_EDITS))
  (z_abs : mg "abs" = none)
  (z_all : mg "all" = none)
  (z_bool : mg "bool" = none)
  (z_dict : mg "dict" = none)
  (z_divmod : mg "divmod" = none)
  (z_enumerate : mg "enumerate" = none)
  (z_int : mg "int" = none)
  (z_isinstance : mg "isinstance" = none)
  (z_len : mg "len" = none)
  (z_list : mg "list" = none)
  (z_max : mg "max" = none)
  (z_min : mg "min" = none)
  (z_range : mg "range" = none)
  (z_repr : mg "repr" = none)
  (z_str : mg "str" = none)
  (z_sum : mg "sum" = none)
  (z_tuple : mg "tuple" = none)
end K72
namespace K72
open PySem PySem.Spec PyProof.Rows L2 DL
inductive Ed where
  | keep (n : Nat) | take (n : Nat) | put (ls : List Ln)
def Ed.D : Ed → D
  | .keep n => .tuple [.str "keep", nD n]
  | .take n => .tuple [.str "take", nD n]
  | .put ls => .tuple [.str "put", .tuple (ls.map lnD)]
def Ed.ok : Ed → Prop
  | .keep n => 0 < n
  | .take n => 0 < n
  | .put ls => ls ≠ [] ∧ ls.length ≤ 1000
def Ed.used : Ed → Nat
  | .keep n => n
  | .take n => n
  | .put _ => 0
def Ed.late : Ed → Nat
  | .keep n => n
  | .take _ => 0
  | .put ls => ls.length
def Ed.cost : Ed → Nat
  | .keep _ => 0
  | .take n => n
  | .put ls => ls.length
def used (es : List Ed) : Nat := (es.map Ed.used).sum
def late (es : List Ed) : Nat := (es.map Ed.late).sum
def cost (es : List Ed) : Nat := (es.map Ed.cost).sum
def run : List Ln → List Ed → List Ln
  | _, [] => []
  | r, .keep n :: es => r.take n ++ run (r.drop n) es
  | r, .take n :: es => run (r.drop n) es
  | r, .put ls :: es => ls ++ run r es
abbrev patD (es : List Ed) : DL.D := .tuple (es.map Ed.D)
theorem ok_put : PyData.strOk "put" = true := by decide +kernel
theorem ok_keep : PyData.strOk "keep" = true := by decide +kernel
theorem ok_take : PyData.strOk "take" = true := by decide +kernel
theorem neat_ed (e : Ed) : Neat 2 e.D := by
  cases e with
  | keep n => exact (neat_pair (neat_str ok_keep) (neat_int _)).up (by decide)
  | take n => exact (neat_pair (neat_str ok_take) (neat_int _)).up (by decide)
  | put ls => exact neat_pair ((neat_str ok_put).up (by decide)) (neat_tup neat_ln ls)
theorem neat_pat (es : List Ed) : Neat 3 (patD es) := neat_tup neat_ed es
@[simp] theorem w1 : eqD (.str "put") (.str "put") = some (.dat (.bool true)) := by rw [eq_s ok_put ok_put]; rfl
@[simp] theorem w2 : eqD (.str "keep") (.str "put") = some (.dat (.bool false)) := by rw [eq_s ok_keep ok_put]; rfl
@[simp] theorem w3 : eqD (.str "take") (.str "put") = some (.dat (.bool false)) := by rw [eq_s ok_take ok_put]; rfl
@[simp] theorem w4 : eqD (.str "keep") (.str "keep") = some (.dat (.bool true)) := by rw [eq_s ok_keep ok_keep]; rfl
@[simp] theorem w5 : eqD (.str "take") (.str "keep") = some (.dat (.bool false)) := by rw [eq_s ok_take ok_keep]; rfl
@[simp] theorem w6 : eqD (.str "put") (.str "keep") = some (.dat (.bool false)) := by rw [eq_s ok_put ok_keep]; rfl
@[simp] theorem w7 : eqD (.str "take") (.str "take") = some (.dat (.bool true)) := by rw [eq_s ok_take ok_take]; rfl
@[simp] theorem w8 : eqD (.str "keep") (.str "take") = some (.dat (.bool false)) := by rw [eq_s ok_keep ok_take]; rfl
@[simp] theorem w9 : eqD (.str "put") (.str "take") = some (.dat (.bool false)) := by rw [eq_s ok_put ok_take]; rfl
@[simp] theorem n1 : neD (.str "put") (.str "put") = some (.dat (.bool false)) := by rw [ne_s ok_put ok_put]; rfl
@[simp] theorem n2 : neD (.str "keep") (.str "put") = some (.dat (.bool true)) := by rw [ne_s ok_keep ok_put]; rfl
@[simp] theorem n3 : neD (.str "take") (.str "put") = some (.dat (.bool true)) := by rw [ne_s ok_take ok_put]; rfl
@[simp] theorem n4 : neD (.str "keep") (.str "keep") = some (.dat (.bool false)) := by rw [ne_s ok_keep ok_keep]; rfl
@[simp] theorem n5 : neD (.str "take") (.str "keep") = some (.dat (.bool true)) := by rw [ne_s ok_take ok_keep]; rfl
@[simp] theorem n6 : neD (.str "put") (.str "keep") = some (.dat (.bool true)) := by rw [ne_s ok_put ok_keep]; rfl
@[simp] theorem n7 : neD (.str "put") (.str "take") = some (.dat (.bool true)) := by rw [ne_s ok_put ok_take]; rfl
@[simp] theorem n8 : neD (.str "keep") (.str "take") = some (.dat (.bool true)) := by rw [ne_s ok_keep ok_take]; rfl
@[simp] theorem n9 : neD (.str "take") (.str "take") = some (.dat (.bool false)) := by rw [ne_s ok_take ok_take]; rfl
theorem v_is_list {xs : List DL.D} : m_is_list [] [.list xs] = some (.dat (.bool true), []) := rfl
theorem v_is_list_t {xs : List DL.D} : m_is_list [] [.tuple xs] = some (.dat (.bool true), []) := rfl
theorem v_is_count (n : Int) : m_is_count [] [.int n] = some (.dat (.bool (decide (0 ≤ n))), []) := rfl
theorem v_is_tuple (xs : List DL.D) (k : Int) : m_is_tuple [] [.tuple xs, .int k] = some (.dat (.bool (decide ((xs.length : Int) = k))), []) := by
  simp [m_is_tuple, g_is_tuple, ev_run, env0, kOf, tyD, ev_fin_f]
theorem v_is_line (x : Ln) : m_is_line_any [] [lnD x] = some (.dat (.bool true), []) := by
  have h := x.h.2.1
  have l1 : lenD [lnD x] = some (.dat (.int x.s.length)) := by
    show (if x.s.length ≤ szMax then _ else _) = _
    rw [if_pos (by unfold szMax; omega)]
  have k1 : kOf (lnD x) "str" = true := rfl
  simp [m_is_line_any, g_is_line_any, ev_run, env0, ev_fin_f, k1, l1]
  omega
theorem v_are_lines (xs : List Ln) (h : xs.length ≤ 200) : m_are_lines_any [] [LD xs] = some (.dat (.bool true), []) := by
  have E1 : wipeE [.dat (LD xs), .un] [1] = [.dat (LD xs), .un] := rfl
  obtain ⟨e5, c1, k1⟩ := comp_map (inp := lnD) (out := fun _ => .bool true) (pat := .name 1) (t := dYes) (el := ce_are_lines_any_1) (ys := xs) E1 (fun x hx => by
    exact ⟨_, rfl, _, rfl, _, _, by simp [ce_are_lines_any_1, v_is_line]; exact ⟨rfl, rfl⟩, _, rfl, rfl⟩)
  have r1 := rest_all (vs := [1]) (k1.trans E1.symm)
  have s1 : xs.length ≤ szMax := by unfold szMax; omega
  rw [m_are_lines_any, ev_run, show env0 false 2 [] [LD xs] = [.dat (LD xs), .un] from rfl]
  simp [g_are_lines_any, v_is_list, s1, c1, r1, ev_fin_f, show (xs.length : Int) ≤ 200 by omega]
theorem v_are_linesT (xs : List Ln) (h : xs.length ≤ 200) : m_are_lines_any [] [.tuple (xs.map lnD)] = some (.dat (.bool true), []) := by
  have E1 : wipeE [.dat (.tuple (xs.map lnD)), .un] [1] = [.dat (.tuple (xs.map lnD)), .un] := rfl
  obtain ⟨e5, c1, k1⟩ := comp_map (inp := lnD) (out := fun _ => .bool true) (pat := .name 1) (t := dYes) (el := ce_are_lines_any_1) (ys := xs) E1 (fun x hx => by
    exact ⟨_, rfl, _, rfl, _, _, by simp [ce_are_lines_any_1, v_is_line]; exact ⟨rfl, rfl⟩, _, rfl, rfl⟩)
  have r1 := rest_all (vs := [1]) (k1.trans E1.symm)
  have s1 : xs.length ≤ szMax := by unfold szMax; omega
  rw [m_are_lines_any, ev_run, show env0 false 2 [] [.tuple (xs.map lnD)] = [.dat (.tuple (xs.map lnD)), .un] from rfl]
  simp [g_are_lines_any, v_is_list_t, s1, c1, r1, ev_fin_f, show (xs.length : Int) ≤ 200 by omega]
theorem v_want_lines (xs : List Ln) (h : xs.length ≤ 200) : m_want_lines [] [LD xs] = some (.dat .none, []) := by
  rw [m_want_lines, ev_run, show env0 false 1 [] [LD xs] = [.dat (LD xs)] from rfl]
  simp [g_want_lines, v_are_lines xs h, ev_fin_f]
theorem v_edit (e : Ed) (h : e.ok) : m_is_edit_any [] [e.D] = some (.dat (.bool true), []) := by
  rw [m_is_edit_any, ev_run, show env0 false 2 [] [e.D] = [.dat e.D, .un] from rfl]
  have kt : ∀ xs : List DL.D, kOf (.tuple xs) "tuple" = true := fun _ => rfl
  have ks : ∀ x : Str, kOf (.str x) "str" = true := fun _ => rfl
  have ik : inD false (.str "keep") (.tuple [.str "keep", .str "take"]) = some (.dat (.bool true)) := rfl
  have it : inD false (.str "take") (.tuple [.str "keep", .str "take"]) = some (.dat (.bool true)) := rfl
  cases e with
  | keep n =>
    have hn : 0 < n := h
    simp [g_is_edit_any, Ed.D, v_is_tuple, ks, ik, v_is_count, ev_fin_f, hn]
  | take n =>
    have hn : 0 < n := h
    simp [g_is_edit_any, Ed.D, v_is_tuple, ks, it, v_is_count, ev_fin_f, hn]
  | put ls =>
    have E1 : wipeE [.dat (Ed.put ls).D, .un] [1] = [.dat (Ed.put ls).D, .un] := rfl
    obtain ⟨e5, c1, k1⟩ := comp_map (inp := lnD) (out := fun _ => .bool true) (pat := .name 1) (t := dYes) (el := ce_is_edit_any_1) (ys := ls) E1 (fun x hx => by
      exact ⟨_, rfl, _, rfl, _, _, by simp [ce_is_edit_any_1, v_is_line]; exact ⟨rfl, rfl⟩, _, rfl, rfl⟩)
    have r1 := rest_all (vs := [1]) (k1.trans E1.symm)
    have hl : ls.length ≤ szMax := by have := h.2; unfold szMax; omega
    have ne : neD (.tuple (ls.map lnD)) (.tuple []) = some (.dat (.bool true)) := by
      have z := ne_neat (neat_tup neat_ln ls) (neat_tup neat_ln []) (by decide) (by decide)
      rw [PyData.eqv, eqv_map eqv_ln ls [], decide_eq_false h.1] at z
      exact z
    simp [Ed.D] at c1 r1
    simp [g_is_edit_any, Ed.D, v_is_tuple, ks, kt, ne, ev_fin_f, hl, c1, r1]
def Ed.isPut : Ed → Bool
  | .put _ => true
  | _ => false
def Ed.isKeep : Ed → Bool
  | .keep _ => true
  | _ => false
theorem sum_used (es : List Ed) : ((es.filter fun e => !e.isPut).map Ed.used).sum = used es := by
  unfold used
  induction es with
  | nil => rfl
  | cons e es ih =>
    cases e with
    | put ls => rw [List.filter_cons_of_neg (by simp [Ed.isPut]), ih, List.map_cons, List.sum_cons]; simp [Ed.used]
    | keep n => rw [List.filter_cons_of_pos rfl, List.map_cons, List.map_cons, List.sum_cons, List.sum_cons, ih]
    | take n => rw [List.filter_cons_of_pos rfl, List.map_cons, List.map_cons, List.sum_cons, List.sum_cons, ih]
theorem sum_cost (es : List Ed) : ((es.filter fun e => !e.isKeep).map Ed.cost).sum = cost es := by
  unfold cost
  induction es with
  | nil => rfl
  | cons e es ih =>
    cases e with
    | keep ls => rw [List.filter_cons_of_neg (by simp [Ed.isKeep]), ih, List.map_cons, List.sum_cons]; simp [Ed.cost]
    | take n => rw [List.filter_cons_of_pos rfl, List.map_cons, List.map_cons, List.sum_cons, List.sum_cons, ih]
    | put n => rw [List.filter_cons_of_pos rfl, List.map_cons, List.map_cons, List.sum_cons, List.sum_cons, ih]
theorem v_patch_ofG (zs : List DL.D) (es : List Ed) (h : ∀ e ∈ es, e.ok) (h4 : es.length ≤ 400) : m_is_patch_of [] [.list zs, patD es] = some (.dat (.bool (decide (used es = zs.length) && decide (late es ≤ 200))), []) := by
  have E2 : wipeE [.dat (.list zs), .dat (patD es), .un, .un, .un] [2] = [.dat (.list zs), .dat (patD es), .un, .un, .un] := rfl
  have E3 : wipeE [.dat (.list zs), .dat (patD es), .un, .un, .un] [3] = [.dat (.list zs), .dat (patD es), .un, .un, .un] := rfl
  obtain ⟨e1, c1, k1⟩ := comp_map (inp := Ed.D) (out := fun _ => .bool true) (pat := .name 2) (t := dYes) (el := ce_is_patch_of_1) (ys := es) E2 (fun x hx => by
    exact ⟨_, rfl, _, rfl, _, _, by simp [ce_is_patch_of_1, v_edit x (h x hx)]; exact ⟨rfl, rfl⟩, _, rfl, rfl⟩)
  have r1 := rest_all (vs := [2]) (k1.trans E2.symm)
  obtain ⟨e2, c2, k2⟩ := comp_fmap (inp := Ed.D) (p := fun e => !e.isPut) (out := fun e => nD e.used) (pat := .name 3) (t := ct_is_patch_of_1) (el := ce_is_patch_of_2) (ys := es) E3 (fun x hx => by
    refine ⟨_, rfl, [.dat (.list zs), .dat (patD es), .un, .dat x.D, .un], ?_, fun _ => rfl, fun hp => ?_⟩
    · cases x <;> simp [ct_is_patch_of_1, Ed.D, Ed.isPut]
    · cases x with
      | put ls => cases hp
      | keep n => exact ⟨_, _, by simp [ce_is_patch_of_2, Ed.D]; exact ⟨rfl, rfl⟩, _, rfl, rfl⟩
      | take n => exact ⟨_, _, by simp [ce_is_patch_of_2, Ed.D]; exact ⟨rfl, rfl⟩, _, rfl, rfl⟩)
  have r2 := rest_all (vs := [3]) (k2.trans E3.symm)
  obtain ⟨e3, c3, k3⟩ := comp_map (inp := Ed.D) (out := fun e => nD e.late) (pat := .name 3) (t := dYes) (el := ce_is_patch_of_3) (ys := es) E3 (fun x hx => by
    cases x with
    | put ls => exact ⟨_, rfl, _, rfl, _, _, by simp [ce_is_patch_of_3, Ed.D]; exact ⟨rfl, rfl⟩, _, rfl, rfl⟩
    | keep n => exact ⟨_, rfl, _, rfl, _, _, by simp [ce_is_patch_of_3, Ed.D]; exact ⟨rfl, rfl⟩, _, rfl, rfl⟩
    | take n => exact ⟨_, rfl, _, rfl, _, _, by simp [ce_is_patch_of_3, Ed.D]; exact ⟨rfl, rfl⟩, _, rfl, rfl⟩)
  have r3 := rest_all (vs := [3]) (k3.trans E3.symm)
  have s1 : es.length ≤ szMax := by unfold szMax; omega
  have s2 : ¬ (400 : Int) < es.length := by omega
  have u1 := sum_nat Ed.used (es.filter fun e => !e.isPut)
  rw [sum_used] at u1
  have u2 : sumD [.list (es.map fun e => nD e.late)] = some (.dat (.int (late es : Nat))) := sum_nat Ed.late es
  have kt : ∀ xs : List DL.D, kOf (.tuple xs) "tuple" = true := fun _ => rfl
  rw [m_is_patch_of, ev_run, show env0 false 5 [] [.list zs, patD es] = [.dat (.list zs), .dat (patD es), .un, .un, .un] from rfl]
  by_cases hu : used es = zs.length
  · have hu' : ((used es : Nat) : Int) = (zs.length : Int) := by rw [hu]
    have hl : decide (((late es : Nat) : Int) ≤ 200) = decide (late es ≤ 200) := decide_eq_decide.mpr (by omega)
    simp [g_is_patch_of, kt, s1, s2, c1, r1, c2, r2, u1, hu, c3, r3, u2, hl, ev_fin_f]
  · have hu' : ¬ ((used es : Nat) : Int) = (zs.length : Int) := fun z => hu (Int.ofNat_inj.mp z)
    simp [g_is_patch_of, kt, s1, s2, c1, r1, c2, r2, u1, hu, hu', ev_fin_f]
theorem v_patch_ofT (zs : List DL.D) (es : List Ed) (h : ∀ e ∈ es, e.ok) (h4 : es.length ≤ 400) : m_is_patch_of [] [.tuple zs, patD es] = some (.dat (.bool (decide (used es = zs.length) && decide (late es ≤ 200))), []) := by
  have E2 : wipeE [.dat (.tuple zs), .dat (patD es), .un, .un, .un] [2] = [.dat (.tuple zs), .dat (patD es), .un, .un, .un] := rfl
  have E3 : wipeE [.dat (.tuple zs), .dat (patD es), .un, .un, .un] [3] = [.dat (.tuple zs), .dat (patD es), .un, .un, .un] := rfl
  obtain ⟨e1, c1, k1⟩ := comp_map (inp := Ed.D) (out := fun _ => .bool true) (pat := .name 2) (t := dYes) (el := ce_is_patch_of_1) (ys := es) E2 (fun x hx => by
    exact ⟨_, rfl, _, rfl, _, _, by simp [ce_is_patch_of_1, v_edit x (h x hx)]; exact ⟨rfl, rfl⟩, _, rfl, rfl⟩)
  have r1 := rest_all (vs := [2]) (k1.trans E2.symm)
  obtain ⟨e2, c2, k2⟩ := comp_fmap (inp := Ed.D) (p := fun e => !e.isPut) (out := fun e => nD e.used) (pat := .name 3) (t := ct_is_patch_of_1) (el := ce_is_patch_of_2) (ys := es) E3 (fun x hx => by
    refine ⟨_, rfl, [.dat (.tuple zs), .dat (patD es), .un, .dat x.D, .un], ?_, fun _ => rfl, fun hp => ?_⟩
    · cases x <;> simp [ct_is_patch_of_1, Ed.D, Ed.isPut]
    · cases x with
      | put ls => cases hp
      | keep n => exact ⟨_, _, by simp [ce_is_patch_of_2, Ed.D]; exact ⟨rfl, rfl⟩, _, rfl, rfl⟩
      | take n => exact ⟨_, _, by simp [ce_is_patch_of_2, Ed.D]; exact ⟨rfl, rfl⟩, _, rfl, rfl⟩)
  have r2 := rest_all (vs := [3]) (k2.trans E3.symm)
  obtain ⟨e3, c3, k3⟩ := comp_map (inp := Ed.D) (out := fun e => nD e.late) (pat := .name 3) (t := dYes) (el := ce_is_patch_of_3) (ys := es) E3 (fun x hx => by
    cases x with
    | put ls => exact ⟨_, rfl, _, rfl, _, _, by simp [ce_is_patch_of_3, Ed.D]; exact ⟨rfl, rfl⟩, _, rfl, rfl⟩
    | keep n => exact ⟨_, rfl, _, rfl, _, _, by simp [ce_is_patch_of_3, Ed.D]; exact ⟨rfl, rfl⟩, _, rfl, rfl⟩
    | take n => exact ⟨_, rfl, _, rfl, _, _, by simp [ce_is_patch_of_3, Ed.D]; exact ⟨rfl, rfl⟩, _, rfl, rfl⟩)
  have r3 := rest_all (vs := [3]) (k3.trans E3.symm)
  have s1 : es.length ≤ szMax := by unfold szMax; omega
  have s2 : ¬ (400 : Int) < es.length := by omega
  have u1 := sum_nat Ed.used (es.filter fun e => !e.isPut)
  rw [sum_used] at u1
  have u2 : sumD [.list (es.map fun e => nD e.late)] = some (.dat (.int (late es : Nat))) := sum_nat Ed.late es
  have kt : ∀ xs : List DL.D, kOf (.tuple xs) "tuple" = true := fun _ => rfl
  rw [m_is_patch_of, ev_run, show env0 false 5 [] [.tuple zs, patD es] = [.dat (.tuple zs), .dat (patD es), .un, .un, .un] from rfl]
  by_cases hu : used es = zs.length
  · have hu' : ((used es : Nat) : Int) = (zs.length : Int) := by rw [hu]
    have hl : decide (((late es : Nat) : Int) ≤ 200) = decide (late es ≤ 200) := decide_eq_decide.mpr (by omega)
    simp [g_is_patch_of, kt, s1, s2, c1, r1, c2, r2, u1, hu, c3, r3, u2, hl, ev_fin_f]
  · have hu' : ¬ ((used es : Nat) : Int) = (zs.length : Int) := fun z => hu (Int.ofNat_inj.mp z)
    simp [g_is_patch_of, kt, s1, s2, c1, r1, c2, r2, u1, hu, hu', ev_fin_f]
theorem v_patch_of (near : List Ln) (es : List Ed) (h : ∀ e ∈ es, e.ok) (h4 : es.length ≤ 400) : m_is_patch_of [] [LD near, patD es] = some (.dat (.bool (decide (used es = near.length) && decide (late es ≤ 200))), []) := by
  have := v_patch_ofG (near.map lnD) es h h4
  rw [List.length_map] at this
  exact this
theorem v_want_patch (near : List Ln) (es : List Ed) (h : ∀ e ∈ es, e.ok) (h4 : es.length ≤ 400) (hn : near.length ≤ 200) (hu : used es = near.length) (hl : late es ≤ 200) : m_want_patch [] [LD near, patD es] = some (.dat .none, []) := by
  have p := v_patch_of near es h h4
  rw [decide_eq_true hu, decide_eq_true hl] at p
  rw [m_want_patch, ev_run, show env0 false 2 [] [LD near, patD es] = [.dat (LD near), .dat (patD es)] from rfl]
  simp [g_want_patch, v_want_lines near hn, p, ev_fin_f]
theorem v_cost_of_patch (es : List Ed) (h4 : es.length ≤ 1000) : m_cost_of_patch [] [patD es] = some (.dat (.int (cost es : Nat)), []) := by
  have E1 : wipeE [.dat (patD es), .un, .un] [1, 2] = [.dat (patD es), .un, .un] := rfl
  obtain ⟨e2, c2, k2⟩ := comp_fmap (inp := Ed.D) (p := fun e => !e.isKeep) (out := fun e => nD e.cost) (pat := .tup [.name 1, .name 2]) (t := ct_cost_of_patch_1) (el := ce_cost_of_patch_1) (ys := es) E1 (fun x hx => by
    cases x with
    | keep n => exact ⟨_, rfl, [.dat (patD es), .dat (.str "keep"), .dat (nD n)], by simp [ct_cost_of_patch_1, Ed.isKeep], (fun _ => rfl), (fun hp => nomatch hp)⟩
    | take n => exact ⟨_, rfl, [.dat (patD es), .dat (.str "take"), .dat (nD n)], by simp [ct_cost_of_patch_1, Ed.isKeep], (fun hp => nomatch hp), fun _ => ⟨_, _, by simp [ce_cost_of_patch_1]; exact ⟨rfl, rfl⟩, _, rfl, rfl⟩⟩
    | put ls => exact ⟨_, rfl, [.dat (patD es), .dat (.str "put"), .dat (.tuple (ls.map lnD))], by simp [ct_cost_of_patch_1, Ed.isKeep], (fun hp => nomatch hp), fun _ => ⟨_, _, by simp [ce_cost_of_patch_1]; exact ⟨rfl, rfl⟩, _, rfl, rfl⟩⟩)
  have r2 := rest_all (vs := [1, 2]) (k2.trans E1.symm)
  have u1 := sum_nat Ed.cost (es.filter fun e => !e.isKeep)
  rw [sum_cost] at u1
  have s1 : es.length ≤ szMax := by unfold szMax; omega
  rw [m_cost_of_patch, ev_run, show env0 false 3 [] [patD es] = [.dat (patD es), .un, .un] from rfl]
  simp [g_cost_of_patch, s1, c2, r2, u1, ev_fin_f]
def ent (near : List Ln) (p : Nat) : DL.D := .tuple [((near.map lnD)[p]?).getD .none, nD p]
def newD (x : Ln) : DL.D := .tuple [lnD x, .none]
def trD (near : List Ln) : Nat → List Ed → List DL.D
  | _, [] => []
  | a, .keep n :: es => (List.range' a n).map (ent near) ++ trD near (a + n) es
  | a, .take n :: es => trD near (a + n) es
  | a, .put ls :: es => ls.map newD ++ trD near a es
theorem used_cons {e : Ed} {es : List Ed} : used (e :: es) = e.used + used es := by unfold used; rw [List.map_cons, List.sum_cons]
theorem late_cons {e : Ed} {es : List Ed} : late (e :: es) = e.late + late es := by unfold late; rw [List.map_cons, List.sum_cons]
theorem cost_cons {e : Ed} {es : List Ed} : cost (e :: es) = e.cost + cost es := by unfold cost; rw [List.map_cons, List.sum_cons]
section
variable {near : List Ln}
theorem tr_loop {pd : DL.D} (hn : near.length ≤ 200) : ∀ (es : List Ed) (a : Nat) (F : List DL.D), a + used es ≤ near.length → F.length + late es ≤ 10000 → ∀ s4 s5 s6 s7, ∃ t4 t5 t6 t7,
    forD (.tup [.name 4, .name 5]) lb_trace_of_1 (es.map Ed.D) [.dat (LD near), .dat pd, .own (.list F), .dat (nD a), s4, s5, s6, s7] = some (.nx [.dat (LD near), .dat pd, .own (.list (F ++ trD near a es)), .dat (nD (a + used es)), t4, t5, t6, t7])
  | [], a, F, hu, hl, s4, s5, s6, s7 => ⟨s4, s5, s6, s7, by rw [trD, List.append_nil]; rfl⟩
  | .keep n :: es, a, F, hu, hl, s4, s5, s6, s7 => by
    rw [used_cons] at hu
    rw [late_cons] at hl
    have hu : a + (n + used es) ≤ near.length := hu
    have hl : F.length + (n + late es) ≤ 10000 := hl
    obtain ⟨t4, t5, t6, t7, ih⟩ := tr_loop (pd := pd) hn es (a + n) (F ++ (List.range' a n).map (ent near)) (by omega) (by simp; omega) (.dat (.str "keep")) (.dat (nD n)) s6 s7
    refine ⟨t4, t5, t6, t7, ?_⟩
    have bd : bindP (.tup [.name 4, .name 5]) (Ed.keep n).D [.dat (LD near), .dat pd, .own (.list F), .dat (nD a), s4, s5, s6, s7] = some [.dat (LD near), .dat pd, .own (.list F), .dat (nD a), .dat (.str "keep"), .dat (nD n), s6, s7] := rfl
    rw [List.map_cons, for_cons bd (.inl ?_), ih, trD, used_cons, List.append_assoc, Nat.add_assoc]
    · rfl
    have E1 : wipeE [.dat (LD near), .dat pd, .own (.list F), .dat (nD a), .dat (.str "keep"), .dat (nD n), s6, s7] [7] = [.dat (LD near), .dat pd, .own (.list F), .dat (nD a), .dat (.str "keep"), .dat (nD n), s6, .un] := rfl
    obtain ⟨e1, c1, k1⟩ := comp_map (inp := nD) (out := ent near) (pat := .name 7) (t := dYes) (el := ce_trace_of_2) (ys := List.range' a n) E1 (fun p hp => by
      have hp' : p < near.length := by
        have := (List.mem_range'_1.mp hp).2
        omega
      have g : (near.map lnD)[p]? = some (lnD near[p]) := by rw [List.getElem?_map, List.getElem?_eq_getElem hp']; rfl
      have en : ent near p = .tuple [lnD near[p], nD p] := by unfold ent; rw [g]; rfl
      rw [en]
      exact ⟨_, rfl, _, rfl, _, _, by simp [ce_trace_of_2, atI_k, List.getElem?_eq_getElem hp']; exact ⟨rfl, rfl⟩, _, rfl, rfl⟩)
    have r1 := rest_all (vs := [7]) (k1.trans E1.symm)
    have g1 := rng2_nat (a := a) (n := n) (by omega)
    have s1 : n ≤ szMax := by unfold szMax; omega
    have s2 : F.length + n ≤ szMax := by unfold szMax; omega
    simp [lb_trace_of_1, g1, s1, c1, r1, s2]
  | .take n :: es, a, F, hu, hl, s4, s5, s6, s7 => by
    rw [used_cons] at hu
    rw [late_cons] at hl
    have hu : a + (n + used es) ≤ near.length := hu
    have hl : F.length + (0 + late es) ≤ 10000 := hl
    obtain ⟨t4, t5, t6, t7, ih⟩ := tr_loop (pd := pd) hn es (a + n) F (by omega) (by omega) (.dat (.str "take")) (.dat (nD n)) s6 s7
    refine ⟨t4, t5, t6, t7, ?_⟩
    have bd : bindP (.tup [.name 4, .name 5]) (Ed.take n).D [.dat (LD near), .dat pd, .own (.list F), .dat (nD a), s4, s5, s6, s7] = some [.dat (LD near), .dat pd, .own (.list F), .dat (nD a), .dat (.str "take"), .dat (nD n), s6, s7] := rfl
    rw [List.map_cons, for_cons bd (.inl ?_), ih, trD, used_cons, Nat.add_assoc]
    · rfl
    simp [lb_trace_of_1]
  | .put ls :: es, a, F, hu, hl, s4, s5, s6, s7 => by
    rw [used_cons] at hu
    rw [late_cons] at hl
    have hu : a + (0 + used es) ≤ near.length := hu
    have hl : F.length + (ls.length + late es) ≤ 10000 := hl
    obtain ⟨t4, t5, t6, t7, ih⟩ := tr_loop (pd := pd) hn es a (F ++ ls.map newD) (by omega) (by simp; omega) (.dat (.str "put")) (.dat (.tuple (ls.map lnD))) s6 s7
    refine ⟨t4, t5, t6, t7, ?_⟩
    have bd : bindP (.tup [.name 4, .name 5]) (Ed.put ls).D [.dat (LD near), .dat pd, .own (.list F), .dat (nD a), s4, s5, s6, s7] = some [.dat (LD near), .dat pd, .own (.list F), .dat (nD a), .dat (.str "put"), .dat (.tuple (ls.map lnD)), s6, s7] := rfl
    rw [List.map_cons, for_cons bd (.inr ?_), ih, trD, used_cons, List.append_assoc]
    · rw [show (Ed.put ls).used + used es = used es from Nat.zero_add _]
    have E1 : wipeE [.dat (LD near), .dat pd, .own (.list F), .dat (nD a), .dat (.str "put"), .dat (.tuple (ls.map lnD)), s6, s7] [6] = [.dat (LD near), .dat pd, .own (.list F), .dat (nD a), .dat (.str "put"), .dat (.tuple (ls.map lnD)), .un, s7] := rfl
    obtain ⟨e1, c1, k1⟩ := comp_map (inp := lnD) (out := newD) (pat := .name 6) (t := dYes) (el := ce_trace_of_1) (ys := ls) E1 (fun p hp => by
      exact ⟨_, rfl, _, rfl, _, _, by simp [ce_trace_of_1]; exact ⟨rfl, rfl⟩, _, rfl, rfl⟩)
    have r1 := rest_all (vs := [6]) (k1.trans E1.symm)
    have s1 : ls.length ≤ szMax := by unfold szMax; omega
    have s2 : F.length + ls.length ≤ szMax := by unfold szMax; omega
    simp [lb_trace_of_1, s1, c1, r1, s2]
theorem v_trace_of (hn : near.length ≤ 200) (es : List Ed) (hu : used es ≤ near.length) (hl : late es ≤ 10000) (h4 : es.length ≤ 1000) : m_trace_of [] [LD near, patD es] = some (.own (.list (trD near 0 es)), []) := by
  obtain ⟨t4, t5, t6, t7, h⟩ := tr_loop (pd := patD es) hn es 0 [] (by omega) (by simp; omega) .un .un .un .un
  rw [m_trace_of, ev_run, show env0 false 8 [] [LD near, patD es] = [.dat (LD near), .dat (patD es), .un, .un, .un, .un, .un, .un] from rfl]
  have h : forD (.tup [.name 4, .name 5]) lb_trace_of_1 (es.map Ed.D) [.dat (LD near), .dat (patD es), .own (.list []), .dat (.int 0), .un, .un, .un, .un] = some (.nx [.dat (LD near), .dat (patD es), .own (.list (trD near 0 es)), .dat (nD (0 + used es)), t4, t5, t6, t7]) := h
  simp [g_trace_of, h, ev_fin_f]
def fstD : DL.D → DL.D
  | .tuple (x :: _) => x
  | d => d
theorem tr_shape (hn : near.length ≤ 200) : ∀ (es : List Ed) (a : Nat), a + used es ≤ near.length → (∀ x ∈ trD near a es, ∃ l d, x = .tuple [lnD l, d]) ∧ (trD near a es).map fstD = (run (near.drop a) es).map lnD
  | [], a, hu => ⟨(fun x hx => nomatch hx), rfl⟩
  | .keep n :: es, a, hu => by
    rw [used_cons] at hu
    have hu : a + (n + used es) ≤ near.length := hu
    obtain ⟨h1, h2⟩ := tr_shape hn es (a + n) (by omega)
    rw [trD, run]
    have key : ∀ (k a : Nat), a + k ≤ near.length → (∀ x ∈ (List.range' a k).map (ent near), ∃ l d, x = .tuple [lnD l, d]) ∧ ((List.range' a k).map (ent near)).map fstD = ((near.drop a).take k).map lnD := fun k => by
      induction k with
      | zero => exact fun a _ => ⟨(fun x hx => nomatch hx), by rw [List.take_zero]; rfl⟩
      | succ k ih =>
        intro a ha
        obtain ⟨i1, i2⟩ := ih (a + 1) (by omega)
        have hp' : a < near.length := by omega
        have g : (near.map lnD)[a]? = some (lnD near[a]) := by rw [List.getElem?_map, List.getElem?_eq_getElem hp']; rfl
        have en : ent near a = .tuple [lnD near[a], nD a] := by unfold ent; rw [g]; rfl
        rw [List.range'_succ, List.map_cons, en]
        refine ⟨fun x hx => ?_, ?_⟩
        · rcases List.mem_cons.mp hx with rfl | hx
          · exact ⟨_, _, rfl⟩
          · exact i1 x hx
        · rw [List.map_cons, i2, List.drop_eq_getElem_cons hp', List.take_succ_cons, List.map_cons]; rfl
    obtain ⟨k1, k2⟩ := key n a (by omega)
    refine ⟨fun x hx => ?_, ?_⟩
    · rcases List.mem_append.mp hx with hx | hx
      · exact k1 x hx
      · exact h1 x hx
    · rw [List.map_append, k2, h2, List.map_append, List.drop_drop]
  | .take n :: es, a, hu => by
    rw [used_cons] at hu
    have hu : a + (n + used es) ≤ near.length := hu
    obtain ⟨h1, h2⟩ := tr_shape hn es (a + n) (by omega)
    rw [trD, run]
    exact ⟨h1, by rw [h2, List.drop_drop]⟩
  | .put ls :: es, a, hu => by
    rw [used_cons] at hu
    have hu : a + (0 + used es) ≤ near.length := hu
    obtain ⟨h1, h2⟩ := tr_shape hn es a (by omega)
    rw [trD, run]
    refine ⟨fun x hx => ?_, ?_⟩
    · rcases List.mem_append.mp hx with hx | hx
      · obtain ⟨l, _, rfl⟩ := List.mem_map.mp hx
        exact ⟨l, .none, rfl⟩
      · exact h1 x hx
    · rw [List.map_append, h2, List.map_append, List.map_map]; rfl
theorem tr_len : ∀ (es : List Ed) (a : Nat), (trD near a es).length = late es
  | [], a => rfl
  | .keep n :: es, a => by rw [trD, List.length_append, List.length_map, List.length_range', tr_len es, late_cons]; rfl
  | .take n :: es, a => by rw [trD, tr_len es, late_cons]; exact (Nat.zero_add _).symm
  | .put ls :: es, a => by rw [trD, List.length_append, List.length_map, tr_len es, late_cons]; rfl
theorem v_lines_patched (hn : near.length ≤ 200) (es : List Ed) (hu : used es ≤ near.length) (hl : late es ≤ 10000) (h4 : es.length ≤ 1000) : m_lines_patched [] [LD near, patD es] = some (.own (LD (run near es)), []) := by
  have v := v_trace_of hn es hu hl h4
  obtain ⟨h1, h2⟩ := tr_shape hn es 0 (by omega)
  have E1 : wipeE [.dat (LD near), .dat (patD es), .un, .un] [2, 3] = [.dat (LD near), .dat (patD es), .un, .un] := rfl
  obtain ⟨e1, c1, k1⟩ := comp_pure (pat := .tup [.name 2, .name 3]) (t := dYes) (el := ce_lines_patched_1) (f := fstD) (xs := trD near 0 es) E1 (fun x hx => by
    obtain ⟨l, d, rfl⟩ := h1 x hx
    exact ⟨_, rfl, _, rfl, _, _, by simp [ce_lines_patched_1]; exact ⟨rfl, rfl⟩, _, rfl, rfl⟩)
  rw [h2] at c1
  have r1 := rest_all (vs := [2, 3]) (k1.trans E1.symm)
  have s1 : (trD near 0 es).length ≤ szMax := by rw [tr_len]; unfold szMax; omega
  rw [m_lines_patched, ev_run, show env0 false 4 [] [LD near, patD es] = [.dat (LD near), .dat (patD es), .un, .un] from rfl]
  simp [g_lines_patched, v, s1, c1, r1, ev_fin_f]
end
section
variable {near far : List Ln}
theorem v_patched (hn : near.length ≤ 200) {es : List Ed} (h : ∀ e ∈ es, e.ok) (h4 : es.length ≤ 400) (hu : used es = near.length) (hl : late es ≤ 200) :
    m_patched [] [LD near, patD es] = some (.own (LD (run near es)), []) := by
  have vw := v_want_patch near es h h4 hn hu hl
  have vl := v_lines_patched hn es (by omega) (by omega) (by omega)
  rw [m_patched, ev_run, show env0 false 2 [] [LD near, patD es] = [.dat (LD near), .dat (patD es)] from rfl]
  simp [g_patched, vw, vl, ev_fin_f]
theorem v_patch_cost (hn : near.length ≤ 200) {es : List Ed} (h : ∀ e ∈ es, e.ok) (h4 : es.length ≤ 400) (hu : used es = near.length) (hl : late es ≤ 200) :
    m_patch_cost [] [LD near, patD es] = some (.dat (.int (cost es : Nat)), []) := by
  have vw := v_want_patch near es h h4 hn hu hl
  have vc := v_cost_of_patch es (by omega)
  rw [m_patch_cost, ev_run, show env0 false 2 [] [LD near, patD es] = [.dat (LD near), .dat (patD es)] from rfl]
  simp [g_patch_cost, vw, vc, ev_fin_f]
end
end K72
namespace K72
open PySem PySem.Spec PyProof.Rows L2 DL
theorem run_app : ∀ (a b : List Ed) (r : List Ln), run r (a ++ b) = run r a ++ run (r.drop (used a)) b
  | [], b, r => by rw [List.nil_append, run]; rfl
  | .keep n :: a, b, r => by rw [List.cons_append, run, run, run_app a b, used_cons, List.append_assoc, List.drop_drop]; rfl
  | .take n :: a, b, r => by rw [List.cons_append, run, run, run_app a b, used_cons, List.drop_drop]; rfl
  | .put l :: a, b, r => by rw [List.cons_append, run, run, run_app a b, used_cons, List.append_assoc, show (Ed.put l).used + used a = used a from Nat.zero_add _]
theorem used_app (a b : List Ed) : used (a ++ b) = used a + used b := by unfold used; rw [List.map_append, List.sum_append]
theorem late_app (a b : List Ed) : late (a ++ b) = late a + late b := by unfold late; rw [List.map_append, List.sum_append]
theorem cost_app (a b : List Ed) : cost (a ++ b) = cost a + cost b := by unfold cost; rw [List.map_append, List.sum_append]
def join : Ed → Ed → Option Ed
  | .keep a, .keep b => some (.keep (a + b))
  | .take a, .take b => some (.take (a + b))
  | .put a, .put b => some (.put (a ++ b))
  | _, _ => none
theorem ok_join {x y z : Ed} (h : join x y = some z) (hx : x.ok) (hy : y.ok) (hl : x.late + y.late ≤ 1000) : z.ok := by
  cases x <;> cases y <;> cases h
  · exact Nat.add_pos_left hx _
  · exact Nat.add_pos_left hx _
  · exact ⟨fun q => hx.1 (List.append_eq_nil_iff.mp q).1, by rw [List.length_append]; exact hl⟩
theorem late_mem {e : Ed} {es : List Ed} (h : e ∈ es) : e.late ≤ late es := by
  induction es with
  | nil => cases h
  | cons x es ih =>
    rw [late_cons]
    rcases List.mem_cons.mp h with rfl | h
    · omega
    · have := ih h; omega
def Ed.word : Ed → Str
  | .keep _ => "keep"
  | .take _ => "take"
  | .put _ => "put"
def Ed.told : Ed → DL.D
  | .keep n => nD n
  | .take n => nD n
  | .put ls => .tuple (ls.map lnD)
theorem ed_D (e : Ed) : e.D = .tuple [.str e.word, e.told] := by cases e <;> rfl
theorem join_same {l e : Ed} (h : eqD (.str l.word) (.str e.word) = some (.dat (.bool true))) (hl : l.late + e.late ≤ 1000) : ∃ z, join l e = some z ∧ ∃ d, addD l.told e.told = some (.dat d) ∧ z.D = .tuple [.str e.word, d] := by
  cases l <;> cases e <;> simp [Ed.word] at h
  · exact ⟨_, rfl, _, rfl, rfl⟩
  · exact ⟨_, rfl, _, rfl, rfl⟩
  · rename_i a b
    have : a.length + b.length ≤ 1000 := hl
    refine ⟨_, rfl, .tuple (a.map lnD ++ b.map lnD), ?_, ?_⟩
    · simp [Ed.told]
      unfold szMax; omega
    · simp [Ed.D, Ed.word]
theorem eq_words (l e : Ed) : ∃ b, eqD (.str l.word) (.str e.word) = some (.dat (.bool b)) := by
  cases l <;> cases e <;> simp [Ed.word]
theorem ne_none {acc : List Ed} : neD (.list (acc.map Ed.D)) (.list []) = some (.dat (.bool (!acc.isEmpty))) := by
  have z := ne_neat (neat_list neat_ed acc) (neat_list neat_ed []) (by decide) (by decide)
  rw [PyData.eqv] at z
  cases acc with
  | nil => exact z
  | cons x xs => exact z
abbrev Tc := List (Ln × Option Nat)
def tD : Ln × Option Nat → DL.D
  | (x, none) => .tuple [lnD x, .none]
  | (x, some p) => .tuple [lnD x, nD p]
inductive OkB (near : List Ln) : Nat → Nat → Tc → Prop
  | nil {lo hi : Nat} : OkB near lo hi []
  | new {lo hi : Nat} {x : Ln} {τ : Tc} : OkB near lo hi τ → OkB near lo hi ((x, none) :: τ)
  | old {lo hi p : Nat} {x : Ln} {τ : Tc} : lo ≤ p → p < hi → near[p]? = some x → OkB near (p + 1) hi τ → OkB near lo hi ((x, some p) :: τ)
def kept (τ : Tc) : Nat := (τ.filter fun e => e.2.isSome).length
theorem kept_app (a b : Tc) : kept (a ++ b) = kept a + kept b := by unfold kept; rw [List.filter_append, List.length_append]
def tk (a p : Nat) : List Ed := if a < p then [.take (p - a)] else []
def pu (new : List Ln) : List Ed := if new = [] then [] else [.put new]
def kp (p n : Nat) : List Ed := if p < n then [.keep 1] else []
def ptE (n : Nat) : Nat → List Ln → Tc → List Ed
  | a, new, [] => tk a n ++ pu new
  | a, new, (x, none) :: τ => ptE n a (new ++ [x]) τ
  | a, new, (_, some p) :: τ => tk a p ++ pu new ++ [.keep 1] ++ ptE n (p + 1) [] τ
theorem po_step {n p a : Nat} {td dx : DL.D} {E : List DL.D} {new : List Ln} (hE : E.length ≤ 5000) (hs : ∃ x : Str, dx = .str x) {s5 s6 : Sl} :
    lb_patch_of_trace_1 [.dat (nD n), .dat td, .own (.list E), .dat (nD a), .own (LD new), .dat dx, .dat (nD p)] = some (.nx [.dat (nD n), .dat td, .own (.list (E ++ (tk a p ++ pu new ++ kp p n).map Ed.D)), .dat (nD (p + 1)), .own (.list []), .dat dx, .dat (nD p)]) := by
  have z0 : E.length ≤ szMax := by unfold szMax; omega
  have z1 : E.length + 1 ≤ szMax := by unfold szMax; omega
  have z2 : E.length + 1 + 1 ≤ szMax := by unfold szMax; omega
  have z3 : E.length + 1 + 1 + 1 ≤ szMax := by unfold szMax; omega
  have y2 : E.length + 2 ≤ szMax := by unfold szMax; omega
  have y3 : E.length + 3 ≤ szMax := by unfold szMax; omega
  have isn : isNone (nD p) = false := rfl
  unfold tk pu kp
  by_cases h1 : a < p
  · have e1 : ((p - a : Nat) : Int) = (p : Int) - (a : Int) := by omega
    by_cases h2 : new = []
    · subst h2
      by_cases h3 : p < n <;> simp [lb_patch_of_trace_1, isn, h1, h3, z0, z1, z2, z3, y2, y3, Ed.D, e1]
    · by_cases h3 : p < n <;> simp [lb_patch_of_trace_1, isn, h1, h2, h3, z0, z1, z2, z3, y2, y3, Ed.D, e1]
  · by_cases h2 : new = []
    · subst h2
      by_cases h3 : p < n <;> simp [lb_patch_of_trace_1, isn, h1, h3, z0, z1, z2, z3, y2, y3, Ed.D]
    · by_cases h3 : p < n <;> simp [lb_patch_of_trace_1, isn, h1, h2, h3, z0, z1, z2, z3, y2, y3, Ed.D]
theorem po_new {n a : Nat} {td : DL.D} {ed : Sl} {new : List Ln} {x : Ln} (h : new.length ≤ 1000) :
    lb_patch_of_trace_1 [.dat (nD n), .dat td, ed, .dat (nD a), .own (LD new), .dat (lnD x), .dat .none] = some (.ct [.dat (nD n), .dat td, ed, .dat (nD a), .own (LD (new ++ [x])), .dat (lnD x), .dat .none]) := by
  have isn : isNone .none = true := rfl
  have z : new.length < szMax := by unfold szMax; omega
  simp [lb_patch_of_trace_1, isn, z]
theorem len_tk (a p : Nat) : (tk a p).length ≤ 1 := by unfold tk; split <;> simp
theorem len_pu (new : List Ln) : (pu new).length ≤ 1 := by unfold pu; split <;> simp
theorem po_loop {near : List Ln} {td : DL.D} {lo hi : Nat} {τ : Tc} (h : OkB near lo hi τ) : ∀ (a : Nat) (new : List Ln) (E : List DL.D), lo = a → hi = near.length → E.length + 4 * τ.length ≤ 4000 → new.length + τ.length ≤ 1000 → ∀ s5 s6, ∃ t3 t4 t5 t6,
    forD (.tup [.name 5, .name 6]) lb_patch_of_trace_1 (τ.map tD ++ [.tuple [.str "", nD near.length]]) [.dat (nD near.length), .dat td, .own (.list E), .dat (nD a), .own (LD new), s5, s6]
      = some (.nx [.dat (nD near.length), .dat td, .own (.list (E ++ (ptE near.length a new τ).map Ed.D)), t3, t4, t5, t6]) := by
  induction h with
  | nil =>
    intro a new E _ _ hE hw s5 s6
    have bd : bindP (.tup [.name 5, .name 6]) (.tuple [.str "", nD near.length]) [.dat (nD near.length), .dat td, .own (.list E), .dat (nD a), .own (LD new), s5, s6] = some [.dat (nD near.length), .dat td, .own (.list E), .dat (nD a), .own (LD new), .dat (.str ""), .dat (nD near.length)] := rfl
    refine ⟨.dat (nD (near.length + 1)), .own (.list []), .dat (.str ""), .dat (nD near.length), ?_⟩
    rw [List.map_nil, List.nil_append, for_cons bd (.inl (po_step (by omega) ⟨_, rfl⟩ (s5 := .un) (s6 := .un))), for_nil]
    rw [show kp near.length near.length = [] by unfold kp; simp, List.append_nil]
    rfl
  | @new lo hi x τ _ ih =>
    intro a new E ea eh hE hw s5 s6
    rw [List.length_cons] at hE hw
    obtain ⟨t3, t4, t5, t6, h1⟩ := ih a (new ++ [x]) E ea eh (by omega) (by simp; omega) (.dat (lnD x)) (.dat .none)
    refine ⟨t3, t4, t5, t6, ?_⟩
    have bd : bindP (.tup [.name 5, .name 6]) (tD (x, none)) [.dat (nD near.length), .dat td, .own (.list E), .dat (nD a), .own (LD new), s5, s6] = some [.dat (nD near.length), .dat td, .own (.list E), .dat (nD a), .own (LD new), .dat (lnD x), .dat .none] := rfl
    rw [List.map_cons, List.cons_append, for_cons bd (.inr (po_new (by omega))), h1]
    rfl
  | @old lo hi p x τ hl hp hx _ ih =>
    intro a new E ea eh hE hw s5 s6
    rw [List.length_cons] at hE hw
    have l1 := len_tk a p
    have l2 := len_pu new
    obtain ⟨t3, t4, t5, t6, h1⟩ := ih (p + 1) [] (E ++ (tk a p ++ pu new ++ [Ed.keep 1]).map Ed.D) rfl eh (by simp; omega) (by simp; omega) (.dat (lnD x)) (.dat (nD p))
    refine ⟨t3, t4, t5, t6, ?_⟩
    have bd : bindP (.tup [.name 5, .name 6]) (tD (x, some p)) [.dat (nD near.length), .dat td, .own (.list E), .dat (nD a), .own (LD new), s5, s6] = some [.dat (nD near.length), .dat td, .own (.list E), .dat (nD a), .own (LD new), .dat (lnD x), .dat (nD p)] := rfl
    have st := po_step (n := near.length) (p := p) (a := a) (td := td) (dx := lnD x) (E := E) (new := new) (by omega) ⟨_, rfl⟩ (s5 := .un) (s6 := .un)
    rw [show kp p near.length = [.keep 1] by unfold kp; rw [if_pos (by omega)]] at st
    rw [List.map_cons, List.cons_append, for_cons bd (.inl st)]
    have h1 : forD (.tup [.name 5, .name 6]) lb_patch_of_trace_1 (τ.map tD ++ [.tuple [.str "", nD near.length]]) [.dat (nD near.length), .dat td, .own (.list (E ++ (tk a p ++ pu new ++ [Ed.keep 1]).map Ed.D)), .dat (nD (p + 1)), .own (.list []), .dat (lnD x), .dat (nD p)] = _ := h1
    rw [h1, ptE, List.append_assoc, ← List.map_append]
theorem used_tk {a p : Nat} (h : a ≤ p) : used (tk a p) = p - a := by
  unfold tk used
  split <;> simp [Ed.used] <;> omega
theorem used_pu (new : List Ln) : used (pu new) = 0 := by unfold pu used; split <;> simp [Ed.used]
theorem late_tk {a p : Nat} : late (tk a p) = 0 := by unfold tk late; split <;> simp [Ed.late]
theorem late_pu (new : List Ln) : late (pu new) = new.length := by
  unfold pu late
  split
  · rename_i h; subst h; rfl
  · simp [Ed.late]
theorem cost_tk {a p : Nat} (h : a ≤ p) : cost (tk a p) = p - a := by unfold tk cost; split <;> simp [Ed.cost] <;> omega
theorem cost_pu (new : List Ln) : cost (pu new) = new.length := by
  unfold pu cost
  split
  · rename_i h; subst h; rfl
  · simp [Ed.cost]
theorem run_tk {a p : Nat} (r : List Ln) : run r (tk a p) = [] := by unfold tk; split <;> simp [run]
theorem run_pu (new : List Ln) (r : List Ln) : run r (pu new) = new := by
  unfold pu
  split
  · rename_i h; subst h; rfl
  · simp [run]
theorem ok_tk {a p : Nat} : ∀ e ∈ tk a p, e.ok := by
  unfold tk
  intro e he
  split at he
  · rw [List.mem_singleton.mp he]; exact (by show 0 < p - a; omega)
  · cases he
theorem ok_pu {new : List Ln} (h : new.length ≤ 1000) : ∀ e ∈ pu new, e.ok := by
  unfold pu
  intro e he
  split at he
  · cases he
  · rename_i k
    rw [List.mem_singleton.mp he]; exact ⟨k, h⟩
theorem pt_facts {near : List Ln} {lo hi : Nat} {τ : Tc} (h : OkB near lo hi τ) : ∀ (a : Nat) (new : List Ln), lo = a → hi = near.length → a ≤ near.length → new.length + τ.length ≤ 1000 →
    used (ptE near.length a new τ) = near.length - a ∧ late (ptE near.length a new τ) = new.length + τ.length ∧ cost (ptE near.length a new τ) + 2 * kept τ = (near.length - a) + new.length + τ.length ∧
    run (near.drop a) (ptE near.length a new τ) = new ++ τ.map (·.1) ∧ (∀ e ∈ ptE near.length a new τ, e.ok) ∧ (ptE near.length a new τ).length ≤ 2 + 3 * τ.length := by
  induction h with
  | nil =>
    intro a new ea eh ha hw
    rw [ptE]
    have l1 := len_tk a near.length
    have l2 := len_pu new
    refine ⟨by rw [used_app, used_tk ha, used_pu]; rfl, by rw [late_app, late_tk, late_pu]; simp, by rw [cost_app, cost_tk ha, cost_pu]; simp [kept], by rw [run_app, run_tk, run_pu]; simp, ?_, by simp; omega⟩
    intro e he
    rcases List.mem_append.mp he with he | he
    · exact ok_tk e he
    · exact ok_pu (by simpa using hw) e he
  | @new lo hi x τ _ ih =>
    intro a new ea eh ha hw
    rw [List.length_cons] at hw
    obtain ⟨h1, h2, h3, h4, h5, h6⟩ := ih a (new ++ [x]) ea eh ha (by simp; omega)
    rw [ptE]
    rw [List.length_append, List.length_singleton] at h2 h3
    refine ⟨h1, by rw [h2, List.length_cons]; omega, ?_, by rw [h4, List.append_assoc]; rfl, h5, by rw [List.length_cons]; omega⟩
    rw [show kept ((x, none) :: τ) = kept τ from rfl, List.length_cons]
    omega
  | @old lo hi p x τ hl hp hx _ ih =>
    intro a new ea eh ha hw
    rw [List.length_cons] at hw
    subst eh
    obtain ⟨h1, h2, h3, h4, h5, h6⟩ := ih (p + 1) [] rfl rfl hp (by simp; omega)
    have ap : a ≤ p := by omega
    have l1 := len_tk a p
    have l2 := len_pu new
    have u1 : used [Ed.keep 1] = 1 := rfl
    have u2 : late [Ed.keep 1] = 1 := rfl
    have u3 : cost [Ed.keep 1] = 0 := rfl
    simp at h2 h3 h4
    rw [ptE]
    refine ⟨by rw [used_app, used_app, used_app, used_tk ap, used_pu, h1, u1]; omega, by rw [late_app, late_app, late_app, late_tk, late_pu, h2, u2, List.length_cons]; omega, ?_, ?_, ?_, by simp; omega⟩
    · rw [cost_app, cost_app, cost_app, cost_tk ap, cost_pu, u3, List.length_cons, show kept ((x, some p) :: τ) = kept τ + 1 from rfl]
      omega
    · have us : used (tk a p ++ pu new) = p - a := by rw [used_app, used_tk ap, used_pu]; rfl
      have us2 : used (tk a p ++ pu new ++ [Ed.keep 1]) = p - a + 1 := by rw [used_app, us, u1]
      rw [run_app, run_app, run_app, run_tk, run_pu, us, us2, List.drop_drop, List.drop_drop, show a + (p - a + 1) = p + 1 by omega, h4, show a + (p - a) = p by omega]
      have : run (near.drop p) [Ed.keep 1] = [x] := by
        have hp' : p < near.length := hp
        rw [List.getElem?_eq_getElem hp'] at hx
        cases hx
        rw [List.drop_eq_getElem_cons hp', run, run]
        rfl
      rw [this]
      simp
    · intro e he
      rcases List.mem_append.mp he with he | he
      · rcases List.mem_append.mp he with he | he
        · rcases List.mem_append.mp he with he | he
          · exact ok_tk e he
          · exact ok_pu (by omega) e he
        · rw [List.mem_singleton.mp he]; exact Nat.one_pos
      · exact h5 e he
/-! ### marks -/
inductive Mk where
  | keep (x : Ln) | take (x : Ln) | put (x : Ln)
deriving DecidableEq
def ahead : List Mk → List Ln
  | [] => []
  | .keep x :: m => x :: ahead m
  | .take x :: m => x :: ahead m
  | .put _ :: m => ahead m
def behind : List Mk → List Ln
  | [] => []
  | .keep x :: m => x :: behind m
  | .take _ :: m => behind m
  | .put x :: m => x :: behind m
def tr : Nat → List Mk → Tc
  | _, [] => []
  | p, .keep x :: m => (x, some p) :: tr (p + 1) m
  | p, .take _ :: m => tr (p + 1) m
  | p, .put x :: m => (x, none) :: tr p m
def Mk.turn : Mk → Mk
  | .keep x => .keep x
  | .take x => .put x
  | .put x => .take x
def turned (m : List Mk) : List Mk := m.map Mk.turn
def keeps : List Mk → Nat
  | [] => 0
  | .keep _ :: m => keeps m + 1
  | .take _ :: m => keeps m
  | .put _ :: m => keeps m
def takes : List Mk → Nat
  | [] => 0
  | .keep _ :: m => takes m
  | .take _ :: m => takes m + 1
  | .put _ :: m => takes m
def puts : List Mk → Nat
  | [] => 0
  | .keep _ :: m => puts m
  | .take _ :: m => puts m
  | .put _ :: m => puts m + 1
theorem ahead_app : ∀ a b : List Mk, ahead (a ++ b) = ahead a ++ ahead b
  | [], b => rfl
  | .keep x :: a, b => by rw [List.cons_append, ahead, ahead, ahead_app a b]; rfl
  | .take x :: a, b => by rw [List.cons_append, ahead, ahead, ahead_app a b]; rfl
  | .put x :: a, b => by rw [List.cons_append, ahead, ahead, ahead_app a b]
theorem behind_app : ∀ a b : List Mk, behind (a ++ b) = behind a ++ behind b
  | [], b => rfl
  | .keep x :: a, b => by rw [List.cons_append, behind, behind, behind_app a b]; rfl
  | .take x :: a, b => by rw [List.cons_append, behind, behind, behind_app a b]
  | .put x :: a, b => by rw [List.cons_append, behind, behind, behind_app a b]; rfl
theorem tr_app : ∀ (a b : List Mk) (p : Nat), tr p (a ++ b) = tr p a ++ tr (p + (ahead a).length) b
  | [], b, p => rfl
  | .keep x :: a, b, p => by rw [List.cons_append, tr, tr, tr_app a b, ahead, List.length_cons, List.cons_append, show p + 1 + (ahead a).length = p + ((ahead a).length + 1) by omega]
  | .take x :: a, b, p => by rw [List.cons_append, tr, tr, tr_app a b, ahead, List.length_cons, show p + 1 + (ahead a).length = p + ((ahead a).length + 1) by omega]
  | .put x :: a, b, p => by rw [List.cons_append, tr, tr, tr_app a b, ahead, List.cons_append]
theorem trm_len : ∀ (m : List Mk) (p : Nat), (tr p m).length = (behind m).length
  | [], p => rfl
  | .keep x :: m, p => by rw [tr, behind, List.length_cons, List.length_cons, trm_len m]
  | .take x :: m, p => by rw [tr, behind, trm_len m]
  | .put x :: m, p => by rw [tr, behind, List.length_cons, List.length_cons, trm_len m]
theorem tr_fst : ∀ (m : List Mk) (p : Nat), (tr p m).map (·.1) = behind m
  | [], p => rfl
  | .keep x :: m, p => by rw [tr, behind, List.map_cons, tr_fst m]
  | .take x :: m, p => by rw [tr, behind, tr_fst m]
  | .put x :: m, p => by rw [tr, behind, List.map_cons, tr_fst m]
theorem ahead_turned : ∀ m : List Mk, ahead (turned m) = behind m
  | [] => rfl
  | .keep x :: m => congrArg (x :: ·) (ahead_turned m)
  | .take x :: m => ahead_turned m
  | .put x :: m => congrArg (x :: ·) (ahead_turned m)
theorem behind_turned : ∀ m : List Mk, behind (turned m) = ahead m
  | [] => rfl
  | .keep x :: m => congrArg (x :: ·) (behind_turned m)
  | .take x :: m => congrArg (x :: ·) (behind_turned m)
  | .put x :: m => behind_turned m
theorem turned_turned : ∀ m : List Mk, turned (turned m) = m
  | [] => rfl
  | .keep x :: m => congrArg (Mk.keep x :: ·) (turned_turned m)
  | .take x :: m => congrArg (Mk.take x :: ·) (turned_turned m)
  | .put x :: m => congrArg (Mk.put x :: ·) (turned_turned m)
theorem len_ahead : ∀ m : List Mk, (ahead m).length = keeps m + takes m
  | [] => rfl
  | .keep x :: m => by rw [ahead, List.length_cons, len_ahead m, keeps, takes]; omega
  | .take x :: m => by rw [ahead, List.length_cons, len_ahead m, keeps, takes]; omega
  | .put x :: m => by rw [ahead, len_ahead m, keeps, takes]
theorem len_behind : ∀ m : List Mk, (behind m).length = keeps m + puts m
  | [] => rfl
  | .keep x :: m => by rw [behind, List.length_cons, len_behind m, keeps, puts]; omega
  | .take x :: m => by rw [behind, len_behind m, keeps, puts]
  | .put x :: m => by rw [behind, List.length_cons, len_behind m, keeps, puts]; omega
theorem kept_tr : ∀ (m : List Mk) (p : Nat), kept (tr p m) = keeps m
  | [], p => rfl
  | .keep x :: m, p => by rw [tr, keeps, ← kept_tr m (p + 1)]; simp [kept]
  | .take x :: m, p => by rw [tr, keeps, ← kept_tr m (p + 1)]
  | .put x :: m, p => by rw [tr, keeps, ← kept_tr m p]; simp [kept]
/-! ### what edits stand for -/
def expand : List Ln → List Ed → List Mk
  | _, [] => []
  | r, .keep n :: es => (r.take n).map .keep ++ expand (r.drop n) es
  | r, .take n :: es => (r.take n).map .take ++ expand (r.drop n) es
  | r, .put ls :: es => ls.map .put ++ expand r es
theorem ahead_keeps (l : List Ln) : ahead (l.map .keep) = l := by induction l with
  | nil => rfl
  | cons x l ih => rw [List.map_cons, ahead, ih]
theorem ahead_takes (l : List Ln) : ahead (l.map .take) = l := by induction l with
  | nil => rfl
  | cons x l ih => rw [List.map_cons, ahead, ih]
theorem ahead_puts (l : List Ln) : ahead (l.map .put) = [] := by induction l with
  | nil => rfl
  | cons x l ih => rw [List.map_cons, ahead, ih]
theorem behind_keeps (l : List Ln) : behind (l.map .keep) = l := by induction l with
  | nil => rfl
  | cons x l ih => rw [List.map_cons, behind, ih]
theorem behind_takes (l : List Ln) : behind (l.map .take) = [] := by induction l with
  | nil => rfl
  | cons x l ih => rw [List.map_cons, behind, ih]
theorem behind_puts (l : List Ln) : behind (l.map .put) = l := by induction l with
  | nil => rfl
  | cons x l ih => rw [List.map_cons, behind, ih]
theorem used_cons' {e : Ed} {es : List Ed} : used (e :: es) = e.used + used es := by unfold used; rw [List.map_cons, List.sum_cons]
theorem late_cons' {e : Ed} {es : List Ed} : late (e :: es) = e.late + late es := by unfold late; rw [List.map_cons, List.sum_cons]
theorem cost_cons' {e : Ed} {es : List Ed} : cost (e :: es) = e.cost + cost es := by unfold cost; rw [List.map_cons, List.sum_cons]
theorem ahead_expand : ∀ (es : List Ed) (r : List Ln), ahead (expand r es) = r.take (used es)
  | [], r => by rw [expand]; rfl
  | .keep n :: es, r => by rw [expand, ahead_app, ahead_keeps, ahead_expand es, used_cons', Ed.used, List.take_add]
  | .take n :: es, r => by rw [expand, ahead_app, ahead_takes, ahead_expand es, used_cons', Ed.used, List.take_add]
  | .put l :: es, r => by rw [expand, ahead_app, ahead_puts, ahead_expand es, used_cons', Ed.used, Nat.zero_add]; rfl
theorem behind_expand : ∀ (es : List Ed) (r : List Ln), behind (expand r es) = run r es
  | [], r => by rw [expand]; rfl
  | .keep n :: es, r => by rw [expand, behind_app, behind_keeps, behind_expand es, run]
  | .take n :: es, r => by rw [expand, behind_app, behind_takes, behind_expand es, run]; rfl
  | .put l :: es, r => by rw [expand, behind_app, behind_puts, behind_expand es, run]
theorem expand_app : ∀ (a b : List Ed) (r : List Ln), expand r (a ++ b) = expand r a ++ expand (r.drop (used a)) b
  | [], b, r => by rw [List.nil_append, expand]; rfl
  | .keep n :: a, b, r => by rw [List.cons_append, expand, expand, expand_app a b, used_cons', List.append_assoc, List.drop_drop]; rfl
  | .take n :: a, b, r => by rw [List.cons_append, expand, expand, expand_app a b, used_cons', List.append_assoc, List.drop_drop]; rfl
  | .put l :: a, b, r => by rw [List.cons_append, expand, expand, expand_app a b, used_cons', List.append_assoc, show (Ed.put l).used + used a = used a from Nat.zero_add _]
theorem keeps_app : ∀ a b : List Mk, keeps (a ++ b) = keeps a + keeps b
  | [], b => (Nat.zero_add _).symm
  | .keep x :: a, b => by rw [List.cons_append, keeps, keeps, keeps_app a b]; omega
  | .take x :: a, b => by rw [List.cons_append, keeps, keeps, keeps_app a b]
  | .put x :: a, b => by rw [List.cons_append, keeps, keeps, keeps_app a b]
theorem takes_app : ∀ a b : List Mk, takes (a ++ b) = takes a + takes b
  | [], b => (Nat.zero_add _).symm
  | .keep x :: a, b => by rw [List.cons_append, takes, takes, takes_app a b]
  | .take x :: a, b => by rw [List.cons_append, takes, takes, takes_app a b]; omega
  | .put x :: a, b => by rw [List.cons_append, takes, takes, takes_app a b]
theorem puts_app : ∀ a b : List Mk, puts (a ++ b) = puts a + puts b
  | [], b => (Nat.zero_add _).symm
  | .keep x :: a, b => by rw [List.cons_append, puts, puts, puts_app a b]
  | .take x :: a, b => by rw [List.cons_append, puts, puts, puts_app a b]
  | .put x :: a, b => by rw [List.cons_append, puts, puts, puts_app a b]; omega
theorem tp_keeps (l : List Ln) : takes (l.map .keep) = 0 ∧ puts (l.map .keep) = 0 := by induction l with
  | nil => exact ⟨rfl, rfl⟩
  | cons x l ih => rw [List.map_cons, takes, puts]; exact ih
theorem tp_takes (l : List Ln) : takes (l.map .take) = l.length ∧ puts (l.map .take) = 0 := by induction l with
  | nil => exact ⟨rfl, rfl⟩
  | cons x l ih => rw [List.map_cons, takes, puts, List.length_cons]; exact ⟨by rw [ih.1], ih.2⟩
theorem tp_puts (l : List Ln) : takes (l.map .put) = 0 ∧ puts (l.map .put) = l.length := by induction l with
  | nil => exact ⟨rfl, rfl⟩
  | cons x l ih => rw [List.map_cons, takes, puts, List.length_cons]; exact ⟨ih.1, by rw [ih.2]⟩
theorem cost_expand : ∀ (es : List Ed) (r : List Ln), used es ≤ r.length → cost es = takes (expand r es) + puts (expand r es)
  | [], r, _ => rfl
  | .keep n :: es, r, h => by
    rw [used_cons', Ed.used] at h
    rw [expand, cost_cons', takes_app, puts_app, (tp_keeps _).1, (tp_keeps _).2, cost_expand es (r.drop n) (by rw [List.length_drop]; omega), Ed.cost]; omega
  | .take n :: es, r, h => by
    rw [used_cons', Ed.used] at h
    rw [expand, cost_cons', takes_app, puts_app, (tp_takes _).1, (tp_takes _).2, cost_expand es (r.drop n) (by rw [List.length_drop]; omega), Ed.cost, List.length_take]; omega
  | .put l :: es, r, h => by
    rw [used_cons', Ed.used] at h
    rw [expand, cost_cons', takes_app, puts_app, (tp_puts _).1, (tp_puts _).2, cost_expand es r (by omega), Ed.cost]; omega
/-! ### edits put together, the normal patch -/
def glue1 (acc : List Ed) (e : Ed) : List Ed := match acc.getLast? with
  | none => [e]
  | some l => match join l e with
    | some z => acc.dropLast ++ [z]
    | none => acc ++ [e]
def glue (es : List Ed) : List Ed := es.foldl glue1 []
def NF (n : Nat) (τ : Tc) : List Ed := glue (ptE n 0 [] τ)
theorem glue1_nil {e : Ed} : glue1 [] e = [e] := rfl
theorem glue1_snoc {acc : List Ed} {l e : Ed} : glue1 (acc ++ [l]) e = match join l e with
    | some z => acc ++ [z]
    | none => acc ++ [l] ++ [e] := by
  unfold glue1
  rw [List.getLast?_concat, List.dropLast_concat]
theorem expand_join {x y z : Ed} (h : join x y = some z) (r : List Ln) : expand r [z] = expand r [x, y] := by
  cases x <;> cases y <;> cases h <;> simp [expand, List.take_add]
theorem used_join {x y z : Ed} (h : join x y = some z) : used [z] = used [x, y] := by
  cases x <;> cases y <;> cases h <;> simp [used, Ed.used]
theorem used_app' (a b : List Ed) : used (a ++ b) = used a + used b := by unfold used; rw [List.map_append, List.sum_append]
theorem expand_glue1 (acc : List Ed) (e : Ed) (r : List Ln) : expand r (glue1 acc e) = expand r (acc ++ [e]) := by
  rcases List.eq_nil_or_concat acc with rfl | ⟨a, l, rfl⟩
  · rfl
  · rw [List.concat_eq_append, glue1_snoc]
    cases h : join l e with
    | none => rfl
    | some z =>
      simp only
      rw [List.append_assoc, expand_app, expand_join h, ← expand_app]
      rfl
theorem used_glue1 (acc : List Ed) (e : Ed) : used (glue1 acc e) = used (acc ++ [e]) := by
  rcases List.eq_nil_or_concat acc with rfl | ⟨a, l, rfl⟩
  · rfl
  · rw [List.concat_eq_append, glue1_snoc]
    cases h : join l e with
    | none => rfl
    | some z =>
      simp only
      rw [List.append_assoc, used_app', used_join h, ← used_app']
      rfl
theorem expand_glues : ∀ (es acc : List Ed) (r : List Ln), expand r (es.foldl glue1 acc) = expand r (acc ++ es)
  | [], acc, r => by rw [List.append_nil]; rfl
  | e :: es, acc, r => by
    rw [List.foldl_cons, expand_glues es, expand_app, expand_glue1, used_glue1, ← expand_app, List.append_assoc]; rfl
theorem expand_glue (es : List Ed) (r : List Ln) : expand r (glue es) = expand r es := expand_glues es [] r
/-! ### traces that fit -/
theorem takes_put (l : List Ln) (m : List Mk) (p : Nat) : tr p (l.map .put ++ m) = l.map (fun x => (x, none)) ++ tr p m := by
  induction l with
  | nil => rfl
  | cons x l ih => rw [List.map_cons, List.cons_append, tr, ih]; rfl
theorem tr_takes (l : List Ln) (m : List Mk) (p : Nat) : tr p (l.map .take ++ m) = tr (p + l.length) m := by
  induction l generalizing p with
  | nil => rfl
  | cons x l ih => rw [List.map_cons, List.cons_append, tr, ih, List.length_cons, show p + 1 + l.length = p + (l.length + 1) by omega]
/-- of marks with these lines ahead: what the normal patch stands for has the same trace -/
theorem expand_tk {r : List Ln} {a p : Nat} (h : a ≤ p) : expand (r.drop a) (tk a p) = ((r.drop a).take (p - a)).map .take := by
  unfold tk
  split
  · simp [expand]
  · have : p - a = 0 := by omega
    rw [this]; simp [expand]
theorem expand_pu {r new : List Ln} : expand r (pu new) = new.map .put := by
  unfold pu
  split
  · next h => rw [h]; simp [expand]
  · simp [expand]
theorem used_tk' {a p : Nat} (h : a ≤ p) : used (tk a p) = p - a := by
  unfold tk used
  split <;> simp [Ed.used]; omega
theorem used_pu' (new : List Ln) : used (pu new) = 0 := by unfold pu used; split <;> simp [Ed.used]
theorem tr_norm (r : List Ln) : ∀ (m : List Mk) (a p : Nat) (new : List Ln), a ≤ p → r.drop p = ahead m →
    tr a (expand (r.drop a) (ptE r.length a new (tr p m))) = new.map (fun x => (x, none)) ++ tr p m ∧ ahead (expand (r.drop a) (ptE r.length a new (tr p m))) = r.drop a
  | [], a, p, new, h, hr => by
    rw [ahead, List.drop_eq_nil_iff] at hr
    rw [tr, ptE]
    by_cases h2 : a ≤ r.length
    · rw [expand_app, expand_tk h2, expand_pu, tr_takes]
      refine ⟨?_, ?_⟩
      · have := takes_put new [] (a + (List.take (r.length - a) (r.drop a)).length)
        rw [List.append_nil] at this
        exact this
      · rw [ahead_app, ahead_takes, ahead_puts, List.append_nil, List.take_of_length_le (by rw [List.length_drop]; omega)]
    · have h3 : tk a r.length = [] := by unfold tk; rw [if_neg (by omega)]
      rw [h3, List.nil_append, expand_pu]
      refine ⟨?_, ?_⟩
      · have := takes_put new [] a
        rw [List.append_nil] at this
        exact this
      · rw [ahead_puts, List.drop_eq_nil_of_le (by omega)]
  | .put x :: m, a, p, new, h, hr => by
    obtain ⟨h1, h2⟩ := tr_norm r m a p (new ++ [x]) h hr
    rw [tr, ptE]
    refine ⟨?_, h2⟩
    rw [h1, List.map_append, List.append_assoc]; rfl
  | .take x :: m, a, p, new, h, hr => by
    rw [ahead] at hr
    have : r.drop (p + 1) = ahead m := by rw [← List.drop_drop, hr]; rfl
    rw [tr]
    exact tr_norm r m a (p + 1) new (by omega) this
  | .keep x :: m, a, p, new, h, hr => by
    rw [ahead] at hr
    have hp : p < r.length := by
      have := congrArg List.length hr
      rw [List.length_drop, List.length_cons] at this
      omega
    have hr' : r.drop (p + 1) = ahead m := by rw [← List.drop_drop, hr]; rfl
    obtain ⟨h1, h2⟩ := tr_norm r m (p + 1) (p + 1) [] (Nat.le_refl _) hr'
    rw [tr, ptE]
    have e1 : (r.drop a).drop (p - a) = r.drop p := by rw [List.drop_drop]; congr 1; omega
    rw [List.append_assoc, List.append_assoc, expand_app, expand_app, expand_app, expand_tk h, used_tk' h, expand_pu, used_pu', List.drop_zero, e1, tr_takes]
    have e2 : a + (List.take (p - a) (r.drop a)).length = p := by rw [List.length_take, List.length_drop]; omega
    rw [e2, takes_put]
    have e3 : expand (r.drop p) [.keep 1] = [Mk.keep x] := by rw [hr]; simp [expand]
    have e4 : used [Ed.keep 1] = 1 := rfl
    rw [e3, e4, List.drop_drop]
    refine ⟨?_, ?_⟩
    · rw [List.singleton_append, tr, h1]; rfl
    · rw [ahead_app, ahead_takes, ahead_app, ahead_puts, List.nil_append, List.singleton_append, ahead, h2, hr', ← hr, ← e1]
      exact List.take_append_drop _ _
theorem used_norm (r : List Ln) : ∀ (m : List Mk) (a p : Nat) (new : List Ln), a ≤ p → p ≤ r.length → r.drop p = ahead m → used (ptE r.length a new (tr p m)) = r.length - a
  | [], a, p, new, h, hl, hr => by
    rw [tr, ptE, used_app', used_tk' (by omega), used_pu']; rfl
  | .put x :: m, a, p, new, h, hl, hr => by
    rw [tr, ptE]; exact used_norm r m a p _ h hl hr
  | .take x :: m, a, p, new, h, hl, hr => by
    rw [ahead] at hr
    have : r.drop (p + 1) = ahead m := by rw [← List.drop_drop, hr]; rfl
    have hp : p < r.length := by
      have := congrArg List.length hr
      rw [List.length_drop, List.length_cons] at this
      omega
    rw [tr]
    exact used_norm r m a (p + 1) new (by omega) hp this
  | .keep x :: m, a, p, new, h, hl, hr => by
    rw [ahead] at hr
    have hp : p < r.length := by
      have := congrArg List.length hr
      rw [List.length_drop, List.length_cons] at this
      omega
    have hr' : r.drop (p + 1) = ahead m := by rw [← List.drop_drop, hr]; rfl
    rw [tr, ptE, used_app', used_app', used_app', used_tk' h, used_pu', used_norm r m (p + 1) (p + 1) [] (Nat.le_refl _) hp hr']
    show p - a + 0 + 1 + _ = _
    omega
theorem used_glues : ∀ (es acc : List Ed), used (es.foldl glue1 acc) = used acc + used es
  | [], acc => rfl
  | e :: es, acc => by
    have e1 : used [e] = e.used := Nat.add_zero _
    rw [List.foldl_cons, used_glues es, used_glue1, used_app', e1, used_cons', Nat.add_assoc]
/-- the normal patch of marks: what it stands for -/
theorem NF_tr (m : List Mk) : tr 0 (expand (ahead m) (NF (ahead m).length (tr 0 m))) = tr 0 m ∧ ahead (expand (ahead m) (NF (ahead m).length (tr 0 m))) = ahead m := by
  unfold NF
  rw [expand_glue]
  have := tr_norm (ahead m) m 0 0 [] (Nat.le_refl 0) rfl
  rw [List.drop_zero] at this
  exact this
theorem NF_used (m : List Mk) : used (NF (ahead m).length (tr 0 m)) = (ahead m).length := by
  unfold NF glue
  rw [used_glues, used_norm (ahead m) m 0 0 [] (Nat.le_refl 0) (Nat.zero_le _) rfl]
  exact Nat.zero_add _
/-! ### the law's own normal patch -/
structure LS where
  F : List Ed
  t : Nat
  q : List Ln
  k : Nat
def kk (k : Nat) : List Ed := if 0 < k then [.keep k] else []
def tt (t : Nat) : List Ed := if 0 < t then [.take t] else []
def busy (s : LS) : Bool := decide (0 < s.t) || !decide (s.q = [])
def flush (s : LS) : LS := if busy s then ⟨s.F ++ kk s.k ++ (tt s.t ++ pu s.q), 0, [], 0⟩ else s
def stepL (s : LS) : Mk → LS
  | .keep _ => ⟨(flush s).F, (flush s).t, (flush s).q, (flush s).k + 1⟩
  | .take _ => ⟨s.F, s.t + 1, s.q, s.k⟩
  | .put x => ⟨s.F, s.t, s.q ++ [x], s.k⟩
def endL (s : LS) : List Ed := (flush s).F ++ kk (flush s).k
def lawN (m : List Mk) : List Ed := endL (m.foldl stepL ⟨[], 0, [], 0⟩)
def NoKeep (F : List Ed) : Prop := ∀ n, F.getLast? ≠ some (.keep n)
theorem glue_app (a b acc : List Ed) : (a ++ b).foldl glue1 acc = b.foldl glue1 (a.foldl glue1 acc) := List.foldl_append
theorem glue1_other {acc : List Ed} {e : Ed} (h : ∀ l, acc.getLast? = some l → join l e = none) : glue1 acc e = acc ++ [e] := by
  unfold glue1
  cases g : acc.getLast? with
  | none => rw [List.getLast?_eq_none_iff] at g; rw [g]; rfl
  | some l => simp only; rw [h l g]
theorem kk_last {F : List Ed} {k : Nat} (hF : NoKeep F) (h0 : k = 0 → F = []) {l : Ed} (h : (F ++ kk k).getLast? = some l) : l = .keep k := by
  unfold kk at h
  split at h
  · rw [List.getLast?_concat] at h; exact (Option.some.inj h).symm
  · rw [h0 (by omega), List.append_nil] at h; cases h
/-- takes, then puts, behind keeps -/
theorem glue_flush {F : List Ed} {t k : Nat} {q : List Ln} (hF : NoKeep F) (h0 : k = 0 → F = []) :
    (tt t ++ pu q).foldl glue1 (F ++ kk k) = F ++ kk k ++ (tt t ++ pu q) := by
  have h1 : (tt t).foldl glue1 (F ++ kk k) = F ++ kk k ++ tt t := by
    unfold tt
    split
    · exact glue1_other fun l hl => by rw [kk_last hF h0 hl]; rfl
    · rw [List.append_nil]; rfl
  rw [glue_app, h1, ← List.append_assoc]
  unfold pu
  split
  · rw [List.append_nil]; rfl
  · refine glue1_other fun l hl => ?_
    unfold tt at hl
    split at hl
    · rw [List.getLast?_concat] at hl; cases hl; rfl
    · rw [List.append_nil] at hl; rw [kk_last hF h0 hl]; rfl
theorem busy_no {s : LS} (h : busy s = false) : s.t = 0 ∧ s.q = [] := by
  unfold busy at h
  rw [Bool.or_eq_false_iff] at h
  have h1 := of_decide_eq_false h.1
  have h2 := of_decide_eq_true (by simpa using h.2 : decide (s.q = []) = true)
  exact ⟨by omega, h2⟩
theorem nk_flush {F : List Ed} {t k : Nat} {q : List Ln} (h : busy ⟨F, t, q, k⟩ = true) : NoKeep (F ++ kk k ++ (tt t ++ pu q)) := fun n z => by
  rw [← List.append_assoc] at z
  unfold pu at z
  split at z
  · next hq =>
    rw [List.append_nil] at z
    unfold tt at z
    split at z
    · rw [List.getLast?_concat] at z; cases z
    · next ht =>
      unfold busy at h
      simp [hq] at h
      omega
  · rw [List.getLast?_concat] at z; cases z
theorem tk_tt {p t : Nat} (h : t ≤ p) : tk (p - t) p = tt t := by
  unfold tk tt
  split
  · rw [if_pos (by omega)]; congr 2; omega
  · rw [if_neg (by omega)]
theorem law_norm : ∀ (m : List Mk) (F : List Ed) (t : Nat) (q : List Ln) (k p n : Nat), t ≤ p → n = p + (ahead m).length → NoKeep F → (k = 0 → F = []) →
    (ptE n (p - t) q (tr p m)).foldl glue1 (F ++ kk k) = endL (m.foldl stepL ⟨F, t, q, k⟩)
  | [], F, t, q, k, p, n, ht, hn, hF, h0 => by
    rw [ahead, List.length_nil, Nat.add_zero] at hn
    subst hn
    rw [tr, ptE, tk_tt ht, List.foldl_nil, glue_flush hF h0]
    unfold endL flush
    cases hb : busy ⟨F, t, q, k⟩ with
    | true => rw [if_pos rfl]; exact (List.append_nil _).symm
    | false =>
      obtain ⟨h1, h2⟩ := busy_no hb
      simp only at h1 h2
      subst h1 h2
      exact List.append_nil _
  | .put x :: m, F, t, q, k, p, n, ht, hn, hF, h0 => by
    rw [tr, ptE, List.foldl_cons, stepL]
    exact law_norm m F t (q ++ [x]) k p n ht hn hF h0
  | .take x :: m, F, t, q, k, p, n, ht, hn, hF, h0 => by
    rw [ahead, List.length_cons] at hn
    have := law_norm m F (t + 1) q k (p + 1) n (by omega) (by omega) hF h0
    rw [show p + 1 - (t + 1) = p - t by omega] at this
    rw [tr, List.foldl_cons, stepL]
    exact this
  | .keep x :: m, F, t, q, k, p, n, ht, hn, hF, h0 => by
    rw [ahead, List.length_cons] at hn
    rw [tr, ptE, tk_tt ht, glue_app, glue_app, glue_flush hF h0, List.foldl_cons (f := stepL), stepL]
    unfold flush
    cases hb : busy ⟨F, t, q, k⟩ with
    | true =>
      rw [if_pos rfl]
      simp only
      have nk := nk_flush hb
      have e : [Ed.keep 1].foldl glue1 (F ++ kk k ++ (tt t ++ pu q)) = (F ++ kk k ++ (tt t ++ pu q)) ++ kk 1 := glue1_other fun l hl => by
        cases l with
        | keep n => exact absurd hl (nk n)
        | take _ => rfl
        | put _ => rfl
      rw [e]
      exact law_norm m _ 0 [] 1 (p + 1) n (by omega) (by omega) nk (by omega)
    | false =>
      rw [if_neg (by decide)]
      obtain ⟨h1, h2⟩ := busy_no hb
      simp only at h1 h2
      subst h1 h2
      have e : [Ed.keep 1].foldl glue1 (F ++ kk k ++ (tt 0 ++ pu [])) = F ++ kk (k + 1) := by
        show glue1 (F ++ kk k ++ []) (.keep 1) = _
        rw [List.append_nil]
        unfold kk
        split
        · rw [glue1_snoc]; rfl
        · next hk => rw [h0 (by omega)]; rw [show k = 0 by omega]; rfl
      rw [e]
      exact law_norm m F 0 [] (k + 1) (p + 1) n (by omega) (by omega) hF (by omega)
theorem lawN_NF (m : List Mk) : lawN m = NF (ahead m).length (tr 0 m) := (law_norm m [] 0 [] 0 0 _ (Nat.le_refl 0) (Nat.zero_add _).symm (fun _ h => nomatch h) fun _ => rfl).symm
/-- what is asked of the normal patch: two traces of one length with .. -/
theorem NF_cost (m : List Mk) : cost (NF (ahead m).length (tr 0 m)) = takes m + puts m := by
  obtain ⟨h1, h2⟩ := NF_tr m
  rw [cost_expand _ (ahead m) (by rw [NF_used]; exact Nat.le_refl _)]
  have a1 := len_ahead m
  have b1 := len_behind m
  have a2 := len_ahead (expand (ahead m) (NF (ahead m).length (tr 0 m)))
  have b2 := len_behind (expand (ahead m) (NF (ahead m).length (tr 0 m)))
  have k2 := kept_tr (expand (ahead m) (NF (ahead m).length (tr 0 m))) 0
  have l2 := trm_len (expand (ahead m) (NF (ahead m).length (tr 0 m))) 0
  rw [h1, kept_tr] at k2
  rw [h1, trm_len] at l2
  rw [h2] at a2
  omega
/-! ### turned about -/
def found (look : Nat → Option Nat) : Nat → List Ln → Tc
  | _, [] => []
  | p, x :: xs => (x, look p) :: found look (p + 1) xs
def places : Nat → Tc → List (Nat × Nat)
  | _, [] => []
  | q, (_, none) :: τ => places (q + 1) τ
  | q, (_, some p) :: τ => (p, q) :: places (q + 1) τ
def look1 : List (Nat × Nat) → Nat → Option Nat
  | [], _ => none
  | (k, v) :: l, i => if k = i then some v else look1 l i
theorem places_big : ∀ (m : List Mk) (p q i : Nat), i < p → look1 (places q (tr p m)) i = none
  | [], p, q, i, h => rfl
  | .keep x :: m, p, q, i, h => by rw [tr, places, look1, if_neg (by omega)]; exact places_big m (p + 1) _ i (by omega)
  | .take x :: m, p, q, i, h => by rw [tr]; exact places_big m (p + 1) q i (by omega)
  | .put x :: m, p, q, i, h => by rw [tr, places]; exact places_big m p _ i h
theorem found_tr (look : Nat → Option Nat) : ∀ (m : List Mk) (p q : Nat), (∀ i, p ≤ i → look i = look1 (places q (tr p m)) i) → found look p (ahead m) = tr q (turned m)
  | [], p, q, h => rfl
  | .keep x :: m, p, q, h => by
    have h0 := h p (Nat.le_refl p)
    rw [tr, places, look1, if_pos rfl] at h0
    rw [ahead, found, h0]
    show _ = tr q (.keep x :: turned m)
    rw [tr]
    refine congrArg _ (found_tr look m (p + 1) (q + 1) fun i hi => ?_)
    rw [h i (by omega), tr, places, look1, if_neg (by omega)]
  | .take x :: m, p, q, h => by
    have h0 := h p (Nat.le_refl p)
    rw [tr, places_big m (p + 1) q p (by omega)] at h0
    rw [ahead, found, h0]
    show _ = tr q (.put x :: turned m)
    rw [tr]
    refine congrArg _ (found_tr look m (p + 1) q fun i hi => ?_)
    rw [h i (by omega), tr]
  | .put x :: m, p, q, h => by
    rw [ahead]
    show _ = tr q (.take x :: turned m)
    rw [tr]
    refine found_tr look m p (q + 1) fun i hi => ?_
    rw [h i hi, tr, places]
/-! ### joined -/
def comp (N τ : Tc) : Tc := τ.map fun e => (e.1, e.2.bind fun j => (N[j]?).bind (·.2))
def joinM : List Mk → List Mk → List Mk
  | [], l => l
  | .take x :: m, l => .take x :: joinM m l
  | .keep x :: m, .put y :: l => .put y :: joinM (.keep x :: m) l
  | .keep x :: m, .keep _ :: l => .keep x :: joinM m l
  | .keep x :: m, .take _ :: l => .take x :: joinM m l
  | .keep x :: m, [] => .keep x :: m
  | .put x :: m, .put y :: l => .put y :: joinM (.put x :: m) l
  | .put x :: m, .keep _ :: l => .put x :: joinM m l
  | .put x :: m, .take _ :: l => joinM m l
  | .put x :: m, [] => .put x :: m
termination_by m l => m.length + l.length
theorem comp_cons (N : Tc) (e : Ln × Option Nat) (τ : Tc) : comp N (e :: τ) = (e.1, e.2.bind fun j => (N[j]?).bind (·.2)) :: comp N τ := rfl
theorem no_ahead : ∀ {l : List Mk}, ahead l = [] → ∀ N p q, comp N (tr q l) = tr p l
  | [], h, N, p, q => rfl
  | .put y :: l, h, N, p, q => by rw [tr, comp_cons, tr, no_ahead (l := l) h N p q]; rfl
theorem join_tr (N : Tc) : ∀ (m l : List Mk) (p q : Nat), ahead l = behind m → N.drop q = tr p m → comp N (tr q l) = tr p (joinM m l)
  | [], l, p, q, h, hN => by rw [joinM]; exact no_ahead h N p q
  | .take x :: m, l, p, q, h, hN => by rw [joinM, tr]; exact join_tr N m l (p + 1) q h hN
  | .keep x :: m, .put y :: l, p, q, h, hN => by
    rw [joinM, tr, tr, comp_cons, join_tr N (.keep x :: m) l p q h hN]; rfl
  | .put x :: m, .put y :: l, p, q, h, hN => by
    rw [joinM, tr, tr, comp_cons, join_tr N (.put x :: m) l p q h hN]; rfl
  | .keep x :: m, .keep y :: l, p, q, h, hN => by
    rw [ahead, behind] at h
    rw [tr] at hN
    have g : N[q]? = some (x, some p) := by rw [← List.head?_drop, hN]; rfl
    have hN' : N.drop (q + 1) = tr (p + 1) m := by rw [← List.drop_drop, hN]; rfl
    rw [joinM, tr, tr, comp_cons, join_tr N m l (p + 1) (q + 1) (List.cons.inj h).2 hN', (List.cons.inj h).1]
    simp [g]
  | .keep x :: m, .take y :: l, p, q, h, hN => by
    rw [ahead, behind] at h
    rw [tr] at hN
    have hN' : N.drop (q + 1) = tr (p + 1) m := by rw [← List.drop_drop, hN]; rfl
    rw [joinM, tr, tr, join_tr N m l (p + 1) (q + 1) (List.cons.inj h).2 hN']
  | .put x :: m, .keep y :: l, p, q, h, hN => by
    rw [ahead, behind] at h
    rw [tr] at hN
    have g : N[q]? = some (x, none) := by rw [← List.head?_drop, hN]; rfl
    have hN' : N.drop (q + 1) = tr p m := by rw [← List.drop_drop, hN]; rfl
    rw [joinM, tr, tr, comp_cons, join_tr N m l p (q + 1) (List.cons.inj h).2 hN', (List.cons.inj h).1]
    simp [g]
  | .put x :: m, .take y :: l, p, q, h, hN => by
    rw [ahead, behind] at h
    rw [tr] at hN
    have hN' : N.drop (q + 1) = tr p m := by rw [← List.drop_drop, hN]; rfl
    rw [joinM, tr, join_tr N m l p (q + 1) (List.cons.inj h).2 hN']
  | .keep x :: m, [], p, q, h, hN => by rw [ahead, behind] at h; cases h
  | .put x :: m, [], p, q, h, hN => by rw [ahead, behind] at h; cases h
termination_by m l => m.length + l.length
theorem join_ahead : ∀ (m l : List Mk), ahead l = behind m → ahead (joinM m l) = ahead m
  | [], l, h => by rw [joinM]; exact h
  | .take x :: m, l, h => by rw [joinM, ahead, ahead, join_ahead m l h]
  | .keep x :: m, .put y :: l, h => by rw [joinM]; exact join_ahead (.keep x :: m) l h
  | .put x :: m, .put y :: l, h => by rw [joinM]; exact join_ahead (.put x :: m) l h
  | .keep x :: m, .keep y :: l, h => by rw [ahead, behind] at h; rw [joinM, ahead, ahead, join_ahead m l (List.cons.inj h).2]
  | .keep x :: m, .take y :: l, h => by rw [ahead, behind] at h; rw [joinM, ahead, ahead, join_ahead m l (List.cons.inj h).2]
  | .put x :: m, .keep y :: l, h => by rw [ahead, behind] at h; rw [joinM, ahead, ahead, join_ahead m l (List.cons.inj h).2]
  | .put x :: m, .take y :: l, h => by rw [ahead, behind] at h; rw [joinM, ahead, join_ahead m l (List.cons.inj h).2]
  | .keep x :: m, [], h => by rw [ahead, behind] at h; cases h
  | .put x :: m, [], h => by rw [ahead, behind] at h; cases h
termination_by m l => m.length + l.length
theorem comp_fst (N τ : Tc) : (comp N τ).map (·.1) = τ.map (·.1) := by unfold comp; rw [List.map_map]; rfl
theorem join_behind (m l : List Mk) (h : ahead l = behind m) : behind (joinM m l) = behind l := by
  have := congrArg (·.map (·.1)) (join_tr (tr 0 m) m l 0 0 h rfl)
  simp only [comp_fst, tr_fst] at this
  exact this.symm
theorem comp_assoc (A B C : Tc) : comp (comp A B) C = comp A (comp B C) := by
  unfold comp
  rw [List.map_map]
  refine List.map_congr_left fun e _ => ?_
  obtain ⟨x, o⟩ := e
  cases o with
  | none => rfl
  | some j =>
    simp only [Option.bind_some, Function.comp_apply]
    rw [List.getElem?_map]
    cases B[j]? with
    | none => rfl
    | some b => rfl
theorem join_put (y : Ln) : ∀ m l : List Mk, keeps (joinM m (.put y :: l)) = keeps (joinM m l)
  | [], l => by rw [joinM, joinM, keeps]
  | .take x :: m, l => by rw [joinM, joinM, keeps, keeps, join_put y m l]
  | .keep x :: m, l => by rw [joinM, keeps]
  | .put x :: m, l => by rw [joinM, keeps]
theorem join_back : ∀ m : List Mk, keeps (joinM m (turned m)) = keeps m
  | [] => by unfold turned; rw [List.map_nil, joinM]
  | .take x :: m => by
    show keeps (joinM (.take x :: m) (.put x :: turned m)) = _
    rw [joinM, keeps, join_put, keeps, join_back m]
  | .keep x :: m => by
    show keeps (joinM (.keep x :: m) (.keep x :: turned m)) = _
    rw [joinM, keeps, keeps, join_back m]
  | .put x :: m => by
    show keeps (joinM (.put x :: m) (.take x :: turned m)) = _
    rw [joinM, keeps, join_back m]
end K72
namespace K72
open PySem PySem.Spec PyProof.Rows L2 DL
theorem join_diff {l e : Ed} (h : eqD (.str l.word) (.str e.word) = some (.dat (.bool false))) : join l e = none := by
  cases l <;> cases e <;> first | rfl | (exfalso; rw [Ed.word, Ed.word, eq_str_same] at h; cases h)
theorem pt_step {ed : DL.D} {acc : List Ed} {e : Ed} (hl : late acc + e.late ≤ 1000) (h4 : acc.length ≤ 1000) :
    lb_edits_put_together_1 [.dat ed, .own (.list (acc.map Ed.D)), .dat (.str e.word), .dat e.told] = some (.nx [.dat ed, .own (.list ((glue1 acc e).map Ed.D)), .dat (.str e.word), .dat e.told]) := by
  have ne := ne_none (acc := acc)
  rcases List.eq_nil_or_concat acc with rfl | ⟨a, l, rfl⟩
  · rw [glue1_nil]
    simp at ne
    simp [lb_edits_put_together_1, ne, ed_D]
  · rw [List.concat_eq_append] at hl h4 ne ⊢
    rw [late_app] at hl
    have hl1 : late [l] = l.late := Nat.add_zero _
    obtain ⟨b, hb⟩ := eq_words l e
    have s1 : a.length + 1 < szMax := by simp at h4; unfold szMax; omega
    rw [glue1_snoc]
    cases b with
    | true =>
      obtain ⟨z, h1, d, h2, h3⟩ := join_same hb (by omega)
      rw [h1]
      simp [ed_D l] at ne
      simp [lb_edits_put_together_1, ne, ed_D l, hb, h2, h3]
    | false =>
      rw [join_diff hb]
      simp [ed_D l] at ne
      simp [lb_edits_put_together_1, ne, ed_D l, ed_D e, hb, s1]
theorem glue1_late (acc : List Ed) (e : Ed) : late (glue1 acc e) = late acc + e.late := by
  rcases List.eq_nil_or_concat acc with rfl | ⟨a, l, rfl⟩
  · exact Nat.add_comm _ _
  · rw [List.concat_eq_append, glue1_snoc]
    have e1 : ∀ x : Ed, late [x] = x.late := fun x => Nat.add_zero _
    cases h : join l e with
    | none => simp only; rw [late_app, e1]
    | some z =>
      simp only
      rw [late_app, late_app, e1, e1]
      have : z.late = l.late + e.late := by cases l <;> cases e <;> cases h <;> simp [Ed.late]
      omega
theorem glue1_len (acc : List Ed) (e : Ed) : (glue1 acc e).length ≤ acc.length + 1 := by
  rcases List.eq_nil_or_concat acc with rfl | ⟨a, l, rfl⟩
  · exact Nat.le_refl _
  · rw [List.concat_eq_append, glue1_snoc]
    cases h : join l e <;> simp
theorem glue1_ok {acc : List Ed} {e : Ed} (ha : ∀ x ∈ acc, x.ok) (he : e.ok) (hl : late acc + e.late ≤ 1000) : ∀ x ∈ glue1 acc e, x.ok := by
  rcases List.eq_nil_or_concat acc with rfl | ⟨a, l, rfl⟩
  · intro x hx; rw [List.mem_singleton.mp hx]; exact he
  · rw [List.concat_eq_append] at ha hl ⊢
    rw [late_app] at hl
    have e1 : late [l] = l.late := Nat.add_zero _
    rw [glue1_snoc]
    have al : ∀ x ∈ a, x.ok := fun x hx => ha x (List.mem_append_left _ hx)
    have ll : l.ok := ha l (List.mem_append_right _ List.mem_cons_self)
    cases h : join l e with
    | none =>
      intro x hx
      rcases List.mem_append.mp hx with hx | hx
      · exact ha x hx
      · rw [List.mem_singleton.mp hx]; exact he
    | some z =>
      intro x hx
      rcases List.mem_append.mp hx with hx | hx
      · exact al x hx
      · rw [List.mem_singleton.mp hx]; exact ok_join h ll he (by omega)
theorem glues_facts : ∀ (es acc : List Ed), (∀ x ∈ acc, x.ok) → (∀ x ∈ es, x.ok) → late acc + late es ≤ 1000 → (∀ x ∈ es.foldl glue1 acc, x.ok) ∧ (es.foldl glue1 acc).length ≤ acc.length + es.length ∧ late (es.foldl glue1 acc) = late acc + late es
  | [], acc, ha, _, _ => ⟨ha, Nat.le_refl _, rfl⟩
  | e :: es, acc, ha, he, hl => by
    rw [late_cons] at hl
    have l1 := glue1_late acc e
    have l2 := glue1_len acc e
    obtain ⟨h1, h2, h3⟩ := glues_facts es (glue1 acc e) (glue1_ok ha (he e List.mem_cons_self) (by omega)) (fun x hx => he x (List.mem_cons_of_mem _ hx)) (by omega)
    refine ⟨h1, by rw [List.foldl_cons, List.length_cons]; omega, by rw [List.foldl_cons, h3, late_cons]; omega⟩
theorem pt_loop {ed : DL.D} : ∀ (es : List Ed) (acc : List Ed), late acc + late es ≤ 1000 → acc.length + es.length ≤ 1000 → ∀ s2 s3, ∃ t2 t3,
    forD (.tup [.name 2, .name 3]) lb_edits_put_together_1 (es.map Ed.D) [.dat ed, .own (.list (acc.map Ed.D)), s2, s3] = some (.nx [.dat ed, .own (.list ((es.foldl glue1 acc).map Ed.D)), t2, t3])
  | [], acc, hl, h4, s2, s3 => ⟨s2, s3, rfl⟩
  | e :: es, acc, hl, h4, s2, s3 => by
    rw [late_cons] at hl
    rw [List.length_cons] at h4
    have st := pt_step (ed := ed) (acc := acc) (e := e) (by omega) (by omega)
    have l1 := glue1_late acc e
    have l2 := glue1_len acc e
    obtain ⟨t2, t3, h5⟩ := pt_loop (ed := ed) es (glue1 acc e) (by omega) (by omega) (.dat (.str e.word)) (.dat e.told)
    refine ⟨t2, t3, ?_⟩
    rw [List.map_cons, ed_D e]
    have bd : bindP (.tup [.name 2, .name 3]) (.tuple [.str e.word, e.told]) [.dat ed, .own (.list (acc.map Ed.D)), s2, s3] = some [.dat ed, .own (.list (acc.map Ed.D)), .dat (.str e.word), .dat e.told] := rfl
    rw [for_cons bd (.inl st), h5, List.foldl_cons]
theorem v_put_together (es : List Ed) (hl : late es ≤ 1000) (h4 : es.length ≤ 1000) (h5 : (glue es).length ≤ 1000) : m_edits_put_together [] [.list (es.map Ed.D)] = some (.dat (patD (glue es)), []) := by
  obtain ⟨t2, t3, h⟩ := pt_loop (ed := .list (es.map Ed.D)) es [] (by simp [late] at hl ⊢; omega) (by simp; omega) .un .un
  have z : (glue es).length ≤ szMax := by unfold szMax; omega
  have h : forD (.tup [.name 2, .name 3]) lb_edits_put_together_1 (es.map Ed.D) [.dat (.list (es.map Ed.D)), .own (.list []), .un, .un] = some (.nx [.dat (.list (es.map Ed.D)), .own (.list ((glue es).map Ed.D)), t2, t3]) := h
  rw [m_edits_put_together, ev_run, show env0 false 4 [] [.list (es.map Ed.D)] = [.dat (.list (es.map Ed.D)), .un, .un, .un] from rfl]
  simp [g_edits_put_together, h, ev_fin_f]
theorem okb_tr {near : List Ln} : ∀ (m : List Mk) (p : Nat), near.drop p = ahead m → OkB near p near.length (tr p m)
  | [], p, h => .nil
  | .put x :: m, p, h => .new (okb_tr m p h)
  | .take x :: m, p, h => by
    rw [ahead] at h
    have h2 : near.drop (p + 1) = ahead m := by rw [← List.drop_drop, h]; rfl
    have k := okb_tr m (p + 1) h2
    rw [tr]
    have up : ∀ {lo lo' hi : Nat} {τ : Tc}, OkB near lo hi τ → lo' ≤ lo → OkB near lo' hi τ := fun {lo lo' hi τ} h => by
      induction h generalizing lo' with
      | nil => exact fun _ => .nil
      | new _ ih => exact fun l => .new (ih l)
      | old a b c d _ => exact fun l => .old (Nat.le_trans l a) b c d
    exact up k (Nat.le_succ p)
  | .keep x :: m, p, h => by
    rw [ahead] at h
    have h2 : near.drop (p + 1) = ahead m := by rw [← List.drop_drop, h]; rfl
    have hp : p < near.length := by
      have := congrArg List.length h
      rw [List.length_drop, List.length_cons] at this
      omega
    rw [tr]
    refine .old (Nat.le_refl p) hp ?_ (okb_tr m (p + 1) h2)
    rw [← List.head?_drop, h]; rfl
/-- the normal patch of marks -/
def NM (m : List Mk) : List Ed := NF (ahead m).length (tr 0 m)
structure NmOk (m : List Mk) : Prop where
  ok : ∀ e ∈ NM m, e.ok
  len : (NM m).length ≤ 4 * (behind m).length + 4
  us : used (NM m) = (ahead m).length
  la : late (NM m) = (behind m).length
  co : cost (NM m) = takes m + puts m
  ru : run (ahead m) (NM m) = behind m
  tr : tr 0 (expand (ahead m) (NM m)) = tr 0 m
theorem nm_ok (m : List Mk) (hb : (behind m).length ≤ 200) : NmOk m ∧ m_patch_of_trace [] [nD (ahead m).length, .list ((tr 0 m).map tD)] = some (.dat (patD (NM m)), []) := by
  have ob := okb_tr (near := ahead m) m 0 rfl
  have hl : (tr 0 m).length = (behind m).length := trm_len m 0
  obtain ⟨f1, f2, f3, f4, f5, f6⟩ := pt_facts ob 0 [] rfl rfl (Nat.zero_le _) (by simp; omega)
  simp at f1 f2 f3 f4
  have hl2 : late (ptE (ahead m).length 0 [] (tr 0 m)) = (behind m).length := by rw [f2, hl]
  have g := glues_facts (ptE (ahead m).length 0 [] (tr 0 m)) [] (fun x hx => nomatch hx) f5 (by rw [hl2]; show 0 + _ ≤ _; omega)
  obtain ⟨g1, g2, g3⟩ := g
  have n1 := NF_tr m
  have n2 := NF_used m
  have ru : run (ahead m) (NM m) = behind m := by
    rw [← behind_expand, ← tr_fst _ 0]
    unfold NM
    rw [n1.1, tr_fst]
  have len : (NM m).length ≤ 4 * (behind m).length + 4 := by
    unfold NM NF glue
    rw [List.length_nil] at g2
    rw [← hl]
    omega
  refine ⟨⟨g1, len, n2, ?_, NF_cost m, ru, n1.1⟩, ?_⟩
  · unfold NM NF glue
    rw [g3, hl2]; exact Nat.zero_add _
  obtain ⟨t3, t4, t5, t6, lp⟩ := po_loop (td := .list ((tr 0 m).map tD)) ob 0 [] [] rfl rfl (by simp; omega) (by simp; omega) .un .un
  have lp : forD (.tup [.name 5, .name 6]) lb_patch_of_trace_1 ((tr 0 m).map tD ++ [.tuple [.str "", nD (ahead m).length]]) [.dat (nD (ahead m).length), .dat (.list ((tr 0 m).map tD)), .own (.list []), .dat (.int 0), .own (.list []), .un, .un] = some (.nx [.dat (nD (ahead m).length), .dat (.list ((tr 0 m).map tD)), .own (.list ((ptE (ahead m).length 0 [] (tr 0 m)).map Ed.D)), t3, t4, t5, t6]) := lp
  have vp := v_put_together (ptE (ahead m).length 0 [] (tr 0 m)) (by omega) (by omega) (by show (NM m).length ≤ _; omega)
  have z : (tr 0 m).length + 1 ≤ szMax := by unfold szMax; omega
  rw [m_patch_of_trace, ev_run, show env0 false 7 [] [nD (ahead m).length, .list ((tr 0 m).map tD)] = [.dat (nD (ahead m).length), .dat (.list ((tr 0 m).map tD)), .un, .un, .un, .un, .un] from rfl]
  simp [g_patch_of_trace, z, lp, vp, ev_fin_f]
  rfl
end K72
namespace K72
open PySem PySem.Spec PyProof.Rows L2 DL
/-! ### patches that stand for marks -/
structure Sp (m : List Mk) (es : List Ed) : Prop where
  ok : ∀ e ∈ es, e.ok
  len : es.length ≤ 400
  us : used es = (ahead m).length
  la : late es = (behind m).length
  co : cost es = takes m + puts m
  ru : run (ahead m) es = behind m
  ex : tr 0 (expand (ahead m) es) = tr 0 m
theorem NmOk.sp {m : List Mk} (h : NmOk m) (hb : (behind m).length ≤ 90) : Sp m (NM m) := ⟨h.ok, by have := h.len; omega, h.us, h.la, h.co, h.ru, h.tr⟩
theorem tr_keeps (near : List Ln) (m : List Mk) : ∀ (n a : Nat), a + n ≤ near.length → (tr a (((near.drop a).take n).map .keep ++ m)).map tD = (List.range' a n).map (ent near) ++ (tr (a + n) m).map tD
  | 0, a, _ => rfl
  | n + 1, a, h => by
    have ha : a < near.length := by omega
    have e1 : (near.drop a).take (n + 1) = near[a] :: (near.drop (a + 1)).take n := by rw [List.drop_eq_getElem_cons ha, List.take_succ_cons]
    rw [e1, List.map_cons, List.cons_append, tr, List.map_cons, tr_keeps near m n (a + 1) (by omega), List.range'_succ, List.map_cons, List.cons_append, show a + 1 + n = a + (n + 1) by omega]
    congr 1
    unfold ent tD
    simp [List.getElem?_eq_getElem ha]
theorem trD_tr (near : List Ln) : ∀ (es : List Ed) (a : Nat), a + used es ≤ near.length → trD near a es = (tr a (expand (near.drop a) es)).map tD
  | [], a, h => rfl
  | .keep n :: es, a, h => by
    rw [used_cons] at h
    have h : a + (n + used es) ≤ near.length := h
    rw [trD, expand, tr_keeps near _ n a (by omega), trD_tr near es (a + n) (by omega), List.drop_drop]
  | .take n :: es, a, h => by
    rw [used_cons] at h
    have h : a + (n + used es) ≤ near.length := h
    rw [trD, expand, tr_takes, trD_tr near es (a + n) (by omega), List.drop_drop, List.length_take, List.length_drop, Nat.min_eq_left (by omega)]
  | .put l :: es, a, h => by
    rw [used_cons] at h
    have h : a + (0 + used es) ≤ near.length := h
    rw [trD, expand, takes_put, trD_tr near es a (by omega), List.map_append, List.map_map]
    rfl
section
variable {m l : List Mk} {es fs : List Ed}
theorem v_trace (h : Sp m es) (hn : (ahead m).length ≤ 200) (hb : (behind m).length ≤ 200) : m_trace_of [] [LD (ahead m), patD es] = some (.own (.list ((tr 0 m).map tD)), []) := by
  have hu := h.us
  have hl := h.la
  have h4 := h.len
  rw [v_trace_of hn es (by omega) (by omega) (by omega), trD_tr _ es 0 (by omega), List.drop_zero, h.ex]
theorem v_want (h : Sp m es) (hn : (ahead m).length ≤ 200) (hb : (behind m).length ≤ 200) : m_want_patch [] [LD (ahead m), patD es] = some (.dat .none, []) := by
  have hl := h.la
  exact v_want_patch _ es h.ok h.len hn h.us (by omega)
theorem v_normalized (h : Sp m es) (hn : (ahead m).length ≤ 200) (hb : (behind m).length ≤ 200) : m_normalized [] [LD (ahead m), patD es] = some (.dat (patD (NM m)), []) := by
  have w := v_want h hn hb
  have t := v_trace h hn hb
  have p := (nm_ok m hb).2
  have p : m_patch_of_trace [] [.int ((ahead m).length : Int), .list ((tr 0 m).map tD)] = some (.dat (patD (NM m)), []) := p
  rw [m_normalized, ev_run, show env0 false 2 [] [LD (ahead m), patD es] = [.dat (LD (ahead m)), .dat (patD es)] from rfl]
  simp [g_normalized, w, t, p, ev_fin_f]
theorem v_patchedM (h : Sp m es) (hn : (ahead m).length ≤ 200) (hb : (behind m).length ≤ 200) : m_patched [] [LD (ahead m), patD es] = some (.own (LD (behind m)), []) := by
  have hl := h.la
  rw [v_patched hn h.ok h.len h.us (by omega), h.ru]
theorem v_costM (h : Sp m es) (hn : (ahead m).length ≤ 200) (hb : (behind m).length ≤ 200) : m_patch_cost [] [LD (ahead m), patD es] = some (.dat (.int ((takes m + puts m : Nat) : Int)), []) := by
  have hl := h.la
  rw [v_patch_cost hn h.ok h.len h.us (by omega), h.co]
/-! ### turned about -/
def en : Nat → Tc → List (Nat × Ln × Option Nat)
  | _, [] => []
  | q, e :: τ => (q, e) :: en (q + 1) τ
def enD (p : Nat × Ln × Option Nat) : DL.D := .tuple [nD p.1, tD p.2]
theorem enum_tr : ∀ (τ : Tc) (q : Nat), enumD q (τ.map tD) = (en q τ).map enD
  | [], q => rfl
  | e :: τ, q => by rw [List.map_cons, enumD, en, List.map_cons, enum_tr τ]; rfl
def plD (p : Nat × Ln × Option Nat) : DL.D := .tuple [nD (p.2.2.getD 0), nD p.1]
def hasP (p : Nat × Ln × Option Nat) : Bool := p.2.2.isSome
def kvP (l : List (Nat × Nat)) : KVD := l.map fun p => (.inl (p.1 : Int), nD p.2)
theorem places_en : ∀ (τ : Tc) (q : Nat), pairsK (((en q τ).filter hasP).map plD) = some (kvP (places q τ))
  | [], q => rfl
  | (x, none) :: τ, q => by
    rw [en, List.filter_cons, places]
    exact places_en τ (q + 1)
  | (x, some p) :: τ, q => by
    rw [en, List.filter_cons, places]
    show pairsK (plD (q, x, some p) :: _) = _
    rw [pairsK, places_en τ (q + 1)]
    rfl
theorem look_kv : ∀ (l : List (Nat × Nat)) (i : Nat), lookKK (kvP l) (.inl (i : Int)) = (look1 l i).map nD
  | [], i => rfl
  | (k, v) :: l, i => by
    unfold kvP lookKK
    rw [List.map_cons, List.find?_cons, look1]
    by_cases h : k = i
    · subst h; simp
    · rw [if_neg h, decide_eq_false (fun z => h (by have := Sum.inl.inj z; omega))]
      exact look_kv l i
theorem put_new {l : KVD} {k : Key} {d : DL.D} (h : ∀ p ∈ l, p.1 ≠ k) : putKK l k d = l ++ [(k, d)] := by
  unfold putKK
  rw [if_neg]
  intro z
  obtain ⟨p, hp, e⟩ := List.any_eq_true.mp z
  exact h p hp (of_decide_eq_true e)
theorem merge_new : ∀ (m : List Mk) (p q : Nat) (acc : KVD), (∀ kv ∈ acc, ∃ j : Nat, kv.1 = .inl (j : Int) ∧ j < p) → mergeKK acc (kvP (places q (tr p m))) = acc ++ kvP (places q (tr p m))
  | [], p, q, acc, h => (List.append_nil _).symm
  | .put x :: m, p, q, acc, h => by rw [tr, places]; exact merge_new m p (q + 1) acc h
  | .take x :: m, p, q, acc, h => by
    rw [tr]
    exact merge_new m (p + 1) q acc fun kv hk => by obtain ⟨j, e, hj⟩ := h kv hk; exact ⟨j, e, by omega⟩
  | .keep x :: m, p, q, acc, h => by
    rw [tr, places]
    show mergeKK (putKK acc (.inl (p : Int)) (nD q)) (kvP (places (q + 1) (tr (p + 1) m))) = acc ++ ((.inl (p : Int), nD q) :: kvP (places (q + 1) (tr (p + 1) m)))
    rw [put_new fun kv hk z => by
      obtain ⟨j, e, hj⟩ := h kv hk
      rw [e] at z
      have := Sum.inl.inj z
      omega]
    rw [merge_new m (p + 1) (q + 1) _ fun kv hk => ?_, List.append_assoc]
    · rfl
    · rcases List.mem_append.mp hk with hk | hk
      · obtain ⟨j, e, hj⟩ := h kv hk; exact ⟨j, e, by omega⟩
      · rw [List.mem_singleton.mp hk]; exact ⟨p, rfl, by omega⟩
theorem ta_loop {s0 s1 s2 s5 s7 : Sl} {L : List (Nat × Nat)} : ∀ (xs : List Ln) (p : Nat) (F : List DL.D), F.length + xs.length ≤ 1000 → ∀ s6 s8, ∃ t6 t8,
    forD (.tup [.name 8, .name 6]) lb_turned_about_1 (enumD p (xs.map lnD)) [s0, s1, s2, .own (.list F), .own (.dict (encK (kvP L))), s5, s6, s7, s8] =
      some (.nx [s0, s1, s2, .own (.list (F ++ (found (look1 L) p xs).map tD)), .own (.dict (encK (kvP L))), s5, t6, s7, t8])
  | [], p, F, h, s6, s8 => ⟨s6, s8, by rw [found]; show _ = some (Fl.nx [s0, s1, s2, Sl.own (.list (F ++ [])), _, s5, s6, s7, s8]); rw [List.append_nil]; rfl⟩
  | x :: xs, p, F, h, s6, s8 => by
    rw [List.length_cons] at h
    obtain ⟨t6, t8, ih⟩ := ta_loop (s0 := s0) (s1 := s1) (s2 := s2) (s5 := s5) (s7 := s7) (L := L) xs (p + 1) (F ++ [tD (x, look1 L p)]) (by simp; omega) (.dat (lnD x)) (.dat (nD p))
    refine ⟨t6, t8, ?_⟩
    have bd : bindP (.tup [.name 8, .name 6]) (.tuple [.int (p : Int), lnD x]) [s0, s1, s2, .own (.list F), .own (.dict (encK (kvP L))), s5, s6, s7, s8] = some [s0, s1, s2, .own (.list F), .own (.dict (encK (kvP L))), s5, .dat (lnD x), s7, .dat (nD p)] := rfl
    have z : F.length < szMax := by unfold szMax; omega
    have lk := look_kv L p
    rw [List.map_cons, enumD, for_cons bd (.inl ?_), ih, found, List.map_cons, List.append_assoc]
    · rfl
    cases hl : look1 L p with
    | none =>
      rw [hl] at lk
      simp [lb_turned_about_1, lk, z, tD]
    | some q =>
      rw [hl] at lk
      simp [lb_turned_about_1, lk, z, tD]
theorem v_turned (h : Sp m es) (hn : (ahead m).length ≤ 200) (hb : (behind m).length ≤ 200) : m_turned_about [] [LD (ahead m), patD es] = some (.dat (patD (NM (turned m))), []) := by
  have w := v_want h hn hb
  have t := v_trace h hn hb
  have p := (nm_ok (turned m) (by rw [behind_turned]; exact hn)).2
  have E5 : wipeE [.dat (LD (ahead m)), .dat (patD es), .dat (.list ((tr 0 m).map tD)), .own (.list []), .un, .un, .un, .un, .un] [5, 6, 7] = [.dat (LD (ahead m)), .dat (patD es), .dat (.list ((tr 0 m).map tD)), .own (.list []), .un, .un, .un, .un, .un] := rfl
  obtain ⟨e1, c1, k1⟩ := comp_fmap (inp := enD) (p := hasP) (out := plD) (pat := .tup [.name 5, .tup [.name 6, .name 7]]) (t := ct_turned_about_1) (el := ce_turned_about_1) (ys := en 0 (tr 0 m)) E5 (fun y hy => by
    obtain ⟨q, x, o⟩ := y
    cases o with
    | none =>
      have st : ct_turned_about_1 [.dat (LD (ahead m)), .dat (patD es), .dat (.list ((tr 0 m).map tD)), .own (.list []), .un, .dat (nD q), .dat (lnD x), .dat .none, .un] = some (false, [.dat (LD (ahead m)), .dat (patD es), .dat (.list ((tr 0 m).map tD)), .own (.list []), .un, .dat (nD q), .dat (lnD x), .dat .none, .un]) := by
        have i0 : isNone .none = true := rfl
        simp [ct_turned_about_1, i0]
      exact ⟨_, rfl, _, st, fun _ => rfl, fun z => nomatch z⟩
    | some p =>
      have st : ct_turned_about_1 [.dat (LD (ahead m)), .dat (patD es), .dat (.list ((tr 0 m).map tD)), .own (.list []), .un, .dat (nD q), .dat (lnD x), .dat (nD p), .un] = some (true, [.dat (LD (ahead m)), .dat (patD es), .dat (.list ((tr 0 m).map tD)), .own (.list []), .un, .dat (nD q), .dat (lnD x), .dat (nD p), .un]) := by
        have i0 : isNone (nD p) = false := rfl
        simp [ct_turned_about_1, i0]
      have st2 : ce_turned_about_1 [.dat (LD (ahead m)), .dat (patD es), .dat (.list ((tr 0 m).map tD)), .own (.list []), .un, .dat (nD q), .dat (lnD x), .dat (nD p), .un] = some (.d (plD (q, x, some p)), [.dat (LD (ahead m)), .dat (patD es), .dat (.list ((tr 0 m).map tD)), .own (.list []), .un, .dat (nD q), .dat (lnD x), .dat (nD p), .un]) := by
        simp [ce_turned_about_1, plD]
      exact ⟨_, rfl, _, st, (fun z => nomatch z), fun _ => ⟨_, _, st2, _, rfl, rfl⟩⟩)
  rw [← enum_tr] at c1
  have r1 := rest_all (vs := [5, 6, 7]) (k1.trans E5.symm)
  have pl := places_en (tr 0 m) 0
  have mg := merge_new m 0 0 [] (fun kv hk => nomatch hk)
  rw [List.nil_append] at mg
  have du : dictU [.list (((en 0 (tr 0 m)).filter hasP).map plD)] = some (.own (.dict (encK (kvP (places 0 (tr 0 m)))))) := by
    show (match pairsK (((en 0 (tr 0 m)).filter hasP).map plD) with
      | some l => some (Sl.own (.dict (encK (mergeKK [] l))))
      | none => dictOfD [.list (((en 0 (tr 0 m)).filter hasP).map plD)]) = _
    rw [pl]
    simp only
    rw [mg]
  have hl : (tr 0 m).length = (behind m).length := trm_len m 0
  have fd := found_tr (look1 (places 0 (tr 0 m))) m 0 0 fun _ _ => rfl
  obtain ⟨t6, t8, lp⟩ := ta_loop (s0 := .dat (LD (ahead m))) (s1 := .dat (patD es)) (s2 := .dat (.list ((tr 0 m).map tD))) (s5 := .un) (s7 := .un) (L := places 0 (tr 0 m)) (ahead m) 0 [] (by simp; omega) .un .un
  rw [fd, List.nil_append] at lp
  have s1 : (tr 0 m).length ≤ szMax := by unfold szMax; omega
  have en1 : (enumD 0 ((tr 0 m).map tD)).length ≤ szMax := by rw [enumD_len, List.length_map]; exact s1
  have s2 : (ahead m).length ≤ szMax := by unfold szMax; omega
  have la : (ahead (turned m)).length = (tr 0 m).length := by rw [ahead_turned, hl]
  rw [la] at p
  have p : m_patch_of_trace [] [.int ((tr 0 m).length : Int), .list ((tr 0 (turned m)).map tD)] = some (.dat (patD (NM (turned m))), []) := p
  rw [m_turned_about, ev_run, show env0 false 9 [] [LD (ahead m), patD es] = [.dat (LD (ahead m)), .dat (patD es), .un, .un, .un, .un, .un, .un, .un] from rfl]
  have q : g_turned_about [.dat (LD (ahead m)), .dat (patD es), .un, .un, .un, .un, .un, .un, .un] = some (.rt (.dat (patD (NM (turned m)))) [.dat (LD (ahead m)), .dat (patD es), .dat (.list ((tr 0 m).map tD)), .dat (.list ((tr 0 (turned m)).map tD)), .own (.dict (encK (kvP (places 0 (tr 0 m))))), .un, t6, .un, t8]) := by
    refine seq_nx (e' := [.dat (LD (ahead m)), .dat (patD es), .un, .un, .un, .un, .un, .un, .un]) ?_ ?_
    · simp [w]
    refine seq_nx (e' := [.dat (LD (ahead m)), .dat (patD es), .own (.list ((tr 0 m).map tD)), .own (.list []), .un, .un, .un, .un, .un]) ?_ ?_
    · simp [t]
    refine seq_nx (e' := [.dat (LD (ahead m)), .dat (patD es), .dat (.list ((tr 0 m).map tD)), .own (.list []), .own (.dict (encK (kvP (places 0 (tr 0 m))))), .un, .un, .un, .un]) ?_ ?_
    · simp [en1, c1, r1, du]
    refine seq_nx (e' := [.dat (LD (ahead m)), .dat (patD es), .dat (.list ((tr 0 m).map tD)), .own (.list ((tr 0 (turned m)).map tD)), .own (.dict (encK (kvP (places 0 (tr 0 m))))), .un, t6, .un, t8]) ?_ ?_
    · simp
      exact lp
    simp [p]
  rw [q]
  rfl
/-! ### joined -/
theorem tr_pos : ∀ (l : List Mk) (q : Nat) (e : Ln × Option Nat) (j : Nat), e ∈ tr q l → e.2 = some j → j < q + (ahead l).length
  | [], q, e, j, h, _ => nomatch h
  | .keep x :: l, q, e, j, h, hj => by
    rw [ahead, List.length_cons]
    rw [tr] at h
    rcases List.mem_cons.mp h with rfl | h
    · cases hj; omega
    · have := tr_pos l (q + 1) e j h hj; omega
  | .take x :: l, q, e, j, h, hj => by
    rw [ahead, List.length_cons]
    rw [tr] at h
    have := tr_pos l (q + 1) e j h hj; omega
  | .put x :: l, q, e, j, h, hj => by
    rw [ahead]
    rw [tr] at h
    rcases List.mem_cons.mp h with rfl | h
    · cases hj
    · exact tr_pos l q e j h hj
def compE (N : Tc) (e : Ln × Option Nat) : Ln × Option Nat := (e.1, e.2.bind fun j => (N[j]?).bind (·.2))
theorem v_joined (h : Sp m es) (k : Sp l fs) (hl : ahead l = behind m) (hn : (ahead m).length ≤ 200) (hb : (behind m).length ≤ 200) (hf : (behind l).length ≤ 200) : m_joined_patch [] [LD (ahead m), patD es, patD fs] = some (.dat (patD (NM (joinM m l))), []) := by
  have w := v_want h hn hb
  have t := v_trace h hn hb
  have tl := v_trace k (by rw [hl]; exact hb) hf
  rw [hl] at tl
  have ja := join_ahead m l hl
  have jb := join_behind m l hl
  have p := (nm_ok (joinM m l) (by rw [jb]; exact hf)).2
  rw [ja, ← join_tr (tr 0 m) m l 0 0 hl rfl] at p
  have p : m_patch_of_trace [] [.int ((ahead m).length : Int), .list ((comp (tr 0 m) (tr 0 l)).map tD)] = some (.dat (patD (NM (joinM m l))), []) := p
  have po := v_patch_ofG ((tr 0 m).map tD) fs k.ok k.len
  have ku := k.us
  have kl := k.la
  have hlen : (tr 0 m).length = (behind m).length := trm_len m 0
  have hlen2 : (tr 0 l).length = (behind l).length := trm_len l 0
  rw [decide_eq_true (by rw [List.length_map, ku, hl, hlen]), decide_eq_true (by omega), Bool.and_true] at po
  have s1 : (tr 0 m).length ≤ szMax := by unfold szMax; omega
  have s2 : (tr 0 l).length ≤ szMax := by unfold szMax; omega
  have E1 : wipeE [.dat (LD (ahead m)), .dat (patD es), .dat (patD fs), .dat (.list ((tr 0 m).map tD)), .un, .un, .un, .un] [5, 6] = [.dat (LD (ahead m)), .dat (patD es), .dat (patD fs), .dat (.list ((tr 0 m).map tD)), .un, .un, .un, .un] := rfl
  obtain ⟨e1, c1, k1⟩ := comp_map (inp := tD) (out := fun e => lnD e.1) (pat := .tup [.name 5, .name 6]) (t := dYes) (el := ce_joined_patch_1) (ys := tr 0 m) E1 (fun e he => by
    obtain ⟨x, o⟩ := e
    cases o with
    | none =>
      have st : ce_joined_patch_1 [.dat (LD (ahead m)), .dat (patD es), .dat (patD fs), .dat (.list ((tr 0 m).map tD)), .un, .dat (lnD x), .dat .none, .un] = some (.slot 5, [.dat (LD (ahead m)), .dat (patD es), .dat (patD fs), .dat (.list ((tr 0 m).map tD)), .un, .dat (lnD x), .dat .none, .un]) := by simp [ce_joined_patch_1]
      exact ⟨_, rfl, _, rfl, _, _, st, _, rfl, rfl⟩
    | some p =>
      have st : ce_joined_patch_1 [.dat (LD (ahead m)), .dat (patD es), .dat (patD fs), .dat (.list ((tr 0 m).map tD)), .un, .dat (lnD x), .dat (nD p), .un] = some (.slot 5, [.dat (LD (ahead m)), .dat (patD es), .dat (patD fs), .dat (.list ((tr 0 m).map tD)), .un, .dat (lnD x), .dat (nD p), .un]) := by simp [ce_joined_patch_1]
      exact ⟨_, rfl, _, rfl, _, _, st, _, rfl, rfl⟩)
  have e1' : (tr 0 m).map (fun e => lnD e.1) = (behind m).map lnD := by rw [← tr_fst m 0, List.map_map]; rfl
  rw [e1'] at c1
  have r1 := rest_all (vs := [5, 6]) (k1.trans E1.symm)
  have E2 : wipeE [.dat (LD (ahead m)), .dat (patD es), .dat (patD fs), .dat (.list ((tr 0 m).map tD)), .dat (.list ((tr 0 l).map tD)), .un, .un, .un] [5, 7] = [.dat (LD (ahead m)), .dat (patD es), .dat (patD fs), .dat (.list ((tr 0 m).map tD)), .dat (.list ((tr 0 l).map tD)), .un, .un, .un] := rfl
  obtain ⟨e2, c2, k2⟩ := comp_map (inp := tD) (out := fun e => tD (compE (tr 0 m) e)) (pat := .tup [.name 5, .name 7]) (t := dYes) (el := ce_joined_patch_2) (ys := tr 0 l) E2 (fun e he => by
    obtain ⟨x, o⟩ := e
    cases o with
    | none =>
      have i0 : isNone .none = true := rfl
      have st : ce_joined_patch_2 [.dat (LD (ahead m)), .dat (patD es), .dat (patD fs), .dat (.list ((tr 0 m).map tD)), .dat (.list ((tr 0 l).map tD)), .dat (lnD x), .un, .dat .none] = some (.d (tD (x, none)), [.dat (LD (ahead m)), .dat (patD es), .dat (patD fs), .dat (.list ((tr 0 m).map tD)), .dat (.list ((tr 0 l).map tD)), .dat (lnD x), .un, .dat .none]) := by simp [ce_joined_patch_2, i0, tD]
      exact ⟨_, rfl, _, rfl, _, _, st, _, rfl, rfl⟩
    | some j =>
      have hj : j < (tr 0 m).length := by
        have := tr_pos l 0 (x, some j) j he rfl
        rw [hl] at this
        omega
      have i0 : isNone (nD j) = false := rfl
      have g : (tr 0 m)[j]? = some (tr 0 m)[j] := List.getElem?_eq_getElem hj
      have st : ce_joined_patch_2 [.dat (LD (ahead m)), .dat (patD es), .dat (patD fs), .dat (.list ((tr 0 m).map tD)), .dat (.list ((tr 0 l).map tD)), .dat (lnD x), .un, .dat (nD j)] = some (.d (tD (compE (tr 0 m) (x, some j))), [.dat (LD (ahead m)), .dat (patD es), .dat (patD fs), .dat (.list ((tr 0 m).map tD)), .dat (.list ((tr 0 l).map tD)), .dat (lnD x), .un, .dat (nD j)]) := by
        unfold compE
        rw [show (x, some j).2 = some j from rfl, Option.bind_some, g, Option.bind_some]
        generalize (tr 0 m)[j] = z at g
        obtain ⟨y, o⟩ := z
        cases o with
        | none => simp [ce_joined_patch_2, i0, atI_k, g, tD]
        | some p => simp [ce_joined_patch_2, i0, atI_k, g, tD]
      exact ⟨_, rfl, _, rfl, _, _, st, _, rfl, rfl⟩)
  have e2' : (tr 0 l).map (fun e => tD (compE (tr 0 m) e)) = (comp (tr 0 m) (tr 0 l)).map tD := by unfold comp; rw [List.map_map]; rfl
  rw [e2'] at c2
  have r2 := rest_all (vs := [5, 7]) (k2.trans E2.symm)
  rw [m_joined_patch, ev_run, show env0 false 8 [] [LD (ahead m), patD es, patD fs] = [.dat (LD (ahead m)), .dat (patD es), .dat (patD fs), .un, .un, .un, .un, .un] from rfl]
  simp [g_joined_patch, w, t, po, c1, r1, s1, tl, c2, r2, s2, p, ev_fin_f]
end
end K72
namespace K72
open PySem PySem.Spec PyProof.Rows L2 DL
def Mk.word : Mk → Str
  | .keep _ => "keep"
  | .take _ => "take"
  | .put _ => "put"
def Mk.line : Mk → Ln
  | .keep x => x
  | .take x => x
  | .put x => x
def Mk.D (m : Mk) : DL.D := .tuple [.str m.word, lnD m.line]
abbrev MD (m : List Mk) : DL.D := .list (m.map Mk.D)
theorem ok_end : PyData.strOk "end" = true := by decide +kernel
@[simp] theorem e1 : eqD (.str "end") (.str "take") = some (.dat (.bool false)) := by rw [eq_s ok_end ok_take]; rfl
@[simp] theorem e2 : eqD (.str "end") (.str "keep") = some (.dat (.bool false)) := by rw [eq_s ok_end ok_keep]; rfl
@[simp] theorem e3 : eqD (.str "end") (.str "put") = some (.dat (.bool false)) := by rw [eq_s ok_end ok_put]; rfl
@[simp] theorem w10 : eqD (.str "put") (.str "take") = some (.dat (.bool false)) := by rw [eq_s ok_put ok_take]; rfl
/-! ### the law's normal patch -/
def envN (md : DL.D) (s : LS) (w ln : Sl) : Env' := [.dat md, .own (.list (s.F.map Ed.D)), .dat (nD s.t), .own (LD s.q), .dat (nD s.k), w, ln]
theorem ln_step {md : DL.D} {s : LS} (a : Mk) (hF : s.F.length ≤ 5000) (hq : s.q.length ≤ 1000) {w l : Sl} :
    lb__law_normal_1 (envN md s (.dat (.str a.word)) (.dat (lnD a.line))) = some (.nx (envN md (stepL s a) (.dat (.str a.word)) (.dat (lnD a.line)))) := by
  obtain ⟨F, t, q, k⟩ := s
  have z0 : F.length ≤ szMax := by simp at hF; unfold szMax; omega
  have z1 : F.length + 1 ≤ szMax := by simp at hF; unfold szMax; omega
  have z2 : F.length + 1 + 1 ≤ szMax := by simp at hF; unfold szMax; omega
  have z3 : F.length + 1 + 1 + 1 ≤ szMax := by simp at hF; unfold szMax; omega
  have y2 : F.length + 2 ≤ szMax := z2
  have y3 : F.length + 3 ≤ szMax := z3
  have y4 : F.length + (1 + 1) ≤ szMax := z2
  have y5 : F.length + 1 + (1 + 1) ≤ szMax := z3
  have zq : q.length ≤ szMax := by simp at hq; unfold szMax; omega
  have zq1 : q.length + 1 ≤ szMax := by simp at hq; unfold szMax; omega
  have zl : q.length < szMax := zq1
  have ik : inD false (.str "keep") (.tuple [.str "keep", .str "end"]) = some (.dat (.bool true)) := rfl
  have it : inD false (.str "take") (.tuple [.str "keep", .str "end"]) = some (.dat (.bool false)) := rfl
  have ip : inD false (.str "put") (.tuple [.str "keep", .str "end"]) = some (.dat (.bool false)) := rfl
  have i1 : intOfD [.bool true] = some (.dat (.int 1)) := rfl
  have i0 : intOfD [.bool false] = some (.dat (.int 0)) := rfl
  unfold envN
  cases a with
  | take x => simp [lb__law_normal_1, Mk.word, Mk.line, stepL, it, i1, i0, zq]
  | put x => simp [lb__law_normal_1, Mk.word, Mk.line, stepL, ip, i1, i0, zq1, zl]
  | keep x =>
    unfold stepL flush busy kk tt pu
    by_cases h1 : 0 < t
    · by_cases h2 : q = []
      · subst h2
        by_cases h3 : 0 < k <;> simp [lb__law_normal_1, Mk.word, Mk.line, ik, i1, i0, h1, h3, z0, z1, z2, z3, y2, y3, y4, y5, Ed.D]
      · by_cases h3 : 0 < k <;> simp [lb__law_normal_1, Mk.word, Mk.line, ik, i1, i0, h1, h2, h3, z0, z1, z2, z3, y2, y3, y4, y5, Ed.D]
    · have h1' : t = 0 := by omega
      subst h1'
      by_cases h2 : q = []
      · subst h2
        by_cases h3 : 0 < k <;> simp [lb__law_normal_1, Mk.word, Mk.line, ik, i1, i0, h3, z0, z1, z2, z3, y2, y3, y4, y5, Ed.D]
      · by_cases h3 : 0 < k <;> simp [lb__law_normal_1, Mk.word, Mk.line, ik, i1, i0, h2, h3, z0, z1, z2, z3, y2, y3, y4, y5, zq, Ed.D]
theorem ln_end {md : DL.D} {s : LS} (hF : s.F.length ≤ 5000) (hq : s.q.length ≤ 1000) :
    lb__law_normal_1 (envN md s (.dat (.str "end")) (.dat (.str ""))) = some (.nx (envN md (flush s) (.dat (.str "end")) (.dat (.str "")))) := by
  obtain ⟨F, t, q, k⟩ := s
  have z0 : F.length ≤ szMax := by simp at hF; unfold szMax; omega
  have z1 : F.length + 1 ≤ szMax := by simp at hF; unfold szMax; omega
  have z2 : F.length + 1 + 1 ≤ szMax := by simp at hF; unfold szMax; omega
  have z3 : F.length + 1 + 1 + 1 ≤ szMax := by simp at hF; unfold szMax; omega
  have y2 : F.length + 2 ≤ szMax := z2
  have y3 : F.length + 3 ≤ szMax := z3
  have y4 : F.length + (1 + 1) ≤ szMax := z2
  have y5 : F.length + 1 + (1 + 1) ≤ szMax := z3
  have zq : q.length ≤ szMax := by simp at hq; unfold szMax; omega
  have ie : inD false (.str "end") (.tuple [.str "keep", .str "end"]) = some (.dat (.bool true)) := rfl
  have i1 : intOfD [.bool true] = some (.dat (.int 1)) := rfl
  have i0 : intOfD [.bool false] = some (.dat (.int 0)) := rfl
  unfold envN flush busy kk tt pu
  by_cases h1 : 0 < t
  · by_cases h2 : q = []
    · subst h2
      by_cases h3 : 0 < k <;> simp [lb__law_normal_1, ie, i1, i0, h1, h3, z0, z1, z2, z3, y2, y3, y4, y5, Ed.D]
    · by_cases h3 : 0 < k <;> simp [lb__law_normal_1, ie, i1, i0, h1, h2, h3, z0, z1, z2, z3, y2, y3, y4, y5, Ed.D]
  · have h1' : t = 0 := by omega
    subst h1'
    by_cases h2 : q = []
    · subst h2
      by_cases h3 : 0 < k <;> simp [lb__law_normal_1, ie, i1, i0, h3, z0, z1, z2, z3, y2, y3, y4, y5, Ed.D]
    · by_cases h3 : 0 < k <;> simp [lb__law_normal_1, ie, i1, i0, h2, h3, z0, z1, z2, z3, y2, y3, y4, y5, zq, Ed.D]
theorem flush_len (s : LS) : (flush s).F.length ≤ s.F.length + 3 ∧ (flush s).q.length ≤ s.q.length := by
  unfold flush
  split
  · refine ⟨?_, Nat.zero_le _⟩
    have h1 : (kk s.k).length ≤ 1 := by unfold kk; split <;> simp
    have h2 : (tt s.t).length ≤ 1 := by unfold tt; split <;> simp
    have h3 := len_pu s.q
    simp only [List.length_append]
    omega
  · exact ⟨Nat.le_add_right _ _, Nat.le_refl _⟩
theorem ln_loop {md : DL.D} : ∀ (m : List Mk) (s : LS), s.F.length + 3 * m.length ≤ 4000 → s.q.length + m.length ≤ 900 → ∀ w l, ∃ w' l',
    forD (.tup [.name 5, .name 6]) lb__law_normal_1 (m.map Mk.D ++ [.tuple [.str "end", .str ""]]) (envN md s w l) = some (.nx (envN md (flush (m.foldl stepL s)) w' l'))
  | [], s, hF, hq, w, l => by
    refine ⟨.dat (.str "end"), .dat (.str ""), ?_⟩
    show forD (.tup [.name 5, .name 6]) lb__law_normal_1 [.tuple [.str "end", .str ""]] _ = _
    have bd : bindP (.tup [.name 5, .name 6]) (.tuple [.str "end", .str ""]) (envN md s w l) = some (envN md s (.dat (.str "end")) (.dat (.str ""))) := rfl
    rw [for_cons bd (.inl (ln_end (by omega) (by omega)))]
    rfl
  | a :: m, s, hF, hq, w, l => by
    rw [List.length_cons] at hF hq
    have fl := flush_len s
    have b : (stepL s a).F.length ≤ s.F.length + 3 ∧ (stepL s a).q.length ≤ s.q.length + 1 := by
      cases a with
      | keep x => exact ⟨fl.1, by have := fl.2; show (flush s).q.length ≤ _; omega⟩
      | take x => exact ⟨Nat.le_add_right _ _, Nat.le_add_right _ _⟩
      | put x => exact ⟨Nat.le_add_right _ _, by simp [stepL]⟩
    obtain ⟨w', l', ih⟩ := ln_loop (md := md) m (stepL s a) (by omega) (by omega) (.dat (.str a.word)) (.dat (lnD a.line))
    refine ⟨w', l', ?_⟩
    have bd : bindP (.tup [.name 5, .name 6]) a.D (envN md s w l) = some (envN md s (.dat (.str a.word)) (.dat (lnD a.line))) := rfl
    rw [List.map_cons, List.cons_append, for_cons bd (.inl (ln_step (w := w) (l := l) a (by omega) (by omega))), ih, List.foldl_cons]
theorem v_normal (m : List Mk) (hm : m.length ≤ 300) : m__law_normal [] [MD m] = some (.dat (patD (NM m)), []) := by
  obtain ⟨w', l', lp⟩ := ln_loop (md := MD m) m ⟨[], 0, [], 0⟩ (by simp; omega) (by simp; omega) .un .un
  have ln := lawN_NF m
  have z1 : m.length + 1 ≤ szMax := by unfold szMax; omega
  have hlen : (flush (m.foldl stepL ⟨[], 0, [], 0⟩)).F.length ≤ 1000 := by
    have : ∀ (m : List Mk) (s : LS), (m.foldl stepL s).F.length ≤ s.F.length + 3 * m.length := fun m => by
      induction m with
      | nil => intro s; exact Nat.le_refl _
      | cons a m ih =>
        intro s
        have := ih (stepL s a)
        have fl := flush_len s
        have b : (stepL s a).F.length ≤ s.F.length + 3 := by cases a <;> first | exact fl.1 | exact Nat.le_add_right _ _
        rw [List.foldl_cons, List.length_cons]; omega
    have h1 := this m ⟨[], 0, [], 0⟩
    have h2 := (flush_len (m.foldl stepL ⟨[], 0, [], 0⟩)).1
    simp at h1
    omega
  unfold lawN endL at ln
  generalize flush (m.foldl stepL ⟨[], 0, [], 0⟩) = s at lp ln hlen
  have lp : forD (.tup [.name 5, .name 6]) lb__law_normal_1 (m.map Mk.D ++ [.tuple [.str "end", .str ""]]) [.dat (MD m), .own (.list []), .dat (.int 0), .own (.list []), .dat (.int 0), .un, .un] = some (.nx [.dat (MD m), .own (.list (s.F.map Ed.D)), .dat (nD s.t), .own (LD s.q), .dat (nD s.k), w', l']) := lp
  have s0 : s.F.length ≤ szMax := by unfold szMax; omega
  have s1 : s.F.length + 1 ≤ szMax := by unfold szMax; omega
  rw [m__law_normal, ev_run, show env0 false 7 [] [MD m] = [.dat (MD m), .un, .un, .un, .un, .un, .un] from rfl]
  unfold NM
  rw [← ln]
  unfold kk
  by_cases h : 0 < s.k <;> simp [g__law_normal, z1, lp, h, s0, s1, ev_fin_f, Ed.D]
end K72
namespace K72
open PySem PySem.Spec PyProof.Rows L2 DL
def isNT : Mk → Bool
  | .take _ => false
  | _ => true
theorem behind_filter : ∀ m : List Mk, (m.filter isNT).map (fun a => lnD a.line) = (behind m).map lnD
  | [] => rfl
  | .keep x :: m => by rw [behind, List.filter_cons]; show lnD x :: _ = _; rw [behind_filter m]; rfl
  | .take x :: m => by rw [behind, List.filter_cons]; exact behind_filter m
  | .put x :: m => by rw [behind, List.filter_cons]; show lnD x :: _ = _; rw [behind_filter m]; rfl
theorem v_behind (m : List Mk) (hm : m.length ≤ 300) : m__law_behind [] [MD m] = some (.own (LD (behind m)), []) := by
  have E1 : wipeE [.dat (MD m), .un, .un] [1, 2] = [.dat (MD m), .un, .un] := rfl
  obtain ⟨e1, c1, k1⟩ := comp_fmap (inp := Mk.D) (p := isNT) (out := fun a => lnD a.line) (pat := .tup [.name 1, .name 2]) (t := ct__law_behind_1) (el := ce__law_behind_1) (ys := m) E1 (fun a _ => by
    have st : ct__law_behind_1 [.dat (MD m), .dat (.str a.word), .dat (lnD a.line)] = some (isNT a, [.dat (MD m), .dat (.str a.word), .dat (lnD a.line)]) := by
      cases a <;> simp [ct__law_behind_1, Mk.word, isNT]
    have st2 : ce__law_behind_1 [.dat (MD m), .dat (.str a.word), .dat (lnD a.line)] = some (.slot 2, [.dat (MD m), .dat (.str a.word), .dat (lnD a.line)]) := by simp [ce__law_behind_1]
    exact ⟨_, rfl, _, st, fun _ => rfl, fun _ => ⟨_, _, st2, _, rfl, rfl⟩⟩)
  rw [behind_filter] at c1
  have r1 := rest_all (vs := [1, 2]) (k1.trans E1.symm)
  have z : m.length ≤ szMax := by unfold szMax; omega
  rw [m__law_behind, ev_run, show env0 false 3 [] [MD m] = [.dat (MD m), .un, .un] from rfl]
  simp [g__law_behind, z, c1, r1, ev_fin_f]
theorem v_turnedM (m : List Mk) (hm : m.length ≤ 300) : m__law_turned_marks [] [MD m] = some (.own (MD (turned m)), []) := by
  have E1 : wipeE [.dat (MD m), .un, .un] [1, 2] = [.dat (MD m), .un, .un] := rfl
  obtain ⟨e1, c1, k1⟩ := comp_map (inp := Mk.D) (out := fun a => a.turn.D) (pat := .tup [.name 1, .name 2]) (t := dYes) (el := ce__law_turned_marks_1) (ys := m) E1 (fun a _ => by
    have st2 : ce__law_turned_marks_1 [.dat (MD m), .dat (.str a.word), .dat (lnD a.line)] = some (.d a.turn.D, [.dat (MD m), .dat (.str a.word), .dat (lnD a.line)]) := by
      have l1 : lookKK (mergeKK [] [(.inr "keep", PyData.str "keep"), (.inr "take", .str "put"), (.inr "put", .str "take")]) (.inr "keep") = some (.str "keep") := by with_unfolding_all rfl
      have l2 : lookKK (mergeKK [] [(.inr "keep", PyData.str "keep"), (.inr "take", .str "put"), (.inr "put", .str "take")]) (.inr "take") = some (.str "put") := by with_unfolding_all rfl
      have l3 : lookKK (mergeKK [] [(.inr "keep", PyData.str "keep"), (.inr "take", .str "put"), (.inr "put", .str "take")]) (.inr "put") = some (.str "take") := by with_unfolding_all rfl
      cases a
      · simp [ce__law_turned_marks_1, Mk.word, Mk.turn, Mk.D, Mk.line, l1]
      · simp [ce__law_turned_marks_1, Mk.word, Mk.turn, Mk.D, Mk.line, l2]
      · simp [ce__law_turned_marks_1, Mk.word, Mk.turn, Mk.D, Mk.line, l3]
    exact ⟨_, rfl, _, rfl, _, _, st2, _, rfl, rfl⟩)
  have e2 : m.map (fun a => a.turn.D) = (turned m).map Mk.D := by unfold turned; rw [List.map_map]; rfl
  rw [e2] at c1
  have r1 := rest_all (vs := [1, 2]) (k1.trans E1.symm)
  have z : m.length ≤ szMax := by unfold szMax; omega
  rw [m__law_turned_marks, ev_run, show env0 false 3 [] [MD m] = [.dat (MD m), .un, .un] from rfl]
  simp [g__law_turned_marks, z, c1, r1, ev_fin_f]
/-! ### marks of both, one behind the other -/
theorem split_ahead : ∀ {l : List Mk} {z : Ln} {r : List Ln}, ahead l = z :: r → ∃ ys y l', l = (ys : List Ln).map .put ++ y :: l' ∧ (y = .keep z ∨ y = .take z) ∧ ahead l' = r
  | .keep x :: l, z, r, h => by rw [ahead] at h; cases h; exact ⟨[], _, l, rfl, .inl rfl, rfl⟩
  | .take x :: l, z, r, h => by rw [ahead] at h; cases h; exact ⟨[], _, l, rfl, .inr rfl, rfl⟩
  | .put x :: l, z, r, h => by
    rw [ahead] at h
    obtain ⟨ys, y, l', rfl, h2, h3⟩ := split_ahead h
    exact ⟨x :: ys, y, l', rfl, h2, h3⟩
theorem join_puts (a : Mk) (ha : ∀ x, a ≠ .take x) (m l : List Mk) : ∀ ys : List Ln, joinM (a :: m) (ys.map .put ++ l) = ys.map .put ++ joinM (a :: m) l
  | [] => rfl
  | y :: ys => by
    cases a with
    | take x => exact absurd rfl (ha x)
    | keep x => rw [List.map_cons, List.cons_append, joinM, join_puts _ ha m l ys]; rfl
    | put x => rw [List.map_cons, List.cons_append, joinM, join_puts _ ha m l ys]; rfl
theorem jm_while {s0 s1 s4 s5 s6 : Sl} {y : Mk} {l : List Mk} (hy : ∀ x, y ≠ .put x) (hl : l.length ≤ 900) : ∀ (ys : List Ln) (n : Nat) (F : List Mk), ys.length < n → F.length + ys.length ≤ 5000 → ys.length ≤ 900 →
    whileD n wt__law_joined_marks_1 lb__law_joined_marks_1 [s0, s1, .own (MD F), .own (MD (ys.map .put ++ y :: l)), s4, s5, s6] = some (.nx [s0, s1, .own (MD (F ++ ys.map .put)), .own (MD (y :: l)), s4, s5, s6])
  | ys, 0, F, h, _, _ => absurd h (Nat.not_lt_zero _)
  | [], n + 1, F, h, hF, hs => by
    rw [List.map_nil, List.nil_append, List.append_nil, whileD]
    have : wt__law_joined_marks_1 [s0, s1, .own (MD F), .own (MD (y :: l)), s4, s5, s6] = some (false, [s0, s1, .own (MD F), .own (MD (y :: l)), s4, s5, s6]) := by
      cases y with
      | put x => exact absurd rfl (hy x)
      | keep x => simp [wt__law_joined_marks_1, Mk.D, Mk.word]
      | take x => simp [wt__law_joined_marks_1, Mk.D, Mk.word]
    rw [this]
    rfl
  | z :: ys, n + 1, F, h, hF, hs => by
    rw [List.length_cons] at h hF hs
    have ih := jm_while (s0 := s0) (s1 := s1) (s4 := s4) (s5 := s5) (s6 := s6) hy hl ys n (F ++ [.put z]) (by omega) (by simp; omega) (by omega)
    rw [whileD]
    have t1 : wt__law_joined_marks_1 [s0, s1, .own (MD F), .own (MD ((z :: ys).map .put ++ y :: l)), s4, s5, s6] = some (true, [s0, s1, .own (MD F), .own (MD ((z :: ys).map .put ++ y :: l)), s4, s5, s6]) := by
      simp [wt__law_joined_marks_1, Mk.D, Mk.word]
    have zz : ys.length + (l.length + 1) < szMax := by unfold szMax; omega
    have zF : F.length < szMax := by unfold szMax; omega
    have b1 : lb__law_joined_marks_1 [s0, s1, .own (MD F), .own (MD ((z :: ys).map .put ++ y :: l)), s4, s5, s6] = some (.nx [s0, s1, .own (MD (F ++ [.put z])), .own (MD (ys.map .put ++ y :: l)), s4, s5, s6]) := by
      simp [lb__law_joined_marks_1, zz, zF]
    rw [t1, Option.bind_some, if_pos rfl, b1, Option.bind_some]
    simp only
    rw [ih, List.append_assoc]
    rfl
end K72
namespace DL
open PySem PySem.Spec PyProof.Rows L2
theorem if_no {t : TTE} {g k : SE} {env e' : Env'} {r : Option Fl} (h : t env = some (false, e')) (h2 : k e' = r) : dIfS t g k env = r := by
  rw [ev_dIfS, h]; exact h2
theorem if_yes {t : TTE} {g k : SE} {env e' : Env'} {r : Option Fl} (h : t env = some (true, e')) (h2 : g e' = r) : dIfS t g k env = r := by
  rw [ev_dIfS, h]; exact h2
end DL
namespace K72
open PySem PySem.Spec PyProof.Rows L2 DL
theorem jm_loop {s0 s1 : Sl} : ∀ (m l F : List Mk), ahead l = behind m → F.length + 2 * m.length + l.length ≤ 900 → ∀ s4 s5 s6, ∃ F' l' t4 t5 t6, F' ++ l' = F ++ joinM m l ∧
    forD (.tup [.name 4, .name 5]) lb__law_joined_marks_2 (m.map Mk.D) [s0, s1, .own (MD F), .own (MD l), s4, s5, s6] = some (.nx [s0, s1, .own (MD F'), .own (MD l'), t4, t5, t6])
  | [], l, F, h, hb, s4, s5, s6 => ⟨F, l, s4, s5, s6, by rw [joinM], rfl⟩
  | .take x :: m, l, F, h, hb, s4, s5, s6 => by
    rw [List.length_cons] at hb
    obtain ⟨F', l', t4, t5, t6, e, ih⟩ := jm_loop (s0 := s0) (s1 := s1) m l (F ++ [.take x]) h (by simp; omega) (.dat (.str "take")) (.dat (lnD x)) s6
    refine ⟨F', l', t4, t5, t6, by rw [e, joinM, List.append_assoc]; rfl, ?_⟩
    have bd : bindP (.tup [.name 4, .name 5]) (Mk.take x).D [s0, s1, .own (MD F), .own (MD l), s4, s5, s6] = some [s0, s1, .own (MD F), .own (MD l), .dat (.str "take"), .dat (lnD x), s6] := rfl
    have z : F.length < szMax := by unfold szMax; omega
    rw [List.map_cons, for_cons bd (.inl ?_), ih]
    have dx : (Mk.take x).D = .tuple [.str "take", lnD x] := rfl
    refine if_yes (e' := [s0, s1, .own (MD F), .own (MD l), .dat (.str "take"), .dat (lnD x), s6]) (by simp) ?_
    simp [z, dx]
  | .keep x :: m, l, F, h, hb, s4, s5, s6 => by
    rw [List.length_cons] at hb
    obtain ⟨ys, y, l2, rfl, hy, h2⟩ := split_ahead h
    rw [List.length_append, List.length_map, List.length_cons] at hb
    have jp := join_puts (.keep x) (fun z e => nomatch e) m (y :: l2) ys
    have ny : ∀ z, y ≠ .put z := fun z e => by rcases hy with rfl | rfl <;> cases e
    have wh := jm_while (s0 := s0) (s1 := s1) (s4 := .dat (.str "keep")) (s5 := .dat (lnD x)) (s6 := s6) (y := y) (l := l2) ny (by omega) ys 1000 F (by omega) (by omega) (by omega)
    have bd : bindP (.tup [.name 4, .name 5]) (Mk.keep x).D [s0, s1, .own (MD F), .own (MD (ys.map .put ++ y :: l2)), s4, s5, s6] = some [s0, s1, .own (MD F), .own (MD (ys.map .put ++ y :: l2)), .dat (.str "keep"), .dat (lnD x), s6] := rfl
    have z : F.length + ys.length < szMax := by unfold szMax; omega
    have z2 : l2.length < szMax := by unfold szMax; omega
    obtain ⟨w, hw, jw⟩ : ∃ w : Mk, w.D = .tuple [.str y.word, lnD x] ∧ joinM (.keep x :: m) (y :: l2) = w :: joinM m l2 := by
      rcases hy with rfl | rfl
      · exact ⟨.keep x, rfl, by rw [joinM]⟩
      · exact ⟨.take x, rfl, by rw [joinM]⟩
    obtain ⟨F', l', t4, t5, t6, e, ih⟩ := jm_loop (s0 := s0) (s1 := s1) m l2 (F ++ ys.map .put ++ [w]) h2 (by simp; omega) (.dat (.str "keep")) (.dat (lnD x)) (.dat (.str y.word))
    refine ⟨F', l', t4, t5, t6, by rw [e, jp, jw]; simp, ?_⟩
    rw [List.map_cons, for_cons bd (.inl ?_), ih]
    refine if_no (e' := [s0, s1, .own (MD F), .own (MD (ys.map .put ++ y :: l2)), .dat (.str "keep"), .dat (lnD x), s6]) (by simp) ?_
    refine seq_nx wh ?_
    have dy : y.D = .tuple [.str y.word, lnD y.line] := rfl
    refine seq_nx (e' := [s0, s1, .own (MD (F ++ ys.map .put)), .own (MD l2), .dat (.str "keep"), .dat (lnD x), .dat (.str y.word)]) ?_ ?_
    · simp [dy, z2]
    refine if_yes (e' := [s0, s1, .own (MD (F ++ ys.map .put)), .own (MD l2), .dat (.str "keep"), .dat (lnD x), .dat (.str y.word)]) (by simp) ?_
    simp [z, hw]
  | .put x :: m, l, F, h, hb, s4, s5, s6 => by
    rw [List.length_cons] at hb
    obtain ⟨ys, y, l2, rfl, hy, h2⟩ := split_ahead h
    rw [List.length_append, List.length_map, List.length_cons] at hb
    have jp := join_puts (.put x) (fun z e => nomatch e) m (y :: l2) ys
    have ny : ∀ z, y ≠ .put z := fun z e => by rcases hy with rfl | rfl <;> cases e
    have wh := jm_while (s0 := s0) (s1 := s1) (s4 := .dat (.str "put")) (s5 := .dat (lnD x)) (s6 := s6) (y := y) (l := l2) ny (by omega) ys 1000 F (by omega) (by omega) (by omega)
    have bd : bindP (.tup [.name 4, .name 5]) (Mk.put x).D [s0, s1, .own (MD F), .own (MD (ys.map .put ++ y :: l2)), s4, s5, s6] = some [s0, s1, .own (MD F), .own (MD (ys.map .put ++ y :: l2)), .dat (.str "put"), .dat (lnD x), s6] := rfl
    have z : F.length + ys.length ≤ szMax := by unfold szMax; omega
    have z1 : F.length + ys.length + 1 ≤ szMax := by unfold szMax; omega
    have z2 : l2.length < szMax := by unfold szMax; omega
    have dp : (Mk.put x).D = .tuple [.str "put", lnD x] := rfl
    rcases hy with rfl | rfl
    · obtain ⟨F', l', t4, t5, t6, e, ih⟩ := jm_loop (s0 := s0) (s1 := s1) m l2 (F ++ ys.map .put ++ [.put x]) h2 (by simp; omega) (.dat (.str "put")) (.dat (lnD x)) (.dat (.str "keep"))
      refine ⟨F', l', t4, t5, t6, by rw [e, jp, joinM]; simp, ?_⟩
      rw [List.map_cons, for_cons bd (.inl ?_), ih]
      refine if_no (e' := [s0, s1, .own (MD F), .own (MD (ys.map .put ++ .keep x :: l2)), .dat (.str "put"), .dat (lnD x), s6]) (by simp) ?_
      refine seq_nx wh ?_
      have dy : (Mk.keep x).D = .tuple [.str "keep", lnD x] := rfl
      refine seq_nx (e' := [s0, s1, .own (MD (F ++ ys.map .put)), .own (MD l2), .dat (.str "put"), .dat (lnD x), .dat (.str "keep")]) ?_ ?_
      · simp [dy, z2]
      refine if_no (e' := [s0, s1, .own (MD (F ++ ys.map .put)), .own (MD l2), .dat (.str "put"), .dat (lnD x), .dat (.str "keep")]) (by simp) ?_
      simp [z1, dp]
    · obtain ⟨F', l', t4, t5, t6, e, ih⟩ := jm_loop (s0 := s0) (s1 := s1) m l2 (F ++ ys.map .put) h2 (by simp; omega) (.dat (.str "put")) (.dat (lnD x)) (.dat (.str "take"))
      refine ⟨F', l', t4, t5, t6, by rw [e, jp, joinM]; simp, ?_⟩
      rw [List.map_cons, for_cons bd (.inl ?_), ih]
      refine if_no (e' := [s0, s1, .own (MD F), .own (MD (ys.map .put ++ .take x :: l2)), .dat (.str "put"), .dat (lnD x), s6]) (by simp) ?_
      refine seq_nx wh ?_
      have dy : (Mk.take x).D = .tuple [.str "take", lnD x] := rfl
      refine seq_nx (e' := [s0, s1, .own (MD (F ++ ys.map .put)), .own (MD l2), .dat (.str "put"), .dat (lnD x), .dat (.str "take")]) ?_ ?_
      · simp [dy, z2]
      refine if_no (e' := [s0, s1, .own (MD (F ++ ys.map .put)), .own (MD l2), .dat (.str "put"), .dat (lnD x), .dat (.str "take")]) (by simp) ?_
      simp [z]
theorem v_joinedM (m l : List Mk) (h : ahead l = behind m) (hb : 2 * m.length + l.length ≤ 900) : m__law_joined_marks [] [MD m, MD l] = some (.own (MD (joinM m l)), []) := by
  obtain ⟨F', l', t4, t5, t6, e, lp⟩ := jm_loop (s0 := .dat (MD m)) (s1 := .dat (MD l)) m l [] h (by simp; omega) .un .un .un
  rw [List.nil_append] at e
  have lp : forD (.tup [.name 4, .name 5]) lb__law_joined_marks_2 (m.map Mk.D) [.dat (MD m), .dat (MD l), .own (.list []), .own (MD l), .un, .un, .un] = some (.nx [.dat (MD m), .dat (MD l), .own (MD F'), .own (MD l'), t4, t5, t6]) := lp
  have jl : ∀ (m l : List Mk), (joinM m l).length ≤ m.length + l.length := fun m l => by
    fun_induction joinM m l <;> simp_all <;> omega
  have z : F'.length + l'.length ≤ szMax := by
    have := congrArg List.length e
    have j := jl m l
    rw [List.length_append] at this
    unfold szMax; omega
  rw [m__law_joined_marks, ev_run, show env0 false 7 [] [MD m, MD l] = [.dat (MD m), .dat (MD l), .un, .un, .un, .un, .un] from rfl, ← e]
  simp [g__law_joined_marks, lp, z, ev_fin_f]
end K72
namespace K72
open PySem PySem.Spec PyProof.Rows L2 DL
abbrev dr : Sem' := drawS 44735 5125
theorem v_pick {xs ds : List DL.D} (h : PotOk xs) (h0 : ds ≠ []) (h1 : ds.length < 1000) : ∃ d ∈ ds, ∃ xs', PotOk xs' ∧ m__law_pick xs [.list ds] = some (.dat d, xs') := by
  obtain ⟨r, hr, xs', hp, he⟩ := draw_ok (ca := 44735) (cb := 5125) h (m := ds.length) (List.length_pos_iff.mpr h0) (by omega)
  refine ⟨ds[r], List.getElem_mem _, xs', hp, ?_⟩
  have he : drawS 44735 5125 xs [.int (ds.length : Int)] = some (.dat (nD r), xs') := he
  have g : ds[r]? = some ds[r] := List.getElem?_eq_getElem hr
  rw [m__law_pick, ev_run, show env0 true 2 xs [.list ds] = [.io (.list xs), .dat (.list ds)] from rfl]
  simp [g__law_pick, he, atI_k, g]
def lnA : Ln := ⟨"a", by decide +kernel, by decide +kernel, by decide +kernel⟩
def lnB : Ln := ⟨"b", by decide +kernel, by decide +kernel, by decide +kernel⟩
def lnS : Ln := ⟨"some line", by decide +kernel, by decide +kernel, by decide +kernel⟩
def lnE : Ln := ⟨"", by decide +kernel, by decide +kernel, by decide +kernel⟩
theorem v_some_lines {xs : List DL.D} (h : PotOk xs) : ∃ ls : List Ln, ls.length ≤ 9 ∧ ∃ xs', PotOk xs' ∧ m__law_some_lines xs [.int 9] = some (.own (LD ls), xs') := by
  obtain ⟨r, hr, xs1, hp, he⟩ := draw_ok (ca := 44735) (cb := 5125) h (m := 10) (by decide) (by decide)
  have he : drawS 44735 5125 xs [.int 10] = some (.dat (nD r), xs1) := he
  have P1 : ∃ ys, PotOk ys ∧ wipeE [.io (.list xs1), .dat (.int 9), .un] [2] = [.io (.list ys), .dat (.int 9), .un] := ⟨xs1, hp, rfl⟩
  obtain ⟨ds, e5, c1, c2, c3, ys, hy, c4⟩ := comp_io (P := fun E => ∃ ys, PotOk ys ∧ E = [.io (.list ys), .dat (.int 9), .un]) (R := fun d => ∃ l : Ln, True ∧ d = lnD l) (pat := .name 2) (t := dYes) (el := ce__law_some_lines_1) (vs := [2]) (xs := (List.range r).map nD) P1 (fun x _ E hE => by
    obtain ⟨ys, hy, rfl⟩ := hE
    obtain ⟨d, hd, zs, hz, hv⟩ := v_pick hy (ds := [.str "a", .str "b", .str "", .str "a", .str "some line"]) (by simp) (by decide)
    have hR : ∃ l : Ln, True ∧ d = lnD l := by
      simp only [List.mem_cons, List.not_mem_nil, or_false] at hd
      rcases hd with rfl | rfl | rfl | rfl | rfl
      · exact ⟨lnA, trivial, rfl⟩
      · exact ⟨lnB, trivial, rfl⟩
      · exact ⟨lnE, trivial, rfl⟩
      · exact ⟨lnA, trivial, rfl⟩
      · exact ⟨lnS, trivial, rfl⟩
    exact ⟨_, rfl, _, rfl, .d d, [.io (.list zs), .dat (.int 9), .dat x], by simp [ce__law_some_lines_1, hv], d, _, rfl, hR, zs, hz, rfl⟩)
  obtain ⟨ls, rfl, _⟩ := all_as c3
  rw [List.length_map, List.length_map, List.length_range] at c2
  refine ⟨ls, by omega, ys, hy, ?_⟩
  have r1 := rng1_nat (n := r) (by omega)
  have rs : restE [.io (.list xs1), .dat (.int 9), .un] e5 [2] = [.io (.list ys), .dat (.int 9), .un] := c4
  have s1 : r ≤ szMax := by unfold szMax; omega
  rw [m__law_some_lines, ev_run, show env0 true 3 xs [.int 9] = [.io (.list xs), .dat (.int 9), .un] from rfl]
  simp [g__law_some_lines, he, r1, s1, c1, rs]
/-! ### marks -/
theorem mk_step {ld : DL.D} {xs : List DL.D} (hp : PotOk xs) (x : Ln) (F : List Mk) (hF : F.length ≤ 5000) {s4 : Sl} : ∃ a xs' t4, PotOk xs' ∧ ahead a = [x] ∧ a.length ≤ 2 ∧
    lb__law_marks_1 [.io (.list xs), .dat ld, .own (MD F), .dat (lnD x), s4] = some (.nx [.io (.list xs'), .dat ld, .own (MD (F ++ a)), .dat (lnD x), t4]) := by
  obtain ⟨r, hr, xs1, h1, he⟩ := draw_ok (ca := 44735) (cb := 5125) hp (m := 6) (by decide) (by decide)
  have he : drawS 44735 5125 xs [.int 6] = some (.dat (nD r), xs1) := he
  have z0 : F.length ≤ szMax := by unfold szMax; omega
  have z1 : F.length + 1 ≤ szMax := by unfold szMax; omega
  have z2 : F.length + 1 + 1 ≤ szMax := by unfold szMax; omega
  have y1 : F.length < szMax := z1
  have y2 : F.length + 1 < szMax := z2
  have y3 : F.length + 2 ≤ szMax := z2
  have dk : (Mk.keep x).D = .tuple [.str "keep", lnD x] := rfl
  have dt : (Mk.take x).D = .tuple [.str "take", lnD x] := rfl
  have dp : ∀ z, (Mk.put z).D = .tuple [.str "put", lnD z] := fun _ => rfl
  match r, hr with
  | 0, _ =>
    obtain ⟨d, hd, xs2, h2, hv⟩ := v_pick h1 (ds := [.str "a", .str "b", .str ""]) (by simp) (by decide)
    obtain ⟨l, rfl⟩ : ∃ l : Ln, d = lnD l := by
      simp only [List.mem_cons, List.not_mem_nil, or_false] at hd
      rcases hd with rfl | rfl | rfl
      · exact ⟨lnA, rfl⟩
      · exact ⟨lnB, rfl⟩
      · exact ⟨lnE, rfl⟩
    refine ⟨[.put l, .keep x], xs2, .dat (.int 0), h2, rfl, by simp, ?_⟩
    have he : drawS 44735 5125 xs [.int 6] = some (.dat (.int 0), xs1) := he
    simp [lb__law_marks_1, he, hv, z0, z1, y1, y2, dk, dp]
  | 1, _ =>
    refine ⟨[.take x, .put x], xs1, .dat (.int 1), h1, rfl, by simp, ?_⟩
    have he : drawS 44735 5125 xs [.int 6] = some (.dat (.int 1), xs1) := he
    simp [lb__law_marks_1, he, z0, z1, z2, y3, dt, dp]
  | 2, _ =>
    refine ⟨[.put x, .take x], xs1, .dat (.int 2), h1, rfl, by simp, ?_⟩
    have he : drawS 44735 5125 xs [.int 6] = some (.dat (.int 2), xs1) := he
    simp [lb__law_marks_1, he, z0, z1, z2, y3, dt, dp]
  | 3, _ =>
    refine ⟨[.take x], xs1, .dat (.int 3), h1, rfl, by simp, ?_⟩
    have he : drawS 44735 5125 xs [.int 6] = some (.dat (.int 3), xs1) := he
    simp [lb__law_marks_1, he, z0, z1, y1, dt]
  | 4, _ =>
    refine ⟨[.keep x], xs1, .dat (.int 4), h1, rfl, by simp, ?_⟩
    have he : drawS 44735 5125 xs [.int 6] = some (.dat (.int 4), xs1) := he
    simp [lb__law_marks_1, he, z0, z1, y1, dk]
  | 5, _ =>
    refine ⟨[.keep x], xs1, .dat (.int 5), h1, rfl, by simp, ?_⟩
    have he : drawS 44735 5125 xs [.int 6] = some (.dat (.int 5), xs1) := he
    simp [lb__law_marks_1, he, z0, z1, y1, dk]
theorem mk_loop {ld : DL.D} : ∀ (ls : List Ln) (xs : List DL.D) (F : List Mk), PotOk xs → F.length + 2 * ls.length ≤ 4000 → ∀ s3 s4, ∃ a xs' t3 t4, PotOk xs' ∧ ahead a = ls ∧ a.length ≤ 2 * ls.length ∧
    forD (.name 3) lb__law_marks_1 (ls.map lnD) [.io (.list xs), .dat ld, .own (MD F), s3, s4] = some (.nx [.io (.list xs'), .dat ld, .own (MD (F ++ a)), t3, t4])
  | [], xs, F, hp, hF, s3, s4 => ⟨[], xs, s3, s4, hp, rfl, Nat.le_refl _, by rw [List.append_nil]; rfl⟩
  | x :: ls, xs, F, hp, hF, s3, s4 => by
    rw [List.length_cons] at hF
    obtain ⟨a, xs1, t4, h1, ha, hl, st⟩ := mk_step (ld := ld) hp x F (by omega) (s4 := s4)
    obtain ⟨b, xs', t3', t4', h2, hb, hl2, ih⟩ := mk_loop (ld := ld) ls xs1 (F ++ a) h1 (by rw [List.length_append]; omega) (.dat (lnD x)) t4
    refine ⟨a ++ b, xs', t3', t4', h2, by rw [ahead_app, ha, hb]; rfl, by rw [List.length_append, List.length_cons]; omega, ?_⟩
    have bd : bindP (.name 3) (lnD x) [.io (.list xs), .dat ld, .own (MD F), s3, s4] = some [.io (.list xs), .dat ld, .own (MD F), .dat (lnD x), s4] := rfl
    rw [List.map_cons, for_cons bd (.inl st), ih, List.append_assoc]
theorem v_marks {xs : List DL.D} (hp : PotOk xs) (ls : List Ln) (hl : ls.length ≤ 200) : ∃ m xs', PotOk xs' ∧ ahead m = ls ∧ m.length ≤ 2 * ls.length + 2 ∧ m__law_marks xs [LD ls] = some (.own (MD m), xs') := by
  obtain ⟨a, xs1, t3, t4, h1, ha, hl1, lp⟩ := mk_loop (ld := LD ls) ls xs [] hp (by simp; omega) .un .un
  obtain ⟨r, hr, xs2, h2, he⟩ := draw_ok (ca := 44735) (cb := 5125) h1 (m := 3) (by decide) (by decide)
  have he : drawS 44735 5125 xs1 [.int 3] = some (.dat (nD r), xs2) := he
  have z0 : a.length ≤ szMax := by unfold szMax; omega
  have z1 : a.length + 1 ≤ szMax := by unfold szMax; omega
  have z2 : a.length + 2 ≤ szMax := by unfold szMax; omega
  have z3 : a.length + 1 + 1 ≤ szMax := z2
  have lp : forD (.name 3) lb__law_marks_1 (ls.map lnD) [.io (.list xs), .dat (LD ls), .own (.list []), .un, .un] = some (.nx [.io (.list xs1), .dat (LD ls), .own (MD a), t3, t4]) := lp
  have db : (Mk.put lnB).D = .tuple [.str "put", .str "b"] := rfl
  have m0 : mulD (.list [.tuple [.str "put", .str "b"]]) (.int 0) = some (.own (.list [])) := rfl
  have m1 : mulD (.list [.tuple [.str "put", .str "b"]]) (.int 1) = some (.own (.list [.tuple [.str "put", .str "b"]])) := rfl
  have m2 : mulD (.list [.tuple [.str "put", .str "b"]]) (.int 2) = some (.own (.list [.tuple [.str "put", .str "b"], .tuple [.str "put", .str "b"]])) := rfl
  refine ⟨a ++ List.replicate r (.put lnB), xs2, h2, ?_, by rw [List.length_append, List.length_replicate]; omega, ?_⟩
  · have : ∀ n, ahead (List.replicate n (Mk.put lnB)) = [] := fun n => by induction n with
      | zero => rfl
      | succ n ih => rw [List.replicate_succ, ahead, ih]
    rw [ahead_app, ha, this, List.append_nil]
  rw [m__law_marks, ev_run, show env0 true 5 xs [LD ls] = [.io (.list xs), .dat (LD ls), .un, .un, .un] from rfl]
  match r, hr with
  | 0, _ =>
    have he : drawS 44735 5125 xs1 [.int 3] = some (.dat (.int 0), xs2) := he
    simp [g__law_marks, lp, he, m0, z0]
  | 1, _ =>
    have he : drawS 44735 5125 xs1 [.int 3] = some (.dat (.int 1), xs2) := he
    simp [g__law_marks, lp, he, m1, z1, db]
  | 2, _ =>
    have he : drawS 44735 5125 xs1 [.int 3] = some (.dat (.int 2), xs2) := he
    simp [g__law_marks, lp, he, m2, z2, z3, db]
end K72
namespace K72
open PySem PySem.Spec PyProof.Rows L2 DL
/-- marks of one word -/
def AllW (w : Str) (m : List Mk) : Prop := ∀ x ∈ m, x.word = w
theorem word_ne1 : ("keep" : Str) ≠ "take" := by decide +kernel
theorem word_ne2 : ("keep" : Str) ≠ "put" := by decide +kernel
theorem word_ne3 : ("take" : Str) ≠ "put" := by decide +kernel
theorem all_keep : ∀ {m : List Mk}, AllW "keep" m → ∃ ls : List Ln, m = ls.map .keep
  | [], _ => ⟨[], rfl⟩
  | .keep x :: m, h => by
    obtain ⟨ls, e⟩ := all_keep (m := m) fun y hy => h y (List.mem_cons_of_mem _ hy)
    exact ⟨x :: ls, by rw [e]; rfl⟩
  | .take x :: m, h => absurd (h _ List.mem_cons_self).symm word_ne1
  | .put x :: m, h => absurd (h _ List.mem_cons_self).symm word_ne2
theorem all_take : ∀ {m : List Mk}, AllW "take" m → ∃ ls : List Ln, m = ls.map .take
  | [], _ => ⟨[], rfl⟩
  | .take x :: m, h => by
    obtain ⟨ls, e⟩ := all_take (m := m) fun y hy => h y (List.mem_cons_of_mem _ hy)
    exact ⟨x :: ls, by rw [e]; rfl⟩
  | .keep x :: m, h => absurd (h _ List.mem_cons_self) word_ne1
  | .put x :: m, h => absurd (h _ List.mem_cons_self).symm word_ne3
theorem all_put : ∀ {m : List Mk}, AllW "put" m → ∃ ls : List Ln, m = ls.map .put
  | [], _ => ⟨[], rfl⟩
  | .put x :: m, h => by
    obtain ⟨ls, e⟩ := all_put (m := m) fun y hy => h y (List.mem_cons_of_mem _ hy)
    exact ⟨x :: ls, by rw [e]; rfl⟩
  | .keep x :: m, h => absurd (h _ List.mem_cons_self) word_ne2
  | .take x :: m, h => absurd (h _ List.mem_cons_self) word_ne3
section
variable {m : List Mk}
theorem at_sum {a s : Nat} : atI (m.map Mk.D) ((a : Int) + (s : Int)) = (m[a + s]?).map Mk.D := by
  have : (a : Int) + (s : Int) = ((a + s : Nat) : Int) := by omega
  rw [this, atI_k, List.getElem?_map]
theorem run_while {s2 s5 s6 s7 : Sl} {a : Nat} {x0 : Mk} (hx : m[a]? = some x0) : ∀ (n s : Nat) (xs : List DL.D), m.length < a + s + n → PotOk xs → 1 ≤ s → a + s ≤ m.length → AllW x0.word ((m.drop a).take s) → m.length ≤ 900 → ∃ s' xs', PotOk xs' ∧ 1 ≤ s' ∧ a + s' ≤ m.length ∧ AllW x0.word ((m.drop a).take s') ∧
    whileD n wt__law_edits_1 lb__law_edits_1 [.io (.list xs), .dat (MD m), s2, .dat (nD a), .dat (nD s), s5, s6, s7] = some (.nx [.io (.list xs'), .dat (MD m), s2, .dat (nD a), .dat (nD s'), s5, s6, s7])
  | 0, s, xs, hn, hp, h1, h2, ha, hm => by omega
  | n + 1, s, xs, hn, hp, h1, h2, ha, hm => by
    have gx : (m.map Mk.D)[a]? = some x0.D := by rw [List.getElem?_map, hx]; rfl
    by_cases hs : a + s < m.length
    · have hy : m[a + s]? = some m[a + s] := List.getElem?_eq_getElem hs
      have gy : atI (m.map Mk.D) ((a : Int) + (s : Int)) = some m[a + s].D := by rw [at_sum, hy]; rfl
      have hs' : (a : Int) + (s : Int) < (m.length : Int) := by omega
      generalize hyy : m[a + s] = y at hy gy
      have dx : x0.D = .tuple [.str x0.word, lnD x0.line] := rfl
      have dy : y.D = .tuple [.str y.word, lnD y.line] := rfl
      have ew := DL.eq_str (x := y.word) (y := x0.word)
      by_cases e : y.word = x0.word
      · rw [beq_iff_eq.mpr e] at ew
        obtain ⟨r, hr, xs1, h3, he⟩ := draw_ok (ca := 44735) (cb := 5125) hp (m := 3) (by decide) (by decide)
        have he : drawS 44735 5125 xs [.int 3] = some (.dat (nD r), xs1) := he
        by_cases r0 : r = 0
        · subst r0
          refine ⟨s, xs1, h3, h1, h2, ha, ?_⟩
          have t0 : wt__law_edits_1 [.io (.list xs), .dat (MD m), s2, .dat (nD a), .dat (nD s), s5, s6, s7] = some (false, [.io (.list xs1), .dat (MD m), s2, .dat (nD a), .dat (nD s), s5, s6, s7]) := by
            simp [wt__law_edits_1, hs', gy, atI_k, gx, hx, dx, dy, ew, he]
          rw [whileD, t0]; rfl
        · have t1 : wt__law_edits_1 [.io (.list xs), .dat (MD m), s2, .dat (nD a), .dat (nD s), s5, s6, s7] = some (true, [.io (.list xs1), .dat (MD m), s2, .dat (nD a), .dat (nD s), s5, s6, s7]) := by
            have : 0 < r := by omega
            simp [wt__law_edits_1, hs', gy, atI_k, gx, hx, dx, dy, ew, he, this]
          have b1 : lb__law_edits_1 [.io (.list xs1), .dat (MD m), s2, .dat (nD a), .dat (nD s), s5, s6, s7] = some (.nx [.io (.list xs1), .dat (MD m), s2, .dat (nD a), .dat (nD (s + 1)), s5, s6, s7]) := by
            simp [lb__law_edits_1]
          have ha' : AllW x0.word ((m.drop a).take (s + 1)) := by
            have hd : (m.drop a)[s]? = some y := by rw [List.getElem?_drop]; exact hy
            rw [List.take_add_one, hd]
            intro z hz
            rcases List.mem_append.mp hz with hz | hz
            · exact ha z hz
            · simp at hz; rw [hz]; exact e
          obtain ⟨s', xs', h4, h5, h6, h7, ih⟩ := run_while (s2 := s2) (s5 := s5) (s6 := s6) (s7 := s7) hx n (s + 1) xs1 (by omega) h3 (by omega) (by omega) ha' hm
          refine ⟨s', xs', h4, h5, h6, h7, ?_⟩
          rw [whileD, t1, Option.bind_some, if_pos rfl, b1, Option.bind_some]
          exact ih
      · rw [beq_eq_false_iff_ne.mpr e] at ew
        refine ⟨s, xs, hp, h1, h2, ha, ?_⟩
        have t0 : wt__law_edits_1 [.io (.list xs), .dat (MD m), s2, .dat (nD a), .dat (nD s), s5, s6, s7] = some (false, [.io (.list xs), .dat (MD m), s2, .dat (nD a), .dat (nD s), s5, s6, s7]) := by
          simp [wt__law_edits_1, hs', gy, atI_k, gx, hx, dx, dy, ew]
        rw [whileD, t0]; rfl
    · have hs' : ¬ (a : Int) + (s : Int) < (m.length : Int) := by omega
      refine ⟨s, xs, hp, h1, h2, ha, ?_⟩
      have t0 : wt__law_edits_1 [.io (.list xs), .dat (MD m), s2, .dat (nD a), .dat (nD s), s5, s6, s7] = some (false, [.io (.list xs), .dat (MD m), s2, .dat (nD a), .dat (nD s), s5, s6, s7]) := by
        simp [wt__law_edits_1, hs']
      rw [whileD, t0]; rfl
/-- edits that stand for the first marks -/
structure Upto (m : List Mk) (a : Nat) (es : List Ed) : Prop where
  ok : ∀ e ∈ es, e.ok
  len : es.length ≤ a
  us : used es = (ahead (m.take a)).length
  ex : expand (ahead m) es = m.take a
theorem cut_sum {ds : List DL.D} {a s : Nat} : cutD ds (some (a : Int)) (some ((a : Int) + (s : Int))) = (ds.drop a).take s := by
  have : (a : Int) + (s : Int) = ((a + s : Nat) : Int) := by omega
  unfold DL.cutD
  rw [this, HT.sIx_nat, HT.sIx_nat]
  by_cases h : a ≤ ds.length
  · rw [Nat.min_eq_left h]
    refine List.take_eq_take_iff.mpr ?_
    rw [List.length_drop]; omega
  · have e1 : min a ds.length = ds.length := by omega
    rw [e1, List.drop_eq_nil_of_le (Nat.le_refl _), List.drop_eq_nil_of_le (by omega), List.take_nil, List.take_nil]
theorem ahead_drop {a : Nat} : (ahead m).drop (ahead (m.take a)).length = ahead (m.drop a) := by
  have := ahead_app (m.take a) (m.drop a)
  rw [List.take_append_drop] at this
  rw [this]
  exact List.drop_left
theorem upto_add {a s : Nat} {es : List Ed} {e : Ed} (h : Upto m a es) (ok : e.ok) (hs : 1 ≤ s) (hex : expand (ahead (m.drop a)) [e] = (m.drop a).take s) (hu : e.used = (ahead ((m.drop a).take s)).length) : Upto m (a + s) (es ++ [e]) := by
  refine ⟨fun x hx => ?_, ?_, ?_, ?_⟩
  · rcases List.mem_append.mp hx with hx | hx
    · exact h.ok x hx
    · rw [List.mem_singleton.mp hx]; exact ok
  · have := h.len; rw [List.length_append, List.length_singleton]; omega
  · rw [used_app, h.us, List.take_add, ahead_app, List.length_append, ← hu]; rfl
  · rw [expand_app, h.ex, h.us, ahead_drop, hex, List.take_add]
theorem ed_step {s5 s6 s7 : Sl} {a : Nat} {es : List Ed} {xs : List DL.D} (hp : PotOk xs) (h : Upto m a es) (ha : a < m.length) (hm : m.length ≤ 300) {s4 : Sl} : ∃ s es' xs' t5, PotOk xs' ∧ 1 ≤ s ∧ a + s ≤ m.length ∧ Upto m (a + s) es' ∧
    lb__law_edits_2 [.io (.list xs), .dat (MD m), .own (.list (es.map Ed.D)), .dat (nD a), s4, s5, s6, s7] = some (.nx [.io (.list xs'), .dat (MD m), .own (.list (es'.map Ed.D)), .dat (nD (a + s)), .dat (nD s), t5, s6, s7]) := by
  have hx : m[a]? = some m[a] := List.getElem?_eq_getElem ha
  have w1 : (m.drop a).take 1 = [m[a]] := by rw [List.drop_eq_getElem_cons ha]; rfl
  generalize m[a] = x0 at hx w1
  obtain ⟨s, xs', h3, h4, h5, h6, wl⟩ := run_while (m := m) (s2 := .own (.list (es.map Ed.D))) (s5 := s5) (s6 := s6) (s7 := s7) hx 1000 1 xs (by omega) hp (Nat.le_refl 1) ha (by rw [w1]; intro z hz; rw [List.mem_singleton.mp hz]) (by omega)
  have hlen : ((m.drop a).take s).length = s := by rw [List.length_take, List.length_drop]; omega
  have hhead : ((m.drop a).take s)[0]? = some x0 := by rw [List.getElem?_take_of_lt (by omega), List.getElem?_drop]; exact hx
  have hm0 : m.drop a = (m.drop a).take s ++ (m.drop a).drop s := (List.take_append_drop _ _).symm
  have z1 : es.length < szMax := by have := h.len; unfold szMax; omega
  have z2 : s ≤ szMax := by unfold szMax; omega
  have cs := cut_sum (ds := m.map Mk.D) (a := a) (s := s)
  have e0 : ((m.map Mk.D).drop a).take s = ((m.drop a).take s).map Mk.D := by rw [← List.map_drop, ← List.map_take]
  rw [e0] at cs
  have body : ∀ (e : Ed) (t5 : Sl), e.ok → expand (ahead (m.drop a)) [e] = (m.drop a).take s → e.used = (ahead ((m.drop a).take s)).length →
      (dSeq (dApp 2 (bor (dIf (dTest (dOp eqD (bor (dOp ixU (bor (dOp ixU (bor (dVar 5)) (bor (dC (.int 0))))) (bor (dC (.int 0))))) (bor (dC (.str "put"))))) (dTup (dCons (bor (dC (.str "put"))) (dCons (bor (dCB tupleD (dCons (bor (dLc (dIt (bor (dVar 5))) (.tup [(.name 6), (.name 7)]) dYes ce__law_edits_1 [6, 7])) dNil))) dNil))) (dTup (dCons (bor (dOp ixU (bor (dOp ixU (bor (dVar 5)) (bor (dC (.int 0))))) (bor (dC (.int 0))))) (dCons (bor (dVar 4)) dNil)))))) (dSet 3 (dOp addD (bor (dVar 3)) (bor (dVar 4))))) [.io (.list xs'), .dat (MD m), .own (.list (es.map Ed.D)), .dat (nD a), .dat (nD s), .own (.list (((m.drop a).take s).map Mk.D)), s6, s7] = some (.nx [.io (.list xs'), .dat (MD m), .own (.list ((es ++ [e]).map Ed.D)), .dat (nD (a + s)), .dat (nD s), t5, s6, s7]) →
      ∃ s es' xs' t5, PotOk xs' ∧ 1 ≤ s ∧ a + s ≤ m.length ∧ Upto m (a + s) es' ∧
        lb__law_edits_2 [.io (.list xs), .dat (MD m), .own (.list (es.map Ed.D)), .dat (nD a), s4, s5, s6, s7] = some (.nx [.io (.list xs'), .dat (MD m), .own (.list (es'.map Ed.D)), .dat (nD (a + s)), .dat (nD s), t5, s6, s7]) := fun e t5 ok hex hu hb => by
    refine ⟨s, es ++ [e], xs', t5, h3, h4, h5, upto_add h ok h4 hex hu, ?_⟩
    refine seq_nx (e' := [.io (.list xs), .dat (MD m), .own (.list (es.map Ed.D)), .dat (nD a), .dat (nD 1), s5, s6, s7]) ?_ ?_
    · simp
    refine seq_nx wl ?_
    refine seq_nx (e' := [.io (.list xs'), .dat (MD m), .own (.list (es.map Ed.D)), .dat (nD a), .dat (nD s), .own (.list (((m.drop a).take s).map Mk.D)), s6, s7]) ?_ hb
    simp [cs]
  have dx : x0.D = .tuple [.str x0.word, lnD x0.line] := rfl
  have g0 : (((m.drop a).take s).map Mk.D)[0]? = some x0.D := by rw [List.getElem?_map, hhead]; rfl
  have gh : (((m.drop a).take s).map Mk.D).head? = some x0.D := by rw [List.head?_eq_getElem?]; exact g0
  have gh2 : ((m.drop a).take s).head? = some x0 := by rw [List.head?_eq_getElem?]; exact hhead
  have expd : ∀ (f : Ln → Mk) (ls : List Ln), (m.drop a).take s = ls.map f → (∀ l : List Ln, ahead (l.map f) = l) → (ahead (m.drop a)).take s = ls := fun f ls e hf => by
    have hls : ls.length = s := by rw [← hlen, e, List.length_map]
    rw [hm0, ahead_app, e, hf, ← hls]
    exact List.take_left
  cases x0 with
  | keep x =>
    obtain ⟨ls, el⟩ := all_keep h6
    have hls : ls.length = s := by rw [← hlen, el, List.length_map]
    refine body (.keep s) (.own (.list (((m.drop a).take s).map Mk.D))) (by show 0 < s; omega) ?_ ?_ ?_
    · rw [expand, expd _ ls el ahead_keeps, el]; exact List.append_nil _
    · rw [el, ahead_keeps, hls]; rfl
    · generalize ((m.drop a).take s).map Mk.D = S at g0 gh ⊢
      have dk : (Ed.keep s).D = .tuple [.str "keep", nD s] := rfl
      have dx : (Mk.keep x).D = .tuple [.str "keep", lnD x] := rfl
      simp [g0, gh, dx, dk, z1]
  | take x =>
    obtain ⟨ls, el⟩ := all_take h6
    have hls : ls.length = s := by rw [← hlen, el, List.length_map]
    refine body (.take s) (.own (.list (((m.drop a).take s).map Mk.D))) (by show 0 < s; omega) ?_ ?_ ?_
    · rw [expand, expd _ ls el ahead_takes, el]; exact List.append_nil _
    · rw [el, ahead_takes, hls]; rfl
    · generalize ((m.drop a).take s).map Mk.D = S at g0 gh ⊢
      have dk : (Ed.take s).D = .tuple [.str "take", nD s] := rfl
      have dx : (Mk.take x).D = .tuple [.str "take", lnD x] := rfl
      simp [g0, gh, dx, dk, z1]
  | put x =>
    obtain ⟨ls, el⟩ := all_put h6
    have hls : ls.length = s := by rw [← hlen, el, List.length_map]
    refine body (.put ls) (.dat (.list (((m.drop a).take s).map Mk.D))) ⟨fun z => by rw [z] at hls; simp at hls; omega, by omega⟩ ?_ ?_ ?_
    · rw [expand, el]; exact List.append_nil _
    · rw [el, ahead_puts]; rfl
    · have dk : (Ed.put ls).D = .tuple [.str "put", .tuple (ls.map lnD)] := rfl
      have dx : (Mk.put x).D = .tuple [.str "put", lnD x] := rfl
      have E1 : wipeE [.io (.list xs'), .dat (MD m), .own (.list (es.map Ed.D)), .dat (nD a), .dat (nD s), .dat (.list (((m.drop a).take s).map Mk.D)), s6, s7] [6, 7] = [.io (.list xs'), .dat (MD m), .own (.list (es.map Ed.D)), .dat (nD a), .dat (nD s), .dat (.list (((m.drop a).take s).map Mk.D)), .un, .un] := rfl
      obtain ⟨e1, c1, k1⟩ := comp_map (inp := Mk.D) (out := fun y => lnD y.line) (pat := .tup [.name 6, .name 7]) (t := dYes) (el := ce__law_edits_1) (ys := (m.drop a).take s) E1 (fun y _ => by
        have st : ce__law_edits_1 [.io (.list xs'), .dat (MD m), .own (.list (es.map Ed.D)), .dat (nD a), .dat (nD s), .dat (.list (((m.drop a).take s).map Mk.D)), .dat (.str y.word), .dat (lnD y.line)] = some (.slot 7, [.io (.list xs'), .dat (MD m), .own (.list (es.map Ed.D)), .dat (nD a), .dat (nD s), .dat (.list (((m.drop a).take s).map Mk.D)), .dat (.str y.word), .dat (lnD y.line)]) := by simp [ce__law_edits_1]
        exact ⟨_, rfl, _, rfl, _, _, st, _, rfl, rfl⟩)
      have r1 : restE [.io (.list xs'), .dat (MD m), .own (.list (es.map Ed.D)), .dat (nD a), .dat (nD s), .dat (.list (((m.drop a).take s).map Mk.D)), s6, s7] e1 [6, 7] = [.io (.list xs'), .dat (MD m), .own (.list (es.map Ed.D)), .dat (nD a), .dat (nD s), .dat (.list (((m.drop a).take s).map Mk.D)), s6, s7] := rest_all (vs := [6, 7]) (k1.trans rfl)
      have ol : ((m.drop a).take s).map (fun y => lnD y.line) = ls.map lnD := by rw [el, List.map_map]; rfl
      rw [ol] at c1
      have sl : (((m.drop a).take s).map Mk.D).length ≤ szMax := by rw [List.length_map, hlen]; exact z2
      generalize ((m.drop a).take s).map Mk.D = S at g0 gh c1 r1 sl ⊢
      simp [g0, gh, dx, dk, z1, c1, r1, sl]
theorem eds_loop {s5 s6 s7 : Sl} (hm : m.length ≤ 300) : ∀ (n a : Nat) (es : List Ed) (xs : List DL.D), m.length < a + n → PotOk xs → Upto m a es → a ≤ m.length → ∀ s4 s5, ∃ es' xs' t4 t5, PotOk xs' ∧ Upto m m.length es' ∧
    whileD n wt__law_edits_2 lb__law_edits_2 [.io (.list xs), .dat (MD m), .own (.list (es.map Ed.D)), .dat (nD a), s4, s5, s6, s7] = some (.nx [.io (.list xs'), .dat (MD m), .own (.list (es'.map Ed.D)), .dat (nD m.length), t4, t5, s6, s7])
  | 0, a, es, xs, hn, _, _, ha, _, _ => by omega
  | n + 1, a, es, xs, hn, hp, h, ha, s4, s5 => by
    rw [whileD]
    by_cases hs : a < m.length
    · have hs' : (a : Int) < (m.length : Int) := by omega
      have t1 : wt__law_edits_2 [.io (.list xs), .dat (MD m), .own (.list (es.map Ed.D)), .dat (nD a), s4, s5, s6, s7] = some (true, [.io (.list xs), .dat (MD m), .own (.list (es.map Ed.D)), .dat (nD a), s4, s5, s6, s7]) := by
        simp [wt__law_edits_2, hs']
      obtain ⟨s, es1, xs1, u5, h1, h2, h3, h4, st⟩ := ed_step (s5 := s5) (s6 := s6) (s7 := s7) hp h hs hm (s4 := s4)
      obtain ⟨es', xs', t4, t5, k1, k2, ih⟩ := eds_loop (s5 := u5) (s6 := s6) (s7 := s7) hm n (a + s) es1 xs1 (by omega) h1 h4 h3 (.dat (nD s)) u5
      refine ⟨es', xs', t4, t5, k1, k2, ?_⟩
      rw [t1, Option.bind_some, if_pos rfl, st, Option.bind_some]
      exact ih
    · have hs' : ¬ (a : Int) < (m.length : Int) := by omega
      have t0 : wt__law_edits_2 [.io (.list xs), .dat (MD m), .own (.list (es.map Ed.D)), .dat (nD a), s4, s5, s6, s7] = some (false, [.io (.list xs), .dat (MD m), .own (.list (es.map Ed.D)), .dat (nD a), s4, s5, s6, s7]) := by
        simp [wt__law_edits_2, hs']
      have e : a = m.length := by omega
      subst e
      refine ⟨es, xs, s4, s5, hp, h, ?_⟩
      rw [t0]; rfl
theorem run_len : ∀ (es : List Ed) (r : List Ln), used es ≤ r.length → (run r es).length = late es
  | [], r, _ => rfl
  | .keep n :: es, r, h => by
    rw [used_cons, Ed.used] at h
    rw [run, late_cons, List.length_append, run_len es _ (by rw [List.length_drop]; omega), List.length_take, Ed.late]; omega
  | .take n :: es, r, h => by
    rw [used_cons, Ed.used] at h
    rw [run, late_cons, run_len es _ (by rw [List.length_drop]; omega), Ed.late]; omega
  | .put l :: es, r, h => by
    rw [used_cons, Ed.used] at h
    rw [run, late_cons, List.length_append, run_len es _ (by omega), Ed.late]
theorem Upto.sp {es : List Ed} (h : Upto m m.length es) (hm : m.length ≤ 300) : Sp m es := by
  have us := h.us
  have ex := h.ex
  rw [List.take_length] at us ex
  have b := behind_expand es (ahead m)
  rw [ex] at b
  refine ⟨h.ok, by have := h.len; omega, us, ?_, ?_, b.symm, by rw [ex]⟩
  · rw [← run_len es (ahead m) (by omega), ← b]
  · rw [cost_expand es (ahead m) (by omega), ex]
theorem v_edits {xs : List DL.D} (hp : PotOk xs) (hm : m.length ≤ 300) : ∃ es xs', PotOk xs' ∧ Sp m es ∧ es.length ≤ m.length ∧ m__law_edits xs [MD m] = some (.dat (patD es), xs') := by
  have h0 : Upto m 0 [] := ⟨(fun e h => nomatch h), Nat.le_refl _, rfl, rfl⟩
  obtain ⟨es, xs', t4, t5, h1, h2, lp⟩ := eds_loop (m := m) (s5 := .un) (s6 := .un) (s7 := .un) hm 1000 0 [] xs (by omega) hp h0 (Nat.zero_le _) .un .un
  refine ⟨es, xs', h1, h2.sp hm, h2.len, ?_⟩
  have lp : whileD 1000 wt__law_edits_2 lb__law_edits_2 [.io (.list xs), .dat (MD m), .own (.list []), .dat (.int 0), .un, .un, .un, .un] = some (.nx [.io (.list xs'), .dat (MD m), .own (.list (es.map Ed.D)), .dat (nD m.length), t4, t5, .un, .un]) := lp
  have z : es.length ≤ szMax := by have := h2.len; unfold szMax; omega
  rw [m__law_edits, ev_run, show env0 true 8 xs [MD m] = [.io (.list xs), .dat (MD m), .un, .un, .un, .un, .un, .un] from rfl]
  simp [g__law_edits, lp, z]
end
end K72
namespace K72
open PySem PySem.Spec PyProof.Rows L2 DL
/-! ### any values as edits -/
/-- both say of it that it is none -/
structure BadEd (d : DL.D) : Prop where
  ed : m_is_edit_any [] [d] = some (.dat (.bool false), [])
  law : ∀ s0 s1 s2 s3 s5 : Sl, ∃ e', lb__law_is_one_1 [s0, s1, s2, s3, .dat d, s5] = some (.rt (.dat (.bool false)) e')
inductive GD where
  | keep (n : Nat) | take (n : Nat) | put (xs : List Str) | bad (d : DL.D)
def GD.D : GD → DL.D
  | .keep n => .tuple [.str "keep", nD n]
  | .take n => .tuple [.str "take", nD n]
  | .put xs => .tuple [.str "put", .tuple (xs.map .str)]
  | .bad d => d
def GD.ok : GD → Prop
  | .keep n => 0 < n
  | .take n => 0 < n
  | .put xs => xs ≠ [] ∧ xs.length ≤ 1000 ∧ ∀ x ∈ xs, PyData.strOk x = true ∧ x.length ≤ 2000
  | .bad d => BadEd d
def GD.good : GD → Bool
  | .bad _ => false
  | _ => true
def GD.isPut : GD → Bool
  | .put _ => true
  | _ => false
def GD.used : GD → Nat
  | .keep n => n
  | .take n => n
  | _ => 0
def GD.late : GD → Nat
  | .keep n => n
  | .put xs => xs.length
  | _ => 0
def gused (gs : List GD) : Nat := (gs.map GD.used).sum
def glate (gs : List GD) : Nat := (gs.map GD.late).sum
def isOne (n : Nat) (gs : List GD) : Bool := gs.all GD.good && (decide (gused gs = n) && decide (glate gs ≤ 200))
theorem canAll_strs : ∀ {xs : List Str}, (∀ x ∈ xs, PyData.strOk x = true) → PyData.canLayAll0 (xs.map .str) = true
  | [], _ => by rw [List.map_nil, PyData.canLayAll0]
  | x :: xs, h => by rw [List.map_cons, PyData.canLayAll0, PyData.canLay0, h x List.mem_cons_self, canAll_strs fun y hy => h y (List.mem_cons_of_mem _ hy)]; rfl
theorem neat_strs {xs : List Str} (h : ∀ x ∈ xs, PyData.strOk x = true) : Neat 1 (.tuple (xs.map .str)) := by
  refine ⟨by rw [PyData.canLay0]; exact canAll_strs h, ?_⟩
  rw [PyData.depth]
  exact Nat.succ_le_succ (depth_map (f := PyData.str) (n := 0) (fun x => by rw [PyData.depth]; exact Nat.le_refl 0) xs)
theorem put_ne0 {xs : List Str} (h0 : xs ≠ []) (h : ∀ x ∈ xs, PyData.strOk x = true) : neD (.tuple (xs.map .str)) (.tuple []) = some (.dat (.bool true)) ∧ eqD (.tuple (xs.map .str)) (.tuple []) = some (.dat (.bool false)) := by
  have n0 : Neat 1 (.tuple []) := neat_strs (xs := []) fun x hx => nomatch hx
  have e : PyData.eqv (.tuple (xs.map .str)) (.tuple []) = false := by
    rw [PyData.eqv]
    cases xs with
    | nil => exact absurd rfl h0
    | cons x xs => rfl
  rw [ne_neat (neat_strs h) n0 (by decide) (by decide), eq_neat (neat_strs h) n0 (by decide) (by decide), e]
  exact ⟨rfl, rfl⟩
theorem v_line_s {x : Str} (h : x.length ≤ 2000) : m_is_line_any [] [.str x] = some (.dat (.bool true), []) := by
  have ks : kOf (.str x) "str" = true := rfl
  have hl : lenD [.str x] = some (.dat (.int (x.length : Nat))) := by
    show (if _ then _ else _) = _
    rw [if_pos (by unfold szMax; omega)]
  have h2 : ((x.length : Nat) : Int) ≤ 2000 := by omega
  rw [m_is_line_any, ev_run, show env0 false 1 [] [.str x] = [.dat (.str x)] from rfl]
  simp [g_is_line_any, ks, hl, h2, ev_fin_f]
theorem g_edit {g : GD} (h : g.ok) : m_is_edit_any [] [g.D] = some (.dat (.bool g.good), []) := by
  cases g with
  | bad d => exact h.ed
  | keep n => exact v_edit (.keep n) h
  | take n => exact v_edit (.take n) h
  | put xs =>
    obtain ⟨h0, hl, hx⟩ := h
    have ks : ∀ x : Str, kOf (.str x) "str" = true := fun _ => rfl
    have kt : ∀ xs : List DL.D, kOf (.tuple xs) "tuple" = true := fun _ => rfl
    have dg : (GD.put xs).D = .tuple [.str "put", .tuple (xs.map .str)] := rfl
    rw [dg]
    rw [m_is_edit_any, ev_run, show env0 false 2 [] [.tuple [.str "put", .tuple (xs.map PyData.str)]] = [.dat (.tuple [.str "put", .tuple (xs.map PyData.str)]), .un] from rfl]
    have E1 : wipeE [.dat (.tuple [.str "put", .tuple (xs.map PyData.str)]), .un] [1] = [.dat (.tuple [.str "put", .tuple (xs.map PyData.str)]), .un] := rfl
    obtain ⟨e5, c1, k1⟩ := comp_map (inp := PyData.str) (out := fun _ => .bool true) (pat := .name 1) (t := dYes) (el := ce_is_edit_any_1) (ys := xs) E1 (fun x hx' => by
      have st : ce_is_edit_any_1 [.dat (.tuple [.str "put", .tuple (xs.map PyData.str)]), .dat (.str x)] = some (.d (.bool true), [.dat (.tuple [.str "put", .tuple (xs.map PyData.str)]), .dat (.str x)]) := by simp [ce_is_edit_any_1, v_line_s (hx x hx').2]
      exact ⟨_, rfl, _, rfl, _, _, st, _, rfl, rfl⟩)
    have r1 := rest_all (vs := [1]) (k1.trans E1.symm)
    have hz : xs.length ≤ szMax := by unfold szMax; omega
    have ne := (put_ne0 h0 fun x hx' => (hx x hx').1).1
    simp [g_is_edit_any, v_is_tuple, ks, kt, ne, hz, c1, r1, ev_fin_f, GD.good]
theorem sum_gused (gs : List GD) : ((gs.filter fun g => !g.isPut).map GD.used).sum = gused gs := by
  unfold gused
  induction gs with
  | nil => rfl
  | cons g gs ih => cases g <;> simp [GD.isPut, GD.used] <;> exact ih
theorem po_gen (zs : List DL.D) (gs : List GD) (h : ∀ g ∈ gs, g.ok) (h4 : gs.length ≤ 400) : m_is_patch_of [] [.list zs, .tuple (gs.map GD.D)] = some (.dat (.bool (isOne zs.length gs)), []) := by
  have E2 : wipeE [.dat (.list zs), .dat (.tuple (gs.map GD.D)), .un, .un, .un] [2] = [.dat (.list zs), .dat (.tuple (gs.map GD.D)), .un, .un, .un] := rfl
  have E3 : wipeE [.dat (.list zs), .dat (.tuple (gs.map GD.D)), .un, .un, .un] [3] = [.dat (.list zs), .dat (.tuple (gs.map GD.D)), .un, .un, .un] := rfl
  obtain ⟨e1, c1, k1⟩ := comp_map (inp := GD.D) (out := fun g => .bool g.good) (pat := .name 2) (t := dYes) (el := ce_is_patch_of_1) (ys := gs) E2 (fun x hx => by
    have st : ce_is_patch_of_1 [.dat (.list zs), .dat (.tuple (gs.map GD.D)), .dat x.D, .un, .un] = some (.d (.bool x.good), [.dat (.list zs), .dat (.tuple (gs.map GD.D)), .dat x.D, .un, .un]) := by simp [ce_is_patch_of_1, g_edit (h x hx)]
    exact ⟨_, rfl, _, rfl, _, _, st, _, rfl, rfl⟩)
  have r1 := rest_all (vs := [2]) (k1.trans E2.symm)
  have s1 : gs.length ≤ szMax := by unfold szMax; omega
  have s2 : ¬ (400 : Int) < gs.length := by omega
  have a1 := all_map GD.good gs
  have kt : ∀ xs : List DL.D, kOf (.tuple xs) "tuple" = true := fun _ => rfl
  rw [m_is_patch_of, ev_run, show env0 false 5 [] [.list zs, .tuple (gs.map GD.D)] = [.dat (.list zs), .dat (.tuple (gs.map GD.D)), .un, .un, .un] from rfl]
  unfold isOne
  cases hg : gs.all GD.good with
  | false =>
    rw [hg] at a1
    simp [g_is_patch_of, kt, s1, s2, c1, r1, a1, ev_fin_f]
  | true =>
    rw [hg] at a1
    have gd : ∀ g ∈ gs, g.good = true := List.all_eq_true.mp hg
    obtain ⟨e2, c2, k2⟩ := comp_fmap (inp := GD.D) (p := fun e => !e.isPut) (out := fun e => nD e.used) (pat := .name 3) (t := ct_is_patch_of_1) (el := ce_is_patch_of_2) (ys := gs) E3 (fun x hx => by
      have hgx := gd x hx
      refine ⟨_, rfl, [.dat (.list zs), .dat (.tuple (gs.map GD.D)), .un, .dat x.D, .un], ?_, fun _ => rfl, fun hp => ?_⟩
      · cases x with
        | bad d => cases hgx
        | _ => simp [ct_is_patch_of_1, GD.D, GD.isPut]
      · cases x with
        | bad d => cases hgx
        | put ls => cases hp
        | keep n => exact ⟨_, _, by simp [ce_is_patch_of_2, GD.D]; exact ⟨rfl, rfl⟩, _, rfl, rfl⟩
        | take n => exact ⟨_, _, by simp [ce_is_patch_of_2, GD.D]; exact ⟨rfl, rfl⟩, _, rfl, rfl⟩)
    have r2 := rest_all (vs := [3]) (k2.trans E3.symm)
    obtain ⟨e3, c3, k3⟩ := comp_map (inp := GD.D) (out := fun e => nD e.late) (pat := .name 3) (t := dYes) (el := ce_is_patch_of_3) (ys := gs) E3 (fun x hx => by
      have hgx := gd x hx
      cases x with
      | bad d => cases hgx
      | put ls => exact ⟨_, rfl, _, rfl, _, _, by simp [ce_is_patch_of_3, GD.D]; exact ⟨rfl, rfl⟩, _, rfl, rfl⟩
      | keep n => exact ⟨_, rfl, _, rfl, _, _, by simp [ce_is_patch_of_3, GD.D]; exact ⟨rfl, rfl⟩, _, rfl, rfl⟩
      | take n => exact ⟨_, rfl, _, rfl, _, _, by simp [ce_is_patch_of_3, GD.D]; exact ⟨rfl, rfl⟩, _, rfl, rfl⟩)
    have r3 := rest_all (vs := [3]) (k3.trans E3.symm)
    have u1 := sum_nat GD.used (gs.filter fun e => !e.isPut)
    rw [sum_gused] at u1
    have u2 : sumD [.list (gs.map fun e => nD e.late)] = some (.dat (.int (glate gs : Nat))) := sum_nat GD.late gs
    by_cases hu : gused gs = zs.length
    · have hl : decide (((glate gs : Nat) : Int) ≤ 200) = decide (glate gs ≤ 200) := decide_eq_decide.mpr (by omega)
      simp [g_is_patch_of, kt, s1, s2, c1, r1, a1, c2, r2, u1, hu, c3, r3, u2, hl, ev_fin_f]
    · have hu' : ¬ ((gused gs : Nat) : Int) = (zs.length : Int) := fun z => hu (Int.ofNat_inj.mp z)
      simp [g_is_patch_of, kt, s1, s2, c1, r1, a1, c2, r2, u1, hu, hu', ev_fin_f]
/-! ### the law's own look -/
theorem is_step {g : GD} (h : g.ok) (hg : g.good = true) {s0 s1 s5 : Sl} {a b : Nat} : ∃ t5,
    lb__law_is_one_1 [s0, s1, .dat (nD a), .dat (nD b), .dat g.D, s5] = some (.nx [s0, s1, .dat (nD (a + g.used)), .dat (nD (b + g.late)), .dat g.D, t5]) := by
  have kt : ∀ xs : List DL.D, kOf (.tuple xs) "tuple" = true := fun _ => rfl
  have ki : ∀ i : Int, kOf (.int i) "int" = true := fun _ => rfl
  have kb : ∀ i : Int, kOf (.int i) "bool" = false := fun _ => rfl
  have ks : ∀ x : Str, kOf (.str x) "str" = true := fun _ => rfl
  have ik : inD true (.str "keep") (.tuple [.str "keep", .str "take", .str "put"]) = some (.dat (.bool false)) := rfl
  have it : inD true (.str "take") (.tuple [.str "keep", .str "take", .str "put"]) = some (.dat (.bool false)) := rfl
  have ip : inD true (.str "put") (.tuple [.str "keep", .str "take", .str "put"]) = some (.dat (.bool false)) := rfl
  cases g with
  | bad d => cases hg
  | keep n =>
    have hn : 0 < n := h
    have hn' : ¬ (n : Int) < 1 := by omega
    have hn2 : ¬ n = 0 := by omega
    exact ⟨s5, by simp [lb__law_is_one_1, GD.D, GD.used, GD.late, kt, ki, kb, ik, hn', hn2]⟩
  | take n =>
    have hn : 0 < n := h
    have hn' : ¬ (n : Int) < 1 := by omega
    have hn2 : ¬ n = 0 := by omega
    exact ⟨s5, by simp [lb__law_is_one_1, GD.D, GD.used, GD.late, kt, ki, kb, it, hn', hn2]⟩
  | put xs =>
    obtain ⟨h0, hl, hx⟩ := h
    have ne := (put_ne0 h0 fun x hx' => (hx x hx').1).2
    have E1 : wipeE [s0, s1, .dat (nD a), .dat (nD b), .dat (GD.put xs).D, s5] [5] = [s0, s1, .dat (nD a), .dat (nD b), .dat (GD.put xs).D, .un] := rfl
    obtain ⟨e5, c1, k1⟩ := comp_map (inp := PyData.str) (out := fun _ => .bool true) (pat := .name 5) (t := dYes) (el := ce__law_is_one_1) (ys := xs) E1 (fun x hx' => by
      have h2 : ((x.length : Nat) : Int) ≤ 2000 := by have := (hx x hx').2; omega
      have hl : lenD [.str x] = some (.dat (.int (x.length : Nat))) := by
        show (if _ then _ else _) = _
        rw [if_pos (by have := (hx x hx').2; unfold szMax; omega)]
      have st : ce__law_is_one_1 [s0, s1, .dat (nD a), .dat (nD b), .dat (GD.put xs).D, .dat (.str x)] = some (.d (.bool true), [s0, s1, .dat (nD a), .dat (nD b), .dat (GD.put xs).D, .dat (.str x)]) := by simp [ce__law_is_one_1, ks, hl, h2]
      exact ⟨_, rfl, _, rfl, _, _, st, _, rfl, rfl⟩)
    have r1 := rest_all (vs := [5]) (k1.trans E1.symm)
    have hz : xs.length ≤ szMax := by unfold szMax; omega
    have dg : (GD.put xs).D = .tuple [.str "put", .tuple (xs.map .str)] := rfl
    rw [dg] at c1 r1 ⊢
    exact ⟨s5, by simp [lb__law_is_one_1, GD.used, GD.late, kt, ip, ne, hz, c1, r1]⟩
theorem is_loop {s0 s1 : Sl} : ∀ (gs : List GD), (∀ g ∈ gs, g.ok) → gs.all GD.good = true → ∀ (a b : Nat) (s4 s5 : Sl), ∃ t4 t5,
    forD (.name 4) lb__law_is_one_1 (gs.map GD.D) [s0, s1, .dat (nD a), .dat (nD b), s4, s5] = some (.nx [s0, s1, .dat (nD (a + gused gs)), .dat (nD (b + glate gs)), t4, t5])
  | [], _, _, a, b, s4, s5 => ⟨s4, s5, rfl⟩
  | g :: gs, h, hg, a, b, s4, s5 => by
    rw [List.all_cons, Bool.and_eq_true] at hg
    obtain ⟨u5, st⟩ := is_step (h g List.mem_cons_self) hg.1 (s0 := s0) (s1 := s1) (s5 := s5) (a := a) (b := b)
    obtain ⟨t4, t5, ih⟩ := is_loop (s0 := s0) (s1 := s1) gs (fun x hx => h x (List.mem_cons_of_mem _ hx)) hg.2 (a + g.used) (b + g.late) (.dat g.D) u5
    refine ⟨t4, t5, ?_⟩
    have bd : bindP (.name 4) g.D [s0, s1, .dat (nD a), .dat (nD b), s4, s5] = some [s0, s1, .dat (nD a), .dat (nD b), .dat g.D, s5] := rfl
    rw [List.map_cons, for_cons bd (.inl st), ih]
    show some (Fl.nx [s0, s1, Sl.dat (nD (a + g.used + gused gs)), Sl.dat (nD (b + g.late + glate gs)), t4, t5]) = _
    rw [Nat.add_assoc, Nat.add_assoc]
    rfl
theorem is_loop_bad {s0 s1 : Sl} : ∀ (gs : List GD), (∀ g ∈ gs, g.ok) → gs.all GD.good = false → ∀ (a b : Nat) (s4 s5 : Sl), ∃ e',
    forD (.name 4) lb__law_is_one_1 (gs.map GD.D) [s0, s1, .dat (nD a), .dat (nD b), s4, s5] = some (.rt (.dat (.bool false)) e')
  | [], _, hg, _, _, _, _ => nomatch hg
  | g :: gs, h, hg, a, b, s4, s5 => by
    have bd : bindP (.name 4) g.D [s0, s1, .dat (nD a), .dat (nD b), s4, s5] = some [s0, s1, .dat (nD a), .dat (nD b), .dat g.D, s5] := rfl
    cases hgg : g.good with
    | true =>
      rw [List.all_cons, hgg, Bool.true_and] at hg
      obtain ⟨u5, st⟩ := is_step (h g List.mem_cons_self) hgg (s0 := s0) (s1 := s1) (s5 := s5) (a := a) (b := b)
      obtain ⟨e', ih⟩ := is_loop_bad (s0 := s0) (s1 := s1) gs (fun x hx => h x (List.mem_cons_of_mem _ hx)) hg (a + g.used) (b + g.late) (.dat g.D) u5
      refine ⟨e', ?_⟩
      rw [List.map_cons, for_cons bd (.inl st), ih]
    | false =>
      cases g with
      | bad d =>
        have hb : BadEd d := h _ List.mem_cons_self
        obtain ⟨e', he⟩ := hb.law s0 s1 (.dat (nD a)) (.dat (nD b)) s5
        refine ⟨e', ?_⟩
        rw [List.map_cons, forD, bd, Option.bind_some]
        show (lb__law_is_one_1 [s0, s1, .dat (nD a), .dat (nD b), .dat d, s5]).bind _ = _
        rw [he]
        rfl
      | _ => cases hgg
theorem is_gen (zs : List DL.D) (gs : List GD) (h : ∀ g ∈ gs, g.ok) (hz : zs.length ≤ 1000) : m__law_is_one [] [.list zs, .tuple (gs.map GD.D)] = some (.dat (.bool (isOne zs.length gs)), []) := by
  have kt : ∀ xs : List DL.D, kOf (.tuple xs) "tuple" = true := fun _ => rfl
  rw [m__law_is_one, ev_run, show env0 false 6 [] [.list zs, .tuple (gs.map GD.D)] = [.dat (.list zs), .dat (.tuple (gs.map GD.D)), .un, .un, .un, .un] from rfl]
  unfold isOne
  cases hg : gs.all GD.good with
  | true =>
    obtain ⟨t4, t5, lp⟩ := is_loop (s0 := .dat (.list zs)) (s1 := .dat (.tuple (gs.map GD.D))) gs h hg 0 0 .un .un
    rw [Nat.zero_add, Nat.zero_add] at lp
    have lp : forD (.name 4) lb__law_is_one_1 (gs.map GD.D) [.dat (.list zs), .dat (.tuple (gs.map GD.D)), .dat (.int 0), .dat (.int 0), .un, .un] = some (.nx [.dat (.list zs), .dat (.tuple (gs.map GD.D)), .dat (nD (gused gs)), .dat (nD (glate gs)), t4, t5]) := lp
    by_cases hu : gused gs = zs.length
    · have hl : decide (((glate gs : Nat) : Int) ≤ 200) = decide (glate gs ≤ 200) := decide_eq_decide.mpr (by omega)
      simp [g__law_is_one, kt, lp, hu, hl, ev_fin_f]
    · have hu' : ¬ ((gused gs : Nat) : Int) = (zs.length : Int) := fun z => hu (Int.ofNat_inj.mp z)
      simp [g__law_is_one, kt, lp, hu, hu', ev_fin_f]
  | false =>
    obtain ⟨e', lp⟩ := is_loop_bad (s0 := .dat (.list zs)) (s1 := .dat (.tuple (gs.map GD.D))) gs h hg 0 0 .un .un
    have lp : forD (.name 4) lb__law_is_one_1 (gs.map GD.D) [.dat (.list zs), .dat (.tuple (gs.map GD.D)), .dat (.int 0), .dat (.int 0), .un, .un] = some (.rt (.dat (.bool false)) e') := lp
    simp [g__law_is_one, kt, lp, ev_fin_f]
end K72
namespace K72
open PySem PySem.Spec PyProof.Rows L2 DL
section
theorem kt (xs : List DL.D) : kOf (.tuple xs) "tuple" = true := rfl
theorem ks (x : Str) : kOf (.str x) "str" = true := rfl
theorem ki (i : Int) : kOf (.int i) "int" = true := rfl
theorem kb (i : Int) : kOf (.int i) "bool" = false := rfl
theorem bad_take0 : BadEd (.tuple [.str "take", .int 0]) := by
  constructor
  · have it : inD false (.str "take") (.tuple [.str "keep", .str "take"]) = some (.dat (.bool true)) := rfl
    rw [m_is_edit_any, ev_run, show env0 false 2 [] [.tuple [.str "take", .int 0]] = [.dat (.tuple [.str "take", .int 0]), .un] from rfl]
    simp [g_is_edit_any, v_is_tuple, ks, it, v_is_count, ev_fin_f]
  · intro s0 s1 s2 s3 s5
    have it : inD true (.str "take") (.tuple [.str "keep", .str "take", .str "put"]) = some (.dat (.bool false)) := rfl
    exact ⟨_, by simp [lb__law_is_one_1, kt, ki, kb, it]; rfl⟩
theorem bad_put0 : BadEd (.tuple [.str "put", .tuple []]) := by
  have n0 : neD (.tuple []) (.tuple []) = some (.dat (.bool false)) := rfl
  have q0 : eqD (.tuple []) (.tuple []) = some (.dat (.bool true)) := rfl
  constructor
  · rw [m_is_edit_any, ev_run, show env0 false 2 [] [.tuple [.str "put", .tuple []]] = [.dat (.tuple [.str "put", .tuple []]), .un] from rfl]
    simp [g_is_edit_any, v_is_tuple, ks, kt, n0, ev_fin_f]
  · intro s0 s1 s2 s3 s5
    have ip : inD true (.str "put") (.tuple [.str "keep", .str "take", .str "put"]) = some (.dat (.bool false)) := rfl
    exact ⟨_, by simp [lb__law_is_one_1, kt, ki, kb, ip, q0]; rfl⟩
theorem bad_putL {xs : List DL.D} : BadEd (.tuple [.str "put", .list xs]) := by
  have kl : kOf (.list xs) "tuple" = false := rfl
  constructor
  · rw [m_is_edit_any, ev_run, show env0 false 2 [] [.tuple [.str "put", .list xs]] = [.dat (.tuple [.str "put", .list xs]), .un] from rfl]
    simp [g_is_edit_any, v_is_tuple, ks, kl, ev_fin_f]
  · intro s0 s1 s2 s3 s5
    have ip : inD true (.str "put") (.tuple [.str "keep", .str "take", .str "put"]) = some (.dat (.bool false)) := rfl
    exact ⟨_, by simp [lb__law_is_one_1, kt, kl, ip]; rfl⟩
theorem bad_putS {x : Str} : BadEd (.tuple [.str "put", .str x]) := by
  have kl : kOf (.str x) "tuple" = false := rfl
  constructor
  · rw [m_is_edit_any, ev_run, show env0 false 2 [] [.tuple [.str "put", .str x]] = [.dat (.tuple [.str "put", .str x]), .un] from rfl]
    simp [g_is_edit_any, v_is_tuple, ks, kl, ev_fin_f]
  · intro s0 s1 s2 s3 s5
    have ip : inD true (.str "put") (.tuple [.str "keep", .str "take", .str "put"]) = some (.dat (.bool false)) := rfl
    exact ⟨_, by simp [lb__law_is_one_1, kt, kl, ip]; rfl⟩
theorem bad_true : BadEd (.tuple [.str "keep", .bool true]) := by
  have k1 : kOf (.bool true) "int" = true := rfl
  have k2 : kOf (.bool true) "bool" = true := rfl
  have ct : m_is_count [] [.bool true] = some (.dat (.bool false), []) := rfl
  constructor
  · have ik : inD false (.str "keep") (.tuple [.str "keep", .str "take"]) = some (.dat (.bool true)) := rfl
    rw [m_is_edit_any, ev_run, show env0 false 2 [] [.tuple [.str "keep", .bool true]] = [.dat (.tuple [.str "keep", .bool true]), .un] from rfl]
    simp [g_is_edit_any, v_is_tuple, ks, ik, ct, ev_fin_f]
  · intro s0 s1 s2 s3 s5
    have ik : inD true (.str "keep") (.tuple [.str "keep", .str "take", .str "put"]) = some (.dat (.bool false)) := rfl
    exact ⟨_, by simp [lb__law_is_one_1, kt, k1, k2, ik]; rfl⟩
theorem bad_list {xs : List DL.D} : BadEd (.list xs) := by
  have kl : kOf (.list xs) "tuple" = false := rfl
  have vt : m_is_tuple [] [.list xs, .int 2] = some (.dat (.bool false), []) := rfl
  constructor
  · rw [m_is_edit_any, ev_run, show env0 false 2 [] [.list xs] = [.dat (.list xs), .un] from rfl]
    simp [g_is_edit_any, vt, ev_fin_f]
  · intro s0 s1 s2 s3 s5
    exact ⟨_, by simp [lb__law_is_one_1, kl]; rfl⟩
theorem bad_three {a b c : DL.D} : BadEd (.tuple [a, b, c]) := by
  constructor
  · rw [m_is_edit_any, ev_run, show env0 false 2 [] [.tuple [a, b, c]] = [.dat (.tuple [a, b, c]), .un] from rfl]
    simp [g_is_edit_any, v_is_tuple, ev_fin_f]
  · intro s0 s1 s2 s3 s5
    exact ⟨_, by simp [lb__law_is_one_1, kt]; rfl⟩
theorem ok_hold : PyData.strOk "hold" = true := by decide +kernel
theorem bad_hold : BadEd (.tuple [.str "hold", .int 1]) := by
  have e1 : eqD (.str "hold") (.str "put") = some (.dat (.bool false)) := by rw [eq_s ok_hold ok_put]; rfl
  constructor
  · have ih : inD false (.str "hold") (.tuple [.str "keep", .str "take"]) = some (.dat (.bool false)) := rfl
    rw [m_is_edit_any, ev_run, show env0 false 2 [] [.tuple [.str "hold", .int 1]] = [.dat (.tuple [.str "hold", .int 1]), .un] from rfl]
    simp [g_is_edit_any, v_is_tuple, ks, e1, ih, ev_fin_f]
  · intro s0 s1 s2 s3 s5
    have ih : inD true (.str "hold") (.tuple [.str "keep", .str "take", .str "put"]) = some (.dat (.bool true)) := rfl
    exact ⟨_, by simp [lb__law_is_one_1, kt, ih]; rfl⟩
theorem bad_long {x : Str} (hx : PyData.strOk x = true) (h1 : 2000 < x.length) (h2 : x.length ≤ 3000) : BadEd (.tuple [.str "put", .tuple [.str x]]) := by
  have n0 := (put_ne0 (xs := [x]) (by simp) (fun y hy => by rw [List.mem_singleton.mp hy]; exact hx)).1
  have q0 := (put_ne0 (xs := [x]) (by simp) (fun y hy => by rw [List.mem_singleton.mp hy]; exact hx)).2
  have n0 : neD (.tuple [.str x]) (.tuple []) = some (.dat (.bool true)) := n0
  have q0 : eqD (.tuple [.str x]) (.tuple []) = some (.dat (.bool false)) := q0
  have hl : lenD [.str x] = some (.dat (.int (x.length : Nat))) := by
    show (if _ then _ else _) = _
    rw [if_pos (by unfold szMax; omega)]
  have h3 : ¬ ((x.length : Nat) : Int) ≤ 2000 := by omega
  have h3' : 2000 < ((x.length : Nat) : Int) := by omega
  have ln : m_is_line_any [] [.str x] = some (.dat (.bool false), []) := by
    rw [m_is_line_any, ev_run, show env0 false 1 [] [.str x] = [.dat (.str x)] from rfl]
    simp [g_is_line_any, ks, hl, h3, h3', ev_fin_f]
  have af : allD [.list [.bool false]] = some (.dat (.bool false)) := rfl
  constructor
  · rw [m_is_edit_any, ev_run, show env0 false 2 [] [.tuple [.str "put", .tuple [.str x]]] = [.dat (.tuple [.str "put", .tuple [.str x]]), .un] from rfl]
    have c1 : compD (.name 1) dYes ce_is_edit_any_1 [1] [.str x] [.dat (.tuple [.str "put", .tuple [.str x]]), .un] = some ([.bool false], [.dat (.tuple [.str "put", .tuple [.str x]]), .dat (.str x)]) := by
      have st : ce_is_edit_any_1 [.dat (.tuple [.str "put", .tuple [.str x]]), .dat (.str x)] = some (.d (.bool false), [.dat (.tuple [.str "put", .tuple [.str x]]), .dat (.str x)]) := by simp [ce_is_edit_any_1, ln]
      show ((ce_is_edit_any_1 [.dat (.tuple [.str "put", .tuple [.str x]]), .dat (.str x)]).bind _) = _
      rw [st]; rfl
    have r1 : restE [.dat (.tuple [.str "put", .tuple [.str x]]), .un] [.dat (.tuple [.str "put", .tuple [.str x]]), .dat (.str x)] [1] = [.dat (.tuple [.str "put", .tuple [.str x]]), .un] := rfl
    simp [g_is_edit_any, v_is_tuple, ks, kt, n0, c1, r1, af, ev_fin_f]
  · intro s0 s1 s2 s3 s5
    have ip : inD true (.str "put") (.tuple [.str "keep", .str "take", .str "put"]) = some (.dat (.bool false)) := rfl
    have c1 : compD (.name 5) dYes ce__law_is_one_1 [5] [.str x] [s0, s1, s2, s3, .dat (.tuple [.str "put", .tuple [.str x]]), s5] = some ([.bool false], [s0, s1, s2, s3, .dat (.tuple [.str "put", .tuple [.str x]]), .dat (.str x)]) := by
      have st : ce__law_is_one_1 [s0, s1, s2, s3, .dat (.tuple [.str "put", .tuple [.str x]]), .dat (.str x)] = some (.d (.bool false), [s0, s1, s2, s3, .dat (.tuple [.str "put", .tuple [.str x]]), .dat (.str x)]) := by simp [ce__law_is_one_1, ks, hl, h3, h3']
      show ((ce__law_is_one_1 [s0, s1, s2, s3, .dat (.tuple [.str "put", .tuple [.str x]]), .dat (.str x)]).bind _) = _
      rw [st]; rfl
    exact ⟨_, by simp [lb__law_is_one_1, kt, ip, q0, c1, af]; rfl⟩
end
/-! ### edits as such -/
def toG : Ed → GD
  | .keep n => .keep n
  | .take n => .take n
  | .put ls => .put (ls.map (·.s))
theorem toG_D (e : Ed) : (toG e).D = e.D := by
  cases e with
  | put ls => show PyData.tuple [.str "put", .tuple ((ls.map (·.s)).map .str)] = _; rw [List.map_map]; rfl
  | _ => rfl
theorem toG_map (es : List Ed) : (es.map toG).map GD.D = es.map Ed.D := by
  rw [List.map_map]
  exact List.map_congr_left fun e _ => toG_D e
theorem toG_ok {e : Ed} (h : e.ok) : (toG e).ok := by
  cases e with
  | keep n => exact h
  | take n => exact h
  | put ls =>
    refine ⟨fun z => h.1 (List.map_eq_nil_iff.mp z), by rw [List.length_map]; exact h.2, fun x hx => ?_⟩
    obtain ⟨l, _, rfl⟩ := List.mem_map.mp hx
    exact ⟨l.h.1, by have := l.h.2.1; omega⟩
/-! ### how large they are -/
theorem shd_word {x : Str} (h : PyData.strOk x = true) (hl : x.length ≤ 10) : Shd 0 10 (.str x) := shd_str h hl
theorem shd_nat {n : Nat} (h : n ≤ 1000000) : Shd 0 40 (nD n) := shd_int (by rw [Int.natAbs_natCast]; omega)
theorem shd_ln (l : Ln) : Shd 0 100 (lnD l) := shd_str l.h.1 l.h.2.1
theorem shd_lns (ls : List Ln) : ShdA 0 (101 * ls.length) (ls.map lnD) := (shda_all fun x hx => by obtain ⟨l, _, rfl⟩ := List.mem_map.mp hx; exact shd_ln l).up (Nat.le_refl _) (by rw [List.length_map]; exact Nat.le_refl _)
theorem wl_keep : ("keep" : Str).length ≤ 10 := by decide +kernel
theorem wl_take : ("take" : Str).length ≤ 10 := by decide +kernel
theorem wl_put : ("put" : Str).length ≤ 10 := by decide +kernel
theorem shd_pair {k v w : Nat} {a b : DL.D} (h : Shd k v a) (g : Shd k w b) : Shd (k + 1) (v + w + 2) (.tuple [a, b]) :=
  (shd_tup (shda_cons h (shda_cons g shda_nil))).up (Nat.le_refl _) (by omega)
theorem shd_ed {e : Ed} (hu : e.used ≤ 1000) : Shd 2 (60 + 101 * e.late) e.D := by
  cases e with
  | keep n =>
    have hu : n ≤ 1000 := hu
    exact (shd_pair (shd_word ok_keep wl_keep) (shd_nat (n := n) (by omega))).up (by decide) (by omega)
  | take n =>
    have hu : n ≤ 1000 := hu
    exact (shd_pair (shd_word ok_take wl_take) (shd_nat (n := n) (by omega))).up (by decide) (by omega)
  | put ls =>
    have := shd_pair (k := 1) ((shd_word ok_put wl_put).up (Nat.zero_le 1) (Nat.le_refl _)) (shd_tup (shd_lns ls))
    exact this.up (by decide) (by show 10 + 101 * ls.length + 2 ≤ 60 + 101 * ls.length; omega)
theorem shda_eds : ∀ es : List Ed, used es ≤ 1000 → ShdA 2 (61 * es.length + 101 * late es) (es.map Ed.D)
  | [], _ => shda_nil.up (Nat.le_refl _) (Nat.zero_le _)
  | e :: es, h => by
    rw [used_cons] at h
    have := shda_cons (shd_ed (e := e) (by omega)) (shda_eds es (by omega))
    exact this.up (Nat.le_refl _) (by rw [List.length_cons, late_cons]; omega)
theorem shd_pat {es : List Ed} (h : used es ≤ 1000) (h4 : es.length ≤ 400) (hl : late es ≤ 200) : Shd 3 45000 (patD es) := (shd_tup (shda_eds es h)).up (Nat.le_refl _) (by omega)
theorem shd_LD {ls : List Ln} (h : ls.length ≤ 200) : Shd 1 21000 (LD ls) := (shd_list (shd_lns ls)).up (Nat.le_refl _) (by omega)
theorem ShdA.app {k v w : Nat} : ∀ {xs ys : List DL.D}, ShdA k v xs → ShdA k w ys → ShdA k (v + w) (xs ++ ys)
  | [], ys, _, h => h.up (Nat.le_refl _) (Nat.le_add_left _ _)
  | x :: xs, ys, g, h => by
    have g1 := g.can; have g2 := g.sh; have g3 := g.lf; have g4 := g.dp; have g5 := g.wt
    rw [PyData.canLayAll0, Bool.and_eq_true] at g1
    rw [PyData.showableAll, Bool.and_eq_true] at g2
    rw [PyData.leavesShortAll, Bool.and_eq_true] at g3
    rw [PyData.depthAll] at g4
    rw [PyData.weightAll] at g5
    have r : ShdA k (PyData.weightAll xs) xs := ⟨g1.2, g2.2, g3.2, Nat.le_trans (Nat.le_max_right _ _) g4, Nat.le_refl _⟩
    have := shda_cons (k := k) (v := PyData.weight x) (x := x) ⟨g1.1, g2.1, g3.1, Nat.le_trans (Nat.le_max_left _ _) g4, Nat.le_refl _⟩ (ShdA.app r h)
    exact this.up (Nat.le_refl _) (by omega)
end K72
namespace DL
open PySem PySem.Spec PyProof.Rows L2
theorem cut_from {xs : List D} {k : Nat} : DL.cutD xs (some (k : Int)) none = xs.drop k := by
  unfold DL.cutD
  rw [HT.sIx_nat, HT.sIx_none]
  by_cases h : k ≤ xs.length
  · rw [Nat.min_eq_left h, List.take_of_length_le (by rw [List.length_drop]; exact Nat.le_refl _)]
  · have e1 : min k xs.length = xs.length := by omega
    rw [e1, List.drop_eq_nil_of_le (Nat.le_refl _), List.drop_eq_nil_of_le (by omega), List.take_nil]
@[simp] theorem cut_from1 {xs : List D} {k : Nat} : DL.cutD xs (some ((k : Int) + 1)) none = xs.drop (k + 1) := cut_from (k := k + 1)
@[simp] theorem cut_fromk {xs : List D} {k : Nat} : DL.cutD xs (some (k : Int)) none = xs.drop k := cut_from
end DL
namespace K72
open PySem PySem.Spec PyProof.Rows L2 DL
def Val (ls : List Ln) (v : DL.D) : Prop := ∃ b, m_is_patch_of [] [LD ls, v] = some (.dat (.bool b), []) ∧ m__law_is_one [] [LD ls, v] = some (.dat (.bool b), []) ∧ Shd 8 100000 v
theorem val_gs {ls : List Ln} {gs : List GD} (hl : ls.length ≤ 200) (h : ∀ g ∈ gs, g.ok) (h4 : gs.length ≤ 400) (hs : ShdA 7 100000 (gs.map GD.D)) : Val ls (.tuple (gs.map GD.D)) :=
  ⟨_, po_gen (ls.map lnD) gs h h4, is_gen (ls.map lnD) gs h (by rw [List.length_map]; omega), shd_tup hs⟩
theorem val_not {ls : List Ln} {v : DL.D} (h : kOf v "tuple" = false) (hs : Shd 8 100000 v) : Val ls v := by
  refine ⟨false, ?_, ?_, hs⟩
  · rw [m_is_patch_of, ev_run, show env0 false 5 [] [LD ls, v] = [.dat (LD ls), .dat v, .un, .un, .un] from rfl]
    simp [g_is_patch_of, h, ev_fin_f]
  · rw [m__law_is_one, ev_run, show env0 false 6 [] [LD ls, v] = [.dat (LD ls), .dat v, .un, .un, .un, .un] from rfl]
    simp [g__law_is_one, h, ev_fin_f]
theorem v_is_patch {ls : List Ln} (hl : ls.length ≤ 200) {v : DL.D} {b : Bool} (h : m_is_patch_of [] [LD ls, v] = some (.dat (.bool b), [])) : m_is_patch [] [LD ls, v] = some (.dat (.bool b), []) := by
  rw [m_is_patch, ev_run, show env0 false 2 [] [LD ls, v] = [.dat (LD ls), .dat v] from rfl]
  simp [g_is_patch, v_want_lines ls hl, h, ev_fin_f]
theorem val_loop {ls : List Ln} (hl : ls.length ≤ 200) {s0 s2 s3 s4 : Sl} : ∀ (vs : List DL.D), (∀ v ∈ vs, Val ls v) → ∀ s5 s6 s7, ∃ t5 t6 t7,
    forD (.name 5) lb__law_values_right_1 vs [s0, .dat (LD ls), s2, s3, s4, s5, s6, s7] = some (.nx [s0, .dat (LD ls), s2, s3, s4, t5, t6, t7])
  | [], _, s5, s6, s7 => ⟨s5, s6, s7, rfl⟩
  | v :: vs, h, s5, s6, s7 => by
    obtain ⟨b, h1, h2, h3⟩ := h v List.mem_cons_self
    have h4 := v_is_patch hl h1
    have rv := repr_shd h3 (by decide) (by decide)
    generalize v.shown = S at rv
    have rb := repr_list (k := 0) (w := 10) ((shda_cons (shd_bool b) (shda_cons (shd_bool b) shda_nil)).up (Nat.le_refl _) (by decide)) (by decide) (by decide)
    generalize PyData.shown (.list [.bool b, .bool b]) = B at rb
    have n1 := ne_str_same (x := S)
    have n2 := ne_str_same (x := B)
    have p1 : permL [1, 0] [v, LD ls] = [LD ls, v] := rfl
    obtain ⟨t5, t6, t7, ih⟩ := val_loop hl (s0 := s0) (s2 := s2) (s3 := s3) (s4 := s4) vs (fun x hx => h x (List.mem_cons_of_mem _ hx)) (.dat v) (.dat (.bool b)) (.dat (.str S))
    refine ⟨t5, t6, t7, ?_⟩
    have bd : bindP (.name 5) v [s0, .dat (LD ls), s2, s3, s4, s5, s6, s7] = some [s0, .dat (LD ls), s2, s3, s4, .dat v, s6, s7] := rfl
    rw [for_cons bd (.inl ?_), ih]
    simp [lb__law_values_right_1, h2, rv, h4, p1, rb, n1, n2]
def X0 : Str := Txt.mul "x" 2000
def X1 : Str := Txt.mul "x" 2001
theorem fold_rep (c : Nat) : ∀ (k : Nat) (acc : Array Nat), (List.replicate k #[c]).foldl (· ++ ·) acc = acc ++ (List.replicate k c).toArray
  | 0, acc => by simp
  | k + 1, acc => by rw [List.replicate_succ, List.foldl_cons, fold_rep c k, List.replicate_succ]; apply Array.ext'; simp
theorem xs_cps (k : Nat) (h : 2 ≤ k) : (Txt.mul "x" (k : Int)).cps = (List.replicate k 120).toArray := by
  unfold Txt.mul
  have e1 : ("x" : Str).cps = #[120] := by decide +kernel
  have e2 : (("x" : Str).length == 0) = false := by decide +kernel
  rw [if_neg (by omega), e2, Bool.or_false, if_neg (by rw [beq_iff_eq]; omega), Int.toNat_natCast, e1]
  show (List.replicate k #[120]).foldl (· ++ ·) #[] = _
  rw [fold_rep]
  apply Array.ext'; simp
theorem xs_ok (k : Nat) (h : 2 ≤ k) : PyData.strOk (Txt.mul "x" (k : Int)) = true ∧ (Txt.mul "x" (k : Int)).length = k := by
  have e := xs_cps k h
  refine ⟨?_, ?_⟩
  · show (Txt.mul "x" (k : Int)).cps.all _ = true
    rw [e, ← Array.all_toList, List.all_eq_true]
    intro c hc
    have : c = 120 := (List.mem_replicate.mp (by simpa using hc)).2
    rw [this]; decide
  · show (Txt.mul "x" (k : Int)).cps.size = k
    rw [e]; simp
theorem x0_ok : PyData.strOk X0 = true ∧ X0.length = 2000 := xs_ok 2000 (by decide)
theorem x1_ok : PyData.strOk X1 = true ∧ X1.length = 2001 := xs_ok 2001 (by decide)
theorem x_ok : PyData.strOk "x" = true ∧ ("x" : Str).length = 1 := by decide +kernel
theorem mulX0 : mulD (.str "x") (.int 2000) = some (.dat (.str X0)) := by
  simp only [mulD]
  rw [if_pos (by decide +kernel)]; rfl
theorem mulX1 : mulD (.str "x") (.int 2001) = some (.dat (.str X1)) := by
  simp only [mulD]
  rw [if_pos (by decide +kernel)]; rfl
theorem mulT (k : Nat) (h : 2 ≤ k) (h2 : k ≤ 1000) : mulD (.tuple [.str "x"]) (.int (k : Int)) = some (.dat (.tuple (List.replicate k (.str "x")))) := by
  simp only [mulD]
  rw [if_pos ⟨by simp, by rw [Int.toNat_natCast]; omega, by rw [Int.toNat_natCast]; omega, by decide⟩, Int.toNat_natCast, flat_one]
section
variable {m : List Mk} {es : List Ed}
def VA (es : List Ed) : List DL.D := [patD es, .list (es.map Ed.D), .tuple (es.map Ed.D ++ [.tuple [.str "keep", .int 1]]), .tuple (es.map Ed.D ++ [.tuple [.str "take", .int 0]]), .tuple ((es.map Ed.D).drop 1), .tuple (es.map Ed.D ++ [.tuple [.str "put", .tuple []]]), .tuple (es.map Ed.D ++ [.tuple [.str "put", .tuple [.str X0]]]), .tuple (es.map Ed.D ++ [.tuple [.str "put", .tuple [.str X1]]])]
def VB (es : List Ed) (n : Nat) : List DL.D := [.tuple (es.map Ed.D ++ [.tuple [.str "put", .list [.str "x"]]]), .tuple (es.map Ed.D ++ [.tuple [.str "put", .str "x"]]), .tuple (es.map Ed.D ++ [.tuple [.str "keep", .bool true]]), .tuple [.tuple [.str "take", nD n]], .tuple [.tuple [.str "put", .tuple (List.replicate 200 (.str "x"))]], .tuple [.tuple [.str "put", .tuple (List.replicate 201 (.str "x"))]], .none, .str "", .int 0, .tuple []]
theorem shd_w {k v : Nat} {w x : DL.D} (h : Shd 1 30000 x) (hw : Shd 0 10 w) : Shd 2 30020 (.tuple [w, x]) := (shd_pair (hw.up (Nat.zero_le 1) (Nat.le_refl _)) h).up (by decide) (by omega)
theorem val_snoc (h : Sp m es) (hn : (ahead m).length ≤ 200) (hb : (behind m).length ≤ 200) (hx : es.length ≤ 300) {g : GD} (hg : g.ok) (hs : Shd 2 30020 g.D) : Val (ahead m) (.tuple (es.map Ed.D ++ [g.D])) := by
  have e1 : es.map Ed.D ++ [g.D] = (es.map toG ++ [g]).map GD.D := by rw [List.map_append, toG_map]; rfl
  have hu := h.us
  have hl := h.la
  have sa := (ShdA.app (shda_eds es (by omega)) (shda_cons hs shda_nil)).up (k' := 7) (w' := 100000) (by decide) (by omega)
  rw [e1] at sa ⊢
  refine val_gs hn (fun x hx => ?_) (by rw [List.length_append, List.length_map, List.length_singleton]; omega) sa
  rcases List.mem_append.mp hx with hx | hx
  · obtain ⟨e, he, rfl⟩ := List.mem_map.mp hx; exact toG_ok (h.ok e he)
  · rw [List.mem_singleton.mp hx]; exact hg
theorem used_sub : ∀ {es fs : List Ed}, fs.Sublist es → used fs ≤ used es ∧ late fs ≤ late es
  | _, _, .slnil => ⟨Nat.le_refl _, Nat.le_refl _⟩
  | _, _, .cons a h => by rw [used_cons, late_cons]; have := used_sub h; omega
  | _, _, .cons₂ a h => by rw [used_cons, late_cons, used_cons, late_cons]; have := used_sub h; omega
theorem val_sub (h : Sp m es) (hn : (ahead m).length ≤ 200) (hb : (behind m).length ≤ 200) {fs : List Ed} (hf : fs.Sublist es) : Val (ahead m) (.tuple (fs.map Ed.D)) := by
  have hu := h.us
  have hl := h.la
  have h4 := h.len
  have us := used_sub hf
  have fl := hf.length_le
  have sa := (shda_eds fs (by omega)).up (k' := 7) (w' := 100000) (by decide) (by omega)
  rw [← toG_map] at sa ⊢
  refine val_gs hn (fun x hx => ?_) (by rw [List.length_map]; omega) sa
  obtain ⟨e, he, rfl⟩ := List.mem_map.mp hx
  exact toG_ok (h.ok e (hf.mem he))
theorem va_ok (h : Sp m es) (hn : (ahead m).length ≤ 200) (hb : (behind m).length ≤ 200) (hx : es.length ≤ 300) : ∀ v ∈ VA es, Val (ahead m) v := fun v hv => by
  have hu := h.us
  have hl := h.la
  unfold VA at hv
  simp only [List.mem_cons, List.not_mem_nil, or_false] at hv
  rcases hv with rfl | rfl | rfl | rfl | rfl | rfl | rfl | rfl
  · exact val_sub h hn hb (List.Sublist.refl _)
  · exact val_not rfl ((shd_list (shda_eds es (by omega))).up (by decide) (by omega))
  · exact val_snoc h hn hb hx (g := .keep 1) Nat.one_pos (shd_w (k := 0) (v := 0) ((shd_nat (n := 1) (by omega)).up (by decide) (by omega)) (shd_word ok_keep wl_keep))
  · exact val_snoc h hn hb hx (g := .bad _) bad_take0 (shd_w (k := 0) (v := 0) ((shd_nat (n := 0) (by omega)).up (by decide) (by omega)) (shd_word ok_take wl_take))
  · rw [← List.map_drop]; exact val_sub h hn hb (List.drop_sublist _ _)
  · exact val_snoc h hn hb hx (g := .bad _) bad_put0 (shd_w (k := 0) (v := 0) ((shd_tup (shda_nil (k := 0))).up (by decide) (by omega)) (shd_word ok_put wl_put))
  · refine val_snoc h hn hb hx (g := .put [X0]) ⟨by simp, by simp, fun y hy => by rw [List.mem_singleton.mp hy]; exact ⟨x0_ok.1, by rw [x0_ok.2]; exact Nat.le_refl _⟩⟩ (shd_w (k := 0) (v := 0) ?_ (shd_word ok_put wl_put))
    exact (shd_tup (shda_cons (shd_str (n := 2000) x0_ok.1 (by rw [x0_ok.2]; exact Nat.le_refl _)) shda_nil)).up (by decide) (by omega)
  · refine val_snoc h hn hb hx (g := .bad (.tuple [.str "put", .tuple [.str X1]])) (bad_long x1_ok.1 (by rw [x1_ok.2]; decide) (by rw [x1_ok.2]; decide)) (shd_w (k := 0) (v := 0) ?_ (shd_word ok_put wl_put))
    exact (shd_tup (shda_cons (shd_str (n := 2001) x1_ok.1 (by rw [x1_ok.2]; exact Nat.le_refl _)) shda_nil)).up (by decide) (by omega)
theorem shd_xs (k : Nat) (h : k ≤ 1000) : Shd 1 30000 (.tuple (List.replicate k (.str "x"))) :=
  (shd_tup (shda_all (k := 0) (w := 1) fun y hy => by rw [(List.mem_replicate.mp hy).2]; exact shd_str x_ok.1 (by rw [x_ok.2]; exact Nat.le_refl _))).up (Nat.le_refl _) (by rw [List.length_replicate]; omega)
theorem val_one {ls : List Ln} (hl : ls.length ≤ 200) {g : GD} (hg : g.ok) (hs : Shd 2 30020 g.D) : Val ls (.tuple [g.D]) :=
  val_gs (gs := [g]) hl (fun x hx => by rw [List.mem_singleton.mp hx]; exact hg) (by show 1 ≤ 400; decide) ((shda_cons hs shda_nil).up (by decide) (by omega))
theorem vb_ok (h : Sp m es) (hn : (ahead m).length ≤ 200) (hb : (behind m).length ≤ 200) (hx : es.length ≤ 300) : ∀ v ∈ VB es (ahead m).length, Val (ahead m) v := fun v hv => by
  have hu := h.us
  have hl := h.la
  have sx : Shd 0 1 (.str "x") := shd_str x_ok.1 (by rw [x_ok.2]; exact Nat.le_refl _)
  unfold VB at hv
  simp only [List.mem_cons, List.not_mem_nil, or_false] at hv
  rcases hv with rfl | rfl | rfl | rfl | rfl | rfl | rfl | rfl | rfl | rfl
  · exact val_snoc h hn hb hx (g := .bad _) bad_putL (shd_w (k := 0) (v := 0) ((shd_list (shda_cons sx shda_nil)).up (by decide) (by omega)) (shd_word ok_put wl_put))
  · exact val_snoc h hn hb hx (g := .bad _) bad_putS (shd_w (k := 0) (v := 0) (sx.up (by decide) (by omega)) (shd_word ok_put wl_put))
  · exact val_snoc h hn hb hx (g := .bad _) bad_true (shd_w (k := 0) (v := 0) ((shd_bool true).up (by decide) (by omega)) (shd_word ok_keep wl_keep))
  · have sd : Shd 2 30020 (.tuple [.str "take", nD (ahead m).length]) := shd_w (k := 0) (v := 0) ((shd_nat (n := (ahead m).length) (by omega)).up (by decide) (by omega)) (shd_word ok_take wl_take)
    cases hz : (ahead m).length with
    | zero =>
      rw [hz] at sd
      exact val_one hn (g := .bad _) bad_take0 sd
    | succ n =>
      rw [hz] at sd
      exact val_one hn (g := .take (n + 1)) (Nat.succ_pos n) sd
  · have e : (GD.put (List.replicate 200 "x")).D = .tuple [.str "put", .tuple (List.replicate 200 (.str "x"))] := by show PyData.tuple [_, .tuple ((List.replicate 200 ("x" : Str)).map .str)] = _; rw [List.map_replicate]
    rw [← e]
    refine val_one hn ⟨by simp, by simp, fun y hy => by rw [(List.mem_replicate.mp hy).2]; exact ⟨x_ok.1, by rw [x_ok.2]; decide⟩⟩ ?_
    rw [e]
    exact shd_w (k := 0) (v := 0) (shd_xs 200 (by decide)) (shd_word ok_put wl_put)
  · have e : (GD.put (List.replicate 201 "x")).D = .tuple [.str "put", .tuple (List.replicate 201 (.str "x"))] := by show PyData.tuple [_, .tuple ((List.replicate 201 ("x" : Str)).map .str)] = _; rw [List.map_replicate]
    rw [← e]
    refine val_one hn ⟨by simp, by simp, fun y hy => by rw [(List.mem_replicate.mp hy).2]; exact ⟨x_ok.1, by rw [x_ok.2]; decide⟩⟩ ?_
    rw [e]
    exact shd_w (k := 0) (v := 0) (shd_xs 201 (by decide)) (shd_word ok_put wl_put)
  · exact val_not rfl (shd_none.up (by decide) (by omega))
  · exact val_not rfl ((shd_str (n := 0) (by decide +kernel) (by decide +kernel)).up (by decide) (by omega))
  · exact val_not rfl ((shd_int (i := 0) (by decide)).up (by decide) (by omega))
  · exact val_gs (gs := []) hn (fun x hx => nomatch hx) (by decide) ((shda_nil (k := 0)).up (by decide) (by omega))
end
end K72
namespace K72
open PySem PySem.Spec PyProof.Rows L2 DL
section
variable {m : List Mk} {es : List Ed}
theorem val_mid (h : Sp m es) (hn : (ahead m).length ≤ 200) (hb : (behind m).length ≤ 200) (hx : es.length ≤ 190) {fs gs : List Ed} (hf : fs.Sublist es) (hg : gs.Sublist es) {d : DL.D} (hd : BadEd d) (hs : Shd 3 30020 d) : Val (ahead m) (.tuple (fs.map Ed.D ++ (d :: gs.map Ed.D))) := by
  have hu := h.us
  have hl := h.la
  have u1 := used_sub hf
  have u2 := used_sub hg
  have l1 := hf.length_le
  have l2 := hg.length_le
  have e1 : fs.map Ed.D ++ (d :: gs.map Ed.D) = (fs.map toG ++ (GD.bad d :: gs.map toG)).map GD.D := by rw [List.map_append, List.map_cons, toG_map, toG_map]; rfl
  have s1 := shda_eds fs (by omega)
  have s2 := shda_eds gs (by omega)
  have sa := (ShdA.app (s1.up (k' := 3) (by decide) (Nat.le_refl _)) (shda_cons hs (s2.up (k' := 3) (by decide) (Nat.le_refl _)))).up (k' := 7) (w' := 100000) (by decide) (by omega)
  rw [e1] at sa ⊢
  refine val_gs hn (fun x hx => ?_) (by simp; omega) sa
  rcases List.mem_append.mp hx with hx | hx
  · obtain ⟨e, he, rfl⟩ := List.mem_map.mp hx; exact toG_ok (h.ok e (hf.mem he))
  · rcases List.mem_cons.mp hx with rfl | hx
    · exact hd
    · obtain ⟨e, he, rfl⟩ := List.mem_map.mp hx; exact toG_ok (h.ok e (hg.mem he))
def VC (es : List Ed) (a : Nat) (e : Ed) : List DL.D := [.tuple ((es.map Ed.D).take a ++ (es.map Ed.D).drop (a + 1)), .tuple ((es.map Ed.D).take a ++ (.list [.str e.word, e.told] :: (es.map Ed.D).drop (a + 1))), .tuple ((es.map Ed.D).take a ++ (.tuple [.str e.word, e.told, .int 1] :: (es.map Ed.D).drop (a + 1))), .tuple ((es.map Ed.D).take a ++ (.tuple [.str "hold", .int 1] :: (es.map Ed.D).drop a))]
theorem vc_ok (h : Sp m es) (hn : (ahead m).length ≤ 200) (hb : (behind m).length ≤ 200) (hx : es.length ≤ 190) {a : Nat} {e : Ed} (he : es[a]? = some e) : ∀ v ∈ VC es a e, Val (ahead m) v := fun v hv => by
  have hu := h.us
  have hl := h.la
  have s1 : (es.take a).Sublist es := List.take_sublist _ _
  have s2 : (es.drop (a + 1)).Sublist es := List.drop_sublist _ _
  have s3 : (es.drop a).Sublist es := List.drop_sublist _ _
  have em : e ∈ es := List.mem_of_getElem? he
  have eu := used_sub (List.singleton_sublist.mpr em)
  have e1 : used [e] = e.used := Nat.add_zero _
  have e2 : late [e] = e.late := Nat.add_zero _
  have sd := shd_ed (e := e) (by omega)
  have dd := ed_D e
  have sw : ShdA 1 (60 + 101 * e.late) [.str e.word, e.told] := by
    rw [dd] at sd
    have c := sd.can; have s := sd.sh; have l := sd.lf; have d := sd.dp; have w := sd.wt
    rw [PyData.canLay0] at c
    rw [PyData.showable] at s
    rw [PyData.leavesShort] at l
    rw [PyData.depth] at d
    rw [PyData.weight] at w
    exact ⟨c, s, l, Nat.le_of_succ_le_succ d, w⟩
  unfold VC at hv
  rw [← List.map_take, ← List.map_drop, ← List.map_drop] at hv
  simp only [List.mem_cons, List.not_mem_nil, or_false] at hv
  rcases hv with rfl | rfl | rfl | rfl
  · rw [← List.map_append]
    refine val_sub h hn hb ?_
    have : (es.take a ++ es.drop (a + 1)) = es.eraseIdx a := (List.eraseIdx_eq_take_drop_succ es a).symm
    rw [this]
    exact List.eraseIdx_sublist _ _
  · exact val_mid h hn hb hx s1 s2 bad_list ((shd_list sw).up (by decide) (by omega))
  · refine val_mid h hn hb hx s1 s2 bad_three ?_
    have := ShdA.app sw (shda_cons ((shd_int (i := 1) (by decide)).up (k' := 1) (by decide) (Nat.le_refl 40)) shda_nil)
    exact (shd_tup this).up (by decide) (by omega)
  · refine val_mid h hn hb hx s1 s3 bad_hold ?_
    have wl : ("hold" : Str).length ≤ 10 := by decide +kernel
    exact (shd_pair (shd_word ok_hold wl) (shd_int (i := 1) (by decide))).up (by decide) (by omega)
theorem ne_pat0 {es : List Ed} : neD (patD es) (.tuple []) = some (.dat (.bool (!es.isEmpty))) := by
  have z := ne_neat (neat_pat es) (neat_pat []) (by decide) (by decide)
  rw [PyData.eqv] at z
  cases es with
  | nil => exact z
  | cons x xs => exact z
theorem v_values {xs : List DL.D} (hp : PotOk xs) (h : Sp m es) (hn : (ahead m).length ≤ 200) (hb : (behind m).length ≤ 200) (hx : es.length ≤ 190) : ∃ xs', PotOk xs' ∧ m__law_values_right xs [LD (ahead m), patD es] = some (.dat (.bool true), xs') := by
  have oa := va_ok h hn hb (by omega)
  have ob := vb_ok h hn hb (by omega)
  have z1 : es.length + 1 ≤ szMax := by unfold szMax; omega
  have z0 : es.length ≤ szMax := by unfold szMax; omega
  have z2 : es.length < szMax := z1
  have z10 : 10 ≤ szMax := by decide
  have z18 : 18 ≤ szMax := by decide
  have z22 : 22 ≤ szMax := by decide
  have t200 := mulT 200 (by decide) (by decide)
  have t201 := mulT 201 (by decide) (by decide)
  have t200 : mulD (.tuple [.str "x"]) (.int 200) = some (.dat (.tuple (List.replicate 200 (.str "x")))) := t200
  have t201 : mulD (.tuple [.str "x"]) (.int 201) = some (.dat (.tuple (List.replicate 201 (.str "x")))) := t201
  have q1 : (dSet 3 (dLst (dCons (bor (dVar 2)) (dCons (bor (dCB listD (dCons (bor (dVar 2)) dNil))) (dCons (bor (dOp addD (bor (dVar 2)) (bor (dTup (dCons (bor (dTup (dCons (bor (dC (.str "keep"))) (dCons (bor (dC (.int 1))) dNil)))) dNil))))) (dCons (bor (dOp addD (bor (dVar 2)) (bor (dTup (dCons (bor (dTup (dCons (bor (dC (.str "take"))) (dCons (bor (dC (.int 0))) dNil)))) dNil))))) (dCons (bor (dSl (bor (dVar 2)) (dPart (bor (dC (.int 1)))) dNoP)) (dCons (bor (dOp addD (bor (dVar 2)) (bor (dTup (dCons (bor (dTup (dCons (bor (dC (.str "put"))) (dCons (bor (dTup dNil)) dNil)))) dNil))))) (dCons (bor (dOp addD (bor (dVar 2)) (bor (dTup (dCons (bor (dTup (dCons (bor (dC (.str "put"))) (dCons (bor (dTup (dCons (bor (dOp mulD (bor (dC (.str "x"))) (bor (dC (.int 2000))))) dNil))) dNil)))) dNil))))) (dCons (bor (dOp addD (bor (dVar 2)) (bor (dTup (dCons (bor (dTup (dCons (bor (dC (.str "put"))) (dCons (bor (dTup (dCons (bor (dOp mulD (bor (dC (.str "x"))) (bor (dC (.int 2001))))) dNil))) dNil)))) dNil))))) dNil)))))))))) [.io (.list xs), .dat (LD (ahead m)), .dat (patD es), .un, .un, .un, .un, .un] = some (.nx [.io (.list xs), .dat (LD (ahead m)), .dat (patD es), .own (.list (VA es)), .un, .un, .un, .un]) := by
    simp [VA, z0, z1, z2, mulX0, mulX1]
  have fin : ∀ (po s4 : Sl) (L : List DL.D), (∀ v ∈ L, Val (ahead m) v) → ∃ t5 t6 t7, (dSeq (dFor (dIt (bor (dVar 3))) (.name 5) lb__law_values_right_1) (dRet (dC (.bool true)))) [po, .dat (LD (ahead m)), .dat (patD es), .own (.list L), s4, .un, .un, .un] = some (.rt (.dat (.bool true)) [po, .dat (LD (ahead m)), .dat (patD es), .dat (.list L), s4, t5, t6, t7]) := fun po s4 L hL => by
    obtain ⟨t5, t6, t7, lp⟩ := val_loop hn (s0 := po) (s2 := .dat (patD es)) (s3 := .dat (.list L)) (s4 := s4) L hL .un .un .un
    refine ⟨t5, t6, t7, ?_⟩
    refine seq_nx (e' := [po, .dat (LD (ahead m)), .dat (patD es), .dat (.list L), s4, t5, t6, t7]) ?_ ?_
    · simp
      exact lp
    simp
  have np := ne_pat0 (es := es)
  have hAB : ∀ v ∈ VA es ++ VB es (ahead m).length, Val (ahead m) v := fun v hv => (List.mem_append.mp hv).elim (oa v) (ob v)
  cases hes : es with
  | nil =>
    subst hes
    obtain ⟨t5, t6, t7, ff⟩ := fin (.io (.list xs)) .un _ hAB
    refine ⟨xs, hp, ?_⟩
    rw [m__law_values_right, ev_run, show env0 true 8 xs [LD (ahead m), patD []] = [.io (.list xs), .dat (LD (ahead m)), .dat (patD []), .un, .un, .un, .un, .un] from rfl]
    have q : g__law_values_right [.io (.list xs), .dat (LD (ahead m)), .dat (patD []), .un, .un, .un, .un, .un] = some (.rt (.dat (.bool true)) [.io (.list xs), .dat (LD (ahead m)), .dat (patD []), .dat (.list (VA [] ++ VB [] (ahead m).length)), .un, t5, t6, t7]) := by
      refine seq_nx q1 ?_
      refine seq_nx (e' := [.io (.list xs), .dat (LD (ahead m)), .dat (patD []), .own (.list (VA [] ++ VB [] (ahead m).length)), .un, .un, .un, .un]) ?_ ?_
      · unfold VB
        generalize List.replicate 200 (PyData.str "x") = R2 at t200 ⊢
        generalize List.replicate 201 (PyData.str "x") = R3 at t201 ⊢
        simp [VA, t200, t201, z10, z18]
      refine seq_nx (e' := [.io (.list xs), .dat (LD (ahead m)), .dat (patD []), .own (.list (VA [] ++ VB [] (ahead m).length)), .un, .un, .un, .un]) ?_ ff
      simp at np
      simp [np]
    rw [q]
    rfl
  | cons e0 es0 =>
    rw [← hes]
    obtain ⟨r, hr, xs', h', he⟩ := draw_ok (ca := 44735) (cb := 5125) hp (m := es.length) (by rw [hes]; simp) (by omega)
    have he : drawS 44735 5125 xs [.int (es.length : Int)] = some (.dat (nD r), xs') := he
    have hg : es[r]? = some es[r] := List.getElem?_eq_getElem hr
    generalize es[r] = e at hg
    have gD : (es.map Ed.D)[r]? = some e.D := by rw [List.getElem?_map, hg]; rfl
    have oc := vc_ok h hn hb hx hg
    obtain ⟨t5, t6, t7, ff⟩ := fin (.io (.list xs')) (.dat (nD r)) (VA es ++ VB es (ahead m).length ++ VC es r e) fun v hv => (List.mem_append.mp hv).elim (hAB v) (oc v)
    refine ⟨xs', h', ?_⟩
    rw [m__law_values_right, ev_run, show env0 true 8 xs [LD (ahead m), patD es] = [.io (.list xs), .dat (LD (ahead m)), .dat (patD es), .un, .un, .un, .un, .un] from rfl]
    have ne : es.isEmpty = false := by rw [hes]; rfl
    have q : g__law_values_right [.io (.list xs), .dat (LD (ahead m)), .dat (patD es), .un, .un, .un, .un, .un] = some (.rt (.dat (.bool true)) [.io (.list xs'), .dat (LD (ahead m)), .dat (patD es), .dat (.list (VA es ++ VB es (ahead m).length ++ VC es r e)), .dat (nD r), t5, t6, t7]) := by
      refine seq_nx q1 ?_
      refine seq_nx (e' := [.io (.list xs), .dat (LD (ahead m)), .dat (patD es), .own (.list (VA es ++ VB es (ahead m).length)), .un, .un, .un, .un]) ?_ ?_
      · unfold VB
        generalize List.replicate 200 (PyData.str "x") = R2 at t200 ⊢
        generalize List.replicate 201 (PyData.str "x") = R3 at t201 ⊢
        simp [VA, t200, t201, z0, z1, z2, z10, z18]
      refine seq_nx (e' := [.io (.list xs'), .dat (LD (ahead m)), .dat (patD es), .own (.list (VA es ++ VB es (ahead m).length ++ VC es r e)), .dat (nD r), .un, .un, .un]) ?_ ff
      rw [ne] at np
      refine if_yes (e' := [.io (.list xs), .dat (LD (ahead m)), .dat (patD es), .own (.list (VA es ++ VB es (ahead m).length)), .un, .un, .un, .un]) (by simp [np]) ?_
      refine seq_nx (e' := [.io (.list xs'), .dat (LD (ahead m)), .dat (patD es), .own (.list (VA es ++ VB es (ahead m).length)), .dat (nD r), .un, .un, .un]) (by simp [he]) ?_
      have lAB : (VA es ++ VB es (ahead m).length).length = 18 := by simp [VA, VB]
      generalize VA es ++ VB es (ahead m).length = L at lAB ⊢
      have y1 : min r es.length + (es.length - (r + 1)) ≤ szMax := by unfold szMax; omega
      have y2 : min r es.length + 1 ≤ szMax := by unfold szMax; omega
      have y3 : min r es.length + 1 + (es.length - (r + 1)) ≤ szMax := by unfold szMax; omega
      have y4 : min r es.length + 1 + (es.length - r) ≤ szMax := by unfold szMax; omega
      have yL : L.length + 4 ≤ szMax := by rw [lAB]; decide
      have dd := ed_D e
      simp [atI_k, gD, hg, dd, y1, y2, y3, y4, yL, lAB, VC, z22]
    rw [q]
    rfl
end
end K72
namespace K72
open PySem PySem.Spec PyProof.Rows L2 DL
abbrev envR (po s1 s2 s3 s4 s5 s6 s7 s8 s9 s10 s11 s12 s13 s14 s15 s16 s17 : Sl) : Env' := [po, s1, s2, s3, s4, s5, s6, s7, s8, s9, s10, s11, s12, s13, s14, s15, s16, s17]
def notK : Mk → Bool
  | .keep _ => false
  | _ => true
def isT : Mk → Bool
  | .take _ => true
  | _ => false
theorem cnt_notK : ∀ m : List Mk, (m.filter notK).length = takes m + puts m
  | [] => rfl
  | .keep x :: m => by rw [List.filter_cons, takes, puts]; exact cnt_notK m
  | .take x :: m => by rw [List.filter_cons, takes, puts]; show (_ :: _).length = _; rw [List.length_cons, cnt_notK m]; omega
  | .put x :: m => by rw [List.filter_cons, takes, puts]; show (_ :: _).length = _; rw [List.length_cons, cnt_notK m]; omega
theorem cnt_isT : ∀ m : List Mk, (m.filter isT).length = takes m
  | [] => rfl
  | .keep x :: m => by rw [List.filter_cons, takes]; exact cnt_isT m
  | .take x :: m => by rw [List.filter_cons, takes]; show (_ :: _).length = _; rw [List.length_cons, cnt_isT m]
  | .put x :: m => by rw [List.filter_cons, takes]; exact cnt_isT m
theorem behind_le : ∀ m : List Mk, (behind m).length ≤ m.length
  | [] => Nat.le_refl _
  | .keep x :: m => by rw [behind, List.length_cons, List.length_cons]; have := behind_le m; omega
  | .take x :: m => by rw [behind, List.length_cons]; have := behind_le m; omega
  | .put x :: m => by rw [behind, List.length_cons, List.length_cons]; have := behind_le m; omega
theorem join_len (m l : List Mk) : (joinM m l).length ≤ m.length + l.length := by
  fun_induction joinM m l <;> simp_all <;> omega
theorem nm_assoc {m l k : List Mk} (h1 : ahead l = behind m) (h2 : ahead k = behind l) : NM (joinM m (joinM l k)) = NM (joinM (joinM m l) k) := by
  have a1 := join_ahead l k h2
  have a2 := join_ahead m l h1
  have b2 := join_behind m l h1
  have a3 := join_ahead m (joinM l k) (by rw [a1, h1])
  have a4 := join_ahead (joinM m l) k (by rw [b2, h2])
  unfold NM
  rw [a3, a4, a2]
  congr 1
  rw [← join_tr (tr 0 m) m (joinM l k) 0 0 (by rw [a1, h1]) rfl, ← join_tr (tr 0 l) l k 0 0 h2 rfl, ← join_tr (tr 0 (joinM m l)) (joinM m l) k 0 0 (by rw [b2, h2]) rfl, ← join_tr (tr 0 m) m l 0 0 h1 rfl, comp_assoc]
theorem turned_len (m : List Mk) : (turned m).length = m.length := List.length_map _
theorem v_is_patchT {ls : List Ln} (hl : ls.length ≤ 200) {es : List Ed} (h : ∀ e ∈ es, e.ok) (h4 : es.length ≤ 400) (hu : used es = ls.length) (hb : late es ≤ 200) : m_is_patch [] [.tuple (ls.map lnD), patD es] = some (.dat (.bool true), []) := by
  have a := v_patch_ofT (ls.map lnD) es h h4
  rw [List.length_map, decide_eq_true hu, decide_eq_true hb] at a
  have w : m_want_lines [] [.tuple (ls.map lnD)] = some (.dat .none, []) := by
    rw [m_want_lines, ev_run, show env0 false 1 [] [.tuple (ls.map lnD)] = [.dat (.tuple (ls.map lnD))] from rfl]
    simp [g_want_lines, v_are_linesT ls hl, ev_fin_f]
  rw [m_is_patch, ev_run, show env0 false 2 [] [.tuple (ls.map lnD), patD es] = [.dat (.tuple (ls.map lnD)), .dat (patD es)] from rfl]
  simp [g_is_patch, w, a, ev_fin_f]
theorem Sp.shd {m : List Mk} {es : List Ed} (h : Sp m es) (hn : (ahead m).length ≤ 200) (hb : (behind m).length ≤ 200) : Shd 3 45000 (patD es) := by
  have hu := h.us
  have hl := h.la
  exact shd_pat (by omega) h.len (by omega)
theorem v_right {xs : List DL.D} (hp : PotOk xs) : ∃ xs', PotOk xs' ∧ m__law_right xs [] = some (.dat (.bool true), xs') := by
  obtain ⟨ls, hls, xs1, hp1, e1⟩ := v_some_lines hp
  obtain ⟨m, xs2, hp2, am, lm, e2⟩ := v_marks hp1 ls (by omega)
  subst am
  have bml := behind_le m
  obtain ⟨l, xs3, hp3, al, ll, e3⟩ := v_marks hp2 (behind m) (by omega)
  have bll := behind_le l
  obtain ⟨k, xs4, hp4, ak, lk, e4⟩ := v_marks hp3 (behind l) (by omega)
  have bkl := behind_le k
  obtain ⟨p, xs5, hp5, sp, pl, e5⟩ := v_edits (m := m) hp4 (by omega)
  obtain ⟨q, xs6, hp6, sq, ql, e6⟩ := v_edits (m := l) hp5 (by omega)
  obtain ⟨r, xs7, hp7, sr, rl, e7⟩ := v_edits (m := k) hp6 (by omega)
  have hbm : (behind m).length ≤ 20 := by omega
  have hbl : (behind l).length ≤ 42 := by omega
  have hbk : (behind k).length ≤ 86 := by omega
  have hal : (ahead l).length ≤ 20 := by rw [al]; exact hbm
  have hak : (ahead k).length ≤ 42 := by rw [ak]; exact hbl
  -- joined ones
  have ja := join_ahead m l al
  have jbh := join_behind m l al
  have ja2 := join_ahead l k ak
  have jb2 := join_behind l k ak
  have at1 : ahead (turned m) = behind m := ahead_turned m
  have bt1 : behind (turned m) = ahead m := behind_turned m
  have ja3 := join_ahead m (turned m) at1
  have jb3 := join_behind m (turned m) at1
  rw [bt1] at jb3
  have jl1 := join_len m l
  have jl2 := join_len m (turned m)
  have tl := turned_len m
  have sNm := (nm_ok m (by omega)).1.sp (by omega)
  have sNt := (nm_ok (turned m) (by rw [bt1]; omega)).1.sp (by rw [bt1]; omega)
  have sNj := (nm_ok (joinM m l) (by rw [jbh]; omega)).1.sp (by rw [jbh]; omega)
  have sNk := (nm_ok (joinM l k) (by rw [jb2]; omega)).1.sp (by rw [jb2]; omega)
  have sNb := (nm_ok (joinM m (turned m)) (by rw [jb3]; omega)).1.sp (by rw [jb3]; omega)
  have a5 := join_ahead (joinM m l) k (by rw [jbh, ak])
  have b5 := join_behind (joinM m l) k (by rw [jbh, ak])
  rw [ja] at a5
  have sNl := (nm_ok (joinM (joinM m l) k) (by rw [b5]; omega)).1.sp (by rw [b5]; omega)
  -- what is called
  have bm := v_behind m (by omega)
  have bl := v_behind l (by omega)
  have bk := v_behind k (by omega)
  have n1 := v_normalized sp (by omega) (by omega)
  have t1 := v_turned sp (by omega) (by omega)
  have j1 := v_joined sp sq al (by omega) (by omega) (by omega)
  have c1 := v_costM sp (by omega) (by omega)
  obtain ⟨c, hc⟩ : ∃ c : Int, c = ((takes m + puts m : Nat) : Int) := ⟨_, rfl⟩
  rw [← hc] at c1
  have pm := v_patchedM sp (by omega) (by omega)
  have ln1 := v_normal m (by omega)
  have tm := v_turnedM m (by omega)
  have ln2 := v_normal (turned m) (by omega)
  have jm := v_joinedM m l al (by omega)
  have ln3 := v_normal (joinM m l) (by omega)
  have jb := v_joined sp sNt at1 (by omega) (by omega) (by rw [bt1]; omega)
  have jm2 := v_joinedM m (turned m) at1 (by omega)
  have ln4 := v_normal (joinM m (turned m)) (by omega)
  have cb := v_costM sNb (by rw [ja3]; omega) (by rw [jb3]; omega)
  have pb := v_patchedM sNb (by rw [ja3]; omega) (by rw [jb3]; omega)
  rw [ja3] at cb pb
  rw [jb3] at pb
  have kk := join_back m
  have la1 := len_ahead (joinM m (turned m))
  have lb1 := len_behind (joinM m (turned m))
  have lam := len_ahead m
  rw [ja3, kk] at la1
  rw [jb3, kk] at lb1
  have ctk : takes (joinM m (turned m)) + puts (joinM m (turned m)) = 2 * takes m := by omega
  rw [ctk] at cb
  have m2 : mulD (.int 2) (.int ((takes m : Nat) : Int)) = some (.dat (.int ((2 * takes m : Nat) : Int))) := by
    simp only [mulD]
    rw [if_pos (Or.inl (by decide : (2 : Int).natAbs ≤ bigI))]
    congr 3
  have tb := v_turned sNt (by rw [at1]; omega) (by rw [bt1]; omega)
  rw [at1, turned_turned] at tb
  have nb := v_normalized sNm (by omega) (by omega)
  have j2 := v_joined sNj sr (by rw [jbh, ak]) (by rw [ja]; omega) (by rw [jbh]; omega) (by omega)
  rw [ja] at j2
  have j3 := v_joined sq sr ak (by omega) (by omega) (by omega)
  rw [al] at j3
  have j4 := v_joined sp sNk (by rw [ja2, al]) (by omega) (by omega) (by rw [jb2]; omega)
  rw [nm_assoc al ak] at j4
  have p2 := v_patchedM sNl (by rw [a5]; omega) (by rw [b5]; omega)
  rw [a5, b5] at p2
  have ip := v_is_patch (ls := ahead m) (v := patD p) (b := true) (by omega) (by
    have hu := sp.us
    have hl := sp.la
    rw [v_patch_of _ p sp.ok sp.len, decide_eq_true hu, decide_eq_true (by omega)]; rfl)
  have ipT := v_is_patchT (ls := ahead m) (by omega) sp.ok sp.len sp.us (by have hl := sp.la; omega)
  have pk10 : permL [1, 0] [patD p, .tuple ((ahead m).map lnD)] = [.tuple ((ahead m).map lnD), patD p] := rfl
  have pk10n : permL [1, 0] [patD p, LD (ahead m)] = [LD (ahead m), patD p] := rfl
  have pk10t : permL [1, 0] [patD p, LD (ahead m)] = [LD (ahead m), patD p] := rfl
  have pk210 : permL [2, 1, 0] [patD q, patD p, LD (ahead m)] = [LD (ahead m), patD p, patD q] := rfl
  -- told texts
  have hp_ := sp.shd (by omega) (by omega)
  have hq_ := sq.shd (by omega) (by omega)
  have hNm := sNm.shd (by omega) (by omega)
  have hNt := sNt.shd (by rw [at1]; omega) (by rw [bt1]; omega)
  have hNj := sNj.shd (by rw [ja]; omega) (by rw [jbh]; omega)
  have hNb := sNb.shd (by rw [ja3]; omega) (by rw [jb3]; omega)
  have hNl := sNl.shd (by rw [a5]; omega) (by rw [b5]; omega)
  have tkm : takes m + puts m ≤ 1000000 := by
    have h1 := len_behind m
    omega
  have rS := repr_list ((shda_cons ((shd_LD (ls := ahead m) (by omega)).up (k' := 3) (by decide) (Nat.le_refl _)) (shda_cons hp_ (shda_cons hq_ shda_nil))).up (Nat.le_refl _) (Nat.le_refl _)) (by decide) (by decide)
  have rT := repr_list (shda_cons hNm (shda_cons hNt (shda_cons hNj (shda_cons ((shd_int (i := c) (by rw [hc, Int.natAbs_natCast]; omega)).up (k' := 3) (by decide) (Nat.le_refl _)) shda_nil)))) (by decide) (by decide)
  have rN := repr_list (shda_cons hNm (shda_cons hNt (shda_cons hNj shda_nil))) (by decide) (by decide)
  have rJ := repr_shd hNb (by decide) (by decide)
  have rM := repr_shd hNm (by decide) (by decide)
  have rL := repr_shd hNl (by decide) (by decide)
  generalize PyData.shown (.list [LD (ahead m), patD p, patD q]) = S at rS
  have cut3 : DL.cutD [patD (NM m), patD (NM (turned m)), patD (NM (joinM m l)), (.int c)] none (some 3) = [patD (NM m), patD (NM (turned m)), patD (NM (joinM m l))] := rfl
  -- counts
  have z1 : m.length ≤ szMax := by unfold szMax; omega
  have EA : wipeE (envR (.io (.list xs7)) (.dat (LD (ahead m))) (.dat (MD m)) (.dat (MD l)) (.dat (MD k)) (.dat (patD p)) (.dat (patD q)) (.dat (patD r)) .un .un .un .un .un .un .un .un .un .un) [10, 11] = envR (.io (.list xs7)) (.dat (LD (ahead m))) (.dat (MD m)) (.dat (MD l)) (.dat (MD k)) (.dat (patD p)) (.dat (patD q)) (.dat (patD r)) .un .un .un .un .un .un .un .un .un .un := rfl
  obtain ⟨eA, cA, kA⟩ := comp_fmap (inp := Mk.D) (p := notK) (out := fun a => .str a.word) (pat := .tup [.name 10, .name 11]) (t := ct__law_right_1) (el := ce__law_right_1) (ys := m) EA (fun a _ => by
    have st : ct__law_right_1 (envR (.io (.list xs7)) (.dat (LD (ahead m))) (.dat (MD m)) (.dat (MD l)) (.dat (MD k)) (.dat (patD p)) (.dat (patD q)) (.dat (patD r)) .un .un (.dat (.str a.word)) (.dat (lnD a.line)) .un .un .un .un .un .un) = some (notK a, envR (.io (.list xs7)) (.dat (LD (ahead m))) (.dat (MD m)) (.dat (MD l)) (.dat (MD k)) (.dat (patD p)) (.dat (patD q)) (.dat (patD r)) .un .un (.dat (.str a.word)) (.dat (lnD a.line)) .un .un .un .un .un .un) := by cases a <;> simp [ct__law_right_1, Mk.word, notK]
    have st2 : ce__law_right_1 (envR (.io (.list xs7)) (.dat (LD (ahead m))) (.dat (MD m)) (.dat (MD l)) (.dat (MD k)) (.dat (patD p)) (.dat (patD q)) (.dat (patD r)) .un .un (.dat (.str a.word)) (.dat (lnD a.line)) .un .un .un .un .un .un) = some (.slot 10, envR (.io (.list xs7)) (.dat (LD (ahead m))) (.dat (MD m)) (.dat (MD l)) (.dat (MD k)) (.dat (patD p)) (.dat (patD q)) (.dat (patD r)) .un .un (.dat (.str a.word)) (.dat (lnD a.line)) .un .un .un .un .un .un) := by simp [ce__law_right_1]
    exact ⟨_, rfl, _, st, fun _ => rfl, fun _ => ⟨_, _, st2, _, rfl, rfl⟩⟩)
  have rA := rest_all (vs := [10, 11]) (kA.trans EA.symm)
  have lA : lenD [.list ((m.filter notK).map fun a => .str a.word)] = some (.dat (.int c)) := by
    have e : ((m.filter notK).map fun a => PyData.str a.word).length = takes m + puts m := by rw [List.length_map, cnt_notK]
    show some _ = _
    rw [e, hc]
  have EB : wipeE (envR (.io (.list xs7)) (.dat (LD (ahead m))) (.dat (MD m)) (.dat (MD l)) (.dat (MD k)) (.dat (patD p)) (.dat (patD q)) (.dat (patD r)) (.dat (.str S)) (.dat (.int c)) .un .un (.own (.list [patD (NM m), patD (NM (turned m)), patD (NM (joinM m l)), (.int c)])) (.own (.list [patD (NM m), patD (NM (turned m)), patD (NM (joinM m l)), (.int c)])) (.own (.list [patD (NM m), patD (NM (turned m)), patD (NM (joinM m l))])) (.dat (patD (NM (joinM m (turned m))))) .un .un) [10, 11] = envR (.io (.list xs7)) (.dat (LD (ahead m))) (.dat (MD m)) (.dat (MD l)) (.dat (MD k)) (.dat (patD p)) (.dat (patD q)) (.dat (patD r)) (.dat (.str S)) (.dat (.int c)) .un .un (.own (.list [patD (NM m), patD (NM (turned m)), patD (NM (joinM m l)), (.int c)])) (.own (.list [patD (NM m), patD (NM (turned m)), patD (NM (joinM m l)), (.int c)])) (.own (.list [patD (NM m), patD (NM (turned m)), patD (NM (joinM m l))])) (.dat (patD (NM (joinM m (turned m))))) .un .un := rfl
  obtain ⟨eB, cB, kB⟩ := comp_fmap (inp := Mk.D) (p := isT) (out := fun a => .str a.word) (pat := .tup [.name 10, .name 11]) (t := ct__law_right_2) (el := ce__law_right_2) (ys := m) EB (fun a _ => by
    have st : ct__law_right_2 (envR (.io (.list xs7)) (.dat (LD (ahead m))) (.dat (MD m)) (.dat (MD l)) (.dat (MD k)) (.dat (patD p)) (.dat (patD q)) (.dat (patD r)) (.dat (.str S)) (.dat (.int c)) (.dat (.str a.word)) (.dat (lnD a.line)) (.own (.list [patD (NM m), patD (NM (turned m)), patD (NM (joinM m l)), (.int c)])) (.own (.list [patD (NM m), patD (NM (turned m)), patD (NM (joinM m l)), (.int c)])) (.own (.list [patD (NM m), patD (NM (turned m)), patD (NM (joinM m l))])) (.dat (patD (NM (joinM m (turned m))))) .un .un) = some (isT a, envR (.io (.list xs7)) (.dat (LD (ahead m))) (.dat (MD m)) (.dat (MD l)) (.dat (MD k)) (.dat (patD p)) (.dat (patD q)) (.dat (patD r)) (.dat (.str S)) (.dat (.int c)) (.dat (.str a.word)) (.dat (lnD a.line)) (.own (.list [patD (NM m), patD (NM (turned m)), patD (NM (joinM m l)), (.int c)])) (.own (.list [patD (NM m), patD (NM (turned m)), patD (NM (joinM m l)), (.int c)])) (.own (.list [patD (NM m), patD (NM (turned m)), patD (NM (joinM m l))])) (.dat (patD (NM (joinM m (turned m))))) .un .un) := by cases a <;> simp [ct__law_right_2, Mk.word, isT]
    have st2 : ce__law_right_2 (envR (.io (.list xs7)) (.dat (LD (ahead m))) (.dat (MD m)) (.dat (MD l)) (.dat (MD k)) (.dat (patD p)) (.dat (patD q)) (.dat (patD r)) (.dat (.str S)) (.dat (.int c)) (.dat (.str a.word)) (.dat (lnD a.line)) (.own (.list [patD (NM m), patD (NM (turned m)), patD (NM (joinM m l)), (.int c)])) (.own (.list [patD (NM m), patD (NM (turned m)), patD (NM (joinM m l)), (.int c)])) (.own (.list [patD (NM m), patD (NM (turned m)), patD (NM (joinM m l))])) (.dat (patD (NM (joinM m (turned m))))) .un .un) = some (.slot 10, envR (.io (.list xs7)) (.dat (LD (ahead m))) (.dat (MD m)) (.dat (MD l)) (.dat (MD k)) (.dat (patD p)) (.dat (patD q)) (.dat (patD r)) (.dat (.str S)) (.dat (.int c)) (.dat (.str a.word)) (.dat (lnD a.line)) (.own (.list [patD (NM m), patD (NM (turned m)), patD (NM (joinM m l)), (.int c)])) (.own (.list [patD (NM m), patD (NM (turned m)), patD (NM (joinM m l)), (.int c)])) (.own (.list [patD (NM m), patD (NM (turned m)), patD (NM (joinM m l))])) (.dat (patD (NM (joinM m (turned m))))) .un .un) := by simp [ce__law_right_2]
    exact ⟨_, rfl, _, st, fun _ => rfl, fun _ => ⟨_, _, st2, _, rfl, rfl⟩⟩)
  have rB := rest_all (vs := [10, 11]) (kB.trans EB.symm)
  have lB : lenD [.list ((m.filter isT).map fun a => .str a.word)] = some (.dat (.int ((takes m : Nat) : Int))) := by
    have e : ((m.filter isT).map fun a => PyData.str a.word).length = takes m := by rw [List.length_map, cnt_isT]
    show some _ = _
    rw [e]
  obtain ⟨xs8, hp8, vv⟩ := v_values hp7 sp (by omega) (by omega) (by omega)
  refine ⟨xs8, hp8, ?_⟩
  have q : g__law_right (envR (.io (.list xs)) .un .un .un .un .un .un .un .un .un .un .un .un .un .un .un .un .un) = some (.rt (.dat (.bool true)) (envR (.io (.list xs8)) (.dat (LD (ahead m))) (.dat (MD m)) (.dat (MD l)) (.dat (MD k)) (.dat (patD p)) (.dat (patD q)) (.dat (patD r)) (.dat (.str S)) (.dat (.int c)) .un .un (.own (.list [patD (NM m), patD (NM (turned m)), patD (NM (joinM m l)), (.int c)])) (.own (.list [patD (NM m), patD (NM (turned m)), patD (NM (joinM m l)), (.int c)])) (.own (.list [patD (NM m), patD (NM (turned m)), patD (NM (joinM m l))])) (.dat (patD (NM (joinM m (turned m))))) (.dat (.int (takes m : Nat))) (.dat (patD (NM (joinM (joinM m l) k)))))) := by
    refine seq_nx (e' := envR (.io (.list xs1)) (.own (LD (ahead m))) .un .un .un .un .un .un .un .un .un .un .un .un .un .un .un .un) ?_ ?_
    · simp [e1]
    refine seq_nx (e' := envR (.io (.list xs2)) (.dat (LD (ahead m))) (.own (MD m)) .un .un .un .un .un .un .un .un .un .un .un .un .un .un .un) ?_ ?_
    · simp [e2]
    refine seq_nx (e' := envR (.io (.list xs3)) (.dat (LD (ahead m))) (.dat (MD m)) (.own (MD l)) .un .un .un .un .un .un .un .un .un .un .un .un .un .un) ?_ ?_
    · simp [bm, e3]
    refine seq_nx (e' := envR (.io (.list xs4)) (.dat (LD (ahead m))) (.dat (MD m)) (.dat (MD l)) (.own (MD k)) .un .un .un .un .un .un .un .un .un .un .un .un .un) ?_ ?_
    · simp [bl, e4]
    refine seq_nx (e' := envR (.io (.list xs7)) (.dat (LD (ahead m))) (.dat (MD m)) (.dat (MD l)) (.dat (MD k)) (.dat (patD p)) (.dat (patD q)) (.dat (patD r)) .un .un .un .un .un .un .un .un .un .un) ?_ ?_
    · simp [e5, e6, e7]
    refine seq_nx (e' := envR (.io (.list xs7)) (.dat (LD (ahead m))) (.dat (MD m)) (.dat (MD l)) (.dat (MD k)) (.dat (patD p)) (.dat (patD q)) (.dat (patD r)) (.dat (.str S)) (.dat (.int c)) .un .un .un .un .un .un .un .un) ?_ ?_
    · simp [rS, z1, cA, rA, lA]
    refine seq_nx (e' := envR (.io (.list xs7)) (.dat (LD (ahead m))) (.dat (MD m)) (.dat (MD l)) (.dat (MD k)) (.dat (patD p)) (.dat (patD q)) (.dat (patD r)) (.dat (.str S)) (.dat (.int c)) .un .un .un .un .un .un .un .un) ?_ ?_
    · simp [ip, pk10, ipT, pm, bm]
    refine seq_nx (e' := envR (.io (.list xs7)) (.dat (LD (ahead m))) (.dat (MD m)) (.dat (MD l)) (.dat (MD k)) (.dat (patD p)) (.dat (patD q)) (.dat (patD r)) (.dat (.str S)) (.dat (.int c)) .un .un (.own (.list [patD (NM m), patD (NM (turned m)), patD (NM (joinM m l)), (.int c)])) .un .un .un .un .un) ?_ ?_
    · simp [n1, t1, j1, c1]
    refine seq_nx (e' := envR (.io (.list xs7)) (.dat (LD (ahead m))) (.dat (MD m)) (.dat (MD l)) (.dat (MD k)) (.dat (patD p)) (.dat (patD q)) (.dat (patD r)) (.dat (.str S)) (.dat (.int c)) .un .un (.own (.list [patD (NM m), patD (NM (turned m)), patD (NM (joinM m l)), (.int c)])) (.own (.list [patD (NM m), patD (NM (turned m)), patD (NM (joinM m l)), (.int c)])) .un .un .un .un) ?_ ?_
    · simp [ln1, tm, ln2, jm, ln3]
    refine seq_nx (e' := envR (.io (.list xs7)) (.dat (LD (ahead m))) (.dat (MD m)) (.dat (MD l)) (.dat (MD k)) (.dat (patD p)) (.dat (patD q)) (.dat (patD r)) (.dat (.str S)) (.dat (.int c)) .un .un (.own (.list [patD (NM m), patD (NM (turned m)), patD (NM (joinM m l)), (.int c)])) (.own (.list [patD (NM m), patD (NM (turned m)), patD (NM (joinM m l)), (.int c)])) (.own (.list [patD (NM m), patD (NM (turned m)), patD (NM (joinM m l))])) .un .un .un) ?_ ?_
    · simp [n1, t1, j1, pk10n, pk10t, pk210]
    refine seq_nx (e' := envR (.io (.list xs7)) (.dat (LD (ahead m))) (.dat (MD m)) (.dat (MD l)) (.dat (MD k)) (.dat (patD p)) (.dat (patD q)) (.dat (patD r)) (.dat (.str S)) (.dat (.int c)) .un .un (.own (.list [patD (NM m), patD (NM (turned m)), patD (NM (joinM m l)), (.int c)])) (.own (.list [patD (NM m), patD (NM (turned m)), patD (NM (joinM m l)), (.int c)])) (.own (.list [patD (NM m), patD (NM (turned m)), patD (NM (joinM m l))])) .un .un .un) ?_ ?_
    · simp [rT, rN, cut3, ne_str_same]
    refine seq_nx (e' := envR (.io (.list xs7)) (.dat (LD (ahead m))) (.dat (MD m)) (.dat (MD l)) (.dat (MD k)) (.dat (patD p)) (.dat (patD q)) (.dat (patD r)) (.dat (.str S)) (.dat (.int c)) .un .un (.own (.list [patD (NM m), patD (NM (turned m)), patD (NM (joinM m l)), (.int c)])) (.own (.list [patD (NM m), patD (NM (turned m)), patD (NM (joinM m l)), (.int c)])) (.own (.list [patD (NM m), patD (NM (turned m)), patD (NM (joinM m l))])) (.dat (patD (NM (joinM m (turned m))))) .un .un) ?_ ?_
    · simp [jb]
    refine seq_nx (e' := envR (.io (.list xs7)) (.dat (LD (ahead m))) (.dat (MD m)) (.dat (MD l)) (.dat (MD k)) (.dat (patD p)) (.dat (patD q)) (.dat (patD r)) (.dat (.str S)) (.dat (.int c)) .un .un (.own (.list [patD (NM m), patD (NM (turned m)), patD (NM (joinM m l)), (.int c)])) (.own (.list [patD (NM m), patD (NM (turned m)), patD (NM (joinM m l)), (.int c)])) (.own (.list [patD (NM m), patD (NM (turned m)), patD (NM (joinM m l))])) (.dat (patD (NM (joinM m (turned m))))) (.dat (.int (takes m : Nat))) .un) ?_ ?_
    · simp [z1, cB, rB, lB]
    refine seq_nx (e' := envR (.io (.list xs7)) (.dat (LD (ahead m))) (.dat (MD m)) (.dat (MD l)) (.dat (MD k)) (.dat (patD p)) (.dat (patD q)) (.dat (patD r)) (.dat (.str S)) (.dat (.int c)) .un .un (.own (.list [patD (NM m), patD (NM (turned m)), patD (NM (joinM m l)), (.int c)])) (.own (.list [patD (NM m), patD (NM (turned m)), patD (NM (joinM m l)), (.int c)])) (.own (.list [patD (NM m), patD (NM (turned m)), patD (NM (joinM m l))])) (.dat (patD (NM (joinM m (turned m))))) (.dat (.int (takes m : Nat))) .un) ?_ ?_
    · simp [rJ, tm, jm2, ln4, ne_str_same, cb, m2, pb]
    refine seq_nx (e' := envR (.io (.list xs7)) (.dat (LD (ahead m))) (.dat (MD m)) (.dat (MD l)) (.dat (MD k)) (.dat (patD p)) (.dat (patD q)) (.dat (patD r)) (.dat (.str S)) (.dat (.int c)) .un .un (.own (.list [patD (NM m), patD (NM (turned m)), patD (NM (joinM m l)), (.int c)])) (.own (.list [patD (NM m), patD (NM (turned m)), patD (NM (joinM m l)), (.int c)])) (.own (.list [patD (NM m), patD (NM (turned m)), patD (NM (joinM m l))])) (.dat (patD (NM (joinM m (turned m))))) (.dat (.int (takes m : Nat))) .un) ?_ ?_
    · simp [bm, tb, nb, rM, ne_str_same]
    refine seq_nx (e' := envR (.io (.list xs7)) (.dat (LD (ahead m))) (.dat (MD m)) (.dat (MD l)) (.dat (MD k)) (.dat (patD p)) (.dat (patD q)) (.dat (patD r)) (.dat (.str S)) (.dat (.int c)) .un .un (.own (.list [patD (NM m), patD (NM (turned m)), patD (NM (joinM m l)), (.int c)])) (.own (.list [patD (NM m), patD (NM (turned m)), patD (NM (joinM m l)), (.int c)])) (.own (.list [patD (NM m), patD (NM (turned m)), patD (NM (joinM m l))])) (.dat (patD (NM (joinM m (turned m))))) (.dat (.int (takes m : Nat))) (.dat (patD (NM (joinM (joinM m l) k))))) ?_ ?_
    · simp [j1, j2]
    refine seq_nx (e' := envR (.io (.list xs7)) (.dat (LD (ahead m))) (.dat (MD m)) (.dat (MD l)) (.dat (MD k)) (.dat (patD p)) (.dat (patD q)) (.dat (patD r)) (.dat (.str S)) (.dat (.int c)) .un .un (.own (.list [patD (NM m), patD (NM (turned m)), patD (NM (joinM m l)), (.int c)])) (.own (.list [patD (NM m), patD (NM (turned m)), patD (NM (joinM m l)), (.int c)])) (.own (.list [patD (NM m), patD (NM (turned m)), patD (NM (joinM m l))])) (.dat (patD (NM (joinM m (turned m))))) (.dat (.int (takes m : Nat))) (.dat (patD (NM (joinM (joinM m l) k))))) ?_ ?_
    · simp [bm, j3, j4, rL, ne_str_same, p2, bk]
    simp [vv, rS, eq_str_same]
  rw [m__law_right, ev_run]
  have q : g__law_right (env0 true 18 xs []) = _ := q
  rw [q]
  rfl
theorem law_true (v : V) (x y : Int) (hx : 0 ≤ x) (hy : 0 ≤ y) : ∃ e, e.length + 1 = 4 ∧ g_law (.fix v :: .un :: .own (.list [.int x, .int y]) :: List.replicate (4 - 3) .un) = some (.nx (.fix v :: e)) := by
  have P1 : ∃ ys, PotOk ys ∧ wipeE [.fix v, .un, .own (.list [.int x, .int y]), .un] [3] = [.fix v, .un, .own (.list ys), .un] := ⟨_, ⟨x, y, rfl⟩, rfl⟩
  obtain ⟨ds, e5, c1, c2, c3, ys, hy, c4⟩ := comp_io (P := fun E => ∃ ys, PotOk ys ∧ E = [.fix v, .un, .own (.list ys), .un]) (R := fun d => ∃ u : Unit, True ∧ d = (fun _ => PyData.bool true) u) (pat := .name 3) (t := dYes) (el := ce_law_1) (vs := [3]) (xs := (List.range 4).map nD) P1 (fun z _ E hE => by
    obtain ⟨ys, hy, rfl⟩ := hE
    obtain ⟨zs, hz, hv⟩ := v_right hy
    have st : ce_law_1 [.fix v, .un, .own (.list ys), .dat z] = some (.d (.bool true), [.fix v, .un, .own (.list zs), .dat z]) := by simp [ce_law_1, hv]
    exact ⟨_, rfl, _, rfl, _, _, st, _, _, rfl, ⟨(), trivial, rfl⟩, zs, hz, rfl⟩)
  obtain ⟨us, rfl, _⟩ := all_as c3
  rw [List.length_map, List.length_map, List.length_range] at c2
  have rg := rng1_nat (n := 4) (by omega)
  have rg : rng1 [.int 4] = some ((List.range 4).map nD) := rg
  have rs : restE [.fix v, .un, .own (.list [.int x, .int y]), .un] e5 [3] = [.fix v, .un, .own (.list ys), .un] := c4
  have s1 : us.length ≤ szMax := by unfold szMax; omega
  have al := all_true us
  refine ⟨[.un, .own (.list ys), .un], rfl, ?_⟩
  show g_law [.fix v, .un, .own (.list [.int x, .int y]), .un] = _
  simp [g_law, rg, c1, rs, al]
end K72
namespace K72
open PySem PySem.Spec PyProof.Rows L2 DL
section
variable {P : Program} {w : World} {K : PySem.W.Frag} {mg : Str → Option Value} {base : Heap}
theorem ok_is_integer (T : Txt K mg) : FnOk P w K mg base CX0 1 T.f_is_integer T.fd_is_integer ["value"] (spD false 1 m_is_integer) :=
  fn_d (k := 0) (N := ["value"]) (ps := ["value"]) false (g := g_is_integer) T.F_is_integer sc_is_integer (by decide) fun cdv A outer s H E hr => (pss_one' (ps_ret' (pr_and (pr_isi (T := "int") (by decide) (by rfl) T.z_isinstance (po (pr_var 0)) (by rfl) T.z_int (by rfl)) (pr_one (pr_not (pr_isi (T := "bool") (by decide) (by rfl) T.z_isinstance (po (pr_var 0)) (by rfl) T.z_bool (by rfl)))))))
theorem ok_is_list (T : Txt K mg) : FnOk P w K mg base CX0 1 T.f_is_list T.fd_is_list ["value"] (spD false 1 m_is_list) :=
  fn_d (k := 0) (N := ["value"]) (ps := ["value"]) false (g := g_is_list) T.F_is_list sc_is_list (by decide) fun cdv A outer s H E hr => (pss_one' (ps_ret' (pr_isi2 (T := "list") (U := "tuple") (by decide) (by decide) (by rfl) T.z_isinstance (po (pr_var 0)) (by rfl) T.z_list (by rfl) (by rfl) T.z_tuple (by rfl))))
theorem ok_is_tuple (T : Txt K mg) : FnOk P w K mg base CX0 1 T.f_is_tuple T.fd_is_tuple ["value", "many"] (spD false 2 m_is_tuple) :=
  fn_d (k := 0) (N := ["value", "many"]) (ps := ["value", "many"]) false (g := g_is_tuple) T.F_is_tuple sc_is_tuple (by decide) fun cdv A outer s H E hr => (pss_one' (ps_ret' (pr_and (pr_isi (T := "tuple") (by decide) (by rfl) T.z_isinstance (po (pr_var 0)) (by rfl) T.z_tuple (by rfl)) (pr_one (pr_cmp (op_eqU hr.units) sp_eq (po (pr_callB cr_len sp_len (by rfl) T.z_len (by rfl) (pao_cons (po (pr_var 0)) pao_nil))) (po (pr_var 1)))))))
theorem ok_is_line_any (T : Txt K mg) : FnOk P w K mg base CX0 1 T.f_is_line_any T.fd_is_line_any ["value"] (spD false 1 m_is_line_any) :=
  fn_d (k := 0) (N := ["value"]) (ps := ["value"]) false (g := g_is_line_any) T.F_is_line_any sc_is_line_any (by decide) fun cdv A outer s H E hr => (pss_one' (ps_ret' (pr_and (pr_isi (T := "str") (by decide) (by rfl) T.z_isinstance (po (pr_var 0)) (by rfl) T.z_str (by rfl)) (pr_one (pr_cmp op_le (sp_cmp fun i j => decide (i ≤ j)) (po (pr_callB cr_len sp_len (by rfl) T.z_len (by rfl) (pao_cons (po (pr_var 0)) pao_nil))) (po (pr_globI (by rfl) T.c_MOST_LINE)))))))
theorem ok_trace_of (T : Txt K mg) : FnOk P w K mg base CX0 1 T.f_trace_of T.fd_trace_of ["lines", "patch"] (spD false 2 m_trace_of) :=
  fn_d (k := 0) (N := ["lines", "patch", "found", "at", "word", "told", "line", "place"]) (ps := ["lines", "patch"]) false (g := g_trace_of) T.F_trace_of sc_trace_of (by decide) fun cdv A outer s H E hr => (pss_cons' (ps_par2' rfl sc_trace_of.nd rfl rfl (by decide) rfl rfl (pts_cons' (pr_lst pao_nil) (pts_cons' pr_int pts_nil')))
  (pss_cons' (ps_for' PassesOwn.never rfl (pii_seq (po (pr_var 1))) (pgp_tup rfl (pgp_cons (pgp_name sc_trace_of.nd rfl (.inl rfl)) (pgp_cons (pgp_name sc_trace_of.nd rfl (.inl rfl)) pgp_nil)))
  (pss_cons' (ps_if' (pq_cmp (op_eqU hr.units) sp_eq (po (pr_var 4)) (po (pr_globS (by rfl) T.c_PUT))) (pss_cons' (ps_ext' 2 (pv 2) (po (pr_lc rfl sc_trace_of.nd (pii_seq (po (pr_var 5))) (blkOk_by (own := [("line", 6)]) (by show blkC ["lines", "patch", "found", "at", "word", "told", "line", "place"] (defScope st_trace_of) _ _ = true; decide +kernel)) (by decide) (fun _ _ _ _ _ => (pgp_name sc_trace_of.nd rfl (.inl rfl))) (fun _ _ _ _ _ => pqs_nil) (fun _ _ _ _ _ => (po (pr_tup (pao_cons (po (pr_var 6)) (pao_cons (po pr_non) pao_nil))))))))
  (pss_one' ps_cont')) pss_nil')
  (pss_cons' (ps_if' (pq_cmp (op_eqU hr.units) sp_eq (po (pr_var 4)) (po (pr_globS (by rfl) T.c_KEEP))) (pss_one' (ps_ext' 2 (pv 2) (po (pr_lc rfl sc_trace_of.nd (pii_range2 (by rfl) T.z_range (pao_cons (po (pr_var 3)) (pao_cons (po (pr_bin op_addU sp_add (po (pr_var 3)) (po (pr_var 5)))) pao_nil))) (blkOk_by (own := [("place", 7)]) (by show blkC ["lines", "patch", "found", "at", "word", "told", "line", "place"] (defScope st_trace_of) _ _ = true; decide +kernel)) (by decide) (fun _ _ _ _ _ => (pgp_name sc_trace_of.nd rfl (.inl rfl))) (fun _ _ _ _ _ => pqs_nil) (fun _ _ _ _ _ => (po (pr_tup (pao_cons (po (pr_ix (ix_U (hu_of hr)) sp_ixU (po (pr_var 0)) (po (pr_var 7)))) (pao_cons (po (pr_var 7)) pao_nil))))))))) pss_nil')
  (pss_one' (ps_set' (i := 3) sc_trace_of.nd rfl (.inl rfl) (pr_bin op_addU sp_add (po (pr_var 3)) (po (pr_var 5))))))))
  (pss_one' (ps_ret' (pr_var 2)))))
theorem ok_edits_put_together (T : Txt K mg) : FnOk P w K mg base CX0 1 T.f_edits_put_together T.fd_edits_put_together ["edits"] (spD false 1 m_edits_put_together) :=
  fn_d (k := 0) (N := ["edits", "found", "word", "told"]) (ps := ["edits"]) false (g := g_edits_put_together) T.F_edits_put_together sc_edits_put_together (by decide) fun cdv A outer s H E hr => (pss_cons' (ps_set' (i := 1) sc_edits_put_together.nd rfl (.inl rfl) (pr_lst pao_nil))
  (pss_cons' (ps_for' PassesOwn.never rfl (pii_seq (po (pr_var 0))) (pgp_tup rfl (pgp_cons (pgp_name sc_edits_put_together.nd rfl (.inl rfl)) (pgp_cons (pgp_name sc_edits_put_together.nd rfl (.inl rfl)) pgp_nil)))
  (pss_one' (ps_if' ((pqw_and (pq_cmp (op_neU hr.units) sp_ne (po (pr_var 1)) (po (pr_lst pao_nil))) (pqw_and1 (pq_cmp (op_eqU hr.units) sp_eq (po (pr_ix (ix_U (hu_of hr)) sp_ixU (po (pr_ix (ix_U (hu_of hr)) sp_ixU (po (pr_var 1)) (po (pr_neg (po pr_int))))) (po pr_int))) (po (pr_var 2)))))).pt (pss_one' (ps_setIx' (pv 1) (po (pr_neg (po pr_int))) (po (pr_tup (pao_cons (po (pr_var 2)) (pao_cons (po (pr_bin op_addU sp_add (po (pr_ix (ix_U (hu_of hr)) sp_ixU (po (pr_ix (ix_U (hu_of hr)) sp_ixU (po (pr_var 1)) (po (pr_neg (po pr_int))))) (po pr_int))) (po (pr_var 3)))) pao_nil)))))) (pss_one' (ps_app' 1 (pv 1) (po (pr_tup (pao_cons (po (pr_var 2)) (pao_cons (po (pr_var 3)) pao_nil)))))))))
  (pss_one' (ps_ret' (pr_callTy call_tuple_of sp_tuple (by rfl) T.z_tuple (by rfl) (pao_cons (po (pr_var 1)) pao_nil))))))
theorem ok_cost_of_patch (T : Txt K mg) : FnOk P w K mg base CX0 1 T.f_cost_of_patch T.fd_cost_of_patch ["patch"] (spD false 1 m_cost_of_patch) :=
  fn_d (k := 0) (N := ["patch", "word", "told"]) (ps := ["patch"]) false (g := g_cost_of_patch) T.F_cost_of_patch sc_cost_of_patch (by decide) fun cdv A outer s H E hr => (pss_one' (ps_ret' (pr_callB (cr_sum rfl) sp_sum (by rfl) T.z_sum (by rfl) (pao_cons (po (pr_lc rfl sc_cost_of_patch.nd (pii_seq (po (pr_var 0))) (blkOk_by (own := [("word", 1), ("told", 2)]) (by show blkC ["patch", "word", "told"] (defScope st_cost_of_patch) _ _ = true; decide +kernel)) (by decide) (fun _ _ _ _ _ => (pgp_tup rfl (pgp_cons (pgp_name sc_cost_of_patch.nd rfl (.inl rfl)) (pgp_cons (pgp_name sc_cost_of_patch.nd rfl (.inl rfl)) pgp_nil)))) (fun _ _ _ _ _ => (pqs_one (pq_cmp (op_neU hr.units) sp_ne (po (pr_var 1)) (po (pr_globS (by rfl) T.c_KEEP))))) (fun _ _ _ _ _ => (po (pr_if (pq_cmp (op_eqU hr.units) sp_eq (po (pr_var 1)) (po (pr_globS (by rfl) T.c_PUT))) (pr_callB cr_len sp_len (by rfl) T.z_len (by rfl) (pao_cons (po (pr_var 2)) pao_nil)) (pr_var 2)))))) pao_nil))))
theorem ok__law_pot (T : Txt K mg) : FnOk P w K mg base CX0 1 T.f__law_pot T.fd__law_pot ["script", "k"] (spPot K) :=
  T.F__law_pot.ok (k := 0) (N := ["script", "k", "cell"]) (ps := ["script", "k"]) sc__law_pot (fun _ _ _ _ h => by obtain ⟨a, ns, k, rfl, _⟩ := h; rfl) fun cdv A outer s H vs Q E hr h => ⟨tPot K 6555 4899 45355, pss_cons (ps_set (i := 2) sc__law_pot.nd rfl (.inl rfl) (pe_ifExp (pt_cmpR op_lt (pv 1) (pe_callB call_len_seq (by rfl) T.z_len (by rfl) (pa_cons (pv 0) pa_nil)) (nomark _)) (pe_callB call_abs (by rfl) T.z_abs (by rfl) (pa_cons (pe_ix ix_seq (pv 0) (pv 1) (fun _ _ => rfl)) pa_nil)) (pe_op op_add (pe_op op_mul pe_int (pv 1)) pe_int)))
    (pss_one (ps_ret (pe_lst (pa_cons (pe_callB (call_max2 rfl) (by rfl) T.z_max (by rfl) (pa_cons pe_int (pa_cons (pe_op op_sub (pv 2) (pe_op op_pow pe_int pe_int)) pa_nil)))
      (pa_cons (pe_op op_add (pe_op op_mod (pe_callTy call_int1 (by rfl) T.z_int (by rfl) (pa_cons (pe_op op_add (pe_op op_add (pe_op op_mul (pe_op op_mod (pe_callTy call_int1 (by rfl) T.z_int (by rfl) (pa_cons (pv 2) pa_nil)) pe_int) pe_int) (pe_op op_mul pe_int (pv 1))) pe_int) pa_nil)) pe_int) pe_int) pa_nil))))), t_pot ⟨by decide, by decide⟩ ⟨by decide, by decide⟩ h⟩
theorem ok__law_draw (T : Txt K mg) : FnOk P w K mg base CX0 1 T.f__law_draw T.fd__law_draw ["pot", "many"] (spD true 2 m__law_draw) :=
  T.F__law_draw.ok (k := 0) (N := ["pot", "many", "digit"]) (ps := ["pot", "many"]) sc__law_draw (fun _ _ _ _ h => h.1) fun cdv A outer s H vs Q E hr h => ⟨tDraw K 44735 5125, pss_cons (ps_if (pt_cmpR op_gt (pe_ix ix_seq (pv 0) pe_int (fun _ _ => rfl)) pe_int (nomark _))
    (pss_cons (ps_asg (pe_callB call_divmodW (by rfl) T.z_divmod (by rfl) (pa_cons (pe_ix ix_seq (pv 0) pe_int (fun _ _ => rfl)) (pa_cons (pv 1) pa_nil))) (pg_tup rfl (pgs_cons (pg_sub (pv 0) pe_int set_list) (pgs_cons (pg_name (i := 2) sc__law_draw.nd rfl (.inl rfl)) pgs_nil)))) (pss_one (ps_ret (pv 2)))) pss_nil)
    (pss_cons (ps_asg (pe_op op_mod (pe_callTy call_int1 (by rfl) T.z_int (by rfl) (pa_cons (pe_op op_add (pe_op op_mul (pe_ix ix_seq (pv 0) pe_int (fun _ _ => rfl)) pe_int) pe_int) pa_nil)) pe_int) (pg_sub (pv 0) pe_int set_list))
    (pss_one (ps_ret (pe_op op_mod (pe_callTy call_int1 (by rfl) T.z_int (by rfl) (pa_cons (pe_op op_fdiv (pe_op op_mod (pe_callTy call_int1 (by rfl) T.z_int (by rfl) (pa_cons (pe_op op_mul (pe_ix ix_seq (pv 0) pe_int (fun _ _ => rfl)) (pe_ix ix_seq (pv 0) pe_int (fun _ _ => rfl))) pa_nil)) pe_int) pe_int) pa_nil)) (pv 1))))), t_draw (by decide) h⟩
theorem ok__law_normal (T : Txt K mg) : FnOk P w K mg base CX0 1 T.f__law_normal T.fd__law_normal ["marks"] (spD false 1 m__law_normal) :=
  fn_d (k := 0) (N := ["marks", "found", "taken", "put", "kept", "word", "line"]) (ps := ["marks"]) false (g := g__law_normal) T.F__law_normal sc__law_normal (by decide) fun cdv A outer s H E hr => (pss_cons' (ps_parT' (by decide) (pts_cons' (pr_lst pao_nil) (pts_cons' pr_int (pts_cons' (pr_lst pao_nil) (pts_cons' pr_int pts_nil')))) (pgp_tup rfl (pgp_cons (pgp_name sc__law_normal.nd rfl (.inl rfl)) (pgp_cons (pgp_name sc__law_normal.nd rfl (.inl rfl)) (pgp_cons (pgp_name sc__law_normal.nd rfl (.inl rfl)) (pgp_cons (pgp_name sc__law_normal.nd rfl (.inl rfl)) pgp_nil))))))
  (pss_cons' (ps_for' PassesOwn.never rfl (pii_seq (po (pr_bin op_addU sp_add (po (pr_callTy call_list_of sp_list (by rfl) T.z_list (by rfl) (pao_cons (po (pr_var 0)) pao_nil))) (po (pr_lst (pao_cons (po (pr_tup (pao_cons (po pr_str) (pao_cons (po pr_str) pao_nil)))) pao_nil)))))) (pgp_tup rfl (pgp_cons (pgp_name sc__law_normal.nd rfl (.inl rfl)) (pgp_cons (pgp_name sc__law_normal.nd rfl (.inl rfl)) pgp_nil)))
  (pss_cons' (ps_if' ((pqw_and (pq_cmp op_in_seq (sp_in false) (po (pr_var 5)) (po (pr_tup (pao_cons (po pr_str) (pao_cons (po pr_str) pao_nil))))) (pqw_and1 ((pqw_or (pq_cmp op_gt (sp_cmp fun i j => decide (j < i)) (po (pr_var 2)) (po pr_int)) (pqw_or1 (pq_cmp (op_neU hr.units) sp_ne (po (pr_var 3)) (po (pr_lst pao_nil)))))).pt))).pt (pss_cons' (ps_ext' 1 (pv 1) (po (pr_if (pq_cmp op_gt (sp_cmp fun i j => decide (j < i)) (po (pr_var 4)) (po pr_int)) (pr_lst (pao_cons (po (pr_tup (pao_cons (po pr_str) (pao_cons (po (pr_var 4)) pao_nil)))) pao_nil)) (pr_lst pao_nil))))
  (pss_cons' (ps_ext' 1 (pv 1) (po (pr_bin op_addU sp_add (po (pr_if (pq_cmp op_gt (sp_cmp fun i j => decide (j < i)) (po (pr_var 2)) (po pr_int)) (pr_lst (pao_cons (po (pr_tup (pao_cons (po pr_str) (pao_cons (po (pr_var 2)) pao_nil)))) pao_nil)) (pr_lst pao_nil))) (po (pr_if (pq_cmp (op_neU hr.units) sp_ne (po (pr_var 3)) (po (pr_lst pao_nil))) (pr_lst (pao_cons (po (pr_tup (pao_cons (po pr_str) (pao_cons (po (pr_callTy call_tuple_of sp_tuple (by rfl) T.z_tuple (by rfl) (pao_cons (po (pr_var 3)) pao_nil))) pao_nil)))) pao_nil)) (pr_lst pao_nil))))))
  (pss_one' (ps_par3' rfl sc__law_normal.nd rfl rfl rfl (by decide) (by decide) (by decide) rfl rfl rfl (pts_cons' pr_int (pts_cons' (pr_lst pao_nil) (pts_cons' pr_int pts_nil'))))))) pss_nil')
  (pss_cons' (ps_par2' rfl sc__law_normal.nd rfl rfl (by decide) rfl rfl (pts_cons' (pr_bin op_addU sp_add (po (pr_var 2)) (po (pr_callTy call_int1 sp_int (by rfl) T.z_int (by rfl) (pao_cons (po (pr_cmp (op_eqU hr.units) sp_eq (po (pr_var 5)) (po pr_str))) pao_nil)))) (pts_cons' (pr_bin op_addU sp_add (po (pr_var 4)) (po (pr_callTy call_int1 sp_int (by rfl) T.z_int (by rfl) (pao_cons (po (pr_cmp (op_eqU hr.units) sp_eq (po (pr_var 5)) (po pr_str))) pao_nil)))) pts_nil')))
  (pss_one' (ps_set' (i := 3) sc__law_normal.nd rfl (.inl rfl) (pr_bin op_addU sp_add (po (pr_var 3)) (po (pr_if (pq_cmp (op_eqU hr.units) sp_eq (po (pr_var 5)) (po pr_str)) (pr_lst (pao_cons (po (pr_var 6)) pao_nil)) (pr_lst pao_nil)))))))))
  (pss_one' (ps_ret' (pr_callTy call_tuple_of sp_tuple (by rfl) T.z_tuple (by rfl) (pao_cons (po (pr_bin op_addU sp_add (po (pr_var 1)) (po (pr_if (pq_cmp op_gt (sp_cmp fun i j => decide (j < i)) (po (pr_var 4)) (po pr_int)) (pr_lst (pao_cons (po (pr_tup (pao_cons (po pr_str) (pao_cons (po (pr_var 4)) pao_nil)))) pao_nil)) (pr_lst pao_nil))))) pao_nil))))))
theorem ok__law_behind (T : Txt K mg) : FnOk P w K mg base CX0 1 T.f__law_behind T.fd__law_behind ["marks"] (spD false 1 m__law_behind) :=
  fn_d (k := 0) (N := ["marks", "word", "line"]) (ps := ["marks"]) false (g := g__law_behind) T.F__law_behind sc__law_behind (by decide) fun cdv A outer s H E hr => (pss_one' (ps_ret' (pr_lc rfl sc__law_behind.nd (pii_seq (po (pr_var 0))) (blkOk_by (own := [("word", 1), ("line", 2)]) (by show blkC ["marks", "word", "line"] (defScope st__law_behind) _ _ = true; decide +kernel)) (by decide) (fun _ _ _ _ _ => (pgp_tup rfl (pgp_cons (pgp_name sc__law_behind.nd rfl (.inl rfl)) (pgp_cons (pgp_name sc__law_behind.nd rfl (.inl rfl)) pgp_nil)))) (fun _ _ _ _ _ => (pqs_one (pq_cmp (op_neU hr.units) sp_ne (po (pr_var 1)) (po pr_str)))) (fun _ _ _ _ _ => (po (pr_var 2))))))
theorem ok__law_turned_marks (T : Txt K mg) : FnOk P w K mg base CX0 1 T.f__law_turned_marks T.fd__law_turned_marks ["marks"] (spD false 1 m__law_turned_marks) :=
  fn_d (k := 0) (N := ["marks", "word", "line"]) (ps := ["marks"]) false (g := g__law_turned_marks) T.F__law_turned_marks sc__law_turned_marks (by decide) fun cdv A outer s H E hr => (pss_one' (ps_ret' (pr_lc rfl sc__law_turned_marks.nd (pii_seq (po (pr_var 0))) (blkOk_by (own := [("word", 1), ("line", 2)]) (by show blkC ["marks", "word", "line"] (defScope st__law_turned_marks) _ _ = true; decide +kernel)) (by decide) (fun _ _ _ _ _ => (pgp_tup rfl (pgp_cons (pgp_name sc__law_turned_marks.nd rfl (.inl rfl)) (pgp_cons (pgp_name sc__law_turned_marks.nd rfl (.inl rfl)) pgp_nil)))) (fun _ _ _ _ _ => pqs_nil) (fun _ _ _ _ _ => (po (pr_tup (pao_cons (po (pr_ix (ix_U (hu_of hr)) sp_ixU (po (pr_disp (pd_str (po pr_str) (pd_str (po pr_str) (pd_str (po pr_str) pd_nil))) rfl (by decide))) (po (pr_var 1)))) (pao_cons (po (pr_var 2)) pao_nil))))))))
theorem ok__law_joined_marks (T : Txt K mg) : FnOk P w K mg base CX0 1 T.f__law_joined_marks T.fd__law_joined_marks ["near", "far"] (spD false 2 m__law_joined_marks) :=
  fn_d (k := 0) (N := ["near", "far", "found", "left", "word", "line", "late"]) (ps := ["near", "far"]) false (g := g__law_joined_marks) T.F__law_joined_marks sc__law_joined_marks (by decide) fun cdv A outer s H E hr => (pss_cons' (ps_par2' rfl sc__law_joined_marks.nd rfl rfl (by decide) rfl rfl (pts_cons' (pr_lst pao_nil) (pts_cons' (pr_callTy call_list_of sp_list (by rfl) T.z_list (by rfl) (pao_cons (po (pr_var 1)) pao_nil)) pts_nil')))
  (pss_cons' (ps_for' PassesOwn.never rfl (pii_seq (po (pr_var 0))) (pgp_tup rfl (pgp_cons (pgp_name sc__law_joined_marks.nd rfl (.inl rfl)) (pgp_cons (pgp_name sc__law_joined_marks.nd rfl (.inl rfl)) pgp_nil)))
  (pss_one' (ps_if' (pq_cmp (op_eqU hr.units) sp_eq (po (pr_var 4)) (po pr_str)) (pss_one' (ps_app' 2 (pv 2) (po (pr_tup (pao_cons (po (pr_var 4)) (pao_cons (po (pr_var 5)) pao_nil)))))) (pss_cons' (ps_while' 1000 PassesOwn.never (pq_cmp (op_eqU hr.units) sp_eq (po (pr_ix (ix_U (hu_of hr)) sp_ixU (po (pr_ix (ix_U (hu_of hr)) sp_ixU (po (pr_var 3)) (po pr_int))) (po pr_int))) (po pr_str))
  (pss_one' (ps_app' 2 (pv 2) (po (pr_pop0 3 (pv 3))))))
  (pss_cons' (ps_set' (i := 6) sc__law_joined_marks.nd rfl (.inl rfl) (pr_ix (ix_U (hu_of hr)) sp_ixU (po (pr_pop0 3 (pv 3))) (po pr_int)))
  (pss_one' (ps_if' (pq_cmp (op_eqU hr.units) sp_eq (po (pr_var 4)) (po pr_str)) (pss_one' (ps_app' 2 (pv 2) (po (pr_tup (pao_cons (po (pr_var 6)) (pao_cons (po (pr_var 5)) pao_nil)))))) (pss_one' (ps_ext' 2 (pv 2) (po (pr_if (pq_cmp (op_eqU hr.units) sp_eq (po (pr_var 6)) (po pr_str)) (pr_lst (pao_cons (po (pr_tup (pao_cons (po pr_str) (pao_cons (po (pr_var 5)) pao_nil)))) pao_nil)) (pr_lst pao_nil))))))))))))
  (pss_one' (ps_ret' (pr_bin op_addU sp_add (po (pr_var 2)) (po (pr_var 3)))))))
theorem ok__law_is_one (T : Txt K mg) : FnOk P w K mg base CX0 1 T.f__law_is_one T.fd__law_is_one ["lines", "value"] (spD false 2 m__law_is_one) :=
  fn_d (k := 0) (N := ["lines", "value", "gone", "come", "edit", "one"]) (ps := ["lines", "value"]) false (g := g__law_is_one) T.F__law_is_one sc__law_is_one (by decide) fun cdv A outer s H E hr => (pss_cons' (ps_if' (pq_not (pq_val (pr_isi (T := "tuple") (by decide) (by rfl) T.z_isinstance (po (pr_var 1)) (by rfl) T.z_tuple (by rfl)))) (pss_one' (ps_ret' pr_bl)) pss_nil')
  (pss_cons' (ps_parT' (by decide) (pts_cons' pr_int (pts_cons' pr_int pts_nil')) (pgp_tup rfl (pgp_cons (pgp_name sc__law_is_one.nd rfl (.inl rfl)) (pgp_cons (pgp_name sc__law_is_one.nd rfl (.inl rfl)) pgp_nil))))
  (pss_cons' (ps_for' PassesOwn.never rfl (pii_seq (po (pr_var 1))) (pgp_name sc__law_is_one.nd rfl (.inl rfl))
  (pss_cons' (ps_if' ((pqw_or (pq_not (pq_val (pr_isi (T := "tuple") (by decide) (by rfl) T.z_isinstance (po (pr_var 4)) (by rfl) T.z_tuple (by rfl)))) (pqw_or (pq_cmp (op_neU hr.units) sp_ne (po (pr_callB cr_len sp_len (by rfl) T.z_len (by rfl) (pao_cons (po (pr_var 4)) pao_nil))) (po pr_int)) (pqw_or1 (pq_cmp op_notIn_seq (sp_in true) (po (pr_ix (ix_U (hu_of hr)) sp_ixU (po (pr_var 4)) (po pr_int))) (po (pr_tup (pao_cons (po pr_str) (pao_cons (po pr_str) (pao_cons (po pr_str) pao_nil)))))))))).pt (pss_one' (ps_ret' pr_bl)) pss_nil')
  (pss_one' (ps_if' (pq_cmp (op_eqU hr.units) sp_eq (po (pr_ix (ix_U (hu_of hr)) sp_ixU (po (pr_var 4)) (po pr_int))) (po pr_str)) (pss_cons' (ps_if' ((pqw_or (pq_not (pq_val (pr_isi (T := "tuple") (by decide) (by rfl) T.z_isinstance (po (pr_ix (ix_U (hu_of hr)) sp_ixU (po (pr_var 4)) (po pr_int))) (by rfl) T.z_tuple (by rfl)))) (pqw_or (pq_cmp (op_eqU hr.units) sp_eq (po (pr_ix (ix_U (hu_of hr)) sp_ixU (po (pr_var 4)) (po pr_int))) (po (pr_tup pao_nil))) (pqw_or1 (pq_not (pq_val (pr_callB (cr_all rfl) sp_all (by rfl) T.z_all (by rfl) (pao_cons (po (pr_lc rfl sc__law_is_one.nd (pii_seq (po (pr_ix (ix_U (hu_of hr)) sp_ixU (po (pr_var 4)) (po pr_int)))) (blkOk_by (own := [("one", 5)]) (by show blkC ["lines", "value", "gone", "come", "edit", "one"] (defScope st__law_is_one) _ _ = true; decide +kernel)) (by decide) (fun _ _ _ _ _ => (pgp_name sc__law_is_one.nd rfl (.inl rfl))) (fun _ _ _ _ _ => pqs_nil) (fun _ _ _ _ _ => (po (pr_and (pr_isi (T := "str") (by decide) (by rfl) T.z_isinstance (po (pr_var 5)) (by rfl) T.z_str (by rfl)) (pr_one (pr_cmp op_le (sp_cmp fun i j => decide (i ≤ j)) (po (pr_callB cr_len sp_len (by rfl) T.z_len (by rfl) (pao_cons (po (pr_var 5)) pao_nil))) (po pr_int)))))))) pao_nil)))))))).pt (pss_one' (ps_ret' pr_bl)) pss_nil')
  (pss_one' (ps_set' (i := 3) sc__law_is_one.nd rfl (.inl rfl) (pr_bin op_addU sp_add (po (pr_var 3)) (po (pr_callB cr_len sp_len (by rfl) T.z_len (by rfl) (pao_cons (po (pr_ix (ix_U (hu_of hr)) sp_ixU (po (pr_var 4)) (po pr_int))) pao_nil))))))) (pss_one' (ps_if' ((pqw_or (pq_not (pq_val (pr_isi (T := "int") (by decide) (by rfl) T.z_isinstance (po (pr_ix (ix_U (hu_of hr)) sp_ixU (po (pr_var 4)) (po pr_int))) (by rfl) T.z_int (by rfl)))) (pqw_or (pq_val (pr_isi (T := "bool") (by decide) (by rfl) T.z_isinstance (po (pr_ix (ix_U (hu_of hr)) sp_ixU (po (pr_var 4)) (po pr_int))) (by rfl) T.z_bool (by rfl))) (pqw_or1 (pq_cmp op_lt (sp_cmp fun i j => decide (i < j)) (po (pr_ix (ix_U (hu_of hr)) sp_ixU (po (pr_var 4)) (po pr_int))) (po pr_int)))))).pt (pss_one' (ps_ret' pr_bl)) (pss_one' (ps_par2' rfl sc__law_is_one.nd rfl rfl (by decide) rfl rfl (pts_cons' (pr_bin op_addU sp_add (po (pr_var 2)) (po (pr_ix (ix_U (hu_of hr)) sp_ixU (po (pr_var 4)) (po pr_int)))) (pts_cons' (pr_bin op_addU sp_add (po (pr_var 3)) (po (pr_if (pq_cmp (op_eqU hr.units) sp_eq (po (pr_ix (ix_U (hu_of hr)) sp_ixU (po (pr_var 4)) (po pr_int))) (po pr_str)) (pr_ix (ix_U (hu_of hr)) sp_ixU (po (pr_var 4)) (po pr_int)) pr_int))) pts_nil'))))))))))
  (pss_one' (ps_ret' (pr_and (pr_cmp (op_eqU hr.units) sp_eq (po (pr_var 2)) (po (pr_callB cr_len sp_len (by rfl) T.z_len (by rfl) (pao_cons (po (pr_var 0)) pao_nil)))) (pr_one (pr_cmp op_le (sp_cmp fun i j => decide (i ≤ j)) (po (pr_var 3)) (po pr_int)))))))))
theorem ok_is_count (T : Txt K mg) : FnOk P w K mg base CX0 2 T.f_is_count T.fd_is_count ["value"] (spD false 1 m_is_count) :=
  fn_d (k := 1) (N := ["value"]) (ps := ["value"]) false (g := g_is_count) T.F_is_count sc_is_count (by decide) fun cdv A outer s H E hr => (pss_one' (ps_ret' (pr_and (pr_call (ok_is_integer T) hr (by rfl) T.g_is_integer T.F_is_integer.kp T.b_is_integer pass0 (pao_cons (po (pr_var 0)) pao_nil) (len_cons len_nil)) (pr_one (pr_cmp op_ge (sp_cmp fun i j => decide (j ≤ i)) (po (pr_var 0)) (po pr_int))))))
theorem ok_are_lines_any (T : Txt K mg) : FnOk P w K mg base CX0 2 T.f_are_lines_any T.fd_are_lines_any ["value"] (spD false 1 m_are_lines_any) :=
  fn_d (k := 1) (N := ["value", "one"]) (ps := ["value"]) false (g := g_are_lines_any) T.F_are_lines_any sc_are_lines_any (by decide) fun cdv A outer s H E hr => (pss_one' (ps_ret' (pr_and (pr_call (ok_is_list T) hr (by rfl) T.g_is_list T.F_is_list.kp T.b_is_list pass0 (pao_cons (po (pr_var 0)) pao_nil) (len_cons len_nil)) (pr_and (pr_cmp op_le (sp_cmp fun i j => decide (i ≤ j)) (po (pr_callB cr_len sp_len (by rfl) T.z_len (by rfl) (pao_cons (po (pr_var 0)) pao_nil))) (po (pr_globI (by rfl) T.c_MOST_LINES))) (pr_one (pr_callB (cr_all rfl) sp_all (by rfl) T.z_all (by rfl) (pao_cons (po (pr_lc rfl sc_are_lines_any.nd (pii_seq (po (pr_var 0))) (blkOk_by (own := [("one", 1)]) (by show blkC ["value", "one"] (defScope st_are_lines_any) _ _ = true; decide +kernel)) (by decide) (fun _ _ _ _ _ => (pgp_name sc_are_lines_any.nd rfl (.inl rfl))) (fun _ _ _ _ _ => pqs_nil) (fun _ _ _ _ _ => (po (pr_call (ok_is_line_any T) hr (by rfl) T.g_is_line_any T.F_is_line_any.kp T.b_is_line_any pass0 (pao_cons (po (pr_var 1)) pao_nil) (len_cons len_nil)))))) pao_nil)))))))
theorem ok_patch_of_trace (T : Txt K mg) : FnOk P w K mg base CX0 2 T.f_patch_of_trace T.fd_patch_of_trace ["many", "trace"] (spD false 2 m_patch_of_trace) :=
  fn_d (k := 1) (N := ["many", "trace", "edits", "at", "new", "line", "place"]) (ps := ["many", "trace"]) false (g := g_patch_of_trace) T.F_patch_of_trace sc_patch_of_trace (by decide) fun cdv A outer s H E hr => (pss_cons' (ps_par3' rfl sc_patch_of_trace.nd rfl rfl rfl (by decide) (by decide) (by decide) rfl rfl rfl (pts_cons' (pr_lst pao_nil) (pts_cons' pr_int (pts_cons' (pr_lst pao_nil) pts_nil'))))
  (pss_cons' (ps_for' PassesOwn.never rfl (pii_seq (po (pr_bin op_addU sp_add (po (pr_var 1)) (po (pr_lst (pao_cons (po (pr_tup (pao_cons (po pr_str) (pao_cons (po (pr_var 0)) pao_nil)))) pao_nil)))))) (pgp_tup rfl (pgp_cons (pgp_name sc_patch_of_trace.nd rfl (.inl rfl)) (pgp_cons (pgp_name sc_patch_of_trace.nd rfl (.inl rfl)) pgp_nil)))
  (pss_cons' (ps_if' (pq_cmp op_isN sp_isN (po (pr_var 6)) (po pr_non)) (pss_cons' (ps_app' 4 (pv 4) (po (pr_var 5)))
  (pss_one' ps_cont')) pss_nil')
  (pss_cons' (ps_ext' 2 (pv 2) (po (pr_if (pq_cmp op_gt (sp_cmp fun i j => decide (j < i)) (po (pr_var 6)) (po (pr_var 3))) (pr_lst (pao_cons (po (pr_tup (pao_cons (po (pr_globS (by rfl) T.c_TAKE)) (pao_cons (po (pr_bin op_sub sp_sub (po (pr_var 6)) (po (pr_var 3)))) pao_nil)))) pao_nil)) (pr_lst pao_nil))))
  (pss_cons' (ps_ext' 2 (pv 2) (po (pr_if (pq_cmp (op_neU hr.units) sp_ne (po (pr_var 4)) (po (pr_lst pao_nil))) (pr_lst (pao_cons (po (pr_tup (pao_cons (po (pr_globS (by rfl) T.c_PUT)) (pao_cons (po (pr_callTy call_tuple_of sp_tuple (by rfl) T.z_tuple (by rfl) (pao_cons (po (pr_var 4)) pao_nil))) pao_nil)))) pao_nil)) (pr_lst pao_nil))))
  (pss_cons' (ps_ext' 2 (pv 2) (po (pr_if (pq_cmp op_lt (sp_cmp fun i j => decide (i < j)) (po (pr_var 6)) (po (pr_var 0))) (pr_lst (pao_cons (po (pr_tup (pao_cons (po (pr_globS (by rfl) T.c_KEEP)) (pao_cons (po pr_int) pao_nil)))) pao_nil)) (pr_lst pao_nil))))
  (pss_one' (ps_par2' rfl sc_patch_of_trace.nd rfl rfl (by decide) rfl rfl (pts_cons' (pr_bin op_addU sp_add (po (pr_var 6)) (po pr_int)) (pts_cons' (pr_lst pao_nil) pts_nil')))))))))
  (pss_one' (ps_ret' (pr_call (ok_edits_put_together T) hr (by rfl) T.g_edits_put_together T.F_edits_put_together.kp T.b_edits_put_together pass0 (pao_cons (po (pr_var 2)) pao_nil) (len_cons len_nil))))))
theorem ok_lines_patched (T : Txt K mg) : FnOk P w K mg base CX0 2 T.f_lines_patched T.fd_lines_patched ["lines", "patch"] (spD false 2 m_lines_patched) :=
  fn_d (k := 1) (N := ["lines", "patch", "line", "place"]) (ps := ["lines", "patch"]) false (g := g_lines_patched) T.F_lines_patched sc_lines_patched (by decide) fun cdv A outer s H E hr => (pss_one' (ps_ret' (pr_lc rfl sc_lines_patched.nd (pii_seq (po (pr_call (ok_trace_of T) hr (by rfl) T.g_trace_of T.F_trace_of.kp T.b_trace_of pass0 (pao_cons (po (pr_var 0)) (pao_cons (po (pr_var 1)) pao_nil)) (len_cons (len_cons len_nil))))) (blkOk_by (own := [("line", 2), ("place", 3)]) (by show blkC ["lines", "patch", "line", "place"] (defScope st_lines_patched) _ _ = true; decide +kernel)) (by decide) (fun _ _ _ _ _ => (pgp_tup rfl (pgp_cons (pgp_name sc_lines_patched.nd rfl (.inl rfl)) (pgp_cons (pgp_name sc_lines_patched.nd rfl (.inl rfl)) pgp_nil)))) (fun _ _ _ _ _ => pqs_nil) (fun _ _ _ _ _ => (po (pr_var 2))))))
theorem ok__law_pick (T : Txt K mg) : FnOk P w K mg base CX0 2 T.f__law_pick T.fd__law_pick ["pot", "some"] (spD true 2 m__law_pick) :=
  fn_d (k := 1) (N := ["pot", "some"]) (ps := ["pot", "some"]) true (g := g__law_pick) T.F__law_pick sc__law_pick (by decide) fun cdv A outer s H E hr => (pss_one' (ps_ret' (pr_ix (ix_U (hu_of hr)) sp_ixU (po (pr_var 1)) (po (pr_callIo (i := 0) (ok__law_draw T) hr (by rfl) T.g__law_draw T.F__law_draw.kp T.b__law_draw pass0 (pao_cons (po (pr_var 0)) (pao_cons (po (pr_callB cr_len sp_len (by rfl) T.z_len (by rfl) (pao_cons (po (pr_var 1)) pao_nil))) pao_nil)) (len_cons (len_cons len_nil)))))))
theorem ok__law_edits (T : Txt K mg) : FnOk P w K mg base CX0 2 T.f__law_edits T.fd__law_edits ["pot", "marks"] (spD true 2 m__law_edits) :=
  fn_d (k := 1) (N := ["pot", "marks", "found", "at", "size", "some", "word", "line"]) (ps := ["pot", "marks"]) true (g := g__law_edits) T.F__law_edits sc__law_edits (by decide) fun cdv A outer s H E hr => (pss_cons' (ps_par2' rfl sc__law_edits.nd rfl rfl (by decide) rfl rfl (pts_cons' (pr_lst pao_nil) (pts_cons' pr_int pts_nil')))
  (pss_cons' (ps_while' 1000 PassesOwn.never (pq_cmp op_lt (sp_cmp fun i j => decide (i < j)) (po (pr_var 3)) (po (pr_callB cr_len sp_len (by rfl) T.z_len (by rfl) (pao_cons (po (pr_var 1)) pao_nil))))
  (pss_cons' (ps_set' (i := 4) sc__law_edits.nd rfl (.inl rfl) pr_int)
  (pss_cons' (ps_while' 1000 PassesOwn.never ((pqw_and (pq_cmp op_lt (sp_cmp fun i j => decide (i < j)) (po (pr_bin op_addU sp_add (po (pr_var 3)) (po (pr_var 4)))) (po (pr_callB cr_len sp_len (by rfl) T.z_len (by rfl) (pao_cons (po (pr_var 1)) pao_nil)))) (pqw_and (pq_cmp (op_eqU hr.units) sp_eq (po (pr_ix (ix_U (hu_of hr)) sp_ixU (po (pr_ix (ix_U (hu_of hr)) sp_ixU (po (pr_var 1)) (po (pr_bin op_addU sp_add (po (pr_var 3)) (po (pr_var 4)))))) (po pr_int))) (po (pr_ix (ix_U (hu_of hr)) sp_ixU (po (pr_ix (ix_U (hu_of hr)) sp_ixU (po (pr_var 1)) (po (pr_var 3)))) (po pr_int)))) (pqw_and1 (pq_cmp op_gt (sp_cmp fun i j => decide (j < i)) (po (pr_callIo (i := 0) (ok__law_draw T) hr (by rfl) T.g__law_draw T.F__law_draw.kp T.b__law_draw pass0 (pao_cons (po (pr_var 0)) (pao_cons (po pr_int) pao_nil)) (len_cons (len_cons len_nil)))) (po pr_int)))))).pt
  (pss_one' (ps_set' (i := 4) sc__law_edits.nd rfl (.inl rfl) (pr_bin op_addU sp_add (po (pr_var 4)) (po pr_int)))))
  (pss_cons' (ps_set' (i := 5) sc__law_edits.nd rfl (.inl rfl) (pr_slice (po (pr_var 1)) (poo_some (po (pr_var 3))) (poo_some (po (pr_bin op_addU sp_add (po (pr_var 3)) (po (pr_var 4)))))))
  (pss_cons' (ps_app' 2 (pv 2) (po (pr_if (pq_cmp (op_eqU hr.units) sp_eq (po (pr_ix (ix_U (hu_of hr)) sp_ixU (po (pr_ix (ix_U (hu_of hr)) sp_ixU (po (pr_var 5)) (po pr_int))) (po pr_int))) (po pr_str)) (pr_tup (pao_cons (po pr_str) (pao_cons (po (pr_callTy call_tuple_of sp_tuple (by rfl) T.z_tuple (by rfl) (pao_cons (po (pr_lc rfl sc__law_edits.nd (pii_seq (po (pr_var 5))) (blkOk_by (own := [("word", 6), ("line", 7)]) (by show blkC ["pot", "marks", "found", "at", "size", "some", "word", "line"] (defScope st__law_edits) _ _ = true; decide +kernel)) (by decide) (fun _ _ _ _ _ => (pgp_tup rfl (pgp_cons (pgp_name sc__law_edits.nd rfl (.inl rfl)) (pgp_cons (pgp_name sc__law_edits.nd rfl (.inl rfl)) pgp_nil)))) (fun _ _ _ _ _ => pqs_nil) (fun _ _ _ _ _ => (po (pr_var 7))))) pao_nil))) pao_nil))) (pr_tup (pao_cons (po (pr_ix (ix_U (hu_of hr)) sp_ixU (po (pr_ix (ix_U (hu_of hr)) sp_ixU (po (pr_var 5)) (po pr_int))) (po pr_int))) (pao_cons (po (pr_var 4)) pao_nil))))))
  (pss_one' (ps_set' (i := 3) sc__law_edits.nd rfl (.inl rfl) (pr_bin op_addU sp_add (po (pr_var 3)) (po (pr_var 4))))))))))
  (pss_one' (ps_ret' (pr_callTy call_tuple_of sp_tuple (by rfl) T.z_tuple (by rfl) (pao_cons (po (pr_var 2)) pao_nil))))))
theorem ok_is_edit_any (T : Txt K mg) : FnOk P w K mg base CX0 3 T.f_is_edit_any T.fd_is_edit_any ["value"] (spD false 1 m_is_edit_any) :=
  fn_d (k := 2) (N := ["value", "one"]) (ps := ["value"]) false (g := g_is_edit_any) T.F_is_edit_any sc_is_edit_any (by decide) fun cdv A outer s H E hr => (pss_cons' (ps_if' ((pqw_or (pq_not (pq_val (pr_call ((ok_is_tuple T).mono (by decide : 1 ≤ 2)) hr (by rfl) T.g_is_tuple T.F_is_tuple.kp T.b_is_tuple pass0 (pao_cons (po (pr_var 0)) (pao_cons (po pr_int) pao_nil)) (len_cons (len_cons len_nil))))) (pqw_or1 (pq_not (pq_val (pr_isi (T := "str") (by decide) (by rfl) T.z_isinstance (po (pr_ix (ix_U (hu_of hr)) sp_ixU (po (pr_var 0)) (po pr_int))) (by rfl) T.z_str (by rfl))))))).pt (pss_one' (ps_ret' pr_bl)) pss_nil')
  (pss_cons' (ps_if' (pq_cmp (op_eqU hr.units) sp_eq (po (pr_ix (ix_U (hu_of hr)) sp_ixU (po (pr_var 0)) (po pr_int))) (po (pr_globS (by rfl) T.c_PUT))) (pss_one' (ps_ret' (pr_and (pr_isi (T := "tuple") (by decide) (by rfl) T.z_isinstance (po (pr_ix (ix_U (hu_of hr)) sp_ixU (po (pr_var 0)) (po pr_int))) (by rfl) T.z_tuple (by rfl)) (pr_and (pr_cmp (op_neU hr.units) sp_ne (po (pr_ix (ix_U (hu_of hr)) sp_ixU (po (pr_var 0)) (po pr_int))) (po (pr_tup pao_nil))) (pr_one (pr_callB (cr_all rfl) sp_all (by rfl) T.z_all (by rfl) (pao_cons (po (pr_lc rfl sc_is_edit_any.nd (pii_seq (po (pr_ix (ix_U (hu_of hr)) sp_ixU (po (pr_var 0)) (po pr_int)))) (blkOk_by (own := [("one", 1)]) (by show blkC ["value", "one"] (defScope st_is_edit_any) _ _ = true; decide +kernel)) (by decide) (fun _ _ _ _ _ => (pgp_name sc_is_edit_any.nd rfl (.inl rfl))) (fun _ _ _ _ _ => pqs_nil) (fun _ _ _ _ _ => (po (pr_call ((ok_is_line_any T).mono (by decide : 1 ≤ 2)) hr (by rfl) T.g_is_line_any T.F_is_line_any.kp T.b_is_line_any pass0 (pao_cons (po (pr_var 1)) pao_nil) (len_cons len_nil)))))) pao_nil))))))) pss_nil')
  (pss_one' (ps_ret' (pr_and (pr_cmp op_in_seq (sp_in false) (po (pr_ix (ix_U (hu_of hr)) sp_ixU (po (pr_var 0)) (po pr_int))) (po (pr_tup (pao_cons (po (pr_globS (by rfl) T.c_KEEP)) (pao_cons (po (pr_globS (by rfl) T.c_TAKE)) pao_nil))))) (pr_and (pr_call (ok_is_count T) hr (by rfl) T.g_is_count T.F_is_count.kp T.b_is_count pass0 (pao_cons (po (pr_ix (ix_U (hu_of hr)) sp_ixU (po (pr_var 0)) (po pr_int))) pao_nil) (len_cons len_nil)) (pr_one (pr_cmp op_gt (sp_cmp fun i j => decide (j < i)) (po (pr_ix (ix_U (hu_of hr)) sp_ixU (po (pr_var 0)) (po pr_int))) (po pr_int)))))))))
theorem ok_want_lines (T : Txt K mg) : FnOk P w K mg base CX0 3 T.f_want_lines T.fd_want_lines ["lines"] (spD false 1 m_want_lines) :=
  fn_d (k := 2) (N := ["lines"]) (ps := ["lines"]) false (g := g_want_lines) T.F_want_lines sc_want_lines (by decide) fun cdv A outer s H E hr => (pss_one' (ps_if' (pq_not (pq_val (pr_call (ok_are_lines_any T) hr (by rfl) T.g_are_lines_any T.F_are_lines_any.kp T.b_are_lines_any pass0 (pao_cons (po (pr_var 0)) pao_nil) (len_cons len_nil)))) (pss_one' ps_fail') pss_nil'))
theorem ok__law_some_lines (T : Txt K mg) : FnOk P w K mg base CX0 3 T.f__law_some_lines T.fd__law_some_lines ["pot", "most"] (spD true 2 m__law_some_lines) :=
  fn_d (k := 2) (N := ["pot", "most", "turn"]) (ps := ["pot", "most"]) true (g := g__law_some_lines) T.F__law_some_lines sc__law_some_lines (by decide) fun cdv A outer s H E hr => (pss_one' (ps_ret' (pr_lc rfl sc__law_some_lines.nd (pii_range1 (by rfl) T.z_range (pao_cons (po (pr_callIo (i := 0) ((ok__law_draw T).mono (by decide : 1 ≤ 2)) hr (by rfl) T.g__law_draw T.F__law_draw.kp T.b__law_draw pass0 (pao_cons (po (pr_var 0)) (pao_cons (po (pr_bin op_addU sp_add (po (pr_var 1)) (po pr_int))) pao_nil)) (len_cons (len_cons len_nil)))) pao_nil)) (blkOk_by (own := [("turn", 2)]) (by show blkC ["pot", "most", "turn"] (defScope st__law_some_lines) _ _ = true; decide +kernel)) (by decide) (fun _ _ _ _ _ => (pgp_name sc__law_some_lines.nd rfl (.inl rfl))) (fun _ _ _ _ _ => pqs_nil) (fun _ _ _ _ _ => (po (pr_callIo (i := 0) (ok__law_pick T) hr (by rfl) T.g__law_pick T.F__law_pick.kp T.b__law_pick pass0 (pao_cons (po (pr_var 0)) (pao_cons (po (pr_lst (pao_cons (po pr_str) (pao_cons (po pr_str) (pao_cons (po pr_str) (pao_cons (po pr_str) (pao_cons (po pr_str) pao_nil))))))) pao_nil)) (len_cons (len_cons len_nil))))))))
theorem ok__law_marks (T : Txt K mg) : FnOk P w K mg base CX0 3 T.f__law_marks T.fd__law_marks ["pot", "lines"] (spD true 2 m__law_marks) :=
  fn_d (k := 2) (N := ["pot", "lines", "found", "line", "way"]) (ps := ["pot", "lines"]) true (g := g__law_marks) T.F__law_marks sc__law_marks (by decide) fun cdv A outer s H E hr => (pss_cons' (ps_set' (i := 2) sc__law_marks.nd rfl (.inl rfl) (pr_lst pao_nil))
  (pss_cons' (ps_for' PassesOwn.never rfl (pii_seq (po (pr_var 1))) (pgp_name sc__law_marks.nd rfl (.inl rfl))
  (pss_cons' (ps_set' (i := 4) sc__law_marks.nd rfl (.inl rfl) (pr_callIo (i := 0) ((ok__law_draw T).mono (by decide : 1 ≤ 2)) hr (by rfl) T.g__law_draw T.F__law_draw.kp T.b__law_draw pass0 (pao_cons (po (pr_var 0)) (pao_cons (po pr_int) pao_nil)) (len_cons (len_cons len_nil))))
  (pss_cons' (ps_if' (pq_cmp (op_eqU hr.units) sp_eq (po (pr_var 4)) (po pr_int)) (pss_one' (ps_ext' 2 (pv 2) (po (pr_lst (pao_cons (po (pr_tup (pao_cons (po pr_str) (pao_cons (po (pr_callIo (i := 0) (ok__law_pick T) hr (by rfl) T.g__law_pick T.F__law_pick.kp T.b__law_pick pass0 (pao_cons (po (pr_var 0)) (pao_cons (po (pr_lst (pao_cons (po pr_str) (pao_cons (po pr_str) (pao_cons (po pr_str) pao_nil))))) pao_nil)) (len_cons (len_cons len_nil)))) pao_nil)))) pao_nil))))) pss_nil')
  (pss_one' (ps_if' (pq_cmp (op_eqU hr.units) sp_eq (po (pr_var 4)) (po pr_int)) (pss_one' (ps_ext' 2 (pv 2) (po (pr_lst (pao_cons (po (pr_tup (pao_cons (po pr_str) (pao_cons (po (pr_var 3)) pao_nil)))) (pao_cons (po (pr_tup (pao_cons (po pr_str) (pao_cons (po (pr_var 3)) pao_nil)))) pao_nil)))))) (pss_one' (ps_if' (pq_cmp (op_eqU hr.units) sp_eq (po (pr_var 4)) (po pr_int)) (pss_one' (ps_ext' 2 (pv 2) (po (pr_lst (pao_cons (po (pr_tup (pao_cons (po pr_str) (pao_cons (po (pr_var 3)) pao_nil)))) (pao_cons (po (pr_tup (pao_cons (po pr_str) (pao_cons (po (pr_var 3)) pao_nil)))) pao_nil)))))) (pss_one' (ps_app' 2 (pv 2) (po (pr_tup (pao_cons (po (pr_if (pq_cmp (op_eqU hr.units) sp_eq (po (pr_var 4)) (po pr_int)) pr_str pr_str)) (pao_cons (po (pr_var 3)) pao_nil)))))))))))))
  (pss_one' (ps_ret' (pr_bin op_addU sp_add (po (pr_var 2)) (po (pr_bin op_mulU sp_mul (po (pr_lst (pao_cons (po (pr_tup (pao_cons (po pr_str) (pao_cons (po pr_str) pao_nil)))) pao_nil))) (po (pr_callIo (i := 0) ((ok__law_draw T).mono (by decide : 1 ≤ 2)) hr (by rfl) T.g__law_draw T.F__law_draw.kp T.b__law_draw pass0 (pao_cons (po (pr_var 0)) (pao_cons (po pr_int) pao_nil)) (len_cons (len_cons len_nil)))))))))))
theorem ok_is_patch_of (T : Txt K mg) : FnOk P w K mg base CX0 4 T.f_is_patch_of T.fd_is_patch_of ["lines", "value"] (spD false 2 m_is_patch_of) :=
  fn_d (k := 3) (N := ["lines", "value", "one", "edit", "late"]) (ps := ["lines", "value"]) false (g := g_is_patch_of) T.F_is_patch_of sc_is_patch_of (by decide) fun cdv A outer s H E hr => (pss_cons' (ps_if' ((pqw_or (pq_not (pq_val (pr_isi (T := "tuple") (by decide) (by rfl) T.z_isinstance (po (pr_var 1)) (by rfl) T.z_tuple (by rfl)))) (pqw_or (pq_cmp op_gt (sp_cmp fun i j => decide (j < i)) (po (pr_callB cr_len sp_len (by rfl) T.z_len (by rfl) (pao_cons (po (pr_var 1)) pao_nil))) (po (pr_globI (by rfl) T.c_MOST_EDITS))) (pqw_or1 (pq_not (pq_val (pr_callB (cr_all rfl) sp_all (by rfl) T.z_all (by rfl) (pao_cons (po (pr_lc rfl sc_is_patch_of.nd (pii_seq (po (pr_var 1))) (blkOk_by (own := [("one", 2)]) (by show blkC ["lines", "value", "one", "edit", "late"] (defScope st_is_patch_of) _ _ = true; decide +kernel)) (by decide) (fun _ _ _ _ _ => (pgp_name sc_is_patch_of.nd rfl (.inl rfl))) (fun _ _ _ _ _ => pqs_nil) (fun _ _ _ _ _ => (po (pr_call (ok_is_edit_any T) hr (by rfl) T.g_is_edit_any T.F_is_edit_any.kp T.b_is_edit_any pass0 (pao_cons (po (pr_var 2)) pao_nil) (len_cons len_nil)))))) pao_nil)))))))).pt (pss_one' (ps_ret' pr_bl)) pss_nil')
  (pss_cons' (ps_if' (pq_cmp (op_neU hr.units) sp_ne (po (pr_callB (cr_sum rfl) sp_sum (by rfl) T.z_sum (by rfl) (pao_cons (po (pr_lc rfl sc_is_patch_of.nd (pii_seq (po (pr_var 1))) (blkOk_by (own := [("edit", 3)]) (by show blkC ["lines", "value", "one", "edit", "late"] (defScope st_is_patch_of) _ _ = true; decide +kernel)) (by decide) (fun _ _ _ _ _ => (pgp_name sc_is_patch_of.nd rfl (.inl rfl))) (fun _ _ _ _ _ => (pqs_one (pq_cmp (op_neU hr.units) sp_ne (po (pr_ix (ix_U (hu_of hr)) sp_ixU (po (pr_var 3)) (po pr_int))) (po (pr_globS (by rfl) T.c_PUT))))) (fun _ _ _ _ _ => (po (pr_ix (ix_U (hu_of hr)) sp_ixU (po (pr_var 3)) (po pr_int)))))) pao_nil))) (po (pr_callB cr_len sp_len (by rfl) T.z_len (by rfl) (pao_cons (po (pr_var 0)) pao_nil)))) (pss_one' (ps_ret' pr_bl)) pss_nil')
  (pss_cons' (ps_set' (i := 4) sc_is_patch_of.nd rfl (.inl rfl) (pr_callB (cr_sum rfl) sp_sum (by rfl) T.z_sum (by rfl) (pao_cons (po (pr_lc rfl sc_is_patch_of.nd (pii_seq (po (pr_var 1))) (blkOk_by (own := [("edit", 3)]) (by show blkC ["lines", "value", "one", "edit", "late"] (defScope st_is_patch_of) _ _ = true; decide +kernel)) (by decide) (fun _ _ _ _ _ => (pgp_name sc_is_patch_of.nd rfl (.inl rfl))) (fun _ _ _ _ _ => pqs_nil) (fun _ _ _ _ _ => (po (pr_if (pq_cmp (op_eqU hr.units) sp_eq (po (pr_ix (ix_U (hu_of hr)) sp_ixU (po (pr_var 3)) (po pr_int))) (po (pr_globS (by rfl) T.c_PUT))) (pr_callB cr_len sp_len (by rfl) T.z_len (by rfl) (pao_cons (po (pr_ix (ix_U (hu_of hr)) sp_ixU (po (pr_var 3)) (po pr_int))) pao_nil)) (pr_if (pq_cmp (op_eqU hr.units) sp_eq (po (pr_ix (ix_U (hu_of hr)) sp_ixU (po (pr_var 3)) (po pr_int))) (po (pr_globS (by rfl) T.c_KEEP))) (pr_ix (ix_U (hu_of hr)) sp_ixU (po (pr_var 3)) (po pr_int)) pr_int)))))) pao_nil)))
  (pss_one' (ps_ret' (pr_cmp op_le (sp_cmp fun i j => decide (i ≤ j)) (po (pr_var 4)) (po (pr_globI (by rfl) T.c_MOST_LINES))))))))
theorem ok_want_patch (T : Txt K mg) : FnOk P w K mg base CX0 5 T.f_want_patch T.fd_want_patch ["lines", "patch"] (spD false 2 m_want_patch) :=
  fn_d (k := 4) (N := ["lines", "patch"]) (ps := ["lines", "patch"]) false (g := g_want_patch) T.F_want_patch sc_want_patch (by decide) fun cdv A outer s H E hr => (pss_cons' (ps_expr' (pr_call ((ok_want_lines T).mono (by decide : 3 ≤ 4)) hr (by rfl) T.g_want_lines T.F_want_lines.kp T.b_want_lines pass0 (pao_cons (po (pr_var 0)) pao_nil) (len_cons len_nil)))
  (pss_one' (ps_if' (pq_not (pq_val (pr_call (ok_is_patch_of T) hr (by rfl) T.g_is_patch_of T.F_is_patch_of.kp T.b_is_patch_of pass0 (pao_cons (po (pr_var 0)) (pao_cons (po (pr_var 1)) pao_nil)) (len_cons (len_cons len_nil))))) (pss_one' ps_fail') pss_nil')))
theorem ok_is_patch (T : Txt K mg) : FnOk P w K mg base CX0 5 T.f_is_patch T.fd_is_patch ["lines", "value"] (spD false 2 m_is_patch) :=
  fn_d (k := 4) (N := ["lines", "value"]) (ps := ["lines", "value"]) false (g := g_is_patch) T.F_is_patch sc_is_patch (by decide) fun cdv A outer s H E hr => (pss_cons' (ps_expr' (pr_call ((ok_want_lines T).mono (by decide : 3 ≤ 4)) hr (by rfl) T.g_want_lines T.F_want_lines.kp T.b_want_lines pass0 (pao_cons (po (pr_var 0)) pao_nil) (len_cons len_nil)))
  (pss_one' (ps_ret' (pr_call (ok_is_patch_of T) hr (by rfl) T.g_is_patch_of T.F_is_patch_of.kp T.b_is_patch_of pass0 (pao_cons (po (pr_var 0)) (pao_cons (po (pr_var 1)) pao_nil)) (len_cons (len_cons len_nil))))))
theorem ok_patched (T : Txt K mg) : FnOk P w K mg base CX0 6 T.f_patched T.fd_patched ["lines", "patch"] (spD false 2 m_patched) :=
  fn_d (k := 5) (N := ["lines", "patch"]) (ps := ["lines", "patch"]) false (g := g_patched) T.F_patched sc_patched (by decide) fun cdv A outer s H E hr => (pss_cons' (ps_expr' (pr_call (ok_want_patch T) hr (by rfl) T.g_want_patch T.F_want_patch.kp T.b_want_patch pass0 (pao_cons (po (pr_var 0)) (pao_cons (po (pr_var 1)) pao_nil)) (len_cons (len_cons len_nil))))
  (pss_one' (ps_ret' (pr_call ((ok_lines_patched T).mono (by decide : 2 ≤ 5)) hr (by rfl) T.g_lines_patched T.F_lines_patched.kp T.b_lines_patched pass0 (pao_cons (po (pr_callTy call_list_of sp_list (by rfl) T.z_list (by rfl) (pao_cons (po (pr_var 0)) pao_nil))) (pao_cons (po (pr_var 1)) pao_nil)) (len_cons (len_cons len_nil))))))
theorem ok_patch_cost (T : Txt K mg) : FnOk P w K mg base CX0 6 T.f_patch_cost T.fd_patch_cost ["lines", "patch"] (spD false 2 m_patch_cost) :=
  fn_d (k := 5) (N := ["lines", "patch"]) (ps := ["lines", "patch"]) false (g := g_patch_cost) T.F_patch_cost sc_patch_cost (by decide) fun cdv A outer s H E hr => (pss_cons' (ps_expr' (pr_call (ok_want_patch T) hr (by rfl) T.g_want_patch T.F_want_patch.kp T.b_want_patch pass0 (pao_cons (po (pr_var 0)) (pao_cons (po (pr_var 1)) pao_nil)) (len_cons (len_cons len_nil))))
  (pss_one' (ps_ret' (pr_call ((ok_cost_of_patch T).mono (by decide : 1 ≤ 5)) hr (by rfl) T.g_cost_of_patch T.F_cost_of_patch.kp T.b_cost_of_patch pass0 (pao_cons (po (pr_var 1)) pao_nil) (len_cons len_nil)))))
theorem ok_normalized (T : Txt K mg) : FnOk P w K mg base CX0 6 T.f_normalized T.fd_normalized ["lines", "patch"] (spD false 2 m_normalized) :=
  fn_d (k := 5) (N := ["lines", "patch"]) (ps := ["lines", "patch"]) false (g := g_normalized) T.F_normalized sc_normalized (by decide) fun cdv A outer s H E hr => (pss_cons' (ps_expr' (pr_call (ok_want_patch T) hr (by rfl) T.g_want_patch T.F_want_patch.kp T.b_want_patch pass0 (pao_cons (po (pr_var 0)) (pao_cons (po (pr_var 1)) pao_nil)) (len_cons (len_cons len_nil))))
  (pss_one' (ps_ret' (pr_call ((ok_patch_of_trace T).mono (by decide : 2 ≤ 5)) hr (by rfl) T.g_patch_of_trace T.F_patch_of_trace.kp T.b_patch_of_trace pass0 (pao_cons (po (pr_callB cr_len sp_len (by rfl) T.z_len (by rfl) (pao_cons (po (pr_var 0)) pao_nil))) (pao_cons (po (pr_call ((ok_trace_of T).mono (by decide : 1 ≤ 5)) hr (by rfl) T.g_trace_of T.F_trace_of.kp T.b_trace_of pass0 (pao_cons (po (pr_callTy call_list_of sp_list (by rfl) T.z_list (by rfl) (pao_cons (po (pr_var 0)) pao_nil))) (pao_cons (po (pr_var 1)) pao_nil)) (len_cons (len_cons len_nil)))) pao_nil)) (len_cons (len_cons len_nil))))))
theorem ok_turned_about (T : Txt K mg) : FnOk P w K mg base CX0 6 T.f_turned_about T.fd_turned_about ["lines", "patch"] (spD false 2 m_turned_about) :=
  fn_d (k := 5) (N := ["lines", "patch", "trace", "found", "places", "to", "line", "place", "at"]) (ps := ["lines", "patch"]) false (g := g_turned_about) T.F_turned_about sc_turned_about (by decide) fun cdv A outer s H E hr => (pss_cons' (ps_expr' (pr_call (ok_want_patch T) hr (by rfl) T.g_want_patch T.F_want_patch.kp T.b_want_patch pass0 (pao_cons (po (pr_var 0)) (pao_cons (po (pr_var 1)) pao_nil)) (len_cons (len_cons len_nil))))
  (pss_cons' (ps_par2' rfl sc_turned_about.nd rfl rfl (by decide) rfl rfl (pts_cons' (pr_call ((ok_trace_of T).mono (by decide : 1 ≤ 5)) hr (by rfl) T.g_trace_of T.F_trace_of.kp T.b_trace_of pass0 (pao_cons (po (pr_callTy call_list_of sp_list (by rfl) T.z_list (by rfl) (pao_cons (po (pr_var 0)) pao_nil))) (pao_cons (po (pr_var 1)) pao_nil)) (len_cons (len_cons len_nil))) (pts_cons' (pr_lst pao_nil) pts_nil')))
  (pss_cons' (ps_set' (i := 4) sc_turned_about.nd rfl (.inl rfl) (pr_callTy (cr_dictU rfl (hu2_of hr)) sp_dictU (by rfl) T.z_dict (by rfl) (pao_cons (po (pr_lc rfl sc_turned_about.nd (pii_enum (by rfl) T.z_enumerate (po (pr_var 2))) (blkOk_by (own := [("to", 5), ("line", 6), ("place", 7)]) (by show blkC ["lines", "patch", "trace", "found", "places", "to", "line", "place", "at"] (defScope st_turned_about) _ _ = true; decide +kernel)) (by decide) (fun _ _ _ _ _ => (pgp_tup rfl (pgp_cons (pgp_name sc_turned_about.nd rfl (.inl rfl)) (pgp_cons (pgp_tup rfl (pgp_cons (pgp_name sc_turned_about.nd rfl (.inl rfl)) (pgp_cons (pgp_name sc_turned_about.nd rfl (.inl rfl)) pgp_nil))) pgp_nil)))) (fun _ _ _ _ _ => (pqs_one (pq_cmp op_notN sp_notN (po (pr_var 7)) (po pr_non)))) (fun _ _ _ _ _ => (po (pr_tup (pao_cons (po (pr_var 7)) (pao_cons (po (pr_var 5)) pao_nil))))))) pao_nil)))
  (pss_cons' (ps_for' PassesOwn.never rfl (pii_enum (by rfl) T.z_enumerate (po (pr_var 0))) (pgp_tup rfl (pgp_cons (pgp_name sc_turned_about.nd rfl (.inl rfl)) (pgp_cons (pgp_name sc_turned_about.nd rfl (.inl rfl)) pgp_nil)))
  (pss_one' (ps_app' 3 (pv 3) (po (pr_tup (pao_cons (po (pr_var 6)) (pao_cons (po (pr_dget2 (hu_of hr) (po (pr_var 4)) (po (pr_var 8)) (po pr_non))) pao_nil)))))))
  (pss_one' (ps_ret' (pr_call ((ok_patch_of_trace T).mono (by decide : 2 ≤ 5)) hr (by rfl) T.g_patch_of_trace T.F_patch_of_trace.kp T.b_patch_of_trace pass0 (pao_cons (po (pr_callB cr_len sp_len (by rfl) T.z_len (by rfl) (pao_cons (po (pr_var 2)) pao_nil))) (pao_cons (po (pr_var 3)) pao_nil)) (len_cons (len_cons len_nil)))))))))
theorem ok_joined_patch (T : Txt K mg) : FnOk P w K mg base CX0 6 T.f_joined_patch T.fd_joined_patch ["lines", "patch", "far"] (spD false 3 m_joined_patch) :=
  fn_d (k := 5) (N := ["lines", "patch", "far", "near", "late", "line", "place", "to"]) (ps := ["lines", "patch", "far"]) false (g := g_joined_patch) T.F_joined_patch sc_joined_patch (by decide) fun cdv A outer s H E hr => (pss_cons' (ps_expr' (pr_call (ok_want_patch T) hr (by rfl) T.g_want_patch T.F_want_patch.kp T.b_want_patch pass0 (pao_cons (po (pr_var 0)) (pao_cons (po (pr_var 1)) pao_nil)) (len_cons (len_cons len_nil))))
  (pss_cons' (ps_set' (i := 3) sc_joined_patch.nd rfl (.inr rfl) (pr_call ((ok_trace_of T).mono (by decide : 1 ≤ 5)) hr (by rfl) T.g_trace_of T.F_trace_of.kp T.b_trace_of pass0 (pao_cons (po (pr_callTy call_list_of sp_list (by rfl) T.z_list (by rfl) (pao_cons (po (pr_var 0)) pao_nil))) (pao_cons (po (pr_var 1)) pao_nil)) (len_cons (len_cons len_nil))))
  (pss_cons' (ps_if' (pq_not (pq_val (pr_call ((ok_is_patch_of T).mono (by decide : 4 ≤ 5)) hr (by rfl) T.g_is_patch_of T.F_is_patch_of.kp T.b_is_patch_of pass0 (pao_cons (po (pr_var 3)) (pao_cons (po (pr_var 2)) pao_nil)) (len_cons (len_cons len_nil))))) (pss_one' ps_fail') pss_nil')
  (pss_cons' (ps_set' (i := 4) sc_joined_patch.nd rfl (.inl rfl) (pr_call ((ok_trace_of T).mono (by decide : 1 ≤ 5)) hr (by rfl) T.g_trace_of T.F_trace_of.kp T.b_trace_of pass0 (pao_cons (po (pr_lc rfl sc_joined_patch.nd (pii_seq (po (pr_var 3))) (blkOk_by (own := [("line", 5), ("place", 6)]) (by show blkC ["lines", "patch", "far", "near", "late", "line", "place", "to"] (defScope st_joined_patch) _ _ = true; decide +kernel)) (by decide) (fun _ _ _ _ _ => (pgp_tup rfl (pgp_cons (pgp_name sc_joined_patch.nd rfl (.inl rfl)) (pgp_cons (pgp_name sc_joined_patch.nd rfl (.inl rfl)) pgp_nil)))) (fun _ _ _ _ _ => pqs_nil) (fun _ _ _ _ _ => (po (pr_var 5))))) (pao_cons (po (pr_var 2)) pao_nil)) (len_cons (len_cons len_nil))))
  (pss_one' (ps_ret' (pr_call ((ok_patch_of_trace T).mono (by decide : 2 ≤ 5)) hr (by rfl) T.g_patch_of_trace T.F_patch_of_trace.kp T.b_patch_of_trace pass0 (pao_cons (po (pr_callB cr_len sp_len (by rfl) T.z_len (by rfl) (pao_cons (po (pr_var 0)) pao_nil))) (pao_cons (po (pr_lc rfl sc_joined_patch.nd (pii_seq (po (pr_var 4))) (blkOk_by (own := [("line", 5), ("to", 7)]) (by show blkC ["lines", "patch", "far", "near", "late", "line", "place", "to"] (defScope st_joined_patch) _ _ = true; decide +kernel)) (by decide) (fun _ _ _ _ _ => (pgp_tup rfl (pgp_cons (pgp_name sc_joined_patch.nd rfl (.inl rfl)) (pgp_cons (pgp_name sc_joined_patch.nd rfl (.inl rfl)) pgp_nil)))) (fun _ _ _ _ _ => pqs_nil) (fun _ _ _ _ _ => (po (pr_tup (pao_cons (po (pr_var 5)) (pao_cons (po (pr_if (pq_cmp op_isN sp_isN (po (pr_var 7)) (po pr_non)) pr_non (pr_ix (ix_U (hu_of hr)) sp_ixU (po (pr_ix (ix_U (hu_of hr)) sp_ixU (po (pr_var 3)) (po (pr_var 7)))) (po pr_int)))) pao_nil))))))) pao_nil)) (len_cons (len_cons len_nil)))))))))
theorem ok__law_values_right (T : Txt K mg) : FnOkG P w K mg base CX0 6 T.f__law_values_right T.fd__law_values_right ["pot", "lines", "patch"] (spD true 3 m__law_values_right) :=
  fn_g (k := 5) (N := ["pot", "lines", "patch", "values", "at", "value", "due", "shown"]) (ps := ["pot", "lines", "patch"]) true (g := g__law_values_right) T.F__law_values_right sc__law_values_right (by decide) fun cdv B fr t H0 Ex hr gd => (pss_cons' (ps_set' (i := 3) sc__law_values_right.nd rfl (.inl rfl) (pr_lst (pao_cons (po (pr_var 2)) (pao_cons (po (pr_callTy call_list_of sp_list (by rfl) T.z_list (by rfl) (pao_cons (po (pr_var 2)) pao_nil))) (pao_cons (po (pr_bin op_addU sp_add (po (pr_var 2)) (po (pr_tup (pao_cons (po (pr_tup (pao_cons (po pr_str) (pao_cons (po pr_int) pao_nil)))) pao_nil))))) (pao_cons (po (pr_bin op_addU sp_add (po (pr_var 2)) (po (pr_tup (pao_cons (po (pr_tup (pao_cons (po pr_str) (pao_cons (po pr_int) pao_nil)))) pao_nil))))) (pao_cons (po (pr_slice (po (pr_var 2)) (poo_some (po pr_int)) poo_none)) (pao_cons (po (pr_bin op_addU sp_add (po (pr_var 2)) (po (pr_tup (pao_cons (po (pr_tup (pao_cons (po pr_str) (pao_cons (po (pr_tup pao_nil)) pao_nil)))) pao_nil))))) (pao_cons (po (pr_bin op_addU sp_add (po (pr_var 2)) (po (pr_tup (pao_cons (po (pr_tup (pao_cons (po pr_str) (pao_cons (po (pr_tup (pao_cons (po (pr_bin op_mulU sp_mul (po pr_str) (po pr_int))) pao_nil))) pao_nil)))) pao_nil))))) (pao_cons (po (pr_bin op_addU sp_add (po (pr_var 2)) (po (pr_tup (pao_cons (po (pr_tup (pao_cons (po pr_str) (pao_cons (po (pr_tup (pao_cons (po (pr_bin op_mulU sp_mul (po pr_str) (po pr_int))) pao_nil))) pao_nil)))) pao_nil))))) pao_nil))))))))))
  (pss_cons' (ps_set' (i := 3) sc__law_values_right.nd rfl (.inl rfl) (pr_bin op_addU sp_add (po (pr_var 3)) (po (pr_lst (pao_cons (po (pr_bin op_addU sp_add (po (pr_var 2)) (po (pr_tup (pao_cons (po (pr_tup (pao_cons (po pr_str) (pao_cons (po (pr_lst (pao_cons (po pr_str) pao_nil))) pao_nil)))) pao_nil))))) (pao_cons (po (pr_bin op_addU sp_add (po (pr_var 2)) (po (pr_tup (pao_cons (po (pr_tup (pao_cons (po pr_str) (pao_cons (po pr_str) pao_nil)))) pao_nil))))) (pao_cons (po (pr_bin op_addU sp_add (po (pr_var 2)) (po (pr_tup (pao_cons (po (pr_tup (pao_cons (po pr_str) (pao_cons (po pr_bl) pao_nil)))) pao_nil))))) (pao_cons (po (pr_tup (pao_cons (po (pr_tup (pao_cons (po pr_str) (pao_cons (po (pr_callB cr_len sp_len (by rfl) T.z_len (by rfl) (pao_cons (po (pr_var 1)) pao_nil))) pao_nil)))) pao_nil))) (pao_cons (po (pr_tup (pao_cons (po (pr_tup (pao_cons (po pr_str) (pao_cons (po (pr_bin op_mulU sp_mul (po (pr_tup (pao_cons (po pr_str) pao_nil))) (po pr_int))) pao_nil)))) pao_nil))) (pao_cons (po (pr_tup (pao_cons (po (pr_tup (pao_cons (po pr_str) (pao_cons (po (pr_bin op_mulU sp_mul (po (pr_tup (pao_cons (po pr_str) pao_nil))) (po pr_int))) pao_nil)))) pao_nil))) (pao_cons (po pr_non) (pao_cons (po pr_str) (pao_cons (po pr_int) (pao_cons (po (pr_tup pao_nil)) pao_nil))))))))))))))
  (pss_cons' (ps_if' (pq_cmp (op_neU hr.units) sp_ne (po (pr_var 2)) (po (pr_tup pao_nil))) (pss_cons' (ps_set' (i := 4) sc__law_values_right.nd rfl (.inl rfl) (pr_callIo (i := 0) ((ok__law_draw T).mono (by decide : 1 ≤ 5)) hr (by rfl) T.g__law_draw T.F__law_draw.kp T.b__law_draw pass0 (pao_cons (po (pr_var 0)) (pao_cons (po (pr_callB cr_len sp_len (by rfl) T.z_len (by rfl) (pao_cons (po (pr_var 2)) pao_nil))) pao_nil)) (len_cons (len_cons len_nil))))
  (pss_one' (ps_set' (i := 3) sc__law_values_right.nd rfl (.inl rfl) (pr_bin op_addU sp_add (po (pr_var 3)) (po (pr_lst (pao_cons (po (pr_bin op_addU sp_add (po (pr_slice (po (pr_var 2)) poo_none (poo_some (po (pr_var 4))))) (po (pr_slice (po (pr_var 2)) (poo_some (po (pr_bin op_addU sp_add (po (pr_var 4)) (po pr_int)))) poo_none)))) (pao_cons (po (pr_bin op_addU sp_add (po (pr_bin op_addU sp_add (po (pr_slice (po (pr_var 2)) poo_none (poo_some (po (pr_var 4))))) (po (pr_tup (pao_cons (po (pr_callTy call_list_of sp_list (by rfl) T.z_list (by rfl) (pao_cons (po (pr_ix (ix_U (hu_of hr)) sp_ixU (po (pr_var 2)) (po (pr_var 4)))) pao_nil))) pao_nil))))) (po (pr_slice (po (pr_var 2)) (poo_some (po (pr_bin op_addU sp_add (po (pr_var 4)) (po pr_int)))) poo_none)))) (pao_cons (po (pr_bin op_addU sp_add (po (pr_bin op_addU sp_add (po (pr_slice (po (pr_var 2)) poo_none (poo_some (po (pr_var 4))))) (po (pr_tup (pao_cons (po (pr_bin op_addU sp_add (po (pr_ix (ix_U (hu_of hr)) sp_ixU (po (pr_var 2)) (po (pr_var 4)))) (po (pr_tup (pao_cons (po pr_int) pao_nil))))) pao_nil))))) (po (pr_slice (po (pr_var 2)) (poo_some (po (pr_bin op_addU sp_add (po (pr_var 4)) (po pr_int)))) poo_none)))) (pao_cons (po (pr_bin op_addU sp_add (po (pr_bin op_addU sp_add (po (pr_slice (po (pr_var 2)) poo_none (poo_some (po (pr_var 4))))) (po (pr_tup (pao_cons (po (pr_tup (pao_cons (po pr_str) (pao_cons (po pr_int) pao_nil)))) pao_nil))))) (po (pr_slice (po (pr_var 2)) (poo_some (po (pr_var 4))) poo_none)))) pao_nil)))))))))) pss_nil')
  (pss_cons' (ps_for' PassesOwn.never rfl (pii_seq (po (pr_var 3))) (pgp_name sc__law_values_right.nd rfl (.inl rfl))
  (pss_cons' (ps_par2' rfl sc__law_values_right.nd rfl rfl (by decide) rfl rfl (pts_cons' (pr_call ((ok__law_is_one T).mono (by decide : 1 ≤ 5)) hr (by rfl) T.g__law_is_one T.F__law_is_one.kp T.b__law_is_one pass0 (pao_cons (po (pr_var 1)) (pao_cons (po (pr_var 5)) pao_nil)) (len_cons (len_cons len_nil))) (pts_cons' (pr_callB (cr_repr gd hr.units) sp_reprL (by rfl) T.z_repr (by rfl) (pao_cons (po (pr_var 5)) pao_nil)) pts_nil')))
  (pss_one' (ps_if' ((pqw_or (pq_cmp (op_neU hr.units) sp_ne (po (pr_callB (cr_repr gd hr.units) sp_reprL (by rfl) T.z_repr (by rfl) (pao_cons (po (pr_lst (pao_cons (po (pr_call (ok_is_patch T) hr (by rfl) T.g_is_patch T.F_is_patch.kp T.b_is_patch pass0 (pao_cons (po (pr_var 1)) (pao_cons (po (pr_var 5)) pao_nil)) (len_cons (len_cons len_nil)))) (pao_cons (po (pr_callK (is := [1, 0]) (ok_is_patch T) hr (by rfl) T.g_is_patch T.F_is_patch.kp T.k_is_patch_value_lines pass0 (pko_cons (po (pr_var 5)) (pko_cons (po (pr_var 1)) pko_nil)) (len_cons (len_cons len_nil)) (fun l hl => match l, hl with | [_, _], _ => rfl))) pao_nil)))) pao_nil))) (po (pr_callB (cr_repr gd hr.units) sp_reprL (by rfl) T.z_repr (by rfl) (pao_cons (po (pr_lst (pao_cons (po (pr_var 6)) (pao_cons (po (pr_var 6)) pao_nil)))) pao_nil)))) (pqw_or1 (pq_cmp (op_neU hr.units) sp_ne (po (pr_callB (cr_repr gd hr.units) sp_reprL (by rfl) T.z_repr (by rfl) (pao_cons (po (pr_var 5)) pao_nil))) (po (pr_var 7)))))).pt (pss_one' (ps_ret' pr_bl)) pss_nil'))))
  (pss_one' (ps_ret' pr_bl))))))
theorem ok__law_right (T : Txt K mg) : FnOkG P w K mg base CX0 7 T.f__law_right T.fd__law_right ["pot"] (spD true 1 m__law_right) :=
  fn_g (k := 6) (N := ["pot", "lines", "marks", "late", "more", "patch", "far", "away", "shown", "cost", "word", "line", "told", "due", "named", "back", "taken", "near"]) (ps := ["pot"]) true (g := g__law_right) T.F__law_right sc__law_right (by decide) fun cdv B fr t H0 Ex hr gd => (pss_cons' (ps_set' (i := 1) sc__law_right.nd rfl (.inl rfl) (pr_callIo (i := 0) ((ok__law_some_lines T).mono (by decide : 3 ≤ 6)) hr (by rfl) T.g__law_some_lines T.F__law_some_lines.kp T.b__law_some_lines pass0 (pao_cons (po (pr_var 0)) (pao_cons (po pr_int) pao_nil)) (len_cons (len_cons len_nil))))
  (pss_cons' (ps_set' (i := 2) sc__law_right.nd rfl (.inl rfl) (pr_callIo (i := 0) ((ok__law_marks T).mono (by decide : 3 ≤ 6)) hr (by rfl) T.g__law_marks T.F__law_marks.kp T.b__law_marks pass0 (pao_cons (po (pr_var 0)) (pao_cons (po (pr_var 1)) pao_nil)) (len_cons (len_cons len_nil))))
  (pss_cons' (ps_set' (i := 3) sc__law_right.nd rfl (.inl rfl) (pr_callIo (i := 0) ((ok__law_marks T).mono (by decide : 3 ≤ 6)) hr (by rfl) T.g__law_marks T.F__law_marks.kp T.b__law_marks pass0 (pao_cons (po (pr_var 0)) (pao_cons (po (pr_call ((ok__law_behind T).mono (by decide : 1 ≤ 6)) hr (by rfl) T.g__law_behind T.F__law_behind.kp T.b__law_behind pass0 (pao_cons (po (pr_var 2)) pao_nil) (len_cons len_nil))) pao_nil)) (len_cons (len_cons len_nil))))
  (pss_cons' (ps_set' (i := 4) sc__law_right.nd rfl (.inl rfl) (pr_callIo (i := 0) ((ok__law_marks T).mono (by decide : 3 ≤ 6)) hr (by rfl) T.g__law_marks T.F__law_marks.kp T.b__law_marks pass0 (pao_cons (po (pr_var 0)) (pao_cons (po (pr_call ((ok__law_behind T).mono (by decide : 1 ≤ 6)) hr (by rfl) T.g__law_behind T.F__law_behind.kp T.b__law_behind pass0 (pao_cons (po (pr_var 3)) pao_nil) (len_cons len_nil))) pao_nil)) (len_cons (len_cons len_nil))))
  (pss_cons' (ps_par3' rfl sc__law_right.nd rfl rfl rfl (by decide) (by decide) (by decide) rfl rfl rfl (pts_cons' (pr_callIo (i := 0) ((ok__law_edits T).mono (by decide : 2 ≤ 6)) hr (by rfl) T.g__law_edits T.F__law_edits.kp T.b__law_edits pass0 (pao_cons (po (pr_var 0)) (pao_cons (po (pr_var 2)) pao_nil)) (len_cons (len_cons len_nil))) (pts_cons' (pr_callIo (i := 0) ((ok__law_edits T).mono (by decide : 2 ≤ 6)) hr (by rfl) T.g__law_edits T.F__law_edits.kp T.b__law_edits pass0 (pao_cons (po (pr_var 0)) (pao_cons (po (pr_var 3)) pao_nil)) (len_cons (len_cons len_nil))) (pts_cons' (pr_callIo (i := 0) ((ok__law_edits T).mono (by decide : 2 ≤ 6)) hr (by rfl) T.g__law_edits T.F__law_edits.kp T.b__law_edits pass0 (pao_cons (po (pr_var 0)) (pao_cons (po (pr_var 4)) pao_nil)) (len_cons (len_cons len_nil))) pts_nil'))))
  (pss_cons' (ps_par2' rfl sc__law_right.nd rfl rfl (by decide) rfl rfl (pts_cons' (pr_callB (cr_repr gd hr.units) sp_reprL (by rfl) T.z_repr (by rfl) (pao_cons (po (pr_lst (pao_cons (po (pr_var 1)) (pao_cons (po (pr_var 5)) (pao_cons (po (pr_var 6)) pao_nil))))) pao_nil)) (pts_cons' (pr_callB cr_len sp_len (by rfl) T.z_len (by rfl) (pao_cons (po (pr_lc rfl sc__law_right.nd (pii_seq (po (pr_var 2))) (blkOk_by (own := [("word", 10), ("line", 11)]) (by show blkC ["pot", "lines", "marks", "late", "more", "patch", "far", "away", "shown", "cost", "word", "line", "told", "due", "named", "back", "taken", "near"] (defScope st__law_right) _ _ = true; decide +kernel)) (by decide) (fun _ _ _ _ _ => (pgp_tup rfl (pgp_cons (pgp_name sc__law_right.nd rfl (.inl rfl)) (pgp_cons (pgp_name sc__law_right.nd rfl (.inl rfl)) pgp_nil)))) (fun _ _ _ _ _ => (pqs_one (pq_cmp (op_neU hr.units) sp_ne (po (pr_var 10)) (po pr_str)))) (fun _ _ _ _ _ => (po (pr_var 10))))) pao_nil)) pts_nil')))
  (pss_cons' (ps_if' ((pqw_or (pq_cmp op_notBl sp_notB (po (pr_call ((ok_is_patch T).mono (by decide : 5 ≤ 6)) hr (by rfl) T.g_is_patch T.F_is_patch.kp T.b_is_patch pass0 (pao_cons (po (pr_var 1)) (pao_cons (po (pr_var 5)) pao_nil)) (len_cons (len_cons len_nil)))) (po pr_bl)) (pqw_or (pq_cmp op_notBl sp_notB (po (pr_callK (is := [1, 0]) ((ok_is_patch T).mono (by decide : 5 ≤ 6)) hr (by rfl) T.g_is_patch T.F_is_patch.kp T.k_is_patch_value_lines pass0 (pko_cons (po (pr_var 5)) (pko_cons (po (pr_callTy call_tuple_of sp_tuple (by rfl) T.z_tuple (by rfl) (pao_cons (po (pr_var 1)) pao_nil))) pko_nil)) (len_cons (len_cons len_nil)) (fun l hl => match l, hl with | [_, _], _ => rfl))) (po pr_bl)) (pqw_or1 (pq_cmp (op_neU hr.units) sp_ne (po (pr_call (ok_patched T) hr (by rfl) T.g_patched T.F_patched.kp T.b_patched pass0 (pao_cons (po (pr_var 1)) (pao_cons (po (pr_var 5)) pao_nil)) (len_cons (len_cons len_nil)))) (po (pr_call ((ok__law_behind T).mono (by decide : 1 ≤ 6)) hr (by rfl) T.g__law_behind T.F__law_behind.kp T.b__law_behind pass0 (pao_cons (po (pr_var 2)) pao_nil) (len_cons len_nil)))))))).pt (pss_one' (ps_ret' pr_bl)) pss_nil')
  (pss_cons' (ps_set' (i := 12) sc__law_right.nd rfl (.inl rfl) (pr_lst (pao_cons (po (pr_call (ok_normalized T) hr (by rfl) T.g_normalized T.F_normalized.kp T.b_normalized pass0 (pao_cons (po (pr_var 1)) (pao_cons (po (pr_var 5)) pao_nil)) (len_cons (len_cons len_nil)))) (pao_cons (po (pr_call (ok_turned_about T) hr (by rfl) T.g_turned_about T.F_turned_about.kp T.b_turned_about pass0 (pao_cons (po (pr_var 1)) (pao_cons (po (pr_var 5)) pao_nil)) (len_cons (len_cons len_nil)))) (pao_cons (po (pr_call (ok_joined_patch T) hr (by rfl) T.g_joined_patch T.F_joined_patch.kp T.b_joined_patch pass0 (pao_cons (po (pr_var 1)) (pao_cons (po (pr_var 5)) (pao_cons (po (pr_var 6)) pao_nil))) (len_cons (len_cons (len_cons len_nil))))) (pao_cons (po (pr_call (ok_patch_cost T) hr (by rfl) T.g_patch_cost T.F_patch_cost.kp T.b_patch_cost pass0 (pao_cons (po (pr_var 1)) (pao_cons (po (pr_var 5)) pao_nil)) (len_cons (len_cons len_nil)))) pao_nil))))))
  (pss_cons' (ps_set' (i := 13) sc__law_right.nd rfl (.inl rfl) (pr_lst (pao_cons (po (pr_call ((ok__law_normal T).mono (by decide : 1 ≤ 6)) hr (by rfl) T.g__law_normal T.F__law_normal.kp T.b__law_normal pass0 (pao_cons (po (pr_var 2)) pao_nil) (len_cons len_nil))) (pao_cons (po (pr_call ((ok__law_normal T).mono (by decide : 1 ≤ 6)) hr (by rfl) T.g__law_normal T.F__law_normal.kp T.b__law_normal pass0 (pao_cons (po (pr_call ((ok__law_turned_marks T).mono (by decide : 1 ≤ 6)) hr (by rfl) T.g__law_turned_marks T.F__law_turned_marks.kp T.b__law_turned_marks pass0 (pao_cons (po (pr_var 2)) pao_nil) (len_cons len_nil))) pao_nil) (len_cons len_nil))) (pao_cons (po (pr_call ((ok__law_normal T).mono (by decide : 1 ≤ 6)) hr (by rfl) T.g__law_normal T.F__law_normal.kp T.b__law_normal pass0 (pao_cons (po (pr_call ((ok__law_joined_marks T).mono (by decide : 1 ≤ 6)) hr (by rfl) T.g__law_joined_marks T.F__law_joined_marks.kp T.b__law_joined_marks pass0 (pao_cons (po (pr_var 2)) (pao_cons (po (pr_var 3)) pao_nil)) (len_cons (len_cons len_nil)))) pao_nil) (len_cons len_nil))) (pao_cons (po (pr_var 9)) pao_nil))))))
  (pss_cons' (ps_set' (i := 14) sc__law_right.nd rfl (.inl rfl) (pr_lst (pao_cons (po (pr_callK (is := [1, 0]) (ok_normalized T) hr (by rfl) T.g_normalized T.F_normalized.kp T.k_normalized_patch_lines pass0 (pko_cons (po (pr_var 5)) (pko_cons (po (pr_var 1)) pko_nil)) (len_cons (len_cons len_nil)) (fun l hl => match l, hl with | [_, _], _ => rfl))) (pao_cons (po (pr_callK (is := [1, 0]) (ok_turned_about T) hr (by rfl) T.g_turned_about T.F_turned_about.kp T.k_turned_about_patch_lines pass0 (pko_cons (po (pr_var 5)) (pko_cons (po (pr_var 1)) pko_nil)) (len_cons (len_cons len_nil)) (fun l hl => match l, hl with | [_, _], _ => rfl))) (pao_cons (po (pr_callK (is := [2, 1, 0]) (ok_joined_patch T) hr (by rfl) T.g_joined_patch T.F_joined_patch.kp T.k_joined_patch_far_patch_lines pass0 (pko_cons (po (pr_var 6)) (pko_cons (po (pr_var 5)) (pko_cons (po (pr_var 1)) pko_nil))) (len_cons (len_cons (len_cons len_nil))) (fun l hl => match l, hl with | [_, _, _], _ => rfl))) pao_nil)))))
  (pss_cons' (ps_if' ((pqw_or (pq_cmp (op_neU hr.units) sp_ne (po (pr_callB (cr_repr gd hr.units) sp_reprL (by rfl) T.z_repr (by rfl) (pao_cons (po (pr_var 12)) pao_nil))) (po (pr_callB (cr_repr gd hr.units) sp_reprL (by rfl) T.z_repr (by rfl) (pao_cons (po (pr_var 13)) pao_nil)))) (pqw_or1 (pq_cmp (op_neU hr.units) sp_ne (po (pr_callB (cr_repr gd hr.units) sp_reprL (by rfl) T.z_repr (by rfl) (pao_cons (po (pr_var 14)) pao_nil))) (po (pr_callB (cr_repr gd hr.units) sp_reprL (by rfl) T.z_repr (by rfl) (pao_cons (po (pr_slice (po (pr_var 13)) poo_none (poo_some (po pr_int)))) pao_nil))))))).pt (pss_one' (ps_ret' pr_bl)) pss_nil')
  (pss_cons' (ps_set' (i := 15) sc__law_right.nd rfl (.inl rfl) (pr_call (ok_joined_patch T) hr (by rfl) T.g_joined_patch T.F_joined_patch.kp T.b_joined_patch pass0 (pao_cons (po (pr_var 1)) (pao_cons (po (pr_var 5)) (pao_cons (po (pr_ix (ix_U (hu_of hr)) sp_ixU (po (pr_var 13)) (po pr_int))) pao_nil))) (len_cons (len_cons (len_cons len_nil)))))
  (pss_cons' (ps_set' (i := 16) sc__law_right.nd rfl (.inl rfl) (pr_callB cr_len sp_len (by rfl) T.z_len (by rfl) (pao_cons (po (pr_lc rfl sc__law_right.nd (pii_seq (po (pr_var 2))) (blkOk_by (own := [("word", 10), ("line", 11)]) (by show blkC ["pot", "lines", "marks", "late", "more", "patch", "far", "away", "shown", "cost", "word", "line", "told", "due", "named", "back", "taken", "near"] (defScope st__law_right) _ _ = true; decide +kernel)) (by decide) (fun _ _ _ _ _ => (pgp_tup rfl (pgp_cons (pgp_name sc__law_right.nd rfl (.inl rfl)) (pgp_cons (pgp_name sc__law_right.nd rfl (.inl rfl)) pgp_nil)))) (fun _ _ _ _ _ => (pqs_one (pq_cmp (op_eqU hr.units) sp_eq (po (pr_var 10)) (po pr_str)))) (fun _ _ _ _ _ => (po (pr_var 10))))) pao_nil)))
  (pss_cons' (ps_if' ((pqw_or (pq_cmp (op_neU hr.units) sp_ne (po (pr_callB (cr_repr gd hr.units) sp_reprL (by rfl) T.z_repr (by rfl) (pao_cons (po (pr_var 15)) pao_nil))) (po (pr_callB (cr_repr gd hr.units) sp_reprL (by rfl) T.z_repr (by rfl) (pao_cons (po (pr_call ((ok__law_normal T).mono (by decide : 1 ≤ 6)) hr (by rfl) T.g__law_normal T.F__law_normal.kp T.b__law_normal pass0 (pao_cons (po (pr_call ((ok__law_joined_marks T).mono (by decide : 1 ≤ 6)) hr (by rfl) T.g__law_joined_marks T.F__law_joined_marks.kp T.b__law_joined_marks pass0 (pao_cons (po (pr_var 2)) (pao_cons (po (pr_call ((ok__law_turned_marks T).mono (by decide : 1 ≤ 6)) hr (by rfl) T.g__law_turned_marks T.F__law_turned_marks.kp T.b__law_turned_marks pass0 (pao_cons (po (pr_var 2)) pao_nil) (len_cons len_nil))) pao_nil)) (len_cons (len_cons len_nil)))) pao_nil) (len_cons len_nil))) pao_nil)))) (pqw_or (pq_cmp (op_neU hr.units) sp_ne (po (pr_call (ok_patch_cost T) hr (by rfl) T.g_patch_cost T.F_patch_cost.kp T.b_patch_cost pass0 (pao_cons (po (pr_var 1)) (pao_cons (po (pr_var 15)) pao_nil)) (len_cons (len_cons len_nil)))) (po (pr_bin op_mulU sp_mul (po pr_int) (po (pr_var 16))))) (pqw_or1 (pq_cmp (op_neU hr.units) sp_ne (po (pr_call (ok_patched T) hr (by rfl) T.g_patched T.F_patched.kp T.b_patched pass0 (pao_cons (po (pr_var 1)) (pao_cons (po (pr_var 15)) pao_nil)) (len_cons (len_cons len_nil)))) (po (pr_var 1))))))).pt (pss_one' (ps_ret' pr_bl)) pss_nil')
  (pss_cons' (ps_if' ((pqw_or (pq_cmp (op_neU hr.units) sp_ne (po (pr_callB (cr_repr gd hr.units) sp_reprL (by rfl) T.z_repr (by rfl) (pao_cons (po (pr_call (ok_turned_about T) hr (by rfl) T.g_turned_about T.F_turned_about.kp T.b_turned_about pass0 (pao_cons (po (pr_call ((ok__law_behind T).mono (by decide : 1 ≤ 6)) hr (by rfl) T.g__law_behind T.F__law_behind.kp T.b__law_behind pass0 (pao_cons (po (pr_var 2)) pao_nil) (len_cons len_nil))) (pao_cons (po (pr_ix (ix_U (hu_of hr)) sp_ixU (po (pr_var 13)) (po pr_int))) pao_nil)) (len_cons (len_cons len_nil)))) pao_nil))) (po (pr_callB (cr_repr gd hr.units) sp_reprL (by rfl) T.z_repr (by rfl) (pao_cons (po (pr_ix (ix_U (hu_of hr)) sp_ixU (po (pr_var 13)) (po pr_int))) pao_nil)))) (pqw_or1 (pq_cmp (op_neU hr.units) sp_ne (po (pr_callB (cr_repr gd hr.units) sp_reprL (by rfl) T.z_repr (by rfl) (pao_cons (po (pr_call (ok_normalized T) hr (by rfl) T.g_normalized T.F_normalized.kp T.b_normalized pass0 (pao_cons (po (pr_var 1)) (pao_cons (po (pr_ix (ix_U (hu_of hr)) sp_ixU (po (pr_var 13)) (po pr_int))) pao_nil)) (len_cons (len_cons len_nil)))) pao_nil))) (po (pr_callB (cr_repr gd hr.units) sp_reprL (by rfl) T.z_repr (by rfl) (pao_cons (po (pr_ix (ix_U (hu_of hr)) sp_ixU (po (pr_var 13)) (po pr_int))) pao_nil))))))).pt (pss_one' (ps_ret' pr_bl)) pss_nil')
  (pss_cons' (ps_set' (i := 17) sc__law_right.nd rfl (.inl rfl) (pr_call (ok_joined_patch T) hr (by rfl) T.g_joined_patch T.F_joined_patch.kp T.b_joined_patch pass0 (pao_cons (po (pr_var 1)) (pao_cons (po (pr_call (ok_joined_patch T) hr (by rfl) T.g_joined_patch T.F_joined_patch.kp T.b_joined_patch pass0 (pao_cons (po (pr_var 1)) (pao_cons (po (pr_var 5)) (pao_cons (po (pr_var 6)) pao_nil))) (len_cons (len_cons (len_cons len_nil))))) (pao_cons (po (pr_var 7)) pao_nil))) (len_cons (len_cons (len_cons len_nil)))))
  (pss_cons' (ps_if' ((pqw_or (pq_cmp (op_neU hr.units) sp_ne (po (pr_callB (cr_repr gd hr.units) sp_reprL (by rfl) T.z_repr (by rfl) (pao_cons (po (pr_var 17)) pao_nil))) (po (pr_callB (cr_repr gd hr.units) sp_reprL (by rfl) T.z_repr (by rfl) (pao_cons (po (pr_call (ok_joined_patch T) hr (by rfl) T.g_joined_patch T.F_joined_patch.kp T.b_joined_patch pass0 (pao_cons (po (pr_var 1)) (pao_cons (po (pr_var 5)) (pao_cons (po (pr_call (ok_joined_patch T) hr (by rfl) T.g_joined_patch T.F_joined_patch.kp T.b_joined_patch pass0 (pao_cons (po (pr_call ((ok__law_behind T).mono (by decide : 1 ≤ 6)) hr (by rfl) T.g__law_behind T.F__law_behind.kp T.b__law_behind pass0 (pao_cons (po (pr_var 2)) pao_nil) (len_cons len_nil))) (pao_cons (po (pr_var 6)) (pao_cons (po (pr_var 7)) pao_nil))) (len_cons (len_cons (len_cons len_nil))))) pao_nil))) (len_cons (len_cons (len_cons len_nil))))) pao_nil)))) (pqw_or1 (pq_cmp (op_neU hr.units) sp_ne (po (pr_call (ok_patched T) hr (by rfl) T.g_patched T.F_patched.kp T.b_patched pass0 (pao_cons (po (pr_var 1)) (pao_cons (po (pr_var 17)) pao_nil)) (len_cons (len_cons len_nil)))) (po (pr_call ((ok__law_behind T).mono (by decide : 1 ≤ 6)) hr (by rfl) T.g__law_behind T.F__law_behind.kp T.b__law_behind pass0 (pao_cons (po (pr_var 4)) pao_nil) (len_cons len_nil))))))).pt (pss_one' (ps_ret' pr_bl)) pss_nil')
  (pss_one' (ps_ret' (pr_and (pr_callIoG (i := 0) (ok__law_values_right T) hr gd (by rfl) T.g__law_values_right T.F__law_values_right.kp T.b__law_values_right pass0 (pao_cons (po (pr_var 0)) (pao_cons (po (pr_var 1)) (pao_cons (po (pr_var 5)) pao_nil))) (len_cons (len_cons (len_cons len_nil)))) (pr_one (pr_cmp (op_eqU hr.units) sp_eq (po (pr_callB (cr_repr gd hr.units) sp_reprL (by rfl) T.z_repr (by rfl) (pao_cons (po (pr_lst (pao_cons (po (pr_var 1)) (pao_cons (po (pr_var 5)) (pao_cons (po (pr_var 6)) pao_nil))))) pao_nil))) (po (pr_var 8))))))))))))))))))))))))
theorem ok_law (T : Txt K mg) (hg : ∀ (v : V) (x y : Int), 0 ≤ x → 0 ≤ y → ∃ e, e.length + 1 = 4 ∧ g_law (.fix v :: .un :: .own (.list [.int x, .int y]) :: List.replicate (4 - 3) .un) = some (.nx (.fix v :: e))) :
    FnOkG P w K mg base CX0 8 T.f_law T.fd_law ["script"] (spLaw K) :=
  fn_g0 (k := 7) (N := ["script", "k", "pot", "turn"]) (ps := ["script"]) T.F_law sc_law (fun _ _ _ _ h => by obtain ⟨a, ns, rfl, _⟩ := h; rfl) fun cdv B fr t H0 xs Qv Ex hr gd h => ⟨tLaw K 3 (fun _ _ _ => False) g_law, pss_cons (ps_for PassesOwn.never rfl (pi_range1 (by rfl) T.z_range (pa_cons (pe_callB (call_max2 rfl) (by rfl) T.z_max (by rfl) (pa_cons pe_int (pa_cons (pe_callB (call_min2 rfl) (by rfl) T.z_min (by rfl) (pa_cons pe_int (pa_cons (pe_callB call_len_seq (by rfl) T.z_len (by rfl) (pa_cons (pv 0) pa_nil)) pa_nil))) pa_nil))) pa_nil)) (pg_name (i := 1) sc_law.nd rfl (.inl rfl))
    (pss_cons (ps_set (i := 2) sc_law.nd rfl (.inr rfl) (pe_call ((ok__law_pot T).mono (by decide : 1 ≤ 7)) hr (by rfl) T.g__law_pot T.F__law_pot.kp T.b__law_pot .nil pass0 (pa_cons (pv 0) (pa_cons (pv 1) pa_nil))))
      (pss_one' (ps_if' (pq_not (pq_val (pr_callB (cr_all rfl) sp_all (by rfl) T.z_all (by rfl) (pao_cons (po (pr_lc rfl sc_law.nd (pii_range1 (by rfl) T.z_range (pao_cons (po pr_int) pao_nil)) (blkOk_by (own := [("turn", 3)]) (by show blkC ["script", "k", "pot", "turn"] (defScope st_law) _ _ = true; decide +kernel)) (by decide) (fun _ _ _ _ _ => (pgp_name sc_law.nd rfl (.inl rfl))) (fun _ _ _ _ _ => pqs_nil) (fun _ _ _ _ _ => (po (pr_callIoG (i := 2) (ok__law_right T) hr gd (by rfl) T.g__law_right T.F__law_right.kp T.b__law_right pass0 (pao_cons (po (pr_var 2)) pao_nil) (len_cons len_nil)))))) pao_nil)))) (pss_one' (ps_ret' pr_bl)) pss_nil')))) (pss_one (ps_ret pe_bl)), t_law ⟨by decide, by decide⟩ (by decide) hg h⟩
end
end K72
namespace K72
open PySem PySem.Spec PyProof.Rows L2 DL
theorem all_mk {l : PySem.W.OpenLaw} {w : World} {K : PySem.W.Frag} {h : Heap} {mg : Str → Option Value} {fa : Addr} (X : K.In h) (G : h.Ns mainGlobals mg) (hfa : mg "law" = some (.ref fa)) (hg : ∀ (v : V) (x y : Int), 0 ≤ x → 0 ≤ y → ∃ e, e.length + 1 = 4 ∧ g_law (.fix v :: .un :: .own (.list [.int x, .int y]) :: List.replicate (4 - 3) .un) = some (.nx (.fix v :: e)))
  {f0 : Addr} {od0 an0 : Option Addr} {sl0 : Array (Option Value)} {oc0 kV0 dc0 pm0 cd0 ct0 : Value}
  (a0 : PySem.W.nsIn K mainGlobals "is_integer" = some (some (.ref f0))) (l0 : K.lookup f0 = some ⟨oc0, od0, .func (PySem.W.fnOf "is_integer" "is_integer" (defArgs st_is_integer) (defBody st_is_integer) (defScope st_is_integer) .none kV0 dc0 pm0 an0 cd0 ct0), sl0⟩) (c0 : PySem.W.codeIn K cd0 "is_integer" = true) (k0 : PySem.W.keepIn K (.ref f0) = true)
  {f1 : Addr} {od1 an1 : Option Addr} {sl1 : Array (Option Value)} {oc1 kV1 dc1 pm1 cd1 ct1 : Value}
  (a1 : PySem.W.nsIn K mainGlobals "is_count" = some (some (.ref f1))) (l1 : K.lookup f1 = some ⟨oc1, od1, .func (PySem.W.fnOf "is_count" "is_count" (defArgs st_is_count) (defBody st_is_count) (defScope st_is_count) .none kV1 dc1 pm1 an1 cd1 ct1), sl1⟩) (c1 : PySem.W.codeIn K cd1 "is_count" = true) (k1 : PySem.W.keepIn K (.ref f1) = true)
  {f2 : Addr} {od2 an2 : Option Addr} {sl2 : Array (Option Value)} {oc2 kV2 dc2 pm2 cd2 ct2 : Value}
  (a2 : PySem.W.nsIn K mainGlobals "is_list" = some (some (.ref f2))) (l2 : K.lookup f2 = some ⟨oc2, od2, .func (PySem.W.fnOf "is_list" "is_list" (defArgs st_is_list) (defBody st_is_list) (defScope st_is_list) .none kV2 dc2 pm2 an2 cd2 ct2), sl2⟩) (c2 : PySem.W.codeIn K cd2 "is_list" = true) (k2 : PySem.W.keepIn K (.ref f2) = true)
  {f3 : Addr} {od3 an3 : Option Addr} {sl3 : Array (Option Value)} {oc3 kV3 dc3 pm3 cd3 ct3 : Value}
  (a3 : PySem.W.nsIn K mainGlobals "is_tuple" = some (some (.ref f3))) (l3 : K.lookup f3 = some ⟨oc3, od3, .func (PySem.W.fnOf "is_tuple" "is_tuple" (defArgs st_is_tuple) (defBody st_is_tuple) (defScope st_is_tuple) .none kV3 dc3 pm3 an3 cd3 ct3), sl3⟩) (c3 : PySem.W.codeIn K cd3 "is_tuple" = true) (k3 : PySem.W.keepIn K (.ref f3) = true)
  {f4 : Addr} {od4 an4 : Option Addr} {sl4 : Array (Option Value)} {oc4 kV4 dc4 pm4 cd4 ct4 : Value}
  (a4 : PySem.W.nsIn K mainGlobals "is_line_any" = some (some (.ref f4))) (l4 : K.lookup f4 = some ⟨oc4, od4, .func (PySem.W.fnOf "is_line_any" "is_line_any" (defArgs st_is_line_any) (defBody st_is_line_any) (defScope st_is_line_any) .none kV4 dc4 pm4 an4 cd4 ct4), sl4⟩) (c4 : PySem.W.codeIn K cd4 "is_line_any" = true) (k4 : PySem.W.keepIn K (.ref f4) = true)
  {f5 : Addr} {od5 an5 : Option Addr} {sl5 : Array (Option Value)} {oc5 kV5 dc5 pm5 cd5 ct5 : Value}
  (a5 : PySem.W.nsIn K mainGlobals "are_lines_any" = some (some (.ref f5))) (l5 : K.lookup f5 = some ⟨oc5, od5, .func (PySem.W.fnOf "are_lines_any" "are_lines_any" (defArgs st_are_lines_any) (defBody st_are_lines_any) (defScope st_are_lines_any) .none kV5 dc5 pm5 an5 cd5 ct5), sl5⟩) (c5 : PySem.W.codeIn K cd5 "are_lines_any" = true) (k5 : PySem.W.keepIn K (.ref f5) = true)
  {f6 : Addr} {od6 an6 : Option Addr} {sl6 : Array (Option Value)} {oc6 kV6 dc6 pm6 cd6 ct6 : Value}
  (a6 : PySem.W.nsIn K mainGlobals "is_edit_any" = some (some (.ref f6))) (l6 : K.lookup f6 = some ⟨oc6, od6, .func (PySem.W.fnOf "is_edit_any" "is_edit_any" (defArgs st_is_edit_any) (defBody st_is_edit_any) (defScope st_is_edit_any) .none kV6 dc6 pm6 an6 cd6 ct6), sl6⟩) (c6 : PySem.W.codeIn K cd6 "is_edit_any" = true) (k6 : PySem.W.keepIn K (.ref f6) = true)
  {f7 : Addr} {od7 an7 : Option Addr} {sl7 : Array (Option Value)} {oc7 kV7 dc7 pm7 cd7 ct7 : Value}
  (a7 : PySem.W.nsIn K mainGlobals "is_patch_of" = some (some (.ref f7))) (l7 : K.lookup f7 = some ⟨oc7, od7, .func (PySem.W.fnOf "is_patch_of" "is_patch_of" (defArgs st_is_patch_of) (defBody st_is_patch_of) (defScope st_is_patch_of) .none kV7 dc7 pm7 an7 cd7 ct7), sl7⟩) (c7 : PySem.W.codeIn K cd7 "is_patch_of" = true) (k7 : PySem.W.keepIn K (.ref f7) = true)
  {f8 : Addr} {od8 an8 : Option Addr} {sl8 : Array (Option Value)} {oc8 kV8 dc8 pm8 cd8 ct8 : Value}
  (a8 : PySem.W.nsIn K mainGlobals "want_lines" = some (some (.ref f8))) (l8 : K.lookup f8 = some ⟨oc8, od8, .func (PySem.W.fnOf "want_lines" "want_lines" (defArgs st_want_lines) (defBody st_want_lines) (defScope st_want_lines) .none kV8 dc8 pm8 an8 cd8 ct8), sl8⟩) (c8 : PySem.W.codeIn K cd8 "want_lines" = true) (k8 : PySem.W.keepIn K (.ref f8) = true)
  {f9 : Addr} {od9 an9 : Option Addr} {sl9 : Array (Option Value)} {oc9 kV9 dc9 pm9 cd9 ct9 : Value}
  (a9 : PySem.W.nsIn K mainGlobals "want_patch" = some (some (.ref f9))) (l9 : K.lookup f9 = some ⟨oc9, od9, .func (PySem.W.fnOf "want_patch" "want_patch" (defArgs st_want_patch) (defBody st_want_patch) (defScope st_want_patch) .none kV9 dc9 pm9 an9 cd9 ct9), sl9⟩) (c9 : PySem.W.codeIn K cd9 "want_patch" = true) (k9 : PySem.W.keepIn K (.ref f9) = true)
  {f10 : Addr} {od10 an10 : Option Addr} {sl10 : Array (Option Value)} {oc10 kV10 dc10 pm10 cd10 ct10 : Value}
  (a10 : PySem.W.nsIn K mainGlobals "trace_of" = some (some (.ref f10))) (l10 : K.lookup f10 = some ⟨oc10, od10, .func (PySem.W.fnOf "trace_of" "trace_of" (defArgs st_trace_of) (defBody st_trace_of) (defScope st_trace_of) .none kV10 dc10 pm10 an10 cd10 ct10), sl10⟩) (c10 : PySem.W.codeIn K cd10 "trace_of" = true) (k10 : PySem.W.keepIn K (.ref f10) = true)
  {f11 : Addr} {od11 an11 : Option Addr} {sl11 : Array (Option Value)} {oc11 kV11 dc11 pm11 cd11 ct11 : Value}
  (a11 : PySem.W.nsIn K mainGlobals "edits_put_together" = some (some (.ref f11))) (l11 : K.lookup f11 = some ⟨oc11, od11, .func (PySem.W.fnOf "edits_put_together" "edits_put_together" (defArgs st_edits_put_together) (defBody st_edits_put_together) (defScope st_edits_put_together) .none kV11 dc11 pm11 an11 cd11 ct11), sl11⟩) (c11 : PySem.W.codeIn K cd11 "edits_put_together" = true) (k11 : PySem.W.keepIn K (.ref f11) = true)
  {f12 : Addr} {od12 an12 : Option Addr} {sl12 : Array (Option Value)} {oc12 kV12 dc12 pm12 cd12 ct12 : Value}
  (a12 : PySem.W.nsIn K mainGlobals "patch_of_trace" = some (some (.ref f12))) (l12 : K.lookup f12 = some ⟨oc12, od12, .func (PySem.W.fnOf "patch_of_trace" "patch_of_trace" (defArgs st_patch_of_trace) (defBody st_patch_of_trace) (defScope st_patch_of_trace) .none kV12 dc12 pm12 an12 cd12 ct12), sl12⟩) (c12 : PySem.W.codeIn K cd12 "patch_of_trace" = true) (k12 : PySem.W.keepIn K (.ref f12) = true)
  {f13 : Addr} {od13 an13 : Option Addr} {sl13 : Array (Option Value)} {oc13 kV13 dc13 pm13 cd13 ct13 : Value}
  (a13 : PySem.W.nsIn K mainGlobals "lines_patched" = some (some (.ref f13))) (l13 : K.lookup f13 = some ⟨oc13, od13, .func (PySem.W.fnOf "lines_patched" "lines_patched" (defArgs st_lines_patched) (defBody st_lines_patched) (defScope st_lines_patched) .none kV13 dc13 pm13 an13 cd13 ct13), sl13⟩) (c13 : PySem.W.codeIn K cd13 "lines_patched" = true) (k13 : PySem.W.keepIn K (.ref f13) = true)
  {f14 : Addr} {od14 an14 : Option Addr} {sl14 : Array (Option Value)} {oc14 kV14 dc14 pm14 cd14 ct14 : Value}
  (a14 : PySem.W.nsIn K mainGlobals "cost_of_patch" = some (some (.ref f14))) (l14 : K.lookup f14 = some ⟨oc14, od14, .func (PySem.W.fnOf "cost_of_patch" "cost_of_patch" (defArgs st_cost_of_patch) (defBody st_cost_of_patch) (defScope st_cost_of_patch) .none kV14 dc14 pm14 an14 cd14 ct14), sl14⟩) (c14 : PySem.W.codeIn K cd14 "cost_of_patch" = true) (k14 : PySem.W.keepIn K (.ref f14) = true)
  {f15 : Addr} {od15 an15 : Option Addr} {sl15 : Array (Option Value)} {oc15 kV15 dc15 pm15 cd15 ct15 : Value}
  (a15 : PySem.W.nsIn K mainGlobals "is_patch" = some (some (.ref f15))) (l15 : K.lookup f15 = some ⟨oc15, od15, .func (PySem.W.fnOf "is_patch" "is_patch" (defArgs st_is_patch) (defBody st_is_patch) (defScope st_is_patch) .none kV15 dc15 pm15 an15 cd15 ct15), sl15⟩) (c15 : PySem.W.codeIn K cd15 "is_patch" = true) (k15 : PySem.W.keepIn K (.ref f15) = true)
  {f16 : Addr} {od16 an16 : Option Addr} {sl16 : Array (Option Value)} {oc16 kV16 dc16 pm16 cd16 ct16 : Value}
  (a16 : PySem.W.nsIn K mainGlobals "patched" = some (some (.ref f16))) (l16 : K.lookup f16 = some ⟨oc16, od16, .func (PySem.W.fnOf "patched" "patched" (defArgs st_patched) (defBody st_patched) (defScope st_patched) .none kV16 dc16 pm16 an16 cd16 ct16), sl16⟩) (c16 : PySem.W.codeIn K cd16 "patched" = true) (k16 : PySem.W.keepIn K (.ref f16) = true)
  {f17 : Addr} {od17 an17 : Option Addr} {sl17 : Array (Option Value)} {oc17 kV17 dc17 pm17 cd17 ct17 : Value}
  (a17 : PySem.W.nsIn K mainGlobals "patch_cost" = some (some (.ref f17))) (l17 : K.lookup f17 = some ⟨oc17, od17, .func (PySem.W.fnOf "patch_cost" "patch_cost" (defArgs st_patch_cost) (defBody st_patch_cost) (defScope st_patch_cost) .none kV17 dc17 pm17 an17 cd17 ct17), sl17⟩) (c17 : PySem.W.codeIn K cd17 "patch_cost" = true) (k17 : PySem.W.keepIn K (.ref f17) = true)
  {f18 : Addr} {od18 an18 : Option Addr} {sl18 : Array (Option Value)} {oc18 kV18 dc18 pm18 cd18 ct18 : Value}
  (a18 : PySem.W.nsIn K mainGlobals "normalized" = some (some (.ref f18))) (l18 : K.lookup f18 = some ⟨oc18, od18, .func (PySem.W.fnOf "normalized" "normalized" (defArgs st_normalized) (defBody st_normalized) (defScope st_normalized) .none kV18 dc18 pm18 an18 cd18 ct18), sl18⟩) (c18 : PySem.W.codeIn K cd18 "normalized" = true) (k18 : PySem.W.keepIn K (.ref f18) = true)
  {f19 : Addr} {od19 an19 : Option Addr} {sl19 : Array (Option Value)} {oc19 kV19 dc19 pm19 cd19 ct19 : Value}
  (a19 : PySem.W.nsIn K mainGlobals "turned_about" = some (some (.ref f19))) (l19 : K.lookup f19 = some ⟨oc19, od19, .func (PySem.W.fnOf "turned_about" "turned_about" (defArgs st_turned_about) (defBody st_turned_about) (defScope st_turned_about) .none kV19 dc19 pm19 an19 cd19 ct19), sl19⟩) (c19 : PySem.W.codeIn K cd19 "turned_about" = true) (k19 : PySem.W.keepIn K (.ref f19) = true)
  {f20 : Addr} {od20 an20 : Option Addr} {sl20 : Array (Option Value)} {oc20 kV20 dc20 pm20 cd20 ct20 : Value}
  (a20 : PySem.W.nsIn K mainGlobals "joined_patch" = some (some (.ref f20))) (l20 : K.lookup f20 = some ⟨oc20, od20, .func (PySem.W.fnOf "joined_patch" "joined_patch" (defArgs st_joined_patch) (defBody st_joined_patch) (defScope st_joined_patch) .none kV20 dc20 pm20 an20 cd20 ct20), sl20⟩) (c20 : PySem.W.codeIn K cd20 "joined_patch" = true) (k20 : PySem.W.keepIn K (.ref f20) = true)
  {f21 : Addr} {od21 an21 : Option Addr} {sl21 : Array (Option Value)} {oc21 kV21 dc21 pm21 cd21 ct21 : Value}
  (a21 : PySem.W.nsIn K mainGlobals "_law_pot" = some (some (.ref f21))) (l21 : K.lookup f21 = some ⟨oc21, od21, .func (PySem.W.fnOf "_law_pot" "_law_pot" (defArgs st__law_pot) (defBody st__law_pot) (defScope st__law_pot) .none kV21 dc21 pm21 an21 cd21 ct21), sl21⟩) (c21 : PySem.W.codeIn K cd21 "_law_pot" = true) (k21 : PySem.W.keepIn K (.ref f21) = true)
  {f22 : Addr} {od22 an22 : Option Addr} {sl22 : Array (Option Value)} {oc22 kV22 dc22 pm22 cd22 ct22 : Value}
  (a22 : PySem.W.nsIn K mainGlobals "_law_draw" = some (some (.ref f22))) (l22 : K.lookup f22 = some ⟨oc22, od22, .func (PySem.W.fnOf "_law_draw" "_law_draw" (defArgs st__law_draw) (defBody st__law_draw) (defScope st__law_draw) .none kV22 dc22 pm22 an22 cd22 ct22), sl22⟩) (c22 : PySem.W.codeIn K cd22 "_law_draw" = true) (k22 : PySem.W.keepIn K (.ref f22) = true)
  {f23 : Addr} {od23 an23 : Option Addr} {sl23 : Array (Option Value)} {oc23 kV23 dc23 pm23 cd23 ct23 : Value}
  (a23 : PySem.W.nsIn K mainGlobals "_law_pick" = some (some (.ref f23))) (l23 : K.lookup f23 = some ⟨oc23, od23, .func (PySem.W.fnOf "_law_pick" "_law_pick" (defArgs st__law_pick) (defBody st__law_pick) (defScope st__law_pick) .none kV23 dc23 pm23 an23 cd23 ct23), sl23⟩) (c23 : PySem.W.codeIn K cd23 "_law_pick" = true) (k23 : PySem.W.keepIn K (.ref f23) = true)
  {f24 : Addr} {od24 an24 : Option Addr} {sl24 : Array (Option Value)} {oc24 kV24 dc24 pm24 cd24 ct24 : Value}
  (a24 : PySem.W.nsIn K mainGlobals "_law_some_lines" = some (some (.ref f24))) (l24 : K.lookup f24 = some ⟨oc24, od24, .func (PySem.W.fnOf "_law_some_lines" "_law_some_lines" (defArgs st__law_some_lines) (defBody st__law_some_lines) (defScope st__law_some_lines) .none kV24 dc24 pm24 an24 cd24 ct24), sl24⟩) (c24 : PySem.W.codeIn K cd24 "_law_some_lines" = true) (k24 : PySem.W.keepIn K (.ref f24) = true)
  {f25 : Addr} {od25 an25 : Option Addr} {sl25 : Array (Option Value)} {oc25 kV25 dc25 pm25 cd25 ct25 : Value}
  (a25 : PySem.W.nsIn K mainGlobals "_law_marks" = some (some (.ref f25))) (l25 : K.lookup f25 = some ⟨oc25, od25, .func (PySem.W.fnOf "_law_marks" "_law_marks" (defArgs st__law_marks) (defBody st__law_marks) (defScope st__law_marks) .none kV25 dc25 pm25 an25 cd25 ct25), sl25⟩) (c25 : PySem.W.codeIn K cd25 "_law_marks" = true) (k25 : PySem.W.keepIn K (.ref f25) = true)
  {f26 : Addr} {od26 an26 : Option Addr} {sl26 : Array (Option Value)} {oc26 kV26 dc26 pm26 cd26 ct26 : Value}
  (a26 : PySem.W.nsIn K mainGlobals "_law_edits" = some (some (.ref f26))) (l26 : K.lookup f26 = some ⟨oc26, od26, .func (PySem.W.fnOf "_law_edits" "_law_edits" (defArgs st__law_edits) (defBody st__law_edits) (defScope st__law_edits) .none kV26 dc26 pm26 an26 cd26 ct26), sl26⟩) (c26 : PySem.W.codeIn K cd26 "_law_edits" = true) (k26 : PySem.W.keepIn K (.ref f26) = true)
  {f27 : Addr} {od27 an27 : Option Addr} {sl27 : Array (Option Value)} {oc27 kV27 dc27 pm27 cd27 ct27 : Value}
  (a27 : PySem.W.nsIn K mainGlobals "_law_normal" = some (some (.ref f27))) (l27 : K.lookup f27 = some ⟨oc27, od27, .func (PySem.W.fnOf "_law_normal" "_law_normal" (defArgs st__law_normal) (defBody st__law_normal) (defScope st__law_normal) .none kV27 dc27 pm27 an27 cd27 ct27), sl27⟩) (c27 : PySem.W.codeIn K cd27 "_law_normal" = true) (k27 : PySem.W.keepIn K (.ref f27) = true)
  {f28 : Addr} {od28 an28 : Option Addr} {sl28 : Array (Option Value)} {oc28 kV28 dc28 pm28 cd28 ct28 : Value}
  (a28 : PySem.W.nsIn K mainGlobals "_law_behind" = some (some (.ref f28))) (l28 : K.lookup f28 = some ⟨oc28, od28, .func (PySem.W.fnOf "_law_behind" "_law_behind" (defArgs st__law_behind) (defBody st__law_behind) (defScope st__law_behind) .none kV28 dc28 pm28 an28 cd28 ct28), sl28⟩) (c28 : PySem.W.codeIn K cd28 "_law_behind" = true) (k28 : PySem.W.keepIn K (.ref f28) = true)
  {f29 : Addr} {od29 an29 : Option Addr} {sl29 : Array (Option Value)} {oc29 kV29 dc29 pm29 cd29 ct29 : Value}
  (a29 : PySem.W.nsIn K mainGlobals "_law_turned_marks" = some (some (.ref f29))) (l29 : K.lookup f29 = some ⟨oc29, od29, .func (PySem.W.fnOf "_law_turned_marks" "_law_turned_marks" (defArgs st__law_turned_marks) (defBody st__law_turned_marks) (defScope st__law_turned_marks) .none kV29 dc29 pm29 an29 cd29 ct29), sl29⟩) (c29 : PySem.W.codeIn K cd29 "_law_turned_marks" = true) (k29 : PySem.W.keepIn K (.ref f29) = true)
  {f30 : Addr} {od30 an30 : Option Addr} {sl30 : Array (Option Value)} {oc30 kV30 dc30 pm30 cd30 ct30 : Value}
  (a30 : PySem.W.nsIn K mainGlobals "_law_joined_marks" = some (some (.ref f30))) (l30 : K.lookup f30 = some ⟨oc30, od30, .func (PySem.W.fnOf "_law_joined_marks" "_law_joined_marks" (defArgs st__law_joined_marks) (defBody st__law_joined_marks) (defScope st__law_joined_marks) .none kV30 dc30 pm30 an30 cd30 ct30), sl30⟩) (c30 : PySem.W.codeIn K cd30 "_law_joined_marks" = true) (k30 : PySem.W.keepIn K (.ref f30) = true)
  {f31 : Addr} {od31 an31 : Option Addr} {sl31 : Array (Option Value)} {oc31 kV31 dc31 pm31 cd31 ct31 : Value}
  (a31 : PySem.W.nsIn K mainGlobals "_law_right" = some (some (.ref f31))) (l31 : K.lookup f31 = some ⟨oc31, od31, .func (PySem.W.fnOf "_law_right" "_law_right" (defArgs st__law_right) (defBody st__law_right) (defScope st__law_right) .none kV31 dc31 pm31 an31 cd31 ct31), sl31⟩) (c31 : PySem.W.codeIn K cd31 "_law_right" = true) (k31 : PySem.W.keepIn K (.ref f31) = true)
  {f32 : Addr} {od32 an32 : Option Addr} {sl32 : Array (Option Value)} {oc32 kV32 dc32 pm32 cd32 ct32 : Value}
  (a32 : PySem.W.nsIn K mainGlobals "_law_is_one" = some (some (.ref f32))) (l32 : K.lookup f32 = some ⟨oc32, od32, .func (PySem.W.fnOf "_law_is_one" "_law_is_one" (defArgs st__law_is_one) (defBody st__law_is_one) (defScope st__law_is_one) .none kV32 dc32 pm32 an32 cd32 ct32), sl32⟩) (c32 : PySem.W.codeIn K cd32 "_law_is_one" = true) (k32 : PySem.W.keepIn K (.ref f32) = true)
  {f33 : Addr} {od33 an33 : Option Addr} {sl33 : Array (Option Value)} {oc33 kV33 dc33 pm33 cd33 ct33 : Value}
  (a33 : PySem.W.nsIn K mainGlobals "_law_values_right" = some (some (.ref f33))) (l33 : K.lookup f33 = some ⟨oc33, od33, .func (PySem.W.fnOf "_law_values_right" "_law_values_right" (defArgs st__law_values_right) (defBody st__law_values_right) (defScope st__law_values_right) .none kV33 dc33 pm33 an33 cd33 ct33), sl33⟩) (c33 : PySem.W.codeIn K cd33 "_law_values_right" = true) (k33 : PySem.W.keepIn K (.ref f33) = true)
  {f34 : Addr} {od34 an34 : Option Addr} {sl34 : Array (Option Value)} {oc34 kV34 dc34 pm34 cd34 ct34 : Value}
  (a34 : PySem.W.nsIn K mainGlobals "law" = some (some (.ref f34))) (l34 : K.lookup f34 = some ⟨oc34, od34, .func (PySem.W.fnOf "law" "law" (defArgs st_law) (defBody st_law) (defScope st_law) .none kV34 dc34 pm34 an34 cd34 ct34), sl34⟩) (c34 : PySem.W.codeIn K cd34 "law" = true) (k34 : PySem.W.keepIn K (.ref f34) = true)
  {tk_KEEP : Tok} (v_KEEP : PySem.W.nsIn K mainGlobals "KEEP" = some (some (.str "keep" tk_KEEP)))
  {tk_TAKE : Tok} (v_TAKE : PySem.W.nsIn K mainGlobals "TAKE" = some (some (.str "take" tk_TAKE)))
  {tk_PUT : Tok} (v_PUT : PySem.W.nsIn K mainGlobals "PUT" = some (some (.str "put" tk_PUT)))
  {tk_MOST_LINES : Tok} (v_MOST_LINES : PySem.W.nsIn K mainGlobals "MOST_LINES" = some (some (.int 200 tk_MOST_LINES)))
  {tk_MOST_LINE : Tok} (v_MOST_LINE : PySem.W.nsIn K mainGlobals "MOST_LINE" = some (some (.int 2000 tk_MOST_LINE)))
  {tk_MOST_EDITS : Tok} (v_MOST_EDITS : PySem.W.nsIn K mainGlobals "MOST_EDITS" = some (some (.int 400 tk_MOST_EDITS)))
  (n_abs : PySem.W.nsIn K mainGlobals "abs" = some none)
  (n_all : PySem.W.nsIn K mainGlobals "all" = some none)
  (n_bool : PySem.W.nsIn K mainGlobals "bool" = some none)
  (n_dict : PySem.W.nsIn K mainGlobals "dict" = some none)
  (n_divmod : PySem.W.nsIn K mainGlobals "divmod" = some none)
  (n_enumerate : PySem.W.nsIn K mainGlobals "enumerate" = some none)
  (n_int : PySem.W.nsIn K mainGlobals "int" = some none)
  (n_isinstance : PySem.W.nsIn K mainGlobals "isinstance" = some none)
  (n_len : PySem.W.nsIn K mainGlobals "len" = some none)
  (n_list : PySem.W.nsIn K mainGlobals "list" = some none)
  (n_max : PySem.W.nsIn K mainGlobals "max" = some none)
  (n_min : PySem.W.nsIn K mainGlobals "min" = some none)
  (n_range : PySem.W.nsIn K mainGlobals "range" = some none)
  (n_repr : PySem.W.nsIn K mainGlobals "repr" = some none)
  (n_str : PySem.W.nsIn K mainGlobals "str" = some none)
  (n_sum : PySem.W.nsIn K mainGlobals "sum" = some none)
  (n_tuple : PySem.W.nsIn K mainGlobals "tuple" = some none)
  : ∃ fd : FuncData, (∀ (s : Shared) (v : Value), BindsTo s fd ⟨[v], []⟩ [("script", v)]) ∧ ∀ base : Heap, K.In base → base.Ns mainGlobals mg → FnOkG l.prog w K mg base CX0 8 fa fd ["script"] (spLaw K) := by
  have e := hfa.symm.trans (PySem.W.mg_of X G a34)
  cases e
  have F0 := fun_mk (st := st_is_integer) l0 c0 k0
  have b0 := F0.binds (ps := ["value"]) fun _ _ _ _ _ _ us hl => match us, hl with | [_], _ => rfl
  have F1 := fun_mk (st := st_is_count) l1 c1 k1
  have b1 := F1.binds (ps := ["value"]) fun _ _ _ _ _ _ us hl => match us, hl with | [_], _ => rfl
  have F2 := fun_mk (st := st_is_list) l2 c2 k2
  have b2 := F2.binds (ps := ["value"]) fun _ _ _ _ _ _ us hl => match us, hl with | [_], _ => rfl
  have F3 := fun_mk (st := st_is_tuple) l3 c3 k3
  have b3 := F3.binds (ps := ["value", "many"]) fun _ _ _ _ _ _ us hl => match us, hl with | [_, _], _ => rfl
  have F4 := fun_mk (st := st_is_line_any) l4 c4 k4
  have b4 := F4.binds (ps := ["value"]) fun _ _ _ _ _ _ us hl => match us, hl with | [_], _ => rfl
  have F5 := fun_mk (st := st_are_lines_any) l5 c5 k5
  have b5 := F5.binds (ps := ["value"]) fun _ _ _ _ _ _ us hl => match us, hl with | [_], _ => rfl
  have F6 := fun_mk (st := st_is_edit_any) l6 c6 k6
  have b6 := F6.binds (ps := ["value"]) fun _ _ _ _ _ _ us hl => match us, hl with | [_], _ => rfl
  have F7 := fun_mk (st := st_is_patch_of) l7 c7 k7
  have b7 := F7.binds (ps := ["lines", "value"]) fun _ _ _ _ _ _ us hl => match us, hl with | [_, _], _ => rfl
  have F8 := fun_mk (st := st_want_lines) l8 c8 k8
  have b8 := F8.binds (ps := ["lines"]) fun _ _ _ _ _ _ us hl => match us, hl with | [_], _ => rfl
  have F9 := fun_mk (st := st_want_patch) l9 c9 k9
  have b9 := F9.binds (ps := ["lines", "patch"]) fun _ _ _ _ _ _ us hl => match us, hl with | [_, _], _ => rfl
  have F10 := fun_mk (st := st_trace_of) l10 c10 k10
  have b10 := F10.binds (ps := ["lines", "patch"]) fun _ _ _ _ _ _ us hl => match us, hl with | [_, _], _ => rfl
  have F11 := fun_mk (st := st_edits_put_together) l11 c11 k11
  have b11 := F11.binds (ps := ["edits"]) fun _ _ _ _ _ _ us hl => match us, hl with | [_], _ => rfl
  have F12 := fun_mk (st := st_patch_of_trace) l12 c12 k12
  have b12 := F12.binds (ps := ["many", "trace"]) fun _ _ _ _ _ _ us hl => match us, hl with | [_, _], _ => rfl
  have F13 := fun_mk (st := st_lines_patched) l13 c13 k13
  have b13 := F13.binds (ps := ["lines", "patch"]) fun _ _ _ _ _ _ us hl => match us, hl with | [_, _], _ => rfl
  have F14 := fun_mk (st := st_cost_of_patch) l14 c14 k14
  have b14 := F14.binds (ps := ["patch"]) fun _ _ _ _ _ _ us hl => match us, hl with | [_], _ => rfl
  have F15 := fun_mk (st := st_is_patch) l15 c15 k15
  have b15 := F15.binds (ps := ["lines", "value"]) fun _ _ _ _ _ _ us hl => match us, hl with | [_, _], _ => rfl
  have F16 := fun_mk (st := st_patched) l16 c16 k16
  have b16 := F16.binds (ps := ["lines", "patch"]) fun _ _ _ _ _ _ us hl => match us, hl with | [_, _], _ => rfl
  have F17 := fun_mk (st := st_patch_cost) l17 c17 k17
  have b17 := F17.binds (ps := ["lines", "patch"]) fun _ _ _ _ _ _ us hl => match us, hl with | [_, _], _ => rfl
  have F18 := fun_mk (st := st_normalized) l18 c18 k18
  have b18 := F18.binds (ps := ["lines", "patch"]) fun _ _ _ _ _ _ us hl => match us, hl with | [_, _], _ => rfl
  have F19 := fun_mk (st := st_turned_about) l19 c19 k19
  have b19 := F19.binds (ps := ["lines", "patch"]) fun _ _ _ _ _ _ us hl => match us, hl with | [_, _], _ => rfl
  have F20 := fun_mk (st := st_joined_patch) l20 c20 k20
  have b20 := F20.binds (ps := ["lines", "patch", "far"]) fun _ _ _ _ _ _ us hl => match us, hl with | [_, _, _], _ => rfl
  have F21 := fun_mk (st := st__law_pot) l21 c21 k21
  have b21 := F21.binds (ps := ["script", "k"]) fun _ _ _ _ _ _ us hl => match us, hl with | [_, _], _ => rfl
  have F22 := fun_mk (st := st__law_draw) l22 c22 k22
  have b22 := F22.binds (ps := ["pot", "many"]) fun _ _ _ _ _ _ us hl => match us, hl with | [_, _], _ => rfl
  have F23 := fun_mk (st := st__law_pick) l23 c23 k23
  have b23 := F23.binds (ps := ["pot", "some"]) fun _ _ _ _ _ _ us hl => match us, hl with | [_, _], _ => rfl
  have F24 := fun_mk (st := st__law_some_lines) l24 c24 k24
  have b24 := F24.binds (ps := ["pot", "most"]) fun _ _ _ _ _ _ us hl => match us, hl with | [_, _], _ => rfl
  have F25 := fun_mk (st := st__law_marks) l25 c25 k25
  have b25 := F25.binds (ps := ["pot", "lines"]) fun _ _ _ _ _ _ us hl => match us, hl with | [_, _], _ => rfl
  have F26 := fun_mk (st := st__law_edits) l26 c26 k26
  have b26 := F26.binds (ps := ["pot", "marks"]) fun _ _ _ _ _ _ us hl => match us, hl with | [_, _], _ => rfl
  have F27 := fun_mk (st := st__law_normal) l27 c27 k27
  have b27 := F27.binds (ps := ["marks"]) fun _ _ _ _ _ _ us hl => match us, hl with | [_], _ => rfl
  have F28 := fun_mk (st := st__law_behind) l28 c28 k28
  have b28 := F28.binds (ps := ["marks"]) fun _ _ _ _ _ _ us hl => match us, hl with | [_], _ => rfl
  have F29 := fun_mk (st := st__law_turned_marks) l29 c29 k29
  have b29 := F29.binds (ps := ["marks"]) fun _ _ _ _ _ _ us hl => match us, hl with | [_], _ => rfl
  have F30 := fun_mk (st := st__law_joined_marks) l30 c30 k30
  have b30 := F30.binds (ps := ["near", "far"]) fun _ _ _ _ _ _ us hl => match us, hl with | [_, _], _ => rfl
  have F31 := fun_mk (st := st__law_right) l31 c31 k31
  have b31 := F31.binds (ps := ["pot"]) fun _ _ _ _ _ _ us hl => match us, hl with | [_], _ => rfl
  have F32 := fun_mk (st := st__law_is_one) l32 c32 k32
  have b32 := F32.binds (ps := ["lines", "value"]) fun _ _ _ _ _ _ us hl => match us, hl with | [_, _], _ => rfl
  have F33 := fun_mk (st := st__law_values_right) l33 c33 k33
  have b33 := F33.binds (ps := ["pot", "lines", "patch"]) fun _ _ _ _ _ _ us hl => match us, hl with | [_, _, _], _ => rfl
  have F34 := fun_mk (st := st_law) l34 c34 k34
  have b34 := F34.binds (ps := ["script"]) fun _ _ _ _ _ _ us hl => match us, hl with | [_], _ => rfl
  let T : Txt K mg := { f_is_integer := f0, fd_is_integer := _, F_is_integer := F0, b_is_integer := b0, g_is_integer := PySem.W.mg_of X G a0, f_is_count := f1, fd_is_count := _, F_is_count := F1, b_is_count := b1, g_is_count := PySem.W.mg_of X G a1, f_is_list := f2, fd_is_list := _, F_is_list := F2, b_is_list := b2, g_is_list := PySem.W.mg_of X G a2, f_is_tuple := f3, fd_is_tuple := _, F_is_tuple := F3, b_is_tuple := b3, g_is_tuple := PySem.W.mg_of X G a3, f_is_line_any := f4, fd_is_line_any := _, F_is_line_any := F4, b_is_line_any := b4, g_is_line_any := PySem.W.mg_of X G a4, f_are_lines_any := f5, fd_are_lines_any := _, F_are_lines_any := F5, b_are_lines_any := b5, g_are_lines_any := PySem.W.mg_of X G a5, f_is_edit_any := f6, fd_is_edit_any := _, F_is_edit_any := F6, b_is_edit_any := b6, g_is_edit_any := PySem.W.mg_of X G a6, f_is_patch_of := f7, fd_is_patch_of := _, F_is_patch_of := F7, b_is_patch_of := b7, g_is_patch_of := PySem.W.mg_of X G a7, f_want_lines := f8, fd_want_lines := _, F_want_lines := F8, b_want_lines := b8, g_want_lines := PySem.W.mg_of X G a8, f_want_patch := f9, fd_want_patch := _, F_want_patch := F9, b_want_patch := b9, g_want_patch := PySem.W.mg_of X G a9, f_trace_of := f10, fd_trace_of := _, F_trace_of := F10, b_trace_of := b10, g_trace_of := PySem.W.mg_of X G a10, f_edits_put_together := f11, fd_edits_put_together := _, F_edits_put_together := F11, b_edits_put_together := b11, g_edits_put_together := PySem.W.mg_of X G a11, f_patch_of_trace := f12, fd_patch_of_trace := _, F_patch_of_trace := F12, b_patch_of_trace := b12, g_patch_of_trace := PySem.W.mg_of X G a12, f_lines_patched := f13, fd_lines_patched := _, F_lines_patched := F13, b_lines_patched := b13, g_lines_patched := PySem.W.mg_of X G a13, f_cost_of_patch := f14, fd_cost_of_patch := _, F_cost_of_patch := F14, b_cost_of_patch := b14, g_cost_of_patch := PySem.W.mg_of X G a14, f_is_patch := f15, fd_is_patch := _, F_is_patch := F15, b_is_patch := b15, g_is_patch := PySem.W.mg_of X G a15, k_is_patch_value_lines := kbinds_perm (by decide) (fun s ws hl => match ws, hl with | w0 :: w1 :: _, _ => .of_eq rfl | [], hl => nomatch hl | [_], hl => nomatch hl), f_patched := f16, fd_patched := _, F_patched := F16, b_patched := b16, g_patched := PySem.W.mg_of X G a16, f_patch_cost := f17, fd_patch_cost := _, F_patch_cost := F17, b_patch_cost := b17, g_patch_cost := PySem.W.mg_of X G a17, f_normalized := f18, fd_normalized := _, F_normalized := F18, b_normalized := b18, g_normalized := PySem.W.mg_of X G a18, k_normalized_patch_lines := kbinds_perm (by decide) (fun s ws hl => match ws, hl with | w0 :: w1 :: _, _ => .of_eq rfl | [], hl => nomatch hl | [_], hl => nomatch hl), f_turned_about := f19, fd_turned_about := _, F_turned_about := F19, b_turned_about := b19, g_turned_about := PySem.W.mg_of X G a19, k_turned_about_patch_lines := kbinds_perm (by decide) (fun s ws hl => match ws, hl with | w0 :: w1 :: _, _ => .of_eq rfl | [], hl => nomatch hl | [_], hl => nomatch hl), f_joined_patch := f20, fd_joined_patch := _, F_joined_patch := F20, b_joined_patch := b20, g_joined_patch := PySem.W.mg_of X G a20, k_joined_patch_far_patch_lines := kbinds_perm (by decide) (fun s ws hl => match ws, hl with | w0 :: w1 :: w2 :: _, _ => .of_eq rfl | [], hl => nomatch hl | [_], hl => nomatch hl | [_, _], hl => nomatch hl), f__law_pot := f21, fd__law_pot := _, F__law_pot := F21, b__law_pot := b21, g__law_pot := PySem.W.mg_of X G a21, f__law_draw := f22, fd__law_draw := _, F__law_draw := F22, b__law_draw := b22, g__law_draw := PySem.W.mg_of X G a22, f__law_pick := f23, fd__law_pick := _, F__law_pick := F23, b__law_pick := b23, g__law_pick := PySem.W.mg_of X G a23, f__law_some_lines := f24, fd__law_some_lines := _, F__law_some_lines := F24, b__law_some_lines := b24, g__law_some_lines := PySem.W.mg_of X G a24, f__law_marks := f25, fd__law_marks := _, F__law_marks := F25, b__law_marks := b25, g__law_marks := PySem.W.mg_of X G a25, f__law_edits := f26, fd__law_edits := _, F__law_edits := F26, b__law_edits := b26, g__law_edits := PySem.W.mg_of X G a26, f__law_normal := f27, fd__law_normal := _, F__law_normal := F27, b__law_normal := b27, g__law_normal := PySem.W.mg_of X G a27, f__law_behind := f28, fd__law_behind := _, F__law_behind := F28, b__law_behind := b28, g__law_behind := PySem.W.mg_of X G a28, f__law_turned_marks := f29, fd__law_turned_marks := _, F__law_turned_marks := F29, b__law_turned_marks := b29, g__law_turned_marks := PySem.W.mg_of X G a29, f__law_joined_marks := f30, fd__law_joined_marks := _, F__law_joined_marks := F30, b__law_joined_marks := b30, g__law_joined_marks := PySem.W.mg_of X G a30, f__law_right := f31, fd__law_right := _, F__law_right := F31, b__law_right := b31, g__law_right := PySem.W.mg_of X G a31, f__law_is_one := f32, fd__law_is_one := _, F__law_is_one := F32, b__law_is_one := b32, g__law_is_one := PySem.W.mg_of X G a32, f__law_values_right := f33, fd__law_values_right := _, F__law_values_right := F33, b__law_values_right := b33, g__law_values_right := PySem.W.mg_of X G a33, f_law := fa, fd_law := _, F_law := F34, b_law := b34, g_law := PySem.W.mg_of X G a34, t_KEEP := tk_KEEP, c_KEEP := PySem.W.mg_of X G v_KEEP, t_TAKE := tk_TAKE, c_TAKE := PySem.W.mg_of X G v_TAKE, t_PUT := tk_PUT, c_PUT := PySem.W.mg_of X G v_PUT, t_MOST_LINES := tk_MOST_LINES, c_MOST_LINES := PySem.W.mg_of X G v_MOST_LINES, t_MOST_LINE := tk_MOST_LINE, c_MOST_LINE := PySem.W.mg_of X G v_MOST_LINE, t_MOST_EDITS := tk_MOST_EDITS, c_MOST_EDITS := PySem.W.mg_of X G v_MOST_EDITS, z_abs := PySem.W.mg_none_of X G n_abs, z_all := PySem.W.mg_none_of X G n_all, z_bool := PySem.W.mg_none_of X G n_bool, z_dict := PySem.W.mg_none_of X G n_dict, z_divmod := PySem.W.mg_none_of X G n_divmod, z_enumerate := PySem.W.mg_none_of X G n_enumerate, z_int := PySem.W.mg_none_of X G n_int, z_isinstance := PySem.W.mg_none_of X G n_isinstance, z_len := PySem.W.mg_none_of X G n_len, z_list := PySem.W.mg_none_of X G n_list, z_max := PySem.W.mg_none_of X G n_max, z_min := PySem.W.mg_none_of X G n_min, z_range := PySem.W.mg_none_of X G n_range, z_repr := PySem.W.mg_none_of X G n_repr, z_str := PySem.W.mg_none_of X G n_str, z_sum := PySem.W.mg_none_of X G n_sum, z_tuple := PySem.W.mg_none_of X G n_tuple }
  exact ⟨T.fd_law, fun s v => .of_eq rfl, fun base _ _ => ok_law T hg⟩
end K72
open PySem PySem.W PyProof.Rows
set_option maxHeartbeats 0 in
theorem PySem.Challenge.cw_formscountry_k72_whole_patches_that_are_holds : PySem.Challenge.rw_formscountry_k72_whole_patches_that_are.Holds := by
  w_on; o_law; k_head; (case hw => w_witness2)
  k_fill
  refine DL.walk_q (l := PySem.Challenge.rw_formscountry_k72_whole_patches_that_are) (k := 8) (x := "script") rfl rfl ⟨rfl, by decide, by decide⟩ (fun w h Y => PySem.W.kIn_of Y) ?F
  case F =>
    intro w mg fa h KX G hmg
    refine' K72.all_mk KX G hmg K72.law_true ?a0 ?l0 ?c0 ?k0 ?a1 ?l1 ?c1 ?k1 ?a2 ?l2 ?c2 ?k2 ?a3 ?l3 ?c3 ?k3 ?a4 ?l4 ?c4 ?k4 ?a5 ?l5 ?c5 ?k5 ?a6 ?l6 ?c6 ?k6 ?a7 ?l7 ?c7 ?k7 ?a8 ?l8 ?c8 ?k8 ?a9 ?l9 ?c9 ?k9 ?a10 ?l10 ?c10 ?k10 ?a11 ?l11 ?c11 ?k11 ?a12 ?l12 ?c12 ?k12 ?a13 ?l13 ?c13 ?k13 ?a14 ?l14 ?c14 ?k14 ?a15 ?l15 ?c15 ?k15 ?a16 ?l16 ?c16 ?k16 ?a17 ?l17 ?c17 ?k17 ?a18 ?l18 ?c18 ?k18 ?a19 ?l19 ?c19 ?k19 ?a20 ?l20 ?c20 ?k20 ?a21 ?l21 ?c21 ?k21 ?a22 ?l22 ?c22 ?k22 ?a23 ?l23 ?c23 ?k23 ?a24 ?l24 ?c24 ?k24 ?a25 ?l25 ?c25 ?k25 ?a26 ?l26 ?c26 ?k26 ?a27 ?l27 ?c27 ?k27 ?a28 ?l28 ?c28 ?k28 ?a29 ?l29 ?c29 ?k29 ?a30 ?l30 ?c30 ?k30 ?a31 ?l31 ?c31 ?k31 ?a32 ?l32 ?c32 ?k32 ?a33 ?l33 ?c33 ?k33 ?a34 ?l34 ?c34 ?k34 ?v_KEEP ?v_TAKE ?v_PUT ?v_MOST_LINES ?v_MOST_LINE ?v_MOST_EDITS ?n_abs ?n_all ?n_bool ?n_dict ?n_divmod ?n_enumerate ?n_int ?n_isinstance ?n_len ?n_list ?n_max ?n_min ?n_range ?n_repr ?n_str ?n_sum ?n_tuple
    (case a0 => k_is); (case l0 => k_is); (case c0 => k_is); (case k0 => k_is); (case a1 => k_is); (case l1 => k_is); (case c1 => k_is); (case k1 => k_is); (case a2 => k_is); (case l2 => k_is)
    (case c2 => k_is); (case k2 => k_is); (case a3 => k_is); (case l3 => k_is); (case c3 => k_is); (case k3 => k_is); (case a4 => k_is); (case l4 => k_is); (case c4 => k_is); (case k4 => k_is)
    (case a5 => k_is); (case l5 => k_is); (case c5 => k_is); (case k5 => k_is); (case a6 => k_is); (case l6 => k_is); (case c6 => k_is); (case k6 => k_is); (case a7 => k_is); (case l7 => k_is)
    (case c7 => k_is); (case k7 => k_is); (case a8 => k_is); (case l8 => k_is); (case c8 => k_is); (case k8 => k_is); (case a9 => k_is); (case l9 => k_is); (case c9 => k_is); (case k9 => k_is)
    (case a10 => k_is); (case l10 => k_is); (case c10 => k_is); (case k10 => k_is); (case a11 => k_is); (case l11 => k_is); (case c11 => k_is); (case k11 => k_is); (case a12 => k_is); (case l12 => k_is)
    (case c12 => k_is); (case k12 => k_is); (case a13 => k_is); (case l13 => k_is); (case c13 => k_is); (case k13 => k_is); (case a14 => k_is); (case l14 => k_is); (case c14 => k_is); (case k14 => k_is)
    (case a15 => k_is); (case l15 => k_is); (case c15 => k_is); (case k15 => k_is); (case a16 => k_is); (case l16 => k_is); (case c16 => k_is); (case k16 => k_is); (case a17 => k_is); (case l17 => k_is)
    (case c17 => k_is); (case k17 => k_is); (case a18 => k_is); (case l18 => k_is); (case c18 => k_is); (case k18 => k_is); (case a19 => k_is); (case l19 => k_is); (case c19 => k_is); (case k19 => k_is)
    (case a20 => k_is); (case l20 => k_is); (case c20 => k_is); (case k20 => k_is); (case a21 => k_is); (case l21 => k_is); (case c21 => k_is); (case k21 => k_is); (case a22 => k_is); (case l22 => k_is)
    (case c22 => k_is); (case k22 => k_is); (case a23 => k_is); (case l23 => k_is); (case c23 => k_is); (case k23 => k_is); (case a24 => k_is); (case l24 => k_is); (case c24 => k_is); (case k24 => k_is)
    (case a25 => k_is); (case l25 => k_is); (case c25 => k_is); (case k25 => k_is); (case a26 => k_is); (case l26 => k_is); (case c26 => k_is); (case k26 => k_is); (case a27 => k_is); (case l27 => k_is)
    (case c27 => k_is); (case k27 => k_is); (case a28 => k_is); (case l28 => k_is); (case c28 => k_is); (case k28 => k_is); (case a29 => k_is); (case l29 => k_is); (case c29 => k_is); (case k29 => k_is)
    (case a30 => k_is); (case l30 => k_is); (case c30 => k_is); (case k30 => k_is); (case a31 => k_is); (case l31 => k_is); (case c31 => k_is); (case k31 => k_is); (case a32 => k_is); (case l32 => k_is)
    (case c32 => k_is); (case k32 => k_is); (case a33 => k_is); (case l33 => k_is); (case c33 => k_is); (case k33 => k_is); (case a34 => k_is); (case l34 => k_is); (case c34 => k_is); (case k34 => k_is)
    (case v_KEEP => k_is); (case v_TAKE => k_is); (case v_PUT => k_is); (case v_MOST_LINES => k_is); (case v_MOST_LINE => k_is); (case v_MOST_EDITS => k_is); (case n_abs => k_is); (case n_all => k_is); (case n_bool => k_is); (case n_dict => k_is)
    (case n_divmod => k_is); (case n_enumerate => k_is); (case n_int => k_is); (case n_isinstance => k_is); (case n_len => k_is); (case n_list => k_is); (case n_max => k_is); (case n_min => k_is); (case n_range => k_is); (case n_repr => k_is)
    (case n_str => k_is); (case n_sum => k_is); (case n_tuple => k_is)
