import PyProof.Rows.All
import Wide.All
import OpenK.AllK
import Wide.FinOn
import PyProof.EqAt
import PyProof.EqKinds
import PyProof.TupleCall
import HandS.ForMost
import HandS.ForExc
import HandS.IsInst
import HandS.TupAny
import HandS.TupMul
import HandS.Wide
import HandS.More
import HandS.Flow
import HandS.Deep
import HandS.TupSets
import HandS.ExcIs
import HandS.SetFor
import HandS.SortRule
import HandS.Style
import HandS.DeepEq
import HandS.Strs
import PySem.Challenge.RW_pursehall_k01_machines
set_option Elab.async false
set_option autoImplicit false
set_option linter.all false
set_option maxRecDepth 100000
set_option maxHeartbeats 4000000
/-! Lay1: data-level judgements over the hand layer: what stands in the slots, what an expression gives. -/
namespace Lay
open PySem L2
abbrev Fg := PySem.W.Frag

/-! ### growth -/
structure Gr (S H S' H' : Hp) : Prop where
  s : Same S S'
  h : Same H H'
  sh : Same S' H'
  old : ∀ a, H a ≠ none → S' a = S a
theorem Gr.refl {S H : Hp} (h : Same S H) : Gr S H S H := ⟨Same.refl _, Same.refl _, h, fun _ _ => rfl⟩
theorem nn_of {H : Hp} {a : Addr} {o : HO} (h : H a = some o) : H a ≠ none := by rw [h]; exact fun z => by cases z
theorem some_nn {H : Hp} {a : Addr} (h : H a ≠ none) : ∃ o, H a = some o := by
  cases e : H a with
  | none => exact absurd e h
  | some o => exact ⟨o, rfl⟩
theorem Same.nn {H H' : Hp} (k : Same H H') {a : Addr} (h : H a ≠ none) : H' a ≠ none := by
  obtain ⟨o, e⟩ := some_nn h
  rw [k _ _ e]; exact fun z => by cases z
theorem Gr.trans {S H S1 H1 S2 H2 : Hp} (a : Gr S H S1 H1) (b : Gr S1 H1 S2 H2) : Gr S H S2 H2 :=
  ⟨a.s.trans b.s, a.h.trans b.h, b.sh, fun x hx => (b.old x (Same.nn a.h hx)).trans (a.old x hx)⟩
theorem same_new {H : Hp} {p : Addr} {o : HO} (hp : H p = none) : Same H (upd H p o) := fun b u e => by
  rw [upd_ne (ne_of_none e hp)]; exact e
/-- a new object, frozen -/
theorem Gr.new {S H : Hp} {p : Addr} {o : HO} (h : Same S H) (hp : H p = none) : Gr S H (upd S p o) (upd H p o) := by
  have hs : S p = none := h.free hp
  refine ⟨same_new hs, same_new hp, fun b u e => ?_, fun b hb => ?_⟩
  · by_cases z : b = p
    · subst z; rw [upd_same] at e ⊢; exact e
    · rw [upd_ne z] at e ⊢; exact h _ _ e
  · have z : b ≠ p := fun z => hb (by rw [z]; exact hp)
    rw [upd_ne z]
/-- a new object, not frozen -/
theorem Gr.newH {S H : Hp} {p : Addr} {o : HO} (h : Same S H) (hp : H p = none) : Gr S H S (upd H p o) :=
  ⟨Same.refl _, same_new hp, h.trans (same_new hp), fun _ _ => rfl⟩
/-- an object that is new since H becomes frozen as it stands -/
theorem Gr.freeze {S H S' H' : Hp} {p : Addr} {o : HO} (g : Gr S H S' H') (hp : H p = none) (e : H' p = some o) (hs : S' p = none) : Gr S H (upd S' p o) H' := by
  refine ⟨fun b u q => ?_, g.h, fun b u q => ?_, fun b hb => ?_⟩
  · rw [upd_ne (fun z => by subst z; rw [g.s _ _ q] at hs; cases hs)]; exact g.s _ _ q
  · by_cases z : b = p
    · subst z; rw [upd_same] at q; cases q; exact e
    · rw [upd_ne z] at q; exact g.sh _ _ q
  · have z : b ≠ p := fun z => hb (by rw [z]; exact hp)
    rw [upd_ne z]; exact g.old b hb

theorem same_rd {S S' : Hp} (k : Same S S') {a : Addr} {u : HO} (h : Rd S a u) : Rd S' a u := by
  rcases h with h | ⟨o, h⟩
  · exact .inl (k _ _ h)
  · exact .inr ⟨o, k _ _ h⟩
theorem same_l {K : Fg} {S S' : Hp} (k : Same S S') {a : Addr} {xs : List V} (h : SqL K S a xs) : SqL K S' a xs := by
  rcases h with h | h
  · exact .inl (same_rd k h)
  · exact .inr h
theorem same_t {K : Fg} {S S' : Hp} (k : Same S S') {a : Addr} {xs : List V} (h : SqT K S a xs) : SqT K S' a xs := by
  rcases h with h | h
  · exact .inl (same_rd k h)
  · exact .inr h
/-- a caught exception of the class at c -/
def ExT (c a : Addr) : HO := .ext fun h => ∃ (oe : Obj) (vs : Array Value), h.get? a = some oe ∧ Zc (.ref c) none oe ∧ oe.data = .fields vs
/-- data: what a value is, told without the heap. scr: the law's script; exc: a caught exception of the class at c; ins: an instance that changes no more -/
inductive D where
  | non
  | bl (b : Bool)
  | int (i : Int)
  | str (x : Str)
  | lst (ds : List D)
  | tup (ds : List D)
  | scr (ns : List Int)
  | exc (c : Addr)
  | ins (C : Addr) (fs : List (Str × D))
mutual
inductive Rp (K : Fg) (S : Hp) : V → D → Prop where
  | non : Rp K S .non .non
  | bl (b : Bool) : Rp K S (.bl b) (.bl b)
  | int (i : Int) : Rp K S (.int i) (.int i)
  | str (x : Str) : Rp K S (.str x) (.str x)
  | lst {a : Addr} {xs : List V} {ds : List D} : S a = some (.lst xs) → RpA K S xs ds → Rp K S (.ref a) (.lst ds)
  | tup {a : Addr} {xs : List V} {ds : List D} : S a = some (.tup xs) → RpA K S xs ds → Rp K S (.ref a) (.tup ds)
  | scr {a : Addr} {ns : List Int} : SqL K S a (ns.map V.int) → Rp K S (.ref a) (.scr ns)
  | exc {a c : Addr} : S a = some (ExT c a) → Rp K S (.ref a) (.exc c)
  | ins {a C dx : Addr} {fv : List (Str × V)} {fs : List (Str × D)} : S a = some (.ins C dx fv) → RpF K S fv fs → Rp K S (.ref a) (.ins C fs)
inductive RpA (K : Fg) (S : Hp) : List V → List D → Prop where
  | nil : RpA K S [] []
  | cons {v : V} {d : D} {vs : List V} {ds : List D} : Rp K S v d → RpA K S vs ds → RpA K S (v :: vs) (d :: ds)
inductive RpF (K : Fg) (S : Hp) : List (Str × V) → List (Str × D) → Prop where
  | nil : RpF K S [] []
  | cons {n : Str} {v : V} {d : D} {vs : List (Str × V)} {ds : List (Str × D)} : Rp K S v d → RpF K S vs ds → RpF K S ((n, v) :: vs) ((n, d) :: ds)
end
mutual
theorem dp_same {K : Fg} {S S' : Hp} (k : Same S S') : ∀ {v : V} {d : D}, Rp K S v d → Rp K S' v d
  | _, _, .non => .non
  | _, _, .bl b => .bl b
  | _, _, .int i => .int i
  | _, _, .str x => .str x
  | _, _, .lst h a => .lst (k _ _ h) (da_same k a)
  | _, _, .tup h a => .tup (k _ _ h) (da_same k a)
  | _, _, .scr h => .scr (same_l k h)
  | _, _, .exc h => .exc (k _ _ h)
  | _, _, .ins h a => .ins (k _ _ h) (df_same k a)
theorem da_same {K : Fg} {S S' : Hp} (k : Same S S') : ∀ {vs : List V} {ds : List D}, RpA K S vs ds → RpA K S' vs ds
  | _, _, .nil => .nil
  | _, _, .cons h a => .cons (dp_same k h) (da_same k a)
theorem df_same {K : Fg} {S S' : Hp} (k : Same S S') : ∀ {vs : List (Str × V)} {ds : List (Str × D)}, RpF K S vs ds → RpF K S' vs ds
  | _, _, .nil => .nil
  | _, _, .cons h a => .cons (dp_same k h) (df_same k a)
end
theorem da_len {K : Fg} {S : Hp} : ∀ {vs : List V} {ds : List D}, RpA K S vs ds → vs.length = ds.length
  | _, _, .nil => rfl
  | _, _, .cons _ a => by simp only [List.length_cons, da_len a]
theorem da_get {K : Fg} {S : Hp} : ∀ {vs : List V} {ds : List D} {i : Nat} {d : D}, RpA K S vs ds → ds[i]? = some d → ∃ v, vs[i]? = some v ∧ Rp K S v d
  | _, _, _, _, .nil, e => by simp at e
  | _, _, 0, _, .cons h _, e => by simp at e; subst e; exact ⟨_, rfl, h⟩
  | _, _, i + 1, _, .cons _ a, e => by
    obtain ⟨v, h1, h2⟩ := da_get (i := i) a (by simpa using e)
    exact ⟨v, by simpa using h1, h2⟩
theorem da_get' {K : Fg} {S : Hp} {vs : List V} {ds : List D} {i : Nat} {v : V} (h : RpA K S vs ds) (e : vs[i]? = some v) : ∃ d, ds[i]? = some d ∧ Rp K S v d := by
  have hi : i < ds.length := by rw [← da_len h]; exact (List.getElem?_eq_some_iff.mp e).1
  obtain ⟨v', e', h'⟩ := da_get h (List.getElem?_eq_getElem hi)
  rw [e] at e'; cases e'
  exact ⟨_, List.getElem?_eq_getElem hi, h'⟩
theorem da_append {K : Fg} {S : Hp} : ∀ {vs ws : List V} {ds es : List D}, RpA K S vs ds → RpA K S ws es → RpA K S (vs ++ ws) (ds ++ es)
  | _, _, _, _, .nil, b => b
  | _, _, _, _, .cons h a, b => .cons h (da_append a b)
theorem da_one {K : Fg} {S : Hp} {v : V} {d : D} (h : Rp K S v d) : RpA K S [v] [d] := .cons h .nil
theorem da_set {K : Fg} {S : Hp} : ∀ {vs : List V} {ds : List D} {v : V} {d : D} (i : Nat), RpA K S vs ds → Rp K S v d → RpA K S (vs.set i v) (ds.set i d)
  | _, _, _, _, _, .nil, _ => .nil
  | _, _, _, _, 0, .cons _ a, h => .cons h a
  | _, _, _, _, i + 1, .cons q a, h => .cons q (da_set i a h)
theorem da_take {K : Fg} {S : Hp} : ∀ {vs : List V} {ds : List D} (n : Nat), RpA K S vs ds → RpA K S (vs.take n) (ds.take n)
  | _, _, 0, _ => by simp; exact .nil
  | _, _, _ + 1, .nil => .nil
  | _, _, n + 1, .cons h a => .cons h (da_take n a)
theorem da_drop {K : Fg} {S : Hp} : ∀ {vs : List V} {ds : List D} (n : Nat), RpA K S vs ds → RpA K S (vs.drop n) (ds.drop n)
  | _, _, 0, h => h
  | _, _, _ + 1, .nil => .nil
  | _, _, n + 1, .cons _ a => da_drop n a
theorem da_reverse {K : Fg} {S : Hp} : ∀ {vs : List V} {ds : List D}, RpA K S vs ds → RpA K S vs.reverse ds.reverse
  | _, _, .nil => .nil
  | _, _, .cons h a => by rw [List.reverse_cons, List.reverse_cons]; exact da_append (da_reverse a) (da_one h)
theorem da_dropLast {K : Fg} {S : Hp} {vs : List V} {ds : List D} (h : RpA K S vs ds) : RpA K S vs.dropLast ds.dropLast := by
  rw [List.dropLast_eq_take, List.dropLast_eq_take, da_len h]; exact da_take _ h
theorem da_insert {K : Fg} {S : Hp} {vs : List V} {ds : List D} {v : V} {d : D} (h : RpA K S vs ds) (q : Rp K S v d) : RpA K S (v :: vs) (d :: ds) := .cons q h
/-- flat lists -/
theorem da_ints {K : Fg} {S : Hp} : ∀ {vs : List V} {ns : List Int}, RpA K S vs (ns.map .int) → vs = ns.map V.int
  | _, [], h => by cases h; rfl
  | _, n :: ns, h => by
    cases h with
    | cons h a => cases h; rw [da_ints a]; rfl
theorem ints_da {K : Fg} {S : Hp} : ∀ (ns : List Int), RpA K S (ns.map V.int) (ns.map .int)
  | [] => .nil
  | n :: ns => .cons (.int n) (ints_da ns)
theorem da_bools {K : Fg} {S : Hp} : ∀ {vs : List V} {ns : List Bool}, RpA K S vs (ns.map .bl) → vs = ns.map V.bl
  | _, [], h => by cases h; rfl
  | _, n :: ns, h => by
    cases h with
    | cons h a => cases h; rw [da_bools a]; rfl
theorem bools_da {K : Fg} {S : Hp} : ∀ (ns : List Bool), RpA K S (ns.map V.bl) (ns.map .bl)
  | [] => .nil
  | n :: ns => .cons (.bl n) (bools_da ns)

/-! ### what stands in the slots -/
inductive FI where
  | fz (d : D)
  /-- an own list; oa: its address, where it is known -/
  | ow (oa : Option Addr) (ds : List D)
inductive It where
  /-- nothing known -/
  | no
  /-- data that will not change -/
  | fz (d : D)
  /-- a list of the frame's own -/
  | ow (ds : List D)
  /-- a dict of the frame's own, keys whole numbers -/
  | dk (kvs : List (Int × D))
  /-- an instance of the frame's own -/
  | ob (C : Addr) (oa : Option Addr) (fs : List (Str × FI))
  /-- a list of the frame's own, of lists of the frame's own -/
  | ll (xss : List (List D))
inductive LlR (K : Fg) (S H : Hp) : List (List D) → List V → List Addr → Prop where
  | nil : LlR K S H [] [] []
  | cons {xs : List D} {xss : List (List D)} {p : Addr} {ws vs : List V} {as : List Addr} : H p = some (.lst ws) → RpA K S ws xs → LlR K S H xss vs as → LlR K S H (xs :: xss) (.ref p :: vs) (p :: as)
inductive FIR (K : Fg) (S H : Hp) : FI → V → List Addr → Prop where
  | fz {d : D} {v : V} : Rp K S v d → FIR K S H (.fz d) v []
  | ow {oa : Option Addr} {ds : List D} {p : Addr} {vs : List V} : (∀ a, oa = some a → p = a) → H p = some (.lst vs) → RpA K S vs ds → FIR K S H (.ow oa ds) (.ref p) [p]
inductive FsR (K : Fg) (S H : Hp) : List (Str × FI) → List (Str × V) → List Addr → Prop where
  | nil : FsR K S H [] [] []
  | cons {n : Str} {f : FI} {v : V} {as bs : List Addr} {fs : List (Str × FI)} {vs : List (Str × V)} : FIR K S H f v as → FsR K S H fs vs bs → FsR K S H ((n, f) :: fs) ((n, v) :: vs) (as ++ bs)
inductive DkR (K : Fg) (S : Hp) : List (Int × D) → List (Key × V) → Prop where
  | nil : DkR K S [] []
  | cons {n : Int} {d : D} {v : V} {fs : List (Int × D)} {vs : List (Key × V)} : Rp K S v d → DkR K S fs vs → DkR K S ((n, d) :: fs) ((Sum.inl n, v) :: vs)
inductive ItR (K : Fg) (S H : Hp) : It → Option V → List Addr → Prop where
  | no (v : Option V) : ItR K S H .no v []
  | fz {d : D} {v : V} : Rp K S v d → ItR K S H (.fz d) (some v) []
  | ow {ds : List D} {p : Addr} {vs : List V} : H p = some (.lst vs) → RpA K S vs ds → ItR K S H (.ow ds) (some (.ref p)) [p]
  | dk {ds : List (Int × D)} {p : Addr} {kvs : List (Key × V)} : H p = some (.dK kvs) → DkR K S ds kvs → ItR K S H (.dk ds) (some (.ref p)) [p]
  | ob {C dx p : Addr} {oa : Option Addr} {fs : List (Str × FI)} {fv : List (Str × V)} {as : List Addr} : (∀ a, oa = some a → p = a) → H p = some (.ins C dx fv) → FsR K S H fs fv as → ItR K S H (.ob C oa fs) (some (.ref p)) (p :: as)
  | ll {p : Addr} {xss : List (List D)} {vs : List V} {as : List Addr} : H p = some (.lst vs) → LlR K S H xss vs as → ItR K S H (.ll xss) (some (.ref p)) (p :: as)

/-- the objects at as are as they were, what was frozen is -/
theorem fir_keep {K : Fg} {S H S' H' : Hp} (k : Same S S') : ∀ {f : FI} {v : V} {as : List Addr}, FIR K S H f v as → (∀ a ∈ as, H' a = H a) → FIR K S' H' f v as
  | _, _, _, .fz h, _ => .fz (dp_same k h)
  | _, _, _, .ow z h a, q => .ow z ((q _ (by simp)).trans h) (da_same k a)
theorem fsr_keep {K : Fg} {S H S' H' : Hp} (k : Same S S') : ∀ {f : List (Str × FI)} {v : List (Str × V)} {as : List Addr}, FsR K S H f v as → (∀ a ∈ as, H' a = H a) → FsR K S' H' f v as
  | _, _, _, .nil, _ => .nil
  | _, _, _, .cons h t, q => .cons (fir_keep k h fun a ha => q a (List.mem_append_left _ ha)) (fsr_keep k t fun a ha => q a (List.mem_append_right _ ha))
theorem dkr_keep {K : Fg} {S S' : Hp} (k : Same S S') : ∀ {f : List (Int × D)} {v : List (Key × V)}, DkR K S f v → DkR K S' f v
  | _, _, .nil => .nil
  | _, _, .cons h t => .cons (dp_same k h) (dkr_keep k t)
theorem llr_keep {K : Fg} {S H S' H' : Hp} (k : Same S S') : ∀ {f : List (List D)} {v : List V} {as : List Addr}, LlR K S H f v as → (∀ a ∈ as, H' a = H a) → LlR K S' H' f v as
  | _, _, _, .nil, _ => .nil
  | _, _, _, .cons h r t, q => .cons ((q _ List.mem_cons_self).trans h) (da_same k r) (llr_keep k t fun a ha => q a (List.mem_cons_of_mem _ ha))
theorem llr_owned {K : Fg} {S H : Hp} : ∀ {f : List (List D)} {v : List V} {as : List Addr}, LlR K S H f v as → ∀ a ∈ as, H a ≠ none
  | _, _, _, .nil, a, ha => by cases ha
  | _, _, _, .cons h _ t, a, ha => (List.mem_cons.mp ha).elim (fun e => e ▸ nn_of h) (llr_owned t a)
theorem it_keep {K : Fg} {S H S' H' : Hp} (k : Same S S') : ∀ {it : It} {v : Option V} {as : List Addr}, ItR K S H it v as → (∀ a ∈ as, H' a = H a) → ItR K S' H' it v as
  | _, _, _, .no v, _ => .no v
  | _, _, _, .fz h, _ => .fz (dp_same k h)
  | _, _, _, .ow h a, q => .ow ((q _ (by simp)).trans h) (da_same k a)
  | _, _, _, .dk h a, q => .dk ((q _ (by simp)).trans h) (dkr_keep k a)
  | _, _, _, .ob z h a, q => .ob z ((q _ (by simp)).trans h) (fsr_keep k a fun b hb => q b (List.mem_cons_of_mem _ hb))
  | _, _, _, .ll h a, q => .ll ((q _ (by simp)).trans h) (llr_keep k a fun b hb => q b (List.mem_cons_of_mem _ hb))
theorem fir_owned {K : Fg} {S H : Hp} : ∀ {f : FI} {v : V} {as : List Addr}, FIR K S H f v as → ∀ a ∈ as, H a ≠ none
  | _, _, _, .fz _, a, ha => by cases ha
  | _, _, _, .ow _ h _, a, ha => by
    rcases List.mem_singleton.mp ha with rfl
    exact nn_of h
theorem fsr_owned {K : Fg} {S H : Hp} : ∀ {f : List (Str × FI)} {v : List (Str × V)} {as : List Addr}, FsR K S H f v as → ∀ a ∈ as, H a ≠ none
  | _, _, _, .nil, a, ha => by cases ha
  | _, _, _, .cons h t, a, ha => (List.mem_append.mp ha).elim (fir_owned h a) (fsr_owned t a)
theorem it_owned {K : Fg} {S H : Hp} : ∀ {it : It} {v : Option V} {as : List Addr}, ItR K S H it v as → ∀ a ∈ as, H a ≠ none
  | _, _, _, .no _, a, ha => by cases ha
  | _, _, _, .fz _, a, ha => by cases ha
  | _, _, _, .ow h _, a, ha => by
    rcases List.mem_singleton.mp ha with rfl
    exact nn_of h
  | _, _, _, .dk h _, a, ha => by
    rcases List.mem_singleton.mp ha with rfl
    exact nn_of h
  | _, _, _, .ob _ h t, a, ha => (List.mem_cons.mp ha).elim (fun e => e ▸ nn_of h) (fsr_owned t a)
  | _, _, _, .ll h t, a, ha => (List.mem_cons.mp ha).elim (fun e => e ▸ nn_of h) (llr_owned t a)

/-- the slots σ hold ds, owning A; G: what must stay as it is, S0: what was frozen at the def's entry -/
structure EnvA (K : Fg) (G S0 S H : Hp) (σ : St) (ds : List It) (A : Nat → List Addr) : Prop where
  sh : Same S H
  gh : Same G H
  s0 : Same S0 S
  gs : ∀ a, G a ≠ none → S a = S0 a
  len : σ.length = ds.length
  it : ∀ i it, ds[i]? = some it → ItR K S H it (σ[i]?.join) (A i)
  nd : ∀ i, (A i).Nodup
  dj : ∀ i j a, a ∈ A i → a ∈ A j → i = j
  fr : ∀ i a, a ∈ A i → i < ds.length ∧ S a = none ∧ G a = none
def Env (K : Fg) (G S0 S H : Hp) (σ : St) (ds : List It) : Prop := ∃ A, EnvA K G S0 S H σ ds A

section
variable {K : Fg} {G S0 S H S' H' : Hp} {σ : St} {ds : List It} {A : Nat → List Addr}
theorem EnvA.own (e : EnvA K G S0 S H σ ds A) {i : Nat} {a : Addr} (ha : a ∈ A i) : H a ≠ none := by
  obtain ⟨hi, _⟩ := e.fr i a ha
  exact it_owned (e.it i _ (List.getElem?_eq_getElem hi)) a ha
theorem keep_of (k : Same H H') {a : Addr} (ha : H a ≠ none) : H' a = H a := by
  obtain ⟨o, q⟩ := some_nn ha
  rw [q]; exact k _ _ q
/-- all that stood stands -/
theorem EnvA.grow (e : EnvA K G S0 S H σ ds A) (g : Gr S H S' H') : EnvA K G S0 S' H' σ ds A :=
  ⟨g.sh, e.gh.trans g.h, e.s0.trans g.s, fun a ha => (g.old a (Same.nn e.gh ha)).trans (e.gs a ha), e.len, fun i it hi => it_keep g.s (e.it i it hi) fun a ha => keep_of g.h (e.own ha), e.nd, e.dj,
    fun i a ha => ⟨(e.fr i a ha).1, by rw [g.old a (e.own ha)]; exact (e.fr i a ha).2.1, (e.fr i a ha).2.2⟩⟩
theorem Env.grow (e : Env K G S0 S H σ ds) (g : Gr S H S' H') : Env K G S0 S' H' σ ds := let ⟨A, e⟩ := e; ⟨A, e.grow g⟩
theorem Env.sh (e : Env K G S0 S H σ ds) : Same S H := let ⟨_, e⟩ := e; e.sh
theorem Env.gh (e : Env K G S0 S H σ ds) : Same G H := let ⟨_, e⟩ := e; e.gh
theorem Env.s0 (e : Env K G S0 S H σ ds) : Same S0 S := let ⟨_, e⟩ := e; e.s0
theorem Env.gs (e : Env K G S0 S H σ ds) : ∀ a, G a ≠ none → S a = S0 a := let ⟨_, e⟩ := e; e.gs
theorem Env.len (e : Env K G S0 S H σ ds) : σ.length = ds.length := let ⟨_, e⟩ := e; e.len
theorem Env.gr (e : Env K G S0 S H σ ds) : Gr S H S H := Gr.refl e.sh
theorem join_some {o : Option (Option V)} {v : V} (h : o.join = some v) : o = some (some v) := by
  cases o with
  | none => cases h
  | some o => cases o with
    | none => cases h
    | some w => cases h; rfl
theorem itr_fz {o : Option V} {d : D} {as : List Addr} (q : ItR K S H (.fz d) o as) : ∃ v, o = some v ∧ Rp K S v d := by
  cases q with
  | fz q => exact ⟨_, rfl, q⟩
theorem itr_ow {o : Option V} {xs : List D} {as : List Addr} (q : ItR K S H (.ow xs) o as) : ∃ p vs, o = some (.ref p) ∧ as = [p] ∧ H p = some (.lst vs) ∧ RpA K S vs xs := by
  cases q with
  | ow q q2 => exact ⟨_, _, rfl, rfl, q, q2⟩
theorem itr_dk {o : Option V} {xs : List (Int × D)} {as : List Addr} (q : ItR K S H (.dk xs) o as) : ∃ p vs, o = some (.ref p) ∧ as = [p] ∧ H p = some (.dK vs) ∧ DkR K S xs vs := by
  cases q with
  | dk q q2 => exact ⟨_, _, rfl, rfl, q, q2⟩
theorem itr_ob {o : Option V} {C : Addr} {oa : Option Addr} {fs : List (Str × FI)} {as : List Addr} (q : ItR K S H (.ob C oa fs) o as) : ∃ p dx fv bs, o = some (.ref p) ∧ as = p :: bs ∧ (∀ a, oa = some a → p = a) ∧ H p = some (.ins C dx fv) ∧ FsR K S H fs fv bs := by
  cases q with
  | ob z q q2 => exact ⟨_, _, _, _, rfl, rfl, z, q, q2⟩
theorem Env.fz (e : Env K G S0 S H σ ds) {i : Nat} {d : D} (h : ds[i]? = some (.fz d)) : ∃ v, σ[i]? = some (some v) ∧ Rp K S v d := by
  obtain ⟨A, e⟩ := e
  obtain ⟨v, hv, r⟩ := itr_fz (e.it i _ h)
  exact ⟨v, join_some hv, r⟩
theorem EnvA.ow (e : EnvA K G S0 S H σ ds A) {i : Nat} {xs : List D} (h : ds[i]? = some (.ow xs)) : ∃ p vs, σ[i]? = some (some (.ref p)) ∧ A i = [p] ∧ H p = some (.lst vs) ∧ S p = none ∧ G p = none ∧ RpA K S vs xs := by
  obtain ⟨p, vs, hv, ha, hp, da⟩ := itr_ow (e.it i _ h)
  obtain ⟨_, z1, z2⟩ := e.fr i p (by rw [ha]; exact List.mem_cons_self)
  exact ⟨p, vs, join_some hv, ha, hp, z1, z2, da⟩
theorem Env.ow (e : Env K G S0 S H σ ds) {i : Nat} {xs : List D} (h : ds[i]? = some (.ow xs)) : ∃ p vs, σ[i]? = some (some (.ref p)) ∧ H p = some (.lst vs) ∧ S p = none ∧ G p = none ∧ RpA K S vs xs := by
  obtain ⟨A, e⟩ := e
  obtain ⟨p, vs, h1, _, h2⟩ := e.ow h
  exact ⟨p, vs, h1, h2⟩
theorem EnvA.dk (e : EnvA K G S0 S H σ ds A) {i : Nat} {xs : List (Int × D)} (h : ds[i]? = some (.dk xs)) : ∃ p vs, σ[i]? = some (some (.ref p)) ∧ A i = [p] ∧ H p = some (.dK vs) ∧ S p = none ∧ G p = none ∧ DkR K S xs vs := by
  obtain ⟨p, vs, hv, ha, hp, da⟩ := itr_dk (e.it i _ h)
  obtain ⟨_, z1, z2⟩ := e.fr i p (by rw [ha]; exact List.mem_cons_self)
  exact ⟨p, vs, join_some hv, ha, hp, z1, z2, da⟩
theorem Env.dk (e : Env K G S0 S H σ ds) {i : Nat} {xs : List (Int × D)} (h : ds[i]? = some (.dk xs)) : ∃ p vs, σ[i]? = some (some (.ref p)) ∧ H p = some (.dK vs) ∧ S p = none ∧ G p = none ∧ DkR K S xs vs := by
  obtain ⟨A, e⟩ := e
  obtain ⟨p, vs, h1, _, h2⟩ := e.dk h
  exact ⟨p, vs, h1, h2⟩

/-- the owned addresses of one slot change -/
def setA (A : Nat → List Addr) (i : Nat) (as : List Addr) : Nat → List Addr := fun j => if j = i then as else A j
theorem setA_same {A : Nat → List Addr} {i : Nat} {as : List Addr} : setA A i as i = as := if_pos rfl
theorem setA_ne {A : Nat → List Addr} {i j : Nat} {as : List Addr} (h : j ≠ i) : setA A i as j = A j := if_neg h
/-- the general store: slot i, and the objects of slot i, may change -/
theorem EnvA.put (e : EnvA K G S0 S H σ ds A) (i : Nat) {it : It} {v : Option V} {as : List Addr} (hS : Same S S') (sh' : Same S' H') (gh' : Same G H') (gs' : ∀ a, G a ≠ none → S' a = S0 a)
    (r : ItR K S' H' it v as) (nd : as.Nodup) (hk : ∀ j a, j ≠ i → a ∈ A j → H' a = H a ∧ S' a = none) (fresh : ∀ a ∈ as, S' a = none ∧ G a = none ∧ ∀ j, j ≠ i → a ∉ A j) :
    EnvA K G S0 S' H' (σ.set i v) (ds.set i it) (setA A i (if i < ds.length then as else [])) := by
  refine ⟨sh', gh', e.s0.trans hS, gs', by simp [e.len], fun j it' hj => ?_, fun j => ?_, fun j k a ha hb => ?_, fun j a ha => ?_⟩
  · by_cases z : j = i
    · subst z
      have hi : j < ds.length := by simpa using (List.getElem?_eq_some_iff.mp hj).1
      rw [setA_same, if_pos hi]
      rw [List.getElem?_set_self hi] at hj
      cases hj
      rw [List.getElem?_set_self (by rw [e.len]; exact hi)]
      exact r
    · rw [setA_ne z]
      rw [List.getElem?_set_ne (Ne.symm z)] at hj ⊢
      exact it_keep hS (e.it j it' hj) fun a ha => (hk j a z ha).1
  · by_cases z : j = i
    · subst z; rw [setA_same]; split
      · exact nd
      · exact .nil
    · rw [setA_ne z]; exact e.nd j
  · by_cases zj : j = i
    · by_cases zk : k = i
      · rw [zj, zk]
      · subst zj
        rw [setA_same] at ha
        rw [setA_ne zk] at hb
        split at ha
        · exact absurd hb ((fresh a ha).2.2 k zk)
        · cases ha
    · by_cases zk : k = i
      · subst zk
        rw [setA_ne zj] at ha
        rw [setA_same] at hb
        split at hb
        · exact absurd ha ((fresh a hb).2.2 j zj)
        · cases hb
      · rw [setA_ne zj] at ha
        rw [setA_ne zk] at hb
        exact e.dj j k a ha hb
  · rw [List.length_set]
    by_cases zj : j = i
    · subst zj
      rw [setA_same] at ha
      split at ha
      · obtain ⟨f1, f2, _⟩ := fresh a ha
        exact ⟨by assumption, f1, f2⟩
      · cases ha
    · rw [setA_ne zj] at ha
      exact ⟨(e.fr j a ha).1, (hk j a zj ha).2, (e.fr j a ha).2.2⟩
theorem Env.put0 (e : Env K G S0 S H σ ds) (i : Nat) {it : It} {v : Option V} (r : ItR K S H it v []) : Env K G S0 S H (σ.set i v) (ds.set i it) :=
  let ⟨_, e⟩ := e; ⟨_, e.put i (Same.refl _) e.sh e.gh e.gs r .nil (fun j a _ ha => ⟨rfl, (e.fr j a ha).2.1⟩) fun a ha => by cases ha⟩
theorem Env.putD (e : Env K G S0 S H σ ds) (i : Nat) {d : D} {v : V} (r : Rp K S v d) : Env K G S0 S H (σ.set i (some v)) (ds.set i (.fz d)) := e.put0 i (.fz r)
theorem Env.put_no (e : Env K G S0 S H σ ds) (i : Nat) (v : Option V) : Env K G S0 S H (σ.set i v) (ds.set i .no) := e.put0 i (.no v)
/-- what is new since an earlier state, at one address -/
theorem Env.put1 (e : Env K G S0 S H σ ds) (g : Gr S H S' H') (i : Nat) {it : It} {p : Addr} (hp : H p = none) (hs : S' p = none) (r : ItR K S' H' it (some (.ref p)) [p]) : Env K G S0 S' H' (σ.set i (some (.ref p))) (ds.set i it) := by
  obtain ⟨A, e⟩ := e
  have e' := e.grow g
  refine ⟨_, e'.put i (Same.refl _) e'.sh e'.gh e'.gs r (by simp) (fun j a _ ha => ⟨rfl, (e'.fr j a ha).2.1⟩) fun a ha => ?_⟩
  rcases List.mem_singleton.mp ha with rfl
  exact ⟨hs, e.gh.free hp, fun j _ hj => e.own hj hp⟩
theorem Env.putL (e : Env K G S0 S H σ ds) (g : Gr S H S' H') (i : Nat) {xs : List D} {p : Addr} {vs : List V} (hp : H p = none) (h : H' p = some (.lst vs)) (hs : S' p = none) (r : RpA K S' vs xs) : Env K G S0 S' H' (σ.set i (some (.ref p))) (ds.set i (.ow xs)) :=
  e.put1 g i hp hs (.ow h r)
theorem set_get {α : Type} {l : List α} {i : Nat} {x : α} (h : l[i]? = some x) : l.set i x = l := by
  apply List.ext_getElem?
  intro j
  rw [List.getElem?_set]
  split
  · rename_i z; subst z
    split
    · exact h.symm
    · rename_i hn
      rw [List.getElem?_eq_none (by omega)]
  · rfl
/-- an owned list is frozen -/
theorem Env.freeze (e : Env K G S0 S H σ ds) {i : Nat} {xs : List D} (h : ds[i]? = some (.ow xs)) : ∃ S', Same S S' ∧ Env K G S0 S' H σ (ds.set i (.fz (.lst xs))) := by
  obtain ⟨A, e⟩ := e
  obtain ⟨p, vs, hv, ha, hp, sp, gp, da⟩ := e.ow h
  have k : Same S (upd S p (.lst vs)) := same_new sp
  have hne : ∀ j a, j ≠ i → a ∈ A j → a ≠ p := fun j a z hj q => z (e.dj j i a hj (by rw [ha, q]; exact List.mem_cons_self))
  have q := e.put (S' := upd S p (.lst vs)) (H' := H) i (it := .fz (.lst xs)) (v := some (.ref p)) k (fun b u q => by
      by_cases z : b = p
      · subst z; rw [upd_same] at q; cases q; exact hp
      · rw [upd_ne z] at q; exact e.sh _ _ q) e.gh (fun a ha => by rw [upd_ne (fun z => ha (by rw [z]; exact gp))]; exact e.gs a ha) (.fz (.lst upd_same (da_same k da))) .nil
    (fun j a z hj => ⟨rfl, by rw [upd_ne (hne j a z hj)]; exact (e.fr j a hj).2.1⟩) fun a ha => by cases ha
  rw [set_get hv] at q
  exact ⟨_, k, _, q⟩
/-- the owned list changes -/
theorem Env.mut (e : Env K G S0 S H σ ds) {i : Nat} {xs ys : List D} {p : Addr} {ws : List V} (h : ds[i]? = some (.ow xs)) (hv : σ[i]? = some (some (.ref p))) (r : RpA K S ws ys) : Env K G S0 S (upd H p (.lst ws)) σ (ds.set i (.ow ys)) := by
  obtain ⟨A, e⟩ := e
  obtain ⟨p', vs, hv', ha, hp, sp, gp, da⟩ := e.ow h
  rw [hv] at hv'; cases hv'
  have hne : ∀ j a, j ≠ i → a ∈ A j → a ≠ p := fun j a z hj q => z (e.dj j i a hj (by rw [ha, q]; exact List.mem_cons_self))
  have q := e.put (S' := S) (H' := upd H p (.lst ws)) i (it := .ow ys) (v := some (.ref p)) (Same.refl _) (fun b u q => by
      rw [upd_ne (fun z => by subst z; rw [sp] at q; cases q)]; exact e.sh _ _ q) (fun b u q => by rw [upd_ne (fun z => by subst z; rw [gp] at q; cases q)]; exact e.gh _ _ q) e.gs (.ow upd_same r) (by simp)
    (fun j a z hj => ⟨upd_ne (hne j a z hj), (e.fr j a hj).2.1⟩) fun a ha' => by
      rcases List.mem_singleton.mp ha' with rfl
      exact ⟨sp, gp, fun j z hj => hne j _ z hj rfl⟩
  rw [set_get hv] at q
  exact ⟨_, q⟩
/-- the owned dict changes -/
theorem Env.mutK (e : Env K G S0 S H σ ds) {i : Nat} {xs ys : List (Int × D)} {p : Addr} {ws : List (Key × V)} (h : ds[i]? = some (.dk xs)) (hv : σ[i]? = some (some (.ref p))) (r : DkR K S ys ws) : Env K G S0 S (upd H p (.dK ws)) σ (ds.set i (.dk ys)) := by
  obtain ⟨A, e⟩ := e
  obtain ⟨p', vs, hv', ha, hp, sp, gp, da⟩ := e.dk h
  rw [hv] at hv'; cases hv'
  have hne : ∀ j a, j ≠ i → a ∈ A j → a ≠ p := fun j a z hj q => z (e.dj j i a hj (by rw [ha, q]; exact List.mem_cons_self))
  have q := e.put (S' := S) (H' := upd H p (.dK ws)) i (it := .dk ys) (v := some (.ref p)) (Same.refl _) (fun b u q => by
      rw [upd_ne (fun z => by subst z; rw [sp] at q; cases q)]; exact e.sh _ _ q) (fun b u q => by rw [upd_ne (fun z => by subst z; rw [gp] at q; cases q)]; exact e.gh _ _ q) e.gs (.dk upd_same r) (by simp)
    (fun j a z hj => ⟨upd_ne (hne j a z hj), (e.fr j a hj).2.1⟩) fun a ha' => by
      rcases List.mem_singleton.mp ha' with rfl
      exact ⟨sp, gp, fun j z hj => hne j _ z hj rfl⟩
  rw [set_get hv] at q
  exact ⟨_, q⟩
end
end Lay
/-! Lay2: what an expression gives. -/
namespace Lay
open PySem L2
section
variable {X : Cx} {e a b c : Expr} {ds : List It} {pos : Pos}
/-! ### the weakest readings -/
def wE (X : Cx) (e : Expr) : TE := fun σ H Q => ∀ pins s, Inv X pins σ H s → wpAny (model X.prog X.w) X.A (eval e X.env) (EP X pins σ Q) X.xe s
theorem pe_w : PE X e (wE X e) := ⟨fun pins s _ _ _ I h => h pins s I⟩
def wT (X : Cx) (e : Expr) : TT := fun σ H Q => ∀ pins s, Inv X pins σ H s → wpAny (model X.prog X.w) X.A (isTrue e X.env (eval e X.env)) (TP X pins σ Q) X.xe s
theorem pt_w : PT X e (wT X e) := ⟨fun pins s _ _ _ I h => h pins s I⟩
def wW (X : Cx) (e : Expr) : TT := fun σ H Q => ∀ whole pins s, Inv X pins σ H s → wpAny (model X.prog X.w) X.A (isTrue e X.env whole) (TP X pins σ Q) X.xe s
theorem pw_w : PW X e (wW X e) := ⟨fun whole pins s _ _ _ I h => h whole pins s I⟩
def wA (X : Cx) (es : List Expr) : TA := fun σ H Q => ∀ pos pins s, Inv X pins σ H s → wpAny (model X.prog X.w) X.A (spliced (backTo pos (starEach es X.env))) (AP X pins σ Q) X.xe s
theorem pa_w {es : List Expr} : PA X es (wA X es) := ⟨fun pos pins s _ _ _ I h => h pos pins s I⟩

/-- to be read: frozen, or a list of the frame's own -/
def Rb (K : Fg) (S H : Hp) (v : V) (d : D) : Prop := Rp K S v d ∨ ∃ p vs xs, v = .ref p ∧ d = .lst xs ∧ H p = some (.lst vs) ∧ RpA K S vs xs
theorem Rb.gr {K : Fg} {S H S' H' : Hp} {v : V} {d : D} (h : Rb K S H v d) (g : Gr S H S' H') : Rb K S' H' v d := by
  rcases h with h | ⟨p, vs, xs, rfl, rfl, h, r⟩
  · exact .inl (dp_same g.s h)
  · exact .inr ⟨p, vs, xs, rfl, rfl, g.h _ _ h, da_same g.s r⟩
theorem Rb.int {K : Fg} {S H : Hp} {v : V} {i : Int} (h : Rb K S H v (.int i)) : v = .int i := by
  rcases h with h | ⟨p, vs, xs, rfl, z, _⟩
  · cases h; rfl
  · cases z
theorem Rb.bl {K : Fg} {S H : Hp} {v : V} {i : Bool} (h : Rb K S H v (.bl i)) : v = .bl i := by
  rcases h with h | ⟨p, vs, xs, rfl, z, _⟩
  · cases h; rfl
  · cases z
theorem Rb.str {K : Fg} {S H : Hp} {v : V} {i : Str} (h : Rb K S H v (.str i)) : v = .str i := by
  rcases h with h | ⟨p, vs, xs, rfl, z, _⟩
  · cases h; rfl
  · cases z
theorem Rb.non {K : Fg} {S H : Hp} {v : V} (h : Rb K S H v .non) : v = .non := by
  rcases h with h | ⟨p, vs, xs, rfl, z, _⟩
  · cases h; rfl
  · cases z
theorem Rb.lst {K : Fg} {S H : Hp} {v : V} {xs : List D} (h : Rb K S H v (.lst xs)) (k : Same S H) : ∃ p vs, v = .ref p ∧ H p = some (.lst vs) ∧ RpA K S vs xs := by
  rcases h with h | ⟨p, vs, xs, rfl, z, h1, h2⟩
  · cases h with
    | lst h a => exact ⟨_, _, rfl, k _ _ h, a⟩
  · cases z; exact ⟨p, vs, rfl, h1, h2⟩
theorem Rb.tup {K : Fg} {S H : Hp} {v : V} {xs : List D} (h : Rb K S H v (.tup xs)) : ∃ p vs, v = .ref p ∧ S p = some (.tup vs) ∧ RpA K S vs xs := by
  rcases h with h | ⟨p, vs, xs, rfl, z, _⟩
  · cases h with
    | tup h a => exact ⟨_, _, rfl, h, a⟩
  · cases z
theorem Rb.scr {K : Fg} {S H : Hp} {v : V} {ns : List Int} (h : Rb K S H v (.scr ns)) (k : Same S H) : ∃ p, v = .ref p ∧ SqL K H p (ns.map V.int) := by
  rcases h with h | ⟨p, vs, xs, rfl, z, _⟩
  · cases h with
    | scr h => exact ⟨_, rfl, same_l k h⟩
  · cases z
theorem sq_of {K : Fg} {H : Hp} {p : Addr} {vs : List V} (h : H p = some (.lst vs)) : SqL K H p vs := .inl (.inl h)
theorem st_of {K : Fg} {H : Hp} {p : Addr} {vs : List V} (h : H p = some (.tup vs)) : SqT K H p vs := .inl (.inl h)

/-! ### the judgements -/
/-- gives the data d, which stays as it is -/
structure XV (X : Cx) (e : Expr) (ds : List It) (d : D) : Prop where
  mk ::
  run : ∀ G S0 S H σ, Env X.K G S0 S H σ ds → ∀ Q : VK, (∀ v S' H', Gr S H S' H' → Rp X.K S' v d → Q v H') → wE X e σ H Q
instance {X : Cx} {e : Expr} {ds : List It} {d : D} : CoeFun (XV X e ds d) (fun _ => ∀ G S0 S H σ, Env X.K G S0 S H σ ds → ∀ Q : VK, (∀ v S' H', Gr S H S' H' → Rp X.K S' v d → Q v H') → wE X e σ H Q) := ⟨XV.run⟩
/-- gives d, to be read at once -/
structure XB (X : Cx) (e : Expr) (ds : List It) (d : D) : Prop where
  mk ::
  run : ∀ G S0 S H σ, Env X.K G S0 S H σ ds → ∀ Q : VK, (∀ v S' H', Gr S H S' H' → Rb X.K S' H' v d → Q v H') → wE X e σ H Q
instance {X : Cx} {e : Expr} {ds : List It} {d : D} : CoeFun (XB X e ds d) (fun _ => ∀ G S0 S H σ, Env X.K G S0 S H σ ds → ∀ Q : VK, (∀ v S' H', Gr S H S' H' → Rb X.K S' H' v d → Q v H') → wE X e σ H Q) := ⟨XB.run⟩
/-- gives a new list -/
structure XL (X : Cx) (e : Expr) (ds : List It) (xs : List D) : Prop where
  mk ::
  run : ∀ G S0 S H σ, Env X.K G S0 S H σ ds → ∀ Q : VK, (∀ p vs S' H', Gr S H S' H' → H p = none → S' p = none → H' p = some (.lst vs) → RpA X.K S' vs xs → Q (.ref p) H') → wE X e σ H Q
instance {X : Cx} {e : Expr} {ds : List It} {xs : List D} : CoeFun (XL X e ds xs) (fun _ => ∀ G S0 S H σ, Env X.K G S0 S H σ ds → ∀ Q : VK, (∀ p vs S' H', Gr S H S' H' → H p = none → S' p = none → H' p = some (.lst vs) → RpA X.K S' vs xs → Q (.ref p) H') → wE X e σ H Q) := ⟨XL.run⟩
/-- raises an exception of the class at c -/
structure XR (X : Cx) (W : WX) (e : Expr) (ds : List It) (c : Addr) : Prop where
  mk ::
  run : ∀ G S0 S H σ, Env X.K G S0 S H σ ds → (∀ S' H', Gr S H S' H' → W (.ref c) none σ H') → ∀ Q, wE X e σ H Q
instance {X : Cx} {W : WX} {e : Expr} {ds : List It} {c : Addr} : CoeFun (XR X W e ds c) (fun _ => ∀ G S0 S H σ, Env X.K G S0 S H σ ds → (∀ S' H', Gr S H S' H' → W (.ref c) none σ H') → ∀ Q, wE X e σ H Q) := ⟨XR.run⟩
structure XT (X : Cx) (e : Expr) (ds : List It) (k : Bool) : Prop where
  mk ::
  run : ∀ G S0 S H σ, Env X.K G S0 S H σ ds → ∀ Q : Bool → Hp → Prop, (∀ S' H', Gr S H S' H' → Q k H') → wT X e σ H Q
instance {X : Cx} {e : Expr} {ds : List It} {k : Bool} : CoeFun (XT X e ds k) (fun _ => ∀ G S0 S H σ, Env X.K G S0 S H σ ds → ∀ Q : Bool → Hp → Prop, (∀ S' H', Gr S H S' H' → Q k H') → wT X e σ H Q) := ⟨XT.run⟩
structure XW (X : Cx) (e : Expr) (ds : List It) (k : Bool) : Prop where
  mk ::
  run : ∀ G S0 S H σ, Env X.K G S0 S H σ ds → ∀ Q : Bool → Hp → Prop, (∀ S' H', Gr S H S' H' → Q k H') → wW X e σ H Q
instance {X : Cx} {e : Expr} {ds : List It} {k : Bool} : CoeFun (XW X e ds k) (fun _ => ∀ G S0 S H σ, Env X.K G S0 S H σ ds → ∀ Q : Bool → Hp → Prop, (∀ S' H', Gr S H S' H' → Q k H') → wW X e σ H Q) := ⟨XW.run⟩
structure XA (X : Cx) (es : List Expr) (ds : List It) (ys : List D) : Prop where
  mk ::
  run : ∀ G S0 S H σ, Env X.K G S0 S H σ ds → ∀ Q : List V → Hp → Prop, (∀ vs S' H', Gr S H S' H' → RpA X.K S' vs ys → Q vs H') → wA X es σ H Q
instance {X : Cx} {es : List Expr} {ds : List It} {ys : List D} : CoeFun (XA X es ds ys) (fun _ => ∀ G S0 S H σ, Env X.K G S0 S H σ ds → ∀ Q : List V → Hp → Prop, (∀ vs S' H', Gr S H S' H' → RpA X.K S' vs ys → Q vs H') → wA X es σ H Q) := ⟨XA.run⟩
/-- arguments that are read at once -/
inductive RbA (K : Fg) (S H : Hp) : List V → List D → Prop where
  | nil : RbA K S H [] []
  | cons {v : V} {d : D} {vs : List V} {ds : List D} : Rb K S H v d → RbA K S H vs ds → RbA K S H (v :: vs) (d :: ds)
theorem RbA.gr {K : Fg} {S H S' H' : Hp} (g : Gr S H S' H') : ∀ {vs : List V} {ds : List D}, RbA K S H vs ds → RbA K S' H' vs ds
  | _, _, .nil => .nil
  | _, _, .cons h t => .cons (h.gr g) (t.gr g)
structure XAB (X : Cx) (es : List Expr) (ds : List It) (ys : List D) : Prop where
  mk ::
  run : ∀ G S0 S H σ, Env X.K G S0 S H σ ds → ∀ Q : List V → Hp → Prop, (∀ vs S' H', Gr S H S' H' → RbA X.K S' H' vs ys → Q vs H') → wA X es σ H Q
instance {X : Cx} {es : List Expr} {ds : List It} {ys : List D} : CoeFun (XAB X es ds ys) (fun _ => ∀ G S0 S H σ, Env X.K G S0 S H σ ds → ∀ Q : List V → Hp → Prop, (∀ vs S' H', Gr S H S' H' → RbA X.K S' H' vs ys → Q vs H') → wA X es σ H Q) := ⟨XAB.run⟩

theorem XV.br {d : D} (h : XV X e ds d) : XB X e ds d := .mk fun G S0 S H σ E Q q => h G S0 S H σ E Q fun v S' H' g r => q v S' H' g (.inl r)
theorem XL.br {xs : List D} (h : XL X e ds xs) : XB X e ds (.lst xs) := .mk fun G S0 S H σ E Q q => h G S0 S H σ E Q fun p vs S' H' g _ _ r a => q _ S' H' g (.inr ⟨p, vs, xs, rfl, rfl, r, a⟩)
theorem XL.v {xs : List D} (h : XL X e ds xs) : XV X e ds (.lst xs) := .mk fun G S0 S H σ E Q q => h G S0 S H σ E Q fun p vs S' H' g hp sp r a =>
  q _ _ H' (g.freeze hp r sp) (.lst upd_same (da_same (same_new sp) a))

theorem we_of {te : TE} (h : PE X e te) {σ : St} {H : Hp} {Q : VK} (q : te σ H Q) : wE X e σ H Q := fun pins s I => h.run pins s σ H Q I q
theorem wt_of {te : TT} (h : PT X e te) {σ : St} {H : Hp} {Q : Bool → Hp → Prop} (q : te σ H Q) : wT X e σ H Q := fun pins s I => h.run pins s σ H Q I q
theorem ww_of {te : TT} (h : PW X e te) {σ : St} {H : Hp} {Q : Bool → Hp → Prop} (q : te σ H Q) : wW X e σ H Q := fun whole pins s I => h.run whole pins s σ H Q I q
theorem wa_of {es : List Expr} {te : TA} (h : PA X es te) {σ : St} {H : Hp} {Q : List V → Hp → Prop} (q : te σ H Q) : wA X es σ H Q := fun pos pins s I => h.run pos pins s σ H Q I q

/-! ### names and constants -/
theorem xv_var (i : Nat) {x : Str} {d : D} (hd : ds[i]? = some (.fz d) := by rfl) (hN : X.N[i]? = some x := by rfl) (hv : Vis X.env.scope x := by first | exact Or.inl rfl | exact Or.inr (Or.inl rfl) | exact Or.inr (Or.inr rfl)) (h1 : (x == ("__debug__" : Str)) = false := by decide)
    (h2 : (x == ("__classdict__" : Str)) = false := by decide) : XV X (.Name x pos) ds d := .mk fun G S0 S H σ E Q q => by
  obtain ⟨v, hv', r⟩ := E.fz hd
  exact we_of (pe_var (i := i) hN hv h1 h2) ⟨v, hv', q v S H E.gr r⟩
theorem xb_own (i : Nat) {x : Str} {xs : List D} (hd : ds[i]? = some (.ow xs) := by rfl) (hN : X.N[i]? = some x := by rfl) (hv : Vis X.env.scope x := by first | exact Or.inl rfl | exact Or.inr (Or.inl rfl) | exact Or.inr (Or.inr rfl)) (h1 : (x == ("__debug__" : Str)) = false := by decide)
    (h2 : (x == ("__classdict__" : Str)) = false := by decide) : XB X (.Name x pos) ds (.lst xs) := .mk fun G S0 S H σ E Q q => by
  obtain ⟨p, vs, hv', hp, _, _, r⟩ := E.ow hd
  exact we_of (pe_var (i := i) hN hv h1 h2) ⟨.ref p, hv', q _ S H E.gr (.inr ⟨p, vs, xs, rfl, rfl, hp, r⟩)⟩
theorem xv_int {i : Int} {j} : XV X (.Constant (.int i) j pos) ds (.int i) := .mk fun G S0 S H σ E Q q => we_of pe_int (q _ S H E.gr (.int i))
theorem xv_bl {k : Bool} {j} : XV X (.Constant (.bool k) j pos) ds (.bl k) := .mk fun G S0 S H σ E Q q => we_of pe_bl (q _ S H E.gr (.bl k))
theorem xv_non {j} : XV X (.Constant .none j pos) ds .non := .mk fun G S0 S H σ E Q q => we_of pe_non (q _ S H E.gr .non)
theorem xv_str {x : Str} {j} : XV X (.Constant (.str x) j pos) ds (.str x) := .mk fun G S0 S H σ E Q q => we_of pe_str (q _ S H E.gr (.str x))
/-- a module's whole number -/
theorem xv_glob {x : Str} {i : Int} (hm : ∃ t, X.mg x = some (.int i t)) (hg : Gl X x := by rfl) (hd : (x == ("__debug__" : Str)) = false := by decide) : XV X (.Name x pos) ds (.int i) := .mk fun G S0 S H σ E Q q => by
  obtain ⟨t, hm⟩ := hm
  exact we_of (pe_glob (v := .int i) hg hm ⟨t, rfl⟩ hd) (q _ S H E.gr (.int i))

/-! ### two operands -/
theorem two {A B : D} (ha : XB X a ds A) (hb : XB X b ds B) {G S0 S H : Hp} {σ : St} (E : Env X.K G S0 S H σ ds) {R : V → V → Hp → Prop}
    (q : ∀ x y S' H', Gr S H S' H' → Rb X.K S' H' x A → Rb X.K S' H' y B → R x y H') : wE X a σ H fun x H1 => wE X b σ H1 fun y H2 => R x y H2 :=
  ha G S0 S H σ E _ fun x S1 H1 g1 r1 => hb G S0 S1 H1 σ (E.grow g1) _ fun y S2 H2 g2 r2 => q x y S2 H2 (g1.trans g2) (r1.gr g2) r2
theorem xv_bin {op : Operator} {r : R2} {A B d : D} (ho : OpR X (binaryOp op) r) (ha : XB X a ds A) (hb : XB X b ds B)
    (hr : ∀ (S H : Hp) x y (Q : VK), Same S H → Rb X.K S H x A → Rb X.K S H y B → (∀ v S' H', Gr S H S' H' → Rp X.K S' v d → Q v H') → r x y H Q) : XV X (.BinOp a op b pos) ds d := .mk fun G S0 S H σ E Q q =>
  we_of (pe_op ho pe_w pe_w) (two ha hb E fun x y S' H' g r1 r2 => hr S' H' x y Q g.sh r1 r2 fun v S2 H2 g2 r => q v S2 H2 (g.trans g2) r)
theorem xl_bin {op : Operator} {r : R2} {A B : D} {xs : List D} (ho : OpR X (binaryOp op) r) (ha : XB X a ds A) (hb : XB X b ds B)
    (hr : ∀ (S H : Hp) x y (Q : VK), Same S H → Rb X.K S H x A → Rb X.K S H y B → (∀ p vs S' H', Gr S H S' H' → H p = none → S' p = none → H' p = some (.lst vs) → RpA X.K S' vs xs → Q (.ref p) H') → r x y H Q) : XL X (.BinOp a op b pos) ds xs := .mk fun G S0 S H σ E Q q =>
  we_of (pe_op ho pe_w pe_w) (two ha hb E fun x y S' H' g r1 r2 => hr S' H' x y Q g.sh r1 r2 fun p vs S2 H2 g2 h1 h2 h3 h4 => q p vs S2 H2 (g.trans g2) (g.h.free h1) h2 h3 h4)
theorem xv_cmp {op : CmpOp} {r : R2} {A B : D} {k : Bool} (ho : OpR X (compareOp op) r) (ha : XB X a ds A) (hb : XB X b ds B) (hm : behindInMarks op b = false)
    (hr : ∀ (S H : Hp) x y (Q : VK), Same S H → Rb X.K S H x A → Rb X.K S H y B → Q (.bl k) H → r x y H Q) : XV X (.Compare a [op] [b] pos) ds (.bl k) := .mk fun G S0 S H σ E Q q =>
  we_of (pe_cmpR ho pe_w pe_w hm) (two ha hb E fun x y S' H' g r1 r2 => hr S' H' x y Q g.sh r1 r2 (q _ S' H' g (.bl k)))
theorem xt_cmp {op : CmpOp} {r : R2} {A B : D} {k : Bool} (ho : OpR X (compareOp op) r) (ha : XB X a ds A) (hb : XB X b ds B) (hm : behindInMarks op b = false)
    (hr : ∀ (S H : Hp) x y (Q : VK), Same S H → Rb X.K S H x A → Rb X.K S H y B → Q (.bl k) H → r x y H Q) : XT X (.Compare a [op] [b] pos) ds k := .mk fun G S0 S H σ E Q q =>
  wt_of (pt_cmpR ho pe_w pe_w hm) (two ha hb E fun x y S' H' g r1 r2 => hr S' H' x y _ g.sh r1 r2 ⟨k, rfl, q S' H' g⟩)

/-! ### arithmetic -/
theorem same_gr {S H : Hp} (h : Same S H) : Gr S H S H := Gr.refl h
variable {i j : Int}
theorem xv_add (ha : XB X a ds (.int i)) (hb : XB X b ds (.int j)) : XV X (.BinOp a .Add b pos) ds (.int (i + j)) :=
  xv_bin op_add ha hb fun S H x y Q k r1 r2 q => ⟨i, j, r1.int, r2.int, q _ S H (.refl k) (.int _)⟩
theorem xv_sub (ha : XB X a ds (.int i)) (hb : XB X b ds (.int j)) : XV X (.BinOp a .Sub b pos) ds (.int (i - j)) :=
  xv_bin op_sub ha hb fun S H x y Q k r1 r2 q => ⟨i, j, r1.int, r2.int, q _ S H (.refl k) (.int _)⟩
theorem xv_mul (ha : XB X a ds (.int i)) (hb : XB X b ds (.int j)) (hc : CMul i j) : XV X (.BinOp a .Mult b pos) ds (.int (i * j)) :=
  xv_bin op_mul ha hb fun S H x y Q k r1 r2 q => ⟨i, j, r1.int, r2.int, hc, q _ S H (.refl k) (.int _)⟩
/-- a positive divisor -/
theorem xv_mod (ha : XB X a ds (.int i)) (hb : XB X b ds (.int j)) (hc : 0 < j) : XV X (.BinOp a .Mod b pos) ds (.int (i % j)) :=
  xv_bin op_mod ha hb fun S H x y Q k r1 r2 q => ⟨i, j, r1.int, r2.int, hc, q _ S H (.refl k) (.int _)⟩
theorem xv_div (ha : XB X a ds (.int i)) (hb : XB X b ds (.int j)) (hc : CDiv i j) : XV X (.BinOp a .FloorDiv b pos) ds (.int (i / j)) :=
  xv_bin op_fdiv ha hb fun S H x y Q k r1 r2 q => ⟨i, j, r1.int, r2.int, hc, q _ S H (.refl k) (.int _)⟩
theorem xv_neg (ha : XB X a ds (.int i)) : XV X (.UnaryOp .USub a pos) ds (.int (-i)) := .mk fun G S0 S H σ E Q q =>
  we_of (pe_un un_neg pe_w) (ha G S0 S H σ E _ fun x S' H' g r => ⟨i, r.int, q _ S' H' g (.int _)⟩)

/-! ### lists and tuples by operators -/
theorem sz (n : Nat) (h : n ≤ 100000) : n ≤ sizeLine := Nat.le_trans h (by decide)
theorem szlt (n : Nat) (h : n < 100000) : n < sizeLine := Nat.lt_of_lt_of_le h (by decide)
theorem xl_cat {xs ys : List D} (ha : XB X a ds (.lst xs)) (hb : XB X b ds (.lst ys)) (hz : xs.length + ys.length ≤ 100000) : XL X (.BinOp a .Add b pos) ds (xs ++ ys) :=
  xl_bin op_cat ha hb fun S H x y Q k r1 r2 q => by
    obtain ⟨p, vs, rfl, hp, ra⟩ := r1.lst k
    obtain ⟨p', vs', rfl, hp', rb⟩ := r2.lst k
    exact ⟨p, p', vs, vs', rfl, rfl, hp, hp', sz _ (by rw [da_len ra, da_len rb]; exact hz), fun n hn => q n (vs ++ vs') S _ (Gr.newH k hn) hn (k.free hn) upd_same (da_append ra rb)⟩
theorem da_rep {K : Fg} {S : Hp} {vs : List V} {xs : List D} (r : RpA K S vs xs) : ∀ n : Nat, RpA K S (List.replicate n vs).flatten (List.replicate n xs).flatten
  | 0 => .nil
  | n + 1 => by rw [List.replicate_succ, List.replicate_succ, List.flatten_cons, List.flatten_cons]; exact da_append r (da_rep r n)

/-! ### comparisons of whole numbers -/
theorem xv_lt (ha : XB X a ds (.int i)) (hb : XB X b ds (.int j)) : XV X (.Compare a [.Lt] [b] pos) ds (.bl (decide (i < j))) := xv_cmp op_lt ha hb (nomark _) fun S H x y Q k r1 r2 q => ⟨i, j, r1.int, r2.int, q⟩
theorem xv_le (ha : XB X a ds (.int i)) (hb : XB X b ds (.int j)) : XV X (.Compare a [.LtE] [b] pos) ds (.bl (decide (i ≤ j))) := xv_cmp op_le ha hb (nomark _) fun S H x y Q k r1 r2 q => ⟨i, j, r1.int, r2.int, q⟩
theorem xv_gt (ha : XB X a ds (.int i)) (hb : XB X b ds (.int j)) : XV X (.Compare a [.Gt] [b] pos) ds (.bl (decide (j < i))) := xv_cmp op_gt ha hb (nomark _) fun S H x y Q k r1 r2 q => ⟨i, j, r1.int, r2.int, q⟩
theorem xv_ge (ha : XB X a ds (.int i)) (hb : XB X b ds (.int j)) : XV X (.Compare a [.GtE] [b] pos) ds (.bl (decide (j ≤ i))) := xv_cmp op_ge ha hb (nomark _) fun S H x y Q k r1 r2 q => ⟨i, j, r1.int, r2.int, q⟩
theorem xt_lt (ha : XB X a ds (.int i)) (hb : XB X b ds (.int j)) : XT X (.Compare a [.Lt] [b] pos) ds (decide (i < j)) := xt_cmp op_lt ha hb (nomark _) fun S H x y Q k r1 r2 q => ⟨i, j, r1.int, r2.int, q⟩
theorem xt_le (ha : XB X a ds (.int i)) (hb : XB X b ds (.int j)) : XT X (.Compare a [.LtE] [b] pos) ds (decide (i ≤ j)) := xt_cmp op_le ha hb (nomark _) fun S H x y Q k r1 r2 q => ⟨i, j, r1.int, r2.int, q⟩
theorem xt_gt (ha : XB X a ds (.int i)) (hb : XB X b ds (.int j)) : XT X (.Compare a [.Gt] [b] pos) ds (decide (j < i)) := xt_cmp op_gt ha hb (nomark _) fun S H x y Q k r1 r2 q => ⟨i, j, r1.int, r2.int, q⟩
theorem xt_ge (ha : XB X a ds (.int i)) (hb : XB X b ds (.int j)) : XT X (.Compare a [.GtE] [b] pos) ds (decide (j ≤ i)) := xt_cmp op_ge ha hb (nomark _) fun S H x y Q k r1 r2 q => ⟨i, j, r1.int, r2.int, q⟩
/-- a chain of two -/
def cmpI : CmpOp → Int → Int → Bool
  | .Lt, i, j => decide (i < j)
  | .LtE, i, j => decide (i ≤ j)
  | .Gt, i, j => decide (j < i)
  | .GtE, i, j => decide (j ≤ i)
  | _, _, _ => false
def ordOp : CmpOp → Bool
  | .Lt => true
  | .LtE => true
  | .Gt => true
  | .GtE => true
  | _ => false
theorem op_ord {op : CmpOp} (h : ordOp op = true) : OpR X (compareOp op) (rI0 fun i j => .bl (cmpI op i j)) := by
  cases op <;> first | exact op_lt | exact op_le | exact op_gt | exact op_ge | cases h
theorem chain {l : Int} {op op' : CmpOp} (ha : XB X a ds (.int i)) (hb : XB X b ds (.int j)) (hc : XB X c ds (.int l)) {G S0 S H : Hp} {σ : St} (E : Env X.K G S0 S H σ ds) {Q : VK}
    (q : ∀ S' H', Gr S H S' H' → Q (.bl (cmpI op i j && cmpI op' j l)) H') : tChain (rI0 fun i j => .bl (cmpI op i j)) (rI0 fun i j => .bl (cmpI op' i j)) (wE X a) (wE X b) (wE X c) σ H Q :=
  two ha hb E fun x y S' H' g r1 r2 => ⟨i, j, r1.int, r2.int, cmpI op i j, rfl, by
    cases e : cmpI op i j with
    | false =>
      rw [if_neg Bool.false_ne_true]
      rw [e] at q
      exact q S' H' g
    | true =>
      rw [if_pos rfl]
      rw [e] at q
      exact hc G S0 S' H' σ (E.grow g) _ fun z S2 H2 g2 r3 => ⟨j, l, r2.int, r3.int, q S2 H2 (g.trans g2)⟩⟩
theorem xv_chain {l : Int} {op op' : CmpOp} (ha : XB X a ds (.int i)) (hb : XB X b ds (.int j)) (hc : XB X c ds (.int l)) (h1 : ordOp op = true := by rfl) (h2 : ordOp op' = true := by rfl) (hm : lastMarks [op, op'] [b, c] = false := by with_unfolding_all rfl) :
    XV X (.Compare a [op, op'] [b, c] pos) ds (.bl (cmpI op i j && cmpI op' j l)) := .mk fun G S0 S H σ E Q q =>
  we_of (pe_chain (op_ord h1) (op_ord h2) pe_w pe_w pe_w hm) (chain ha hb hc E fun S' H' g => q _ S' H' g (.bl _))
theorem xt_chain {l : Int} {op op' : CmpOp} (ha : XB X a ds (.int i)) (hb : XB X b ds (.int j)) (hc : XB X c ds (.int l)) (h1 : ordOp op = true := by rfl) (h2 : ordOp op' = true := by rfl) (hm : lastMarks [op, op'] [b, c] = false := by with_unfolding_all rfl) :
    XT X (.Compare a [op, op'] [b, c] pos) ds (cmpI op i j && cmpI op' j l) := .mk fun G S0 S H σ E Q q =>
  wt_of (pt_chain (op_ord h1) (op_ord h2) pe_w pe_w pe_w hm) (chain ha hb hc E fun S' H' g => ⟨_, rfl, q S' H' g⟩)

/-! ### tests -/
theorem xt_val {k : Bool} (h : XV X e ds (.bl k)) (he : ∀ whole, isTrue e X.env whole = (do let v ← whole; standAt e.pos; holding [v] (truthy v)) := by intro _; rfl) : XT X e ds k := .mk fun G S0 S H σ E Q q =>
  wt_of (pt_val pe_w he) (h G S0 S H σ E _ fun v S' H' g r => by cases r; exact ⟨k, rfl, q S' H' g⟩)
/-- the truth of data -/
def truD : D → Option Bool
  | .non => some false
  | .bl b => some b
  | .int i => some (i != 0)
  | .lst xs => some (!xs.isEmpty)
  | .tup xs => some (!xs.isEmpty)
  | .scr xs => some (!xs.isEmpty)
  | _ => none
theorem da_empty {K : Fg} {S : Hp} {vs : List V} {xs : List D} (h : RpA K S vs xs) : vs.isEmpty = xs.isEmpty := by cases h <;> rfl
theorem xt_truth {A : D} {k : Bool} (h : XB X e ds A) (hk : truD A = some k := by rfl) (he : ∀ whole, isTrue e X.env whole = (do let v ← whole; standAt e.pos; holding [v] (truthy v)) := by intro _; rfl) : XT X e ds k := .mk fun G S0 S H σ E Q q =>
  wt_of (pt_truth pe_w he) (h G S0 S H σ E _ fun v S' H' g r => by
    refine ⟨k, ?_, q S' H' g⟩
    cases A with
    | non => cases hk; rw [r.non]; rfl
    | bl b => cases hk; rw [r.bl]; rfl
    | int b => cases hk; rw [r.int]; rfl
    | str b => cases hk
    | exc b => cases hk
    | ins b => cases hk
    | lst xs =>
      obtain ⟨p, vs, rfl, hp, ra⟩ := r.lst g.sh
      cases hk
      exact .inl ⟨vs, sq_of hp, by rw [da_empty ra]⟩
    | tup xs =>
      obtain ⟨p, vs, rfl, hp, ra⟩ := r.tup
      cases hk
      exact .inr (.inl ⟨vs, st_of (g.sh _ _ hp), by rw [da_empty ra]⟩)
    | scr xs =>
      obtain ⟨p, rfl, hp⟩ := r.scr g.sh
      cases hk
      exact .inl ⟨_, hp, by cases xs <;> rfl⟩)
theorem XW.t {k : Bool} (h : XW X e ds k) : XT X e ds k := .mk fun G S0 S H σ E Q q => wt_of pw_w.pt (h G S0 S H σ E Q q)
section
variable {rest : List Expr} {k l : Bool}
theorem xw_and1 {op} (h : XT X a ds k) (ho : op = .And ∨ op = .Or := by first | exact Or.inl rfl | exact Or.inr rfl) : XW X (.BoolOp op [a] pos) ds k := .mk fun G S0 S H σ E Q q => by
  rcases ho with rfl | rfl
  · exact ww_of (pw_and1 pt_w) (h G S0 S H σ E Q q)
  · exact ww_of (pw_or1 pt_w) (h G S0 S H σ E Q q)
/-- the right part is asked only if the left is true -/
theorem xw_and (ha : XT X a ds k) (hb : k = true → XW X (.BoolOp .And (b :: rest) pos) ds l) : XW X (.BoolOp .And (a :: b :: rest) pos) ds (k && l) := .mk fun G S0 S H σ E Q q =>
  ww_of (pw_and pt_w pw_w) (ha G S0 S H σ E _ fun S' H' g => by
    cases k with
    | false => rw [if_neg Bool.false_ne_true]; exact q S' H' g
    | true => rw [if_pos rfl]; exact hb rfl G S0 S' H' σ (E.grow g) _ fun S2 H2 g2 => q S2 H2 (g.trans g2))
theorem xw_or (ha : XT X a ds k) (hb : k = false → XW X (.BoolOp .Or (b :: rest) pos) ds l) : XW X (.BoolOp .Or (a :: b :: rest) pos) ds (k || l) := .mk fun G S0 S H σ E Q q =>
  ww_of (pw_or pt_w pw_w) (ha G S0 S H σ E _ fun S' H' g => by
    cases k with
    | true => rw [if_pos rfl]; exact q S' H' g
    | false => rw [if_neg Bool.false_ne_true]; exact hb rfl G S0 S' H' σ (E.grow g) _ fun S2 H2 g2 => q S2 H2 (g.trans g2))
theorem xt_not (h : XT X a ds k) : XT X (.UnaryOp .Not a pos) ds (!k) := .mk fun G S0 S H σ E Q q => wt_of (pt_not pt_w) (h G S0 S H σ E _ q)
theorem xv_not (h : XV X a ds (.bl k)) : XV X (.UnaryOp .Not a pos) ds (.bl (!k)) := .mk fun G S0 S H σ E Q q => we_of (pe_not pe_w) (h G S0 S H σ E _ fun v S' H' g r => by cases r; exact ⟨k, rfl, q _ S' H' g (.bl _)⟩)
theorem xv_one {op} {d : D} (h : XV X a ds d) : XV X (.BoolOp op [a] pos) ds d := .mk fun G S0 S H σ E Q q => we_of (pe_one pe_w) (h G S0 S H σ E _ q)
theorem xv_and (ha : XV X a ds (.bl k)) (hb : k = true → XV X (.BoolOp .And (b :: rest) pos) ds (.bl l)) : XV X (.BoolOp .And (a :: b :: rest) pos) ds (.bl (k && l)) := .mk fun G S0 S H σ E Q q =>
  we_of (pe_and pe_w pe_w) (ha G S0 S H σ E _ fun v S' H' g r => by
    cases r
    refine ⟨k, rfl, ?_⟩
    cases k with
    | false => rw [if_neg Bool.false_ne_true]; exact q _ S' H' g (.bl _)
    | true => rw [if_pos rfl]; exact hb rfl G S0 S' H' σ (E.grow g) _ fun v S2 H2 g2 r => q v S2 H2 (g.trans g2) r)
theorem xv_or (ha : XV X a ds (.bl k)) (hb : k = false → XV X (.BoolOp .Or (b :: rest) pos) ds (.bl l)) : XV X (.BoolOp .Or (a :: b :: rest) pos) ds (.bl (k || l)) := .mk fun G S0 S H σ E Q q =>
  we_of (pe_or pe_w pe_w) (ha G S0 S H σ E _ fun v S' H' g r => by
    cases r
    refine ⟨k, rfl, ?_⟩
    cases k with
    | true => rw [if_pos rfl]; exact q _ S' H' g (.bl _)
    | false => rw [if_neg Bool.false_ne_true]; exact hb rfl G S0 S' H' σ (E.grow g) _ fun v S2 H2 g2 r => q v S2 H2 (g.trans g2) r)
theorem xv_if {d : D} (hc : XT X c ds k) (ha : k = true → XV X a ds d) (hb : k = false → XV X b ds d) : XV X (.IfExp c a b pos) ds d := .mk fun G S0 S H σ E Q q =>
  we_of (pe_ifExp pt_w pe_w pe_w) (hc G S0 S H σ E _ fun S' H' g => by
    cases k with
    | true => rw [if_pos rfl]; exact ha rfl G S0 S' H' σ (E.grow g) _ fun v S2 H2 g2 r => q v S2 H2 (g.trans g2) r
    | false => rw [if_neg Bool.false_ne_true]; exact hb rfl G S0 S' H' σ (E.grow g) _ fun v S2 H2 g2 r => q v S2 H2 (g.trans g2) r)
end
theorem XV.is {d d' : D} (h : XV X e ds d) (q : d = d') : XV X e ds d' := q ▸ h
theorem XB.is {d d' : D} (h : XB X e ds d) (q : d = d') : XB X e ds d' := q ▸ h
theorem XL.is {d d' : List D} (h : XL X e ds d) (q : d = d') : XL X e ds d' := q ▸ h
theorem XT.is {k k' : Bool} (h : XT X e ds k) (q : k = k') : XT X e ds k' := q ▸ h
theorem XW.is {k k' : Bool} (h : XW X e ds k) (q : k = k') : XW X e ds k' := q ▸ h
end
end Lay
/-! Lay3: equality, subscripts, displays, built-ins. -/
namespace Lay
open PySem L2
/-! ### data as the model's data -/
mutual
def py : D → PyData
  | .non => .none
  | .bl b => .bool b
  | .int i => .int i
  | .str x => .str x
  | .lst ds => .list (pyAll ds)
  | .tup ds => .tuple (pyAll ds)
  | .scr _ => .none
  | .exc _ => .none
  | .ins _ _ => .none
def pyAll : List D → List PyData
  | [] => []
  | d :: ds => py d :: pyAll ds
end
mutual
def plain : D → Bool
  | .non => true
  | .bl _ => true
  | .int _ => true
  | .str _ => true
  | .lst ds => plainAll ds
  | .tup ds => plainAll ds
  | .scr _ => false
  | .exc _ => false
  | .ins _ _ => false
def plainAll : List D → Bool
  | [] => true
  | d :: ds => plain d && plainAll ds
end
mutual
theorem rp_dp {K : Fg} {S H : Hp} (k : Same S H) : ∀ (d : D) (v : V), Rp K S v d → plain d = true → Dp K H v (py d)
  | .non, _, .non, _ => .non
  | .bl b, _, .bl _, _ => .bl b
  | .int b, _, .int _, _ => .int b
  | .str b, _, .str _, _ => .str b
  | .lst ds, _, .lst h a, p => .lst (sq_of (k _ _ h)) (rpa_dp k ds _ a p)
  | .tup ds, _, .tup h a, p => .tup (st_of (k _ _ h)) (rpa_dp k ds _ a p)
  | .scr ds, _, _, p => by cases p
  | .exc ds, _, _, p => by cases p
  | .ins _ ds, _, _, p => by cases p
theorem rpa_dp {K : Fg} {S H : Hp} (k : Same S H) : ∀ (ds : List D) (vs : List V), RpA K S vs ds → plainAll ds = true → DpAll K H vs (pyAll ds)
  | [], _, .nil, _ => .nil
  | d :: ds, _, .cons h a, p => by
    have p' : (plain d && plainAll ds) = true := p
    rw [Bool.and_eq_true] at p'
    exact .cons (rp_dp k d _ h p'.1) (rpa_dp k ds _ a p'.2)
end
theorem rb_dp {K : Fg} {S H : Hp} (k : Same S H) {d : D} {v : V} (h : Rb K S H v d) (p : plain d = true) : Dp K H v (py d) := by
  rcases h with h | ⟨q, vs, xs, rfl, rfl, h1, h2⟩
  · exact rp_dp k d v h p
  · exact .lst (sq_of h1) (rpa_dp k xs vs h2 p)
/-- == of data -/
def eqD (A B : D) : Bool := PyData.eqv (py A) (py B)
/-- may be compared -/
def okE (A : D) : Bool := plain A && SeqAt.shaped (py A)
theorem okE_int {i : Int} : okE (.int i) = true := rfl
theorem okE_bl {i : Bool} : okE (.bl i) = true := rfl
theorem okE_non : okE .non = true := rfl
theorem eqD_int {i j : Int} : eqD (.int i) (.int j) = decide (i = j) := rfl
theorem okE_l {A : D} (h : okE A = true) : plain A = true := (Bool.and_eq_true_iff.mp h).1
theorem okE_r {A : D} (h : okE A = true) : SeqAt.shaped (py A) = true := (Bool.and_eq_true_iff.mp h).2

/-! ### arguments without stars, read off the text alone -/
def isStar : Expr → Bool
  | .Starred _ _ => true
  | _ => false
theorem se {e : Expr} {es : List Expr} {env : PySem.Env} (h : isStar e = false) : starEach (e :: es) env = (false, eval e env) :: starEach es env := by
  cases e <;> first | rfl | cases h
theorem spl {env : PySem.Env} {pos : Pos} : ∀ {es : List Expr}, es.all (fun e => !isStar e) = true → (backTo pos (starEach es env)).any (·.1) = false
  | [], _ => rfl
  | e :: es, h => by
    rw [List.all_cons, Bool.and_eq_true, Bool.not_eq_true'] at h
    rw [se h.1]
    have ih := spl (env := env) (pos := pos) h.2
    unfold backTo at ih ⊢
    rw [List.map_cons, List.any_cons, ih]
    rfl
theorem sfew {env : PySem.Env} {pos : Pos} : ∀ {es : List Expr}, es.all (fun e => !isStar e) = true → es.length < 30 → ((backTo pos (starEach es env)).all (fun x => !x.1) && (backToKw pos (keywordEach [] env)).all (fun x => x.1.isSome) && decide (es.length + ([] : List Keyword).length + (if ([] : List Keyword).isEmpty then 0 else 1) < 30)) = true := fun {es} h hl => by
  have k : ∀ {es : List Expr}, es.all (fun e => !isStar e) = true → (backTo pos (starEach es env)).all (fun x => !x.1) = true := by
    intro es
    induction es with
    | nil => intro _; rfl
    | cons e es ih =>
      intro h
      rw [List.all_cons, Bool.and_eq_true, Bool.not_eq_true'] at h
      rw [se h.1]
      have q := ih h.2
      unfold backTo at q ⊢
      rw [List.map_cons, List.all_cons, q]
      rfl
  rw [k h, decide_eq_true (by simpa using hl)]
  rfl

section
variable {X : Cx} {e a b c : Expr} {ds : List It} {pos : Pos} {A B : D} {i j : Int}
theorem xv_eq (hu : X.A.units + 64 < cLine) (ha : XB X a ds A) (hb : XB X b ds B) (h1 : okE A = true) (h2 : okE B = true) : XV X (.Compare a [.Eq] [b] pos) ds (.bl (eqD A B)) :=
  xv_cmp (op_eqD hu) ha hb (nomark _) fun S H x y Q k r1 r2 q => ⟨_, _, rb_dp k r1 (okE_l h1), rb_dp k r2 (okE_l h2), okE_r h1, okE_r h2, q⟩
theorem xt_eq (hu : X.A.units + 64 < cLine) (ha : XB X a ds A) (hb : XB X b ds B) (h1 : okE A = true) (h2 : okE B = true) : XT X (.Compare a [.Eq] [b] pos) ds (eqD A B) :=
  xt_cmp (op_eqD hu) ha hb (nomark _) fun S H x y Q k r1 r2 q => ⟨_, _, rb_dp k r1 (okE_l h1), rb_dp k r2 (okE_l h2), okE_r h1, okE_r h2, q⟩
theorem xv_ne (hu : X.A.units + 64 < cLine) (ha : XB X a ds A) (hb : XB X b ds B) (h1 : okE A = true) (h2 : okE B = true) : XV X (.Compare a [.NotEq] [b] pos) ds (.bl (!eqD A B)) :=
  xv_cmp (op_neD hu) ha hb (nomark _) fun S H x y Q k r1 r2 q => ⟨_, _, rb_dp k r1 (okE_l h1), rb_dp k r2 (okE_l h2), okE_r h1, okE_r h2, q⟩
theorem xt_ne (hu : X.A.units + 64 < cLine) (ha : XB X a ds A) (hb : XB X b ds B) (h1 : okE A = true) (h2 : okE B = true) : XT X (.Compare a [.NotEq] [b] pos) ds (!eqD A B) :=
  xt_cmp (op_neD hu) ha hb (nomark _) fun S H x y Q k r1 r2 q => ⟨_, _, rb_dp k r1 (okE_l h1), rb_dp k r2 (okE_l h2), okE_r h1, okE_r h2, q⟩
/-- of whole numbers, no room asked -/
theorem xv_eqI (ha : XB X a ds (.int i)) (hb : XB X b ds (.int j)) : XV X (.Compare a [.Eq] [b] pos) ds (.bl (decide (i = j))) :=
  xv_cmp op_eq ha hb (nomark _) fun S H x y Q k r1 r2 q => by rw [r1.int, r2.int]; exact ⟨rfl, by simpa using q⟩
theorem xt_eqI (ha : XB X a ds (.int i)) (hb : XB X b ds (.int j)) : XT X (.Compare a [.Eq] [b] pos) ds (decide (i = j)) :=
  xt_cmp op_eq ha hb (nomark _) fun S H x y Q k r1 r2 q => by rw [r1.int, r2.int]; exact ⟨rfl, by simpa using q⟩
theorem xv_neI (ha : XB X a ds (.int i)) (hb : XB X b ds (.int j)) : XV X (.Compare a [.NotEq] [b] pos) ds (.bl (!decide (i = j))) :=
  xv_cmp op_ne ha hb (nomark _) fun S H x y Q k r1 r2 q => by rw [r1.int, r2.int]; exact ⟨rfl, by simpa using q⟩
theorem xt_neI (ha : XB X a ds (.int i)) (hb : XB X b ds (.int j)) : XT X (.Compare a [.NotEq] [b] pos) ds (!decide (i = j)) :=
  xt_cmp op_ne ha hb (nomark _) fun S H x y Q k r1 r2 q => by rw [r1.int, r2.int]; exact ⟨rfl, by simpa using q⟩
/-- is None -/
def isNon : D → Bool
  | .non => true
  | _ => false
theorem rb_isNon {K : Fg} {S H : Hp} {v : V} {d : D} (h : Rb K S H v d) : decide (v = .non) = isNon d := by
  rcases h with h | ⟨p, vs, xs, rfl, rfl, _⟩
  · cases h <;> simp [isNon]
  · simp [isNon]
theorem xv_isN {j} {p2} (ha : XB X a ds A) : XV X (.Compare a [.Is] [.Constant .none j p2] pos) ds (.bl (isNon A)) :=
  xv_cmp (B := .non) op_isN ha xv_non.br (nomark _) fun S H x y Q k r1 r2 q => ⟨r2.non, by rw [rb_isNon r1]; exact q⟩
theorem xt_isN {j} {p2} (ha : XB X a ds A) : XT X (.Compare a [.Is] [.Constant .none j p2] pos) ds (isNon A) :=
  xt_cmp (B := .non) op_isN ha xv_non.br (nomark _) fun S H x y Q k r1 r2 q => ⟨r2.non, by rw [rb_isNon r1]; exact q⟩
theorem xt_notN {j} {p2} (ha : XB X a ds A) : XT X (.Compare a [.IsNot] [.Constant .none j p2] pos) ds (!isNon A) :=
  xt_cmp (B := .non) op_notN ha xv_non.br (nomark _) fun S H x y Q k r1 r2 q => ⟨r2.non, by rw [rb_isNon r1]; exact q⟩
theorem xv_notN {j} {p2} (ha : XB X a ds A) : XV X (.Compare a [.IsNot] [.Constant .none j p2] pos) ds (.bl (!isNon A)) :=
  xv_cmp (B := .non) op_notN ha xv_non.br (nomark _) fun S H x y Q k r1 r2 q => ⟨r2.non, by rw [rb_isNon r1]; exact q⟩
/-- in a list -/
def inD (A : D) (xs : List D) : Bool := xs.any fun x => eqD x A
theorem pyAll_map (xs : List D) : pyAll xs = xs.map py := by
  induction xs with
  | nil => rfl
  | cons x xs ih => simp only [pyAll, List.map_cons, ih]
theorem rb_seq {K : Fg} {S H : Hp} {v : V} {A : D} {ys : List D} (k : Same S H) (h : Rb K S H v A) (e : A = .lst ys ∨ A = .tup ys) : ∃ p vs, v = .ref p ∧ (SqL K H p vs ∨ SqT K H p vs) ∧ RpA K S vs ys := by
  rcases e with rfl | rfl
  · obtain ⟨p, vs, rfl, h1, h2⟩ := h.lst k
    exact ⟨p, vs, rfl, .inl (sq_of h1), h2⟩
  · obtain ⟨p, vs, rfl, h1, h2⟩ := h.tup
    exact ⟨p, vs, rfl, .inr (st_of (k _ _ h1)), h2⟩

/-! ### subscripts -/
def ixD : D → Int → Option D
  | .lst xs, i => atI xs i
  | .tup xs, i => atI xs i
  | .scr ns, i => (atI ns i).map .int
  | _, _ => none
theorem da_atI {K : Fg} {S : Hp} {vs : List V} {xs : List D} {i : Int} {d : D} (h : RpA K S vs xs) (e : atI xs i = some d) : ∃ v, atI vs i = some v ∧ Rp K S v d := by
  unfold atI at e ⊢
  rw [da_len h]
  cases q : ixN xs.length i with
  | none => rw [q] at e; cases e
  | some j => rw [q] at e; exact da_get h e
theorem xv_ix {d : D} (ha : XB X a ds A) (hb : XB X b ds (.int i)) (h : ixD A i = some d) (hs : PlainIx b := by exact fun _ _ => rfl) : XV X (.Subscript a b pos) ds d := .mk fun G S0 S H σ E Q q =>
  we_of (pe_ix ix_seq pe_w pe_w hs) (two ha hb E fun x y S' H' g r1 r2 => by
    cases A with
    | lst xs =>
      obtain ⟨p, vs, rfl, hp, ra⟩ := r1.lst g.sh
      obtain ⟨v, hv, rv⟩ := da_atI ra h
      exact .inl ⟨p, vs, i, v, rfl, r2.int, sq_of hp, hv, q v S' H' g rv⟩
    | tup xs =>
      obtain ⟨p, vs, rfl, hp, ra⟩ := r1.tup
      obtain ⟨v, hv, rv⟩ := da_atI ra h
      exact .inr (.inl ⟨p, vs, i, v, rfl, r2.int, st_of (g.sh _ _ hp), hv, q v S' H' g rv⟩)
    | scr ns =>
      obtain ⟨p, rfl, hp⟩ := r1.scr g.sh
      have h : (atI ns i).map D.int = some d := h
      cases z : atI ns i with
      | none => rw [z] at h; cases h
      | some n =>
        rw [z] at h
        cases h
        refine .inl ⟨p, _, i, .int n, rfl, r2.int, hp, ?_, q _ S' H' g (.int n)⟩
        unfold atI at z ⊢
        rw [List.length_map]
        cases w : ixN ns.length i with
        | none => rw [w] at z; cases z
        | some j =>
          rw [w] at z
          have z' : ns[j]? = some n := z
          show (ns.map V.int)[j]? = some (V.int n)
          rw [List.getElem?_map, z']
          rfl
    | _ => cases h)

/-! ### displays, arguments -/
theorem xa_nil : XA X [] ds [] := .mk fun G S0 S H σ E Q q => wa_of pa_nil (q [] S H E.gr .nil)
theorem xa_cons {es : List Expr} {d : D} {ys : List D} (ha : XV X e ds d) (hr : XA X es ds ys) (hs : starEach (e :: es) X.env = (false, eval e X.env) :: starEach es X.env := by exact se rfl) : XA X (e :: es) ds (d :: ys) := .mk fun G S0 S H σ E Q q =>
  wa_of (pa_cons pe_w pa_w hs) (ha G S0 S H σ E _ fun v S1 H1 g1 r1 => hr G S0 S1 H1 σ (E.grow g1) _ fun vs S2 H2 g2 r2 => q _ S2 H2 (g1.trans g2) (.cons (dp_same g2.s r1) r2))
theorem xab_nil : XAB X [] ds [] := .mk fun G S0 S H σ E Q q => wa_of pa_nil (q [] S H E.gr .nil)
theorem xab_cons {es : List Expr} {d : D} {ys : List D} (ha : XB X e ds d) (hr : XAB X es ds ys) (hs : starEach (e :: es) X.env = (false, eval e X.env) :: starEach es X.env := by exact se rfl) : XAB X (e :: es) ds (d :: ys) := .mk fun G S0 S H σ E Q q =>
  wa_of (pa_cons pe_w pa_w hs) (ha G S0 S H σ E _ fun v S1 H1 g1 r1 => hr G S0 S1 H1 σ (E.grow g1) _ fun vs S2 H2 g2 r2 => q _ S2 H2 (g1.trans g2) (.cons (r1.gr g2) r2))
theorem xl_lst {es : List Expr} {ys : List D} (ha : XA X es ds ys) (hz : ys.length ≤ 100000 := by first | exact Nat.le_of_ble_eq_true rfl | simp) : XL X (.List es pos) ds ys := .mk fun G S0 S H σ E Q q =>
  we_of (pe_lst pa_w) (ha G S0 S H σ E _ fun vs S' H' g r => ⟨sz _ (by rw [da_len r]; exact hz), fun p hp => q p vs S' _ (g.trans (Gr.newH g.sh hp)) (g.h.free hp) (g.sh.free hp) upd_same r⟩)
theorem xv_tup {es : List Expr} {ys : List D} {x1} (ha : XA X es ds ys) (hz : ys.length ≤ 100000 := by first | exact Nat.le_of_ble_eq_true rfl | simp) : XV X (.Tuple es x1 pos) ds (.tup ys) := .mk fun G S0 S H σ E Q q =>
  we_of (pe_tup pa_w) (ha G S0 S H σ E _ fun vs S' H' g r => ⟨sz _ (by rw [da_len r]; exact hz), fun p hp => q _ _ _ (g.trans (Gr.new g.sh hp)) (.tup upd_same (da_same (same_new (g.sh.free hp)) r))⟩)
theorem xl_rep {xs : List D} (ha : XB X a ds (.lst xs)) (hb : XB X b ds (.int j)) (h1 : -(2 ^ 63) ≤ j) (h2 : j < 2 ^ 63) (hz : xs.length * j.toNat ≤ 100000) : XL X (.BinOp a .Mult b pos) ds (List.replicate j.toNat xs).flatten :=
  xl_bin op_rep ha hb fun S H x y Q k r1 r2 q => by
    obtain ⟨p, vs, rfl, hp, ra⟩ := r1.lst k
    exact ⟨p, j, vs, rfl, r2.int, hp, h1, h2, sz _ (by rw [da_len ra]; exact hz), fun n hn => q n _ S _ (Gr.newH k hn) hn (k.free hn) upd_same (da_rep ra _)⟩

/-! ### built-ins -/
section
variable {id T : String} {r : List V → Hp → VK → Prop} {x : Str} {es : List Expr} {p : Pos} {ys : List D} {d : D}
theorem xv_callB (hc : CallR X (.builtin id) r) (hm : X.mg x = none) (hv : bootBuiltins x = some (.builtin id)) (ha : XAB X (e :: es) ds ys)
    (hr : ∀ (S H : Hp) vs (Q : VK), Same S H → RbA X.K S H vs ys → (∀ v S' H', Gr S H S' H' → Rp X.K S' v d → Q v H') → r vs H Q) (hg : Gl X x) (hn : x ≠ "__name__" := by decide) (hdb : (x == ("__debug__" : Str)) = false := by decide)
    (he : starEach (e :: es) X.env = (false, eval e X.env) :: starEach es X.env := by exact se rfl) (hpl : (backTo pos (starEach es X.env)).any (·.1) = false := by exact spl rfl) : XV X (.Call (.Name x p) (e :: es) [] pos) ds d := .mk fun G S0 S H σ E Q q =>
  we_of (pe_callB hc hg hm hv pa_w hn hdb he hpl) (ha G S0 S H σ E _ fun vs S' H' g rr => hr S' H' vs Q g.sh rr fun v S2 H2 g2 r2 => q v S2 H2 (g.trans g2) r2)
theorem xv_callTy (hc : CallR X (.type T) r) (hm : X.mg x = none) (hv : bootBuiltins x = some (.type T)) (ha : XAB X (e :: es) ds ys)
    (hr : ∀ (S H : Hp) vs (Q : VK), Same S H → RbA X.K S H vs ys → (∀ v S' H', Gr S H S' H' → Rp X.K S' v d → Q v H') → r vs H Q) (hg : Gl X x) (hn : x ≠ "__name__" := by decide) (hdb : (x == ("__debug__" : Str)) = false := by decide)
    (he : starEach (e :: es) X.env = (false, eval e X.env) :: starEach es X.env := by exact se rfl) (hpl : (backTo pos (starEach es X.env)).any (·.1) = false := by exact spl rfl) : XV X (.Call (.Name x p) (e :: es) [] pos) ds d := .mk fun G S0 S H σ E Q q =>
  we_of (pe_callTy hc hg hm hv pa_w hn hdb he hpl) (ha G S0 S H σ E _ fun vs S' H' g rr => hr S' H' vs Q g.sh rr fun v S2 H2 g2 r2 => q v S2 H2 (g.trans g2) r2)
theorem xl_callB {xs : List D} (hc : CallR X (.builtin id) r) (hm : X.mg x = none) (hv : bootBuiltins x = some (.builtin id)) (ha : XAB X (e :: es) ds ys)
    (hr : ∀ (S H : Hp) vs (Q : VK), Same S H → RbA X.K S H vs ys → (∀ p vs S' H', Gr S H S' H' → H p = none → S' p = none → H' p = some (.lst vs) → RpA X.K S' vs xs → Q (.ref p) H') → r vs H Q) (hg : Gl X x) (hn : x ≠ "__name__" := by decide) (hdb : (x == ("__debug__" : Str)) = false := by decide)
    (he : starEach (e :: es) X.env = (false, eval e X.env) :: starEach es X.env := by exact se rfl) (hpl : (backTo pos (starEach es X.env)).any (·.1) = false := by exact spl rfl) : XL X (.Call (.Name x p) (e :: es) [] pos) ds xs := .mk fun G S0 S H σ E Q q =>
  we_of (pe_callB hc hg hm hv pa_w hn hdb he hpl) (ha G S0 S H σ E _ fun vs S' H' g rr => hr S' H' vs Q g.sh rr fun p ws S2 H2 g2 h1 h2 h3 h4 => q p ws S2 H2 (g.trans g2) (g.h.free h1) h2 h3 h4)
theorem xl_callTy {xs : List D} (hc : CallR X (.type T) r) (hm : X.mg x = none) (hv : bootBuiltins x = some (.type T)) (ha : XAB X (e :: es) ds ys)
    (hr : ∀ (S H : Hp) vs (Q : VK), Same S H → RbA X.K S H vs ys → (∀ p vs S' H', Gr S H S' H' → H p = none → S' p = none → H' p = some (.lst vs) → RpA X.K S' vs xs → Q (.ref p) H') → r vs H Q) (hg : Gl X x) (hn : x ≠ "__name__" := by decide) (hdb : (x == ("__debug__" : Str)) = false := by decide)
    (he : starEach (e :: es) X.env = (false, eval e X.env) :: starEach es X.env := by exact se rfl) (hpl : (backTo pos (starEach es X.env)).any (·.1) = false := by exact spl rfl) : XL X (.Call (.Name x p) (e :: es) [] pos) ds xs := .mk fun G S0 S H σ E Q q =>
  we_of (pe_callTy hc hg hm hv pa_w hn hdb he hpl) (ha G S0 S H σ E _ fun vs S' H' g rr => hr S' H' vs Q g.sh rr fun p ws S2 H2 g2 h1 h2 h3 h4 => q p ws S2 H2 (g.trans g2) (g.h.free h1) h2 h3 h4)
end
theorem rba1 {K : Fg} {S H : Hp} {vs : List V} {d : D} (h : RbA K S H vs [d]) : ∃ v, vs = [v] ∧ Rb K S H v d := by
  cases h with
  | cons h t => cases t; exact ⟨_, rfl, h⟩
theorem rba2 {K : Fg} {S H : Hp} {vs : List V} {d d' : D} (h : RbA K S H vs [d, d']) : ∃ v w, vs = [v, w] ∧ Rb K S H v d ∧ Rb K S H w d' := by
  cases h with
  | cons h t =>
    obtain ⟨w, rfl, q⟩ := rba1 t
    exact ⟨_, w, rfl, h, q⟩
/-- how many -/
def lenD : D → Option Nat
  | .lst xs => some xs.length
  | .tup xs => some xs.length
  | .scr xs => some xs.length
  | _ => none
theorem boot_abs : bootBuiltins ("abs" : Str) = some (.builtin "abs") := by decide +kernel
theorem boot_max : bootBuiltins ("max" : Str) = some (.builtin "max") := by decide +kernel
theorem boot_min : bootBuiltins ("min" : Str) = some (.builtin "min") := by decide +kernel
theorem boot_int : bootBuiltins ("int" : Str) = some (.type "int") := by decide +kernel
theorem boot_list : bootBuiltins ("list" : Str) = some (.type "list") := by decide +kernel
theorem boot_tuple : bootBuiltins ("tuple" : Str) = some (.type "tuple") := by decide +kernel
theorem boot_sum' : bootBuiltins ("sum" : Str) = some (.builtin "sum") := by decide +kernel
theorem boot_any' : bootBuiltins ("any" : Str) = some (.builtin "any") := by decide +kernel
theorem boot_all' : bootBuiltins ("all" : Str) = some (.builtin "all") := by decide +kernel
theorem xv_len {p : Pos} {n : Nat} (hm : X.mg "len" = none) (ha : XB X e ds A) (hn : lenD A = some n := by rfl) (hg : Gl X "len" := by rfl) (hs : starEach [e] X.env = (false, eval e X.env) :: starEach [] X.env := by exact se rfl) (hpl : (backTo pos (starEach [] X.env)).any (·.1) = false := by exact spl rfl) :
    XV X (.Call (.Name "len" p) [e] [] pos) ds (.int n) :=
  xv_callB call_len_seq hm PySem.boot_len (xab_cons ha xab_nil hs) (fun S H vs Q k r q => by
    obtain ⟨v, rfl, r1⟩ := rba1 r
    cases A with
    | lst xs =>
      cases hn
      obtain ⟨p, vs, rfl, h1, h2⟩ := r1.lst k
      exact ⟨p, vs, rfl, .inl (sq_of h1), by rw [da_len h2]; exact q _ S H (.refl k) (.int _)⟩
    | tup xs =>
      cases hn
      obtain ⟨p, vs, rfl, h1, h2⟩ := r1.tup
      exact ⟨p, vs, rfl, .inr (st_of (k _ _ h1)), by rw [da_len h2]; exact q _ S H (.refl k) (.int _)⟩
    | scr xs =>
      cases hn
      obtain ⟨p, rfl, h1⟩ := r1.scr k
      exact ⟨p, _, rfl, .inl h1, by rw [List.length_map]; exact q _ S H (.refl k) (.int _)⟩
    | _ => cases hn) hg (he := hs) (hpl := hpl)
theorem xv_abs {p : Pos} (hm : X.mg "abs" = none) (ha : XB X e ds (.int i)) (hg : Gl X "abs" := by rfl) (hs : starEach [e] X.env = (false, eval e X.env) :: starEach [] X.env := by exact se rfl) (hpl : (backTo pos (starEach [] X.env)).any (·.1) = false := by exact spl rfl) :
    XV X (.Call (.Name "abs" p) [e] [] pos) ds (.int (i.natAbs : Int)) :=
  xv_callB call_abs hm boot_abs (xab_cons ha xab_nil hs) (fun S H vs Q k r q => by
    obtain ⟨v, rfl, r1⟩ := rba1 r
    rw [r1.int]
    refine ⟨i, rfl, ?_⟩
    have e : (if i < 0 then -i else i) = (i.natAbs : Int) := by split <;> omega
    rw [e]
    exact q _ S H (.refl k) (.int _)) hg (he := hs) (hpl := hpl)
theorem xv_max {p : Pos} (hc : X.calm = true) (hm : X.mg "max" = none) (ha : XB X a ds (.int i)) (hb : XB X b ds (.int j)) (hg : Gl X "max" := by rfl) (hs : starEach [a, b] X.env = (false, eval a X.env) :: starEach [b] X.env := by exact se rfl) (hs' : starEach [b] X.env = (false, eval b X.env) :: starEach [] X.env := by exact se rfl) (hpl : (backTo pos (starEach [b] X.env)).any (·.1) = false := by exact spl rfl) :
    XV X (.Call (.Name "max" p) [a, b] [] pos) ds (.int (max i j)) :=
  xv_callB (call_max2 hc) hm boot_max (xab_cons ha (xab_cons hb xab_nil hs') hs) (fun S H vs Q k r q => by
    obtain ⟨v, w, rfl, r1, r2⟩ := rba2 r
    rw [r1.int, r2.int]
    refine ⟨i, j, rfl, ?_⟩
    have e : (if j > i then j else i) = max i j := by split <;> omega
    rw [e]
    exact q _ S H (.refl k) (.int _)) hg (he := hs) (hpl := hpl)
theorem xv_int1 {p : Pos} {k : Bool} (hm : X.mg "int" = none) (ha : XB X e ds (.bl k)) (hg : Gl X "int" := by rfl) (hs : starEach [e] X.env = (false, eval e X.env) :: starEach [] X.env := by exact se rfl) (hpl : (backTo pos (starEach [] X.env)).any (·.1) = false := by exact spl rfl) :
    XV X (.Call (.Name "int" p) [e] [] pos) ds (.int (if k then 1 else 0)) :=
  xv_callTy call_int1 hm boot_int (xab_cons ha xab_nil hs) (fun S H vs Q kk r q => by
    obtain ⟨v, rfl, r1⟩ := rba1 r
    rw [r1.bl]
    exact .inr ⟨k, rfl, q _ S H (.refl kk) (.int _)⟩) hg (he := hs) (hpl := hpl)
theorem xl_list {p : Pos} {xs : List D} (hm : X.mg "list" = none) (ha : XB X e ds A) (hA : A = .lst xs ∨ A = .tup xs := by first | exact Or.inl rfl | exact Or.inr rfl) (hg : Gl X "list" := by rfl) (hs : starEach [e] X.env = (false, eval e X.env) :: starEach [] X.env := by exact se rfl) (hpl : (backTo pos (starEach [] X.env)).any (·.1) = false := by exact spl rfl) :
    XL X (.Call (.Name "list" p) [e] [] pos) ds xs :=
  xl_callTy call_list_of hm boot_list (xab_cons ha xab_nil hs) (fun S H vs Q k r q => by
    obtain ⟨v, rfl, r1⟩ := rba1 r
    obtain ⟨p, vs, rfl, h1, h2⟩ := rb_seq k r1 hA
    exact ⟨p, vs, rfl, h1, fun l hl => q l vs S _ (Gr.newH k hl) hl (k.free hl) upd_same h2⟩) hg (he := hs) (hpl := hpl)
theorem xv_tuple {p : Pos} {xs : List D} (hm : X.mg "tuple" = none) (ha : XB X e ds (.lst xs)) (hg : Gl X "tuple" := by rfl) (hs : starEach [e] X.env = (false, eval e X.env) :: starEach [] X.env := by exact se rfl) (hpl : (backTo pos (starEach [] X.env)).any (·.1) = false := by exact spl rfl) :
    XV X (.Call (.Name "tuple" p) [e] [] pos) ds (.tup xs) :=
  xv_callTy call_tuple_of hm boot_tuple (xab_cons ha xab_nil hs) (fun S H vs Q k r q => by
    obtain ⟨v, rfl, r1⟩ := rba1 r
    obtain ⟨p, vs, rfl, h1, h2⟩ := r1.lst k
    exact ⟨p, vs, rfl, .inl ⟨sq_of h1, fun l hl => q _ _ _ (Gr.new k hl) (.tup upd_same (da_same (same_new (k.free hl)) h2))⟩⟩) hg (he := hs) (hpl := hpl)
end
end Lay
/-! Lay4: what a statement does. -/
namespace Lay
open PySem L2
/-- how a statement ends -/
inductive Ou where
  | nx (ds : List It)
  | bk (ds : List It)
  | ct (ds : List It)
  /-- a value is handed back -/
  | rt (d : D)
  /-- .. and slot 0 holds this -/
  | rs (d : D) (it : It)
  /-- an exception of the class at c -/
  | er (c : Addr)
  /-- .. the slots as they are -/
  | es (c : Addr) (ds : List It)
structure Fnl (G S0 S H : Hp) : Prop where
  sh : Same S H
  gh : Same G H
  s0 : Same S0 S
  gs : ∀ a, G a ≠ none → S a = S0 a
theorem Env.fin {K : Fg} {G S0 S H : Hp} {σ : St} {ds : List It} (e : Env K G S0 S H σ ds) : Fnl G S0 S H := ⟨e.sh, e.gh, e.s0, e.gs⟩
def PostS (K : Fg) (W : WX) (G S0 : Hp) (Z : Ends) : Ou → Prop
  | .nx ds => ∀ σ S H, Env K G S0 S H σ ds → Z.nx σ H
  | .bk ds => ∀ σ S H, Env K G S0 S H σ ds → Z.bk σ H
  | .ct ds => ∀ σ S H, Env K G S0 S H σ ds → Z.ct σ H
  | .rt d => ∀ v S H, Fnl G S0 S H → Rp K S v d → Z.rt v H
  | .rs d it => ∀ v σ S H ds, Env K G S0 S H σ (it :: ds) → Rp K S v d → Z.rt v H
  | .er c => ∀ σ S H, Fnl G S0 S H → W (.ref c) none σ H
  | .es c ds => ∀ σ S H, Env K G S0 S H σ ds → W (.ref c) none σ H
/-- ds' tells less -/
structure Le (ds ds' : List It) : Prop where
  mk ::
  run : ∀ (K : Fg) (G S0 S H : Hp) (σ : St), Env K G S0 S H σ ds → Env K G S0 S H σ ds'
instance {ds ds' : List It} : CoeFun (Le ds ds') (fun _ => ∀ (K : Fg) (G S0 S H : Hp) (σ : St), Env K G S0 S H σ ds → Env K G S0 S H σ ds') := ⟨Le.run⟩
theorem Le.refl {ds : List It} : Le ds ds := .mk fun _ _ _ _ _ _ e => e
theorem Le.trans {a b c : List It} (h : Le a b) (q : Le b c) : Le a c := .mk fun _ _ _ _ _ _ e => q _ _ _ _ _ _ (h _ _ _ _ _ _ e)
theorem Le.no {ds : List It} (i : Nat) : Le ds (ds.set i .no) := .mk fun K G S0 S H σ e => by
  have q := e.put_no i (σ[i]?.join)
  by_cases hi : i < σ.length
  · have z : σ[i]?.join = σ[i] := by rw [List.getElem?_eq_getElem hi]; rfl
    rw [z, List.set_getElem_self] at q
    exact q
  · rw [List.set_eq_of_length_le (by omega)] at q
    exact q
/-- the slots js are forgotten -/
def fg : List Nat → List It → List It
  | [], ds => ds
  | j :: js, ds => fg js (ds.set j .no)
theorem Le.fg {ds ds' : List It} (js : List Nat) (h : fg js ds = ds') : Le ds ds' := by
  subst h
  induction js generalizing ds with
  | nil => exact .refl
  | cons j js ih => exact (Le.no j).trans ih
theorem Le.eq {ds ds' : List It} (h : ds = ds') : Le ds ds' := h ▸ .refl

section
variable {X : Cx} {W : WX} {e a b c : Expr} {st : Stmt} {sts rest : List Stmt} {ds ds' ds1 : List It} {o : Ou} {pos : Pos} {d : D} {xs ys : List D}
def wS (X : Cx) (st : Stmt) : TS := fun Z σ H => ∀ pins s, Inv X pins σ H s → wpAny (model X.prog X.w) X.A (exec st X.env) (SP X pins Z) X.xe s
theorem ps_w : PS X st (wS X st) := ⟨fun pins s _ _ _ I h => h pins s I⟩
def wSs (X : Cx) (sts : List Stmt) : TS := fun Z σ H => ∀ pins s, Inv X pins σ H s → wpAny (model X.prog X.w) X.A (execs sts X.env) (SP X pins Z) X.xe s
theorem pss_w : PSs X sts (wSs X sts) := ⟨fun pins s _ _ _ I h => h pins s I⟩
def wG (X : Cx) (tg : Expr) : TG := fun v σ H Q => ∀ pins s u, Inv X pins σ H s → RelV v u → wpAny (model X.prog X.w) X.A (assign tg X.env u) (fun _ s' => ∃ σ' H', Inv X pins σ' H' s' ∧ Q σ' H') X.xe s
theorem pg_w {tg : Expr} : PG X tg (wG X tg) := ⟨fun pins s _ _ _ u _ I r h => h pins s u I r⟩
def wGs (X : Cx) (tgs : List Expr) : TGs := fun vs σ H Q => ∀ pins s us, Inv X pins σ H s → Vals vs us → wpAny (model X.prog X.w) X.A (assignInOrder ((assignEach tgs X.env).map (·.2)) us) (fun _ s' => ∃ σ' H', Inv X pins σ' H' s' ∧ Q σ' H') X.xe s
theorem pgs_w {tgs : List Expr} : PGs X tgs (wGs X tgs) := ⟨fun pins s _ _ _ us _ I r h => h pins s us I r⟩
theorem ws_of {t : TS} (h : PS X st t) {σ : St} {H : Hp} {Z : Ends} (q : t Z σ H) : wS X st Z σ H := fun pins s I => h.run pins s σ H Z I q
theorem wss_of {t : TS} (h : PSs X sts t) {σ : St} {H : Hp} {Z : Ends} (q : t Z σ H) : wSs X sts Z σ H := fun pins s I => h.run pins s σ H Z I q
theorem wg_of {tg : Expr} {t : TG} (h : PG X tg t) {v : V} {σ : St} {H : Hp} {Q : St → Hp → Prop} (q : t v σ H Q) : wG X tg v σ H Q := fun pins s u I r => h.run pins s σ H v u Q I r q
theorem wgs_of {tgs : List Expr} {t : TGs} (h : PGs X tgs t) {v : List V} {σ : St} {H : Hp} {Q : St → Hp → Prop} (q : t v σ H Q) : wGs X tgs v σ H Q := fun pins s u I r => h.run pins s σ H v u Q I r q

structure XS (X : Cx) (W : WX) (st : Stmt) (ds : List It) (o : Ou) : Prop where
  mk ::
  run : ∀ G S0 S H σ, Env X.K G S0 S H σ ds → ∀ Z, PostS X.K W G S0 Z o → wS X st Z σ H
instance {X : Cx} {W : WX} {st : Stmt} {ds : List It} {o : Ou} : CoeFun (XS X W st ds o) (fun _ => ∀ G S0 S H σ, Env X.K G S0 S H σ ds → ∀ Z, PostS X.K W G S0 Z o → wS X st Z σ H) := ⟨XS.run⟩
structure XSs (X : Cx) (W : WX) (sts : List Stmt) (ds : List It) (o : Ou) : Prop where
  mk ::
  run : ∀ G S0 S H σ, Env X.K G S0 S H σ ds → ∀ Z, PostS X.K W G S0 Z o → wSs X sts Z σ H
instance {X : Cx} {W : WX} {sts : List Stmt} {ds : List It} {o : Ou} : CoeFun (XSs X W sts ds o) (fun _ => ∀ G S0 S H σ, Env X.K G S0 S H σ ds → ∀ Z, PostS X.K W G S0 Z o → wSs X sts Z σ H) := ⟨XSs.run⟩
/-- a target gets d -/
structure XG (X : Cx) (tg : Expr) (d : D) (ds ds' : List It) : Prop where
  mk ::
  run : ∀ G S0 S H σ v, Env X.K G S0 S H σ ds → Rp X.K S v d → ∀ Q : St → Hp → Prop, (∀ σ', Env X.K G S0 S H σ' ds' → Q σ' H) → wG X tg v σ H Q
instance {X : Cx} {tg : Expr} {d : D} {ds ds' : List It} : CoeFun (XG X tg d ds ds') (fun _ => ∀ G S0 S H σ v, Env X.K G S0 S H σ ds → Rp X.K S v d → ∀ Q : St → Hp → Prop, (∀ σ', Env X.K G S0 S H σ' ds' → Q σ' H) → wG X tg v σ H Q) := ⟨XG.run⟩
structure XGs (X : Cx) (tgs : List Expr) (xs : List D) (ds ds' : List It) : Prop where
  mk ::
  run : ∀ G S0 S H σ vs, Env X.K G S0 S H σ ds → RpA X.K S vs xs → ∀ Q : St → Hp → Prop, (∀ σ', Env X.K G S0 S H σ' ds' → Q σ' H) → wGs X tgs vs σ H Q
instance {X : Cx} {tgs : List Expr} {xs : List D} {ds ds' : List It} : CoeFun (XGs X tgs xs ds ds') (fun _ => ∀ G S0 S H σ vs, Env X.K G S0 S H σ ds → RpA X.K S vs xs → ∀ Q : St → Hp → Prop, (∀ σ', Env X.K G S0 S H σ' ds' → Q σ' H) → wGs X tgs vs σ H Q) := ⟨XGs.run⟩

/-! ### blocks -/
def goesOn : Ou → Bool
  | .nx _ => true
  | _ => false
theorem xss_nil : XSs X W [] ds (.nx ds) := .mk fun G S0 S H σ E Z q => wss_of pss_nil (q σ S H E)
theorem xss_cons (h1 : XS X W st ds (.nx ds1)) (h2 : XSs X W rest ds1 o) : XSs X W (st :: rest) ds o := .mk fun G S0 S H σ E Z q =>
  wss_of (pss_cons ps_w pss_w) (h1 G S0 S H σ E _ fun σ' S' H' E' => h2 G S0 S' H' σ' E' Z q)
theorem xss_stop (h1 : XS X W st ds o) (ho : goesOn o = false := by rfl) : XSs X W (st :: rest) ds o := .mk fun G S0 S H σ E Z q =>
  wss_of (pss_cons ps_w pss_w) (h1 G S0 S H σ E _ (by cases o <;> first | exact q | cases ho))
theorem xss_one (h1 : XS X W st ds o) : XSs X W [st] ds o := .mk fun G S0 S H σ E Z q => wss_of (pss_one ps_w) (h1 G S0 S H σ E Z q)
theorem XSs.pre (h : XSs X W sts ds' o) (l : Le ds ds') : XSs X W sts ds o := .mk fun G S0 S H σ E Z q => h G S0 S H σ (l _ _ _ _ _ _ E) Z q
theorem XS.pre (h : XS X W st ds' o) (l : Le ds ds') : XS X W st ds o := .mk fun G S0 S H σ E Z q => h G S0 S H σ (l _ _ _ _ _ _ E) Z q
theorem XSs.le (h : XSs X W sts ds (.nx ds1)) (l : Le ds1 ds') : XSs X W sts ds (.nx ds') := .mk fun G S0 S H σ E Z q => h G S0 S H σ E Z fun σ' S' H' E' => q σ' S' H' (l _ _ _ _ _ _ E')
theorem XS.le (h : XS X W st ds (.nx ds1)) (l : Le ds1 ds') : XS X W st ds (.nx ds') := .mk fun G S0 S H σ E Z q => h G S0 S H σ E Z fun σ' S' H' E' => q σ' S' H' (l _ _ _ _ _ _ E')
theorem XSs.er {c : Addr} (h : XSs X W sts ds (.es c ds1)) : XSs X W sts ds (.er c) := .mk fun G S0 S H σ E Z q => h G S0 S H σ E Z fun σ' S' H' E' => q σ' S' H' E'.fin
theorem XS.er {c : Addr} (h : XS X W st ds (.es c ds1)) : XS X W st ds (.er c) := .mk fun G S0 S H σ E Z q => h G S0 S H σ E Z fun σ' S' H' E' => q σ' S' H' E'.fin
theorem XSs.is {o' : Ou} (h : XSs X W sts ds o) (e : o = o') : XSs X W sts ds o' := e ▸ h
theorem XS.is {o' : Ou} (h : XS X W st ds o) (e : o = o') : XS X W st ds o' := e ▸ h
/-- an owned list is frozen -/
theorem XSs.freeze (i : Nat) (h : XSs X W sts (ds.set i (.fz (.lst xs))) o) (hd : ds[i]? = some (.ow xs) := by rfl) : XSs X W sts ds o := .mk fun G S0 S H σ E Z q => by
  obtain ⟨S', k, E'⟩ := E.freeze hd
  exact h G S0 S' H σ E' Z q
theorem XV.gr (h : XV X e ds d) : XV X e ds d := h

/-! ### targets -/
theorem xg_name (i : Nat) {x : Str} {p : Pos} (hN : X.N.Nodup) (hi : X.N[i]? = some x := by rfl) (hx : Loc X.env.scope x := by first | exact Or.inl rfl | exact Or.inr rfl) (hf : X.fn x = true ∨ X.env.scope.names.lookup x = some .local := by first | exact .inl rfl | exact .inr rfl) :
    XG X (.Name x p) d ds (ds.set i (.fz d)) := .mk fun G S0 S H σ v E r Q q => wg_of (pg_name (i := i) hN hi hx hf) (q _ (E.putD i r))
theorem xgs_nil : XGs X [] [] ds ds := .mk fun G S0 S H σ vs E r Q q => by cases r; exact wgs_of pgs_nil ⟨rfl, q σ E⟩
theorem xgs_cons {tg : Expr} {tgs : List Expr} (h1 : XG X tg d ds ds1) (h2 : XGs X tgs xs ds1 ds') (hs : (assignEach (tg :: tgs) X.env).map (·.2) = assign tg X.env :: (assignEach tgs X.env).map (·.2) := by rfl) : XGs X (tg :: tgs) (d :: xs) ds ds' := .mk fun G S0 S H σ vs E r Q q => by
  cases r with
  | cons r rs => exact wgs_of (pgs_cons pg_w pgs_w hs) ⟨_, _, rfl, h1 G S0 S H σ _ E r _ fun σ' E' => h2 G S0 S H σ' _ E' rs Q q⟩
theorem xg_tup {tgs : List Expr} {k : Nat} {p : Pos} (hc : X.calm = true) (h : XGs X tgs xs ds ds') (hn : (assignEach tgs X.env).length = xs.length := by rfl) (hst : (assignEach tgs X.env).findIdx? (·.1) = none := by rfl) : XG X (.Tuple tgs k p) (.tup xs) ds ds' := .mk fun G S0 S H σ v E r Q q => by
  cases r with
  | tup h1 ra => exact wg_of (pg_tup (n := xs.length) hc pgs_w hn hst) ⟨_, _, rfl, st_of (E.sh _ _ h1), by rw [da_len ra], h G S0 S H σ _ E ra Q q⟩

/-! ### stores -/
theorem xs_set (i : Nat) {x : Str} {p : Pos} (hN : X.N.Nodup) (he : XV X e ds d) (hi : X.N[i]? = some x := by rfl) (hx : Loc X.env.scope x := by first | exact Or.inl rfl | exact Or.inr rfl) (hs : swapsWith e (some (.Name x p)) pos.line X.env = pure false := by rfl)
    (hf : X.fn x = true ∨ X.env.scope.names.lookup x = some .local := by first | exact .inl rfl | exact .inr rfl) : XS X W (.Assign [.Name x p] e pos) ds (.nx (ds.set i (.fz d))) := .mk fun G S0 S H σ E Z q =>
  ws_of (ps_set hN hi hx pe_w hs hf) (he G S0 S H σ E _ fun v S' H' g r => q _ S' H' ((E.grow g).putD i r))
theorem xs_own (i : Nat) {x : Str} {p : Pos} (hN : X.N.Nodup) (he : XL X e ds xs) (hi : X.N[i]? = some x := by rfl) (hx : Loc X.env.scope x := by first | exact Or.inl rfl | exact Or.inr rfl) (hs : swapsWith e (some (.Name x p)) pos.line X.env = pure false := by rfl)
    (hf : X.fn x = true ∨ X.env.scope.names.lookup x = some .local := by first | exact .inl rfl | exact .inr rfl) : XS X W (.Assign [.Name x p] e pos) ds (.nx (ds.set i (.ow xs))) := .mk fun G S0 S H σ E Z q =>
  ws_of (ps_set hN hi hx pe_w hs hf) (he G S0 S H σ E _ fun p vs S' H' g h1 h2 h3 h4 => q _ S' H' (E.putL g i h1 h3 h2 h4))
theorem xs_asg {tg : Expr} (he : XV X e ds d) (hg : XG X tg d ds ds') (hs : swapsWithSole [tg] e pos.line X.env = pure false := by rfl) (hw : swappedStores [tg] e X.env = pure none := by rfl)
    (h1 : (assignEach [tg] X.env).map (·.2) = [assign tg X.env] := by rfl) : XS X W (.Assign [tg] e pos) ds (.nx ds') := .mk fun G S0 S H σ E Z q =>
  ws_of (ps_asg pe_w pg_w hs hw h1) (he G S0 S H σ E _ fun v S' H' g r => hg G S0 S' H' σ v (E.grow g) r _ fun σ' E' => q σ' S' H' E')
theorem xs_asgR {tg : Expr} {c : Addr} (he : XR X W e ds c) (hs : swapsWithSole [tg] e pos.line X.env = pure false := by rfl) (hw : swappedStores [tg] e X.env = pure none := by rfl)
    (h1 : (assignEach [tg] X.env).map (·.2) = [assign tg X.env] := by rfl) : XS X W (.Assign [tg] e pos) ds (.es c ds) := .mk fun G S0 S H σ E Z q =>
  ws_of (ps_asg pe_w pg_w hs hw h1) (he G S0 S H σ E (fun S' H' g => q σ S' H' (E.grow g)) _)
theorem xs_setR {x : Str} {p : Pos} {i : Nat} {c : Addr} (hN : X.N.Nodup) (he : XR X W e ds c) (hi : X.N[i]? = some x := by rfl) (hx : Loc X.env.scope x := by first | exact Or.inl rfl | exact Or.inr rfl) (hs : swapsWith e (some (.Name x p)) pos.line X.env = pure false := by rfl)
    (hf : X.fn x = true ∨ X.env.scope.names.lookup x = some .local := by first | exact .inl rfl | exact .inr rfl) : XS X W (.Assign [.Name x p] e pos) ds (.es c ds) := .mk fun G S0 S H σ E Z q =>
  ws_of (ps_set hN hi hx pe_w hs hf) (he G S0 S H σ E (fun S' H' g => q σ S' H' (E.grow g)) _)
theorem xs_expr (he : XV X e ds d) (hs : swapsWith e none pos.line X.env = pure false := by rfl) : XS X W (.Expr e pos) ds (.nx ds) := .mk fun G S0 S H σ E Z q =>
  ws_of (ps_expr pe_w hs) (he G S0 S H σ E _ fun v S' H' g r => q σ S' H' (E.grow g))
theorem xs_exprR {c : Addr} (he : XR X W e ds c) (hs : swapsWith e none pos.line X.env = pure false := by rfl) : XS X W (.Expr e pos) ds (.es c ds) := .mk fun G S0 S H σ E Z q =>
  ws_of (ps_expr pe_w hs) (he G S0 S H σ E (fun S' H' g => q σ S' H' (E.grow g)) _)
theorem xs_ret (he : XV X e ds d) : XS X W (.Return (some e) pos) ds (.rt d) := .mk fun G S0 S H σ E Z q =>
  ws_of (ps_ret pe_w) (he G S0 S H σ E _ fun v S' H' g r => q v S' H' (E.grow g).fin r)
theorem xs_retS {it : It} (he : XV X e (it :: ds) d) : XS X W (.Return (some e) pos) (it :: ds) (.rs d it) := .mk fun G S0 S H σ E Z q =>
  ws_of (ps_ret pe_w) (he G S0 S H σ E _ fun v S' H' g r => q v σ S' H' ds (E.grow g) r)
theorem xs_retR {c : Addr} (he : XR X W e ds c) : XS X W (.Return (some e) pos) ds (.es c ds) := .mk fun G S0 S H σ E Z q =>
  ws_of (ps_ret pe_w) (he G S0 S H σ E (fun S' H' g => q σ S' H' (E.grow g)) _)
theorem xs_pass : XS X W (.Pass pos) ds (.nx ds) := .mk fun G S0 S H σ E Z q => ws_of ps_pass (q σ S H E)
theorem xs_if {A B : List Stmt} {k : Bool} (hc : XT X c ds k) (ha : k = true → XSs X W A ds o) (hb : k = false → XSs X W B ds o) : XS X W (.If c A B pos) ds o := .mk fun G S0 S H σ E Z q =>
  ws_of (ps_if pt_w pss_w pss_w) (hc G S0 S H σ E _ fun S' H' g => by
    cases k with
    | true => rw [if_pos rfl]; exact ha rfl G S0 S' H' σ (E.grow g) Z q
    | false => rw [if_neg Bool.false_ne_true]; exact hb rfl G S0 S' H' σ (E.grow g) Z q)
theorem xs_yes {A B : List Stmt} (hc : XT X c ds true) (ha : XSs X W A ds o) : XS X W (.If c A B pos) ds o := xs_if hc (fun _ => ha) fun z => by cases z
theorem xs_no {A B : List Stmt} (hc : XT X c ds false) (ha : XSs X W B ds o) : XS X W (.If c A B pos) ds o := xs_if hc (fun z => by cases z) fun _ => ha

/-! ### a list of the frame's own -/
theorem ty_list {K : Fg} {H : Hp} {p : Addr} {vs : List V} (h : H p = some (.lst vs)) : tyV K "list" (.ref p) H := .inl ⟨rfl, _, sq_of h⟩
section
variable {x : Str} {px pa : Pos}
theorem bm_own {r : V → List V → Hp → VK → Prop} {es : List Expr} {name : Str} {id : String} {ys : List D} (i : Nat) (slot : Slot "list" name id) (hty : typeOf (.builtin id) = pure (.type "method_descriptor")) (hm : MtR X id r) (ha : XA X (e :: es) ds ys)
    (hd : ds[i]? = some (.ow xs)) (hN : X.N[i]? = some x) (hv : Vis X.env.scope x) (h1 : (x == ("__debug__" : Str)) = false) (h2 : (x == ("__classdict__" : Str)) = false)
    (hbase : attributeBase (.Name x px) name X.env (eval (.Name x px) X.env) = eval (.Name x px) X.env)
    (hfew : ((backTo pos (starEach (e :: es) X.env)).all (fun x => !x.1) && (backToKw pos (keywordEach [] X.env)).all (fun x => x.1.isSome)
      && decide ((e :: es).length + ([] : List Keyword).length + (if ([] : List Keyword).isEmpty then 0 else 1) < 30)) = true)
    (hline : (pa.endLine == pos.line) = true) (hs : starEach (e :: es) X.env = (false, eval e X.env) :: starEach es X.env) (hplain : (backTo pos (starEach es X.env)).any (·.1) = false)
    {G S0 S H : Hp} {σ : St} (E : Env X.K G S0 S H σ ds) {Q : VK} (q : ∀ p vs ws S' H', Gr S H S' H' → σ[i]? = some (some (.ref p)) → H' p = some (.lst vs) → S' p = none → G p = none → RpA X.K S' vs xs → RpA X.K S' ws ys → r (.ref p) ws H' Q) :
    wE X (.Call (.Attribute (.Name x px) name pa) (e :: es) [] pos) σ H Q := by
  obtain ⟨p, vs, hv', hp, sp, gp, ra⟩ := E.ow hd
  refine we_of (pe_bm PySem.F.plainAttrs_list slot hty hm (pe_var (i := i) hN hv h1 h2) pa_w hbase hfew hline hs hplain) ⟨.ref p, hv', ty_list hp, ha G S0 S H σ E _ fun ws S' H' g rw => ?_⟩
  exact q p vs ws S' H' g hv' (g.h _ _ hp) (by rw [g.old p (nn_of hp)]; exact sp) gp (da_same g.s ra) rw
theorem xs_append (i : Nat) (he : XV X e ds d) (hd : ds[i]? = some (.ow xs) := by rfl) (hz : xs.length < 100000) (hN : X.N[i]? = some x := by rfl) (hv : Vis X.env.scope x := by first | exact Or.inl rfl | exact Or.inr (Or.inl rfl) | exact Or.inr (Or.inr rfl))
    (h1 : (x == ("__debug__" : Str)) = false := by decide) (h2 : (x == ("__classdict__" : Str)) = false := by decide) (hbase : attributeBase (.Name x px) "append" X.env (eval (.Name x px) X.env) = eval (.Name x px) X.env := by rfl)
    {pc : Pos} (hfew : ((backTo pc (starEach [e] X.env)).all (fun x => !x.1) && (backToKw pc (keywordEach [] X.env)).all (fun x => x.1.isSome) && decide (([e] : List Expr).length + ([] : List Keyword).length + (if ([] : List Keyword).isEmpty then 0 else 1) < 30)) = true := by exact sfew rfl (by decide))
    (hline : (pa.endLine == pc.line) = true := by rfl) (hs : starEach [e] X.env = (false, eval e X.env) :: starEach [] X.env := by exact se rfl) (hplain : (backTo pc (starEach [] X.env)).any (·.1) = false := by exact spl rfl)
    (hsw : swapsWith (.Call (.Attribute (.Name x px) "append" pa) [e] [] pc) none pos.line X.env = pure false := by rfl) :
    XS X W (.Expr (.Call (.Attribute (.Name x px) "append" pa) [e] [] pc) pos) ds (.nx (ds.set i (.ow (xs ++ [d])))) := .mk fun G S0 S H σ E Z q =>
  ws_of (ps_expr pe_w hsw) (bm_own i PySem.F.slot_list_append PySem.F.type_list_append (fun pins s σ H x xs v us Q I rx rv h => mt_append pins s σ H x xs v us Q I rx rv h) (xa_cons he xa_nil hs) hd hN hv h1 h2 hbase hfew hline hs hplain E fun p vs ws S' H' g hv' hp sp gp ra rb => by
    cases rb with
    | cons r rn =>
      cases rn
      exact ⟨p, vs, _, rfl, rfl, hp, szlt _ (by rw [da_len ra]; exact hz), q _ S' _ ((E.grow g).mut hd hv' (da_append ra (da_one r)))⟩)
end
end
end Lay
/-! Lay5: more stores; loops. -/
namespace Lay
open PySem L2
section
variable {X : Cx} {W : WX} {e a b c : Expr} {st : Stmt} {sts rest body : List Stmt} {ds ds' ds1 : List It} {o : Ou} {pos : Pos} {d : D} {xs ys : List D} {tg iter : Expr}
section
variable {x : Str} {px pa : Pos}
theorem xs_extend (i : Nat) (he : XL X e ds ys) (hd : ds[i]? = some (.ow xs) := by rfl) (hz : xs.length + ys.length ≤ 100000) (hN : X.N[i]? = some x := by rfl) (hv : Vis X.env.scope x := by first | exact Or.inl rfl | exact Or.inr (Or.inl rfl) | exact Or.inr (Or.inr rfl))
    (h1 : (x == ("__debug__" : Str)) = false := by decide) (h2 : (x == ("__classdict__" : Str)) = false := by decide) (hbase : attributeBase (.Name x px) "extend" X.env (eval (.Name x px) X.env) = eval (.Name x px) X.env := by rfl)
    {pc : Pos} (hfew : ((backTo pc (starEach [e] X.env)).all (fun x => !x.1) && (backToKw pc (keywordEach [] X.env)).all (fun x => x.1.isSome) && decide (([e] : List Expr).length + ([] : List Keyword).length + (if ([] : List Keyword).isEmpty then 0 else 1) < 30)) = true := by exact sfew rfl (by decide))
    (hline : (pa.endLine == pc.line) = true := by rfl) (hs : starEach [e] X.env = (false, eval e X.env) :: starEach [] X.env := by exact se rfl) (hplain : (backTo pc (starEach [] X.env)).any (·.1) = false := by exact spl rfl)
    (hsw : swapsWith (.Call (.Attribute (.Name x px) "extend" pa) [e] [] pc) none pos.line X.env = pure false := by rfl) :
    XS X W (.Expr (.Call (.Attribute (.Name x px) "extend" pa) [e] [] pc) pos) ds (.nx (ds.set i (.ow (xs ++ ys)))) := .mk fun G S0 S H σ E Z q =>
  ws_of (ps_expr pe_w hsw) (bm_own i PySem.F.slot_list_extend PySem.F.type_list_extend (fun pins s σ H x xs v us Q I rx rv h => mt_extend pins s σ H x xs v us Q I rx rv h) (xa_cons he.v xa_nil hs) hd hN hv h1 h2 hbase hfew hline hs hplain E fun p vs ws S' H' g hv' hp sp gp ra rb => by
    cases rb with
    | cons r rn =>
      cases rn
      cases r with
      | lst hq rq => exact ⟨p, _, vs, _, rfl, rfl, hp, g.sh _ _ hq, sz _ (by rw [da_len ra, da_len rq]; exact hz), q _ S' _ ((E.grow g).mut hd hv' (da_append ra rq))⟩)
theorem xs_insert0 (i : Nat) {j0} {p0 : Pos} (he : XV X e ds d) (hd : ds[i]? = some (.ow xs) := by rfl) (hz : xs.length < 100000) (hN : X.N[i]? = some x := by rfl) (hv : Vis X.env.scope x := by first | exact Or.inl rfl | exact Or.inr (Or.inl rfl) | exact Or.inr (Or.inr rfl))
    (h1 : (x == ("__debug__" : Str)) = false := by decide) (h2 : (x == ("__classdict__" : Str)) = false := by decide) (hbase : attributeBase (.Name x px) "insert" X.env (eval (.Name x px) X.env) = eval (.Name x px) X.env := by rfl)
    {pc : Pos} (hfew : ((backTo pc (starEach [.Constant (.int 0) j0 p0, e] X.env)).all (fun x => !x.1) && (backToKw pc (keywordEach [] X.env)).all (fun x => x.1.isSome) && decide (([.Constant (.int 0) j0 p0, e] : List Expr).length + ([] : List Keyword).length + (if ([] : List Keyword).isEmpty then 0 else 1) < 30)) = true := by exact sfew rfl (by decide))
    (hline : (pa.endLine == pc.line) = true := by rfl) (hs0 : starEach [.Constant (.int 0) j0 p0, e] X.env = (false, eval (.Constant (.int 0) j0 p0) X.env) :: starEach [e] X.env := by exact se rfl) (hs : starEach [e] X.env = (false, eval e X.env) :: starEach [] X.env := by exact se rfl) (hplain : (backTo pc (starEach [e] X.env)).any (·.1) = false := by exact spl rfl)
    (hsw : swapsWith (.Call (.Attribute (.Name x px) "insert" pa) [.Constant (.int 0) j0 p0, e] [] pc) none pos.line X.env = pure false := by rfl) :
    XS X W (.Expr (.Call (.Attribute (.Name x px) "insert" pa) [.Constant (.int 0) j0 p0, e] [] pc) pos) ds (.nx (ds.set i (.ow (d :: xs)))) := .mk fun G S0 S H σ E Z q =>
  ws_of (ps_expr pe_w hsw) (bm_own i PySem.F.slot_list_insert PySem.F.type_list_insert (fun pins s σ H x xs v us Q I rx rv h => mt_insert pins s σ H x xs v us Q I rx rv h) (xa_cons xv_int (xa_cons he xa_nil hs) hs0) hd hN hv h1 h2 hbase hfew hline hs0 hplain E fun p vs ws S' H' g hv' hp sp gp ra rb => by
    cases rb with
    | cons r rn =>
      cases r
      cases rn with
      | cons r rn =>
        cases rn
        exact ⟨p, vs, 0, _, rfl, rfl, hp, szlt _ (by rw [da_len ra]; exact hz), by decide, by decide, q _ S' _ ((E.grow g).mut hd hv' (.cons r ra))⟩)
/-- y = xs.pop() -/
theorem xs_pop (i k : Nat) {y : Str} {py : Pos} {ev : D} (hNd : X.N.Nodup) (hik : i ≠ k) (hd : ds[i]? = some (.ow xs) := by rfl) (hl : xs.getLast? = some ev) (hN : X.N[i]? = some x := by rfl) (hv : Vis X.env.scope x := by first | exact Or.inl rfl | exact Or.inr (Or.inl rfl) | exact Or.inr (Or.inr rfl))
    (h1 : (x == ("__debug__" : Str)) = false := by decide) (h2 : (x == ("__classdict__" : Str)) = false := by decide) (hbase : attributeBase (.Name x px) "pop" X.env (eval (.Name x px) X.env) = eval (.Name x px) X.env := by rfl)
    {pc : Pos} (hline : (pa.endLine == pc.line) = true := by rfl) (hi : X.N[k]? = some y := by rfl) (hx : Loc X.env.scope y := by first | exact Or.inl rfl | exact Or.inr rfl) (hs : swapsWith (.Call (.Attribute (.Name x px) "pop" pa) [] [] pc) (some (.Name y py)) pos.line X.env = pure false := by rfl)
    (hf : X.fn y = true ∨ X.env.scope.names.lookup y = some .local := by first | exact .inl rfl | exact .inr rfl) :
    XS X W (.Assign [.Name y py] (.Call (.Attribute (.Name x px) "pop" pa) [] [] pc) pos) ds (.nx ((ds.set i (.ow xs.dropLast)).set k (.fz ev))) := .mk fun G S0 S H σ E Z q => by
  obtain ⟨p, vs, hv', hp, sp, gp, ra⟩ := E.ow hd
  refine ws_of (ps_set hNd hi hx (pe_bm0 PySem.F.plainAttrs_list PySem.F.slot_list_pop PySem.F.type_list_pop (fun pins s σ H x xs v us Q I rx rv h => mt_pop pins s σ H x xs v us Q I rx rv h) (pe_var (i := i) hN hv h1 h2) hbase hline) hs hf) ⟨.ref p, hv', ty_list hp, ?_⟩
  rw [List.getLast?_eq_getElem?] at hl
  obtain ⟨w, hw, rw'⟩ := da_get ra hl
  rw [← da_len ra] at hw
  exact ⟨p, vs, w, rfl, rfl, hp, hw, q _ S _ ((E.mut hd hv' (da_dropLast ra)).putD k rw')⟩
end
/-- xs[k] = e -/
theorem xs_setix (i : Nat) {x : Str} {px : Pos} {k : Int} {j : Nat} (he : XV X e ds d) (hb : XV X b ds (.int k)) (hd : ds[i]? = some (.ow xs) := by rfl) (hj : ixN xs.length k = some j) (hN : X.N[i]? = some x := by rfl) (hv : Vis X.env.scope x := by first | exact Or.inl rfl | exact Or.inr (Or.inl rfl) | exact Or.inr (Or.inr rfl))
    (h1 : (x == ("__debug__" : Str)) = false := by decide) (h2 : (x == ("__classdict__" : Str)) = false := by decide) {pt : Pos}
    (ha : ∀ v, assign (.Subscript (.Name x px) b pt) X.env v = (do
      let ov ← holding [v] (eval (.Name x px) X.env)
      let iv ← holding [v, ov] (eval b X.env)
      standAt pt
      holding [v, ov, iv] (setItem ov iv v)
      release [v, ov, iv] []) := by intro _; rfl)
    (hs : swapsWithSole [.Subscript (.Name x px) b pt] e pos.line X.env = pure false := by rfl) (hw : swappedStores [.Subscript (.Name x px) b pt] e X.env = pure none := by rfl)
    (h3 : (assignEach [.Subscript (.Name x px) b pt] X.env).map (·.2) = [assign (.Subscript (.Name x px) b pt) X.env] := by rfl) :
    XS X W (.Assign [.Subscript (.Name x px) b pt] e pos) ds (.nx (ds.set i (.ow (xs.set j d)))) := .mk fun G S0 S H σ E Z q =>
  ws_of (ps_asg pe_w (pg_sub (pe_var (i := i) hN hv h1 h2) pe_w set_list ha) hs hw h3) (he G S0 S H σ E _ fun v S' H' g r => by
    have E' := E.grow g
    obtain ⟨p, vs, hv', hp, sp, gp, ra⟩ := E'.ow hd
    refine ⟨.ref p, hv', hb G S0 S' H' σ E' _ fun kv S2 H2 g2 rk => ?_⟩
    cases rk
    exact ⟨p, vs, k, j, rfl, rfl, g2.h _ _ hp, by rw [da_len ra]; exact hj, q _ S2 _ ((E'.grow g2).mut hd hv' (da_set j (da_same g2.s ra) (dp_same g2.s r)))⟩)

/-! ### what is walked -/
def Wk (K : Fg) (J : L2.It) (xs : List D) (S : Hp) : Prop := ∀ (i : Nat) (S2 H2 : Hp), Same S S2 → Same S2 H2 → (i < xs.length → J.go i H2 ∧ ∀ x H3, J.yld i H2 x H3 → H3 = H2 ∧ ∃ d, xs[i]? = some d ∧ Rp K S2 x d) ∧ (xs.length ≤ i → J.stop i H2)
def wI (X : Cx) (tg iter : Expr) : TI := fun σ H R => ∀ pins s, Inv X pins σ H s → wpAny (model X.prog X.w) X.A (eval iter X.env) (fun v s1 => wpAny (model X.prog X.w) X.A (pyIter v) (PIE X pins σ tg R) X.xe s1) X.xe s
theorem pi_w : PI X tg iter (wI X tg iter) := ⟨fun pins s _ _ _ I h => h pins s I⟩
theorem wi_of {wi : TI} (h : PI X tg iter wi) {σ : St} {H : Hp} {R : L2.It → Hp → Prop} (q : wi σ H R) : wI X tg iter σ H R := fun pins s I => h.run pins s σ H R I q
structure XI (X : Cx) (tg iter : Expr) (ds : List It) (xs : List D) : Prop where
  mk ::
  run : ∀ G S0 S H σ, Env X.K G S0 S H σ ds → ∀ R : L2.It → Hp → Prop, (∀ J S' H', Gr S H S' H' → Wk X.K J xs S' → R J H') → wI X tg iter σ H R
instance {X : Cx} {tg iter : Expr} {ds : List It} {xs : List D} : CoeFun (XI X tg iter ds xs) (fun _ => ∀ G S0 S H σ, Env X.K G S0 S H σ ds → ∀ R : L2.It → Hp → Prop, (∀ J S' H', Gr S H S' H' → Wk X.K J xs S' → R J H') → wI X tg iter σ H R) := ⟨XI.run⟩
theorem xi_list (ha : XV X iter ds (.lst xs)) : XI X tg iter ds xs := .mk fun G S0 S H σ E R q =>
  wi_of (pi_list pe_w) (ha G S0 S H σ E _ fun v S' H' g r => by
    cases r with
    | @lst a vs _ h ra =>
      refine ⟨a, rfl, ⟨vs, sq_of (g.sh _ _ h)⟩, q _ S' H' g fun i S2 H2 k1 k2 => ?_⟩
      have sq : SqL X.K H2 a vs := sq_of (k2 _ _ (k1 _ _ h))
      refine ⟨fun hi => ?_, fun hi => ⟨vs, sq, by rw [da_len ra]; exact hi⟩⟩
      obtain ⟨v, hv, rv⟩ := da_get ra (List.getElem?_eq_getElem hi)
      refine ⟨⟨vs, v, sq, hv⟩, fun x H3 hy => ?_⟩
      obtain ⟨e, hy⟩ := hy
      have z := hy vs sq
      rw [hv] at z
      cases z
      exact ⟨e, _, List.getElem?_eq_getElem hi, dp_same k1 rv⟩)
theorem xi_tup (ha : XV X iter ds (.tup xs)) : XI X tg iter ds xs := .mk fun G S0 S H σ E R q =>
  wi_of (pi_tup pe_w) (ha G S0 S H σ E _ fun v S' H' g r => by
    cases r with
    | @tup a vs _ h ra =>
      refine ⟨a, rfl, ⟨vs, st_of (g.sh _ _ h)⟩, q _ S' H' g fun i S2 H2 k1 k2 => ?_⟩
      have sq : SqT X.K H2 a vs := st_of (k2 _ _ (k1 _ _ h))
      refine ⟨fun hi => ?_, fun hi => ⟨vs, sq, by rw [da_len ra]; exact hi⟩⟩
      obtain ⟨v, hv, rv⟩ := da_get ra (List.getElem?_eq_getElem hi)
      refine ⟨⟨vs, v, sq, hv⟩, fun x H3 hy => ?_⟩
      obtain ⟨e, hy⟩ := hy
      have z := hy vs sq
      rw [hv] at z
      cases z
      exact ⟨e, _, List.getElem?_eq_getElem hi, dp_same k1 rv⟩)
/-- 0, 1, .. -/
def rngD (n : Nat) : List D := (List.range n).map fun (i : Nat) => D.int (i : Int)
theorem xi_range {p pr : Pos} {n : Int} (hm : X.mg "range" = none) (ha : XV X a ds (.int n)) (h1 : -(2 ^ 62) ≤ n) (h2 : n < 2 ^ 62) (hg : Gl X "range" := by rfl) (hs : starEach [a] X.env = [(false, eval a X.env)] := by exact se rfl) :
    XI X tg (.Call (.Name "range" p) [a] [] pr) ds (rngD n.toNat) := .mk fun G S0 S H σ E R q =>
  wi_of (pi_range1 hg hm (pa_cons pe_w pa_nil hs) hs) (ha G S0 S H σ E _ fun v S' H' g r => by
    cases r
    refine ⟨n, rfl, h1, h2, q _ S' H' g fun i S2 H2 k1 k2 => ?_⟩
    have len : (rngD n.toNat).length = n.toNat := by simp [rngD]
    rw [len]
    refine ⟨fun hi => ⟨hi, fun x H3 hy => ?_⟩, fun hi => hi⟩
    obtain ⟨e1, e2⟩ := hy
    subst e1 e2
    refine ⟨rfl, .int i, by simp [rngD, hi], ?_⟩
    rw [Int.zero_add]
    exact .int _)

/-! ### for -/
theorem Env.rebase {K : Fg} {G S0 S H : Hp} {σ : St} {ds : List It} (e : Env K G S0 S H σ ds) : Env K G S S H σ ds :=
  let ⟨A, e⟩ := e; ⟨A, e.sh, e.gh, Same.refl _, fun _ _ => rfl, e.len, e.it, e.nd, e.dj, e.fr⟩
theorem Env.base {K : Fg} {G S0 S1 S H : Hp} {σ : St} {ds : List It} (e : Env K G S1 S H σ ds) (k : Same S0 S1) (gs : ∀ a, G a ≠ none → S1 a = S0 a) : Env K G S0 S H σ ds :=
  let ⟨A, e⟩ := e; ⟨A, e.sh, e.gh, k.trans e.s0, fun a ha => (e.gs a ha).trans (gs a ha), e.len, e.it, e.nd, e.dj, e.fr⟩
theorem Fnl.base {G S0 S1 S H : Hp} (e : Fnl G S1 S H) (k : Same S0 S1) (gs : ∀ a, G a ≠ none → S1 a = S0 a) : Fnl G S0 S H := ⟨e.sh, e.gh, k.trans e.s0, fun a ha => (e.gs a ha).trans (gs a ha)⟩
theorem PostS.base {K : Fg} {W : WX} {G S0 S1 : Hp} {Z : Ends} {o : Ou} (q : PostS K W G S0 Z o) (k : Same S0 S1) (gs : ∀ a, G a ≠ none → S1 a = S0 a) : PostS K W G S1 Z o := by
  cases o with
  | nx ds => exact fun σ S H E => q σ S H (E.base k gs)
  | bk ds => exact fun σ S H E => q σ S H (E.base k gs)
  | ct ds => exact fun σ S H E => q σ S H (E.base k gs)
  | rt d => exact fun v S H E => q v S H (E.base k gs)
  | rs d it => exact fun v σ S H ds E => q v σ S H ds (E.base k gs)
  | er c => exact fun σ S H E => q σ S H (E.base k gs)
  | es c ds => exact fun σ S H E => q σ S H (E.base k gs)
def brk : Ou → Ou
  | .bk ds => .nx ds
  | o => o
def turns : Ou → Option (List It)
  | .nx ds => some ds
  | .ct ds => some ds
  | _ => none
inductive Fr (X : Cx) (W : WX) (tg : Expr) (body : List Stmt) : List D → List It → Ou → Prop where
  | nil {ds : List It} : Fr X W tg body [] ds (.nx ds)
  | step {d : D} {xs : List D} {ds ds1 a b : List It} {o o' : Ou} : XG X tg d ds ds1 → XSs X W body ds1 o' → turns o' = some a → Le a b → Fr X W tg body xs b o → Fr X W tg body (d :: xs) ds o
  | out {d : D} {xs : List D} {ds ds1 : List It} {o : Ou} : XG X tg d ds ds1 → XSs X W body ds1 o → turns o = none → Fr X W tg body (d :: xs) ds (brk o)
theorem xs_for (hp : PassesOwn (model X.prog X.w) X.A X.env X.xe) (hc : X.calm = true) (hi : XI X tg iter ds xs) (hf : Fr X W tg body xs ds o) (hs : ∀ x, foldedSetIterable iter X.env x = pure x := by intro _; rfl) :
    XS X W (.For tg iter body [] pos) ds o := .mk fun G S0 S H σ E Z q =>
  ws_of (ps_for hp hc pi_w pg_w pss_w hs) (hi G S0 S H σ E _ fun J S1 H1 g wk => by
    refine ⟨fun i m σ H => m = xs.length - i ∧ i ≤ xs.length ∧ ∃ S ds', Same S1 S ∧ Env X.K G S0 S H σ ds' ∧ Fr X W tg body (xs.drop i) ds' o, ⟨xs.length, by simp, Nat.zero_le _, S1, ds, Same.refl _, E.grow g, hf⟩, ?_⟩
    rintro i m σ2 H2 ⟨rfl, hi, S2, ds2, k, E2, F⟩
    obtain ⟨w1, w2⟩ := wk i S2 H2 k E2.sh
    by_cases hlt : i < xs.length
    · obtain ⟨go, y⟩ := w1 hlt
      rw [List.drop_eq_getElem_cons hlt] at F
      refine .inr ⟨go, fun σ' H' => ∃ S ds', Same S1 S ∧ Env X.K G S0 S H' σ' ds' ∧ Fr X W tg body (xs.drop (i + 1)) ds' o, fun σ' H' ⟨S', ds', h1, h2, h3⟩ => ⟨xs.length - (i + 1), by omega, rfl, hlt, S', ds', h1, h2, h3⟩, fun x H3 hy => ?_⟩
      obtain ⟨rfl, d, hd, r⟩ := y x H3 hy
      rw [List.getElem?_eq_getElem hlt] at hd
      have hd' := Option.some.inj hd
      subst hd'
      cases F with
      | @step _ _ _ ds3 a b _ o' hg hb ht hl F =>
        refine hg G S0 S2 _ σ2 x E2 r _ fun σ' E' => hb G S2 S2 _ σ' E'.rebase _ ?_
        -- the end of a turn: only later states
        cases o' with
        | nx z => cases ht; exact fun σ'' S'' H'' E'' => ⟨S'', b, k.trans E''.s0, hl _ _ _ _ _ _ (E''.base E2.s0 E2.gs), F⟩
        | ct z => cases ht; exact fun σ'' S'' H'' E'' => ⟨S'', b, k.trans E''.s0, hl _ _ _ _ _ _ (E''.base E2.s0 E2.gs), F⟩
        | _ => cases ht
      | out hg hb ht =>
        refine hg G S0 S2 _ σ2 x E2 r _ fun σ' E' => hb G S0 S2 _ σ' E' _ ?_
        rename_i o'
        cases o' with
        | nx z => cases ht
        | ct z => cases ht
        | _ => exact q
    · have e : i = xs.length := by omega
      subst e
      rw [List.drop_length] at F
      cases F
      exact .inl ⟨w2 (Nat.le_refl _), q σ2 S2 H2 E2⟩)
/-! ### while -/
inductive Wh (X : Cx) (W : WX) (c : Expr) (body : List Stmt) : Nat → List It → Ou → Prop where
  | stop {ds : List It} : XT X c ds false → Wh X W c body 0 ds (.nx ds)
  | out {ds : List It} {o : Ou} : XT X c ds true → XSs X W body ds o → turns o = none → Wh X W c body 0 ds (brk o)
  | step {n : Nat} {ds a b : List It} {o o' : Ou} : XT X c ds true → XSs X W body ds o' → turns o' = some a → Le a b → Wh X W c body n b o → Wh X W c body (n + 1) ds o
theorem xs_while {n : Nat} (hp : PassesOwn (model X.prog X.w) X.A X.env X.xe) (hw : Wh X W c body n ds o) : XS X W (.While c body [] pos) ds o := .mk fun G S0 S H σ E Z q =>
  ws_of (ps_while hp pt_w pss_w) ⟨fun m σ H => ∃ S ds', Env X.K G S0 S H σ ds' ∧ Wh X W c body m ds' o, ⟨n, S, ds, E, hw⟩, by
    rintro m σ1 H1 ⟨S1, ds1, E1, h⟩
    cases h with
    | stop hc =>
      refine hc G S0 S1 H1 σ1 E1 _ fun S' H' g => ?_
      rw [if_neg Bool.false_ne_true]
      exact q σ1 S' H' (E1.grow g)
    | @out _ o' hc hb ht =>
      refine hc G S0 S1 H1 σ1 E1 _ fun S' H' g => ?_
      rw [if_pos rfl]
      refine ⟨fun _ _ => False, fun _ _ z => z.elim, hb G S0 S' H' σ1 (E1.grow g) _ ?_⟩
      cases o' with
      | nx z => cases ht
      | ct z => cases ht
      | _ => exact q
    | @step n _ a b _ o' hc hb ht hl h =>
      refine hc G S0 S1 H1 σ1 E1 _ fun S' H' g => ?_
      rw [if_pos rfl]
      refine ⟨fun σ' H' => ∃ S ds', Env X.K G S0 S H' σ' ds' ∧ Wh X W c body n ds' o, fun σ' H' z => ⟨n, Nat.lt_succ_self n, z⟩, hb G S0 S' H' σ1 (E1.grow g) _ ?_⟩
      cases o' with
      | nx z => cases ht; exact fun σ'' S'' H'' E'' => ⟨S'', b, hl _ _ _ _ _ _ E'', h⟩
      | ct z => cases ht; exact fun σ'' S'' H'' E'' => ⟨S'', b, hl _ _ _ _ _ _ E'', h⟩
      | _ => cases ht⟩
end
end Lay
/-! Lay6: raise, try, defs and their calls. -/
namespace Lay
open PySem L2
/-! ### raise -/
/-- an error class of the program: X at C, below ValueError -/
structure EC (K : Fg) (mg : Str → Option Value) (x : Str) (C : Addr) : Prop where
  g : mg x = some (.ref C)
  q : PySem.W.excIn K C [.type "ValueError", .type "Exception", .type "BaseException", .type "object"] "ValueError.__new__" = true
  kp : PySem.W.keepIn K (.ref C) = true
  b : PySem.W.subIn K (.ref C) (.type "BaseException") = some true
  t : PySem.W.typeIn K (.ref C) = some (.type "type")
section
variable {X : Cx} {W : WX} {e a b c : Expr} {st : Stmt} {sts rest body : List Stmt} {ds ds' ds1 : List It} {o : Ou} {pos : Pos} {d : D} {xs ys : List D}
theorem xs_raise {x m : Str} {C : Addr} {j : Nat} {p p2 p3 : Pos} (hc : X.calm = true) (tk : Takes X W) (T : EC X.K X.mg x C) (hg : Gl X x := by rfl) (hdb : (x == ("__debug__" : Str)) = false := by decide) :
    XS X W (.Raise (some (.Call (.Name x p) [.Constant (.str m) j p2] [] p3)) none pos) ds (.es C ds) := .mk fun G S0 S H σ E Z q =>
  ws_of (ps_raise hc tk (pmk_own PySem.F.excBase_ValueError T.q T.g T.kp (raises_own T.b T.t) hg hdb)) (q σ S H E)

/-! ### try -/
/-- an object that came since the def's entry, and is no frame, is tracked from now on -/
theorem inv_track {pins : List (Addr × Obj)} {σ : L2.St} {H : Hp} {s : Shared} {a : Addr} {u : HO} (I : Inv X pins σ H s) (hH : H a = none) (hnew : X.s_0.heap.get? a = none) (hL : a ≠ X.env.locals) (hC : ∀ y k, X.env.cells.lookup y = some k → k ≠ a)
    (hP : ∀ p ∈ X.pn ++ pins, p.1 ≠ a) (ok : ObjOk X.prog X.w (upd H a u) s.heap a u) : Inv X pins σ (upd H a u) s where
  ok := I.ok
  os := I.os
  bare := I.bare
  base := by
    have far : ∀ {k : Addr} {w : Obj}, X.s_0.heap.get? k = some w → k ≠ a := fun {k w} q z => by rw [z, hnew] at q; cases q
    refine ⟨I.base.keep, I.base.slot, fun k w q n nx => ?_, I.base.there, fun k w q => ?_, fun k w z q => ?_, fun k w q => ?_⟩
    · rw [upd_ne (far q)]; exact I.base.free k w q n nx
    · have r := I.base.tups k w q
      rw [upd_ne (ne_of_none r hH)]; exact r
    · have r := I.base.frzs k w z q
      rw [upd_ne (ne_of_none r hH)]; exact r
    · obtain ⟨m, r⟩ := I.base.tbls k w q
      exact ⟨m, by rw [upd_ne (ne_of_none r hH)]; exact r⟩
  loc := I.loc
  cell := I.cell
  free := by rw [upd_ne (Ne.symm hL)]; exact I.free
  freeC := fun y k q => by rw [upd_ne (hC y k q)]; exact I.freeC y k q
  pin := fun p hp => by
    obtain ⟨q1, q2, q3⟩ := I.pin p hp
    exact ⟨q1, by rw [upd_ne (hP p hp)]; exact q2, q3⟩
  hok := fun k w q => by
    by_cases z : k = a
    · subst z; rw [upd_same] at q; cases q; exact ok
    · rw [upd_ne z] at q
      refine (I.hok k w q).stay (fun _ _ _ r => r) (fun y r => ?_) fun y ys r => ?_
      · rw [upd_ne (ne_of_none r hH)]; exact r
      · rw [upd_ne (ne_of_none r hH)]; exact r
  len := I.len
/-- what a try whose clause keeps the exception wishes: slot i is the clause's name -/
def wKeep (K : Fg) (c : Value) (i : Nat) (ts : TS) (Z : Ends) : WX := fun cls d σ H =>
  ∃ C, cls = .ref C ∧ d = none ∧ PySem.W.exmOne K cls c = some true ∧ ∀ a, H a = none →
    ts { nx := fun σ' H' => Z.nx (σ'.set i none) H', rt := Z.rt, bk := fun σ' H' => Z.bk (σ'.set i none) H', ct := fun σ' H' => Z.ct (σ'.set i none) H' } (σ.set i (some (.ref a))) (upd H a (ExT C a))
theorem ps_try_keep {x n : Str} {cv : Value} {i : Nat} {suite : List Stmt} {b0 : Stmt} {np pt : Pos} {tb : WX → TS} {ts : TS} (hs : X.stack = X.env :: X.outer) (hf : X.env.frame = some X.env.locals) (hex0 : X.ex = []) (hN : X.N.Nodup) (hi : X.N[i]? = some n)
    (hln : X.env.kindOf n = some .local) (hcn : Names X x cv)
    (hb : ∀ (V : WX) (pn : List (Addr × Obj)) (xe : Value → Shared → Prop), Takes (X.tr pn xe) V → PassesOwn (model X.prog X.w) X.A X.env xe → PSs (X.tr pn xe) body (tb V))
    (hsu : ∀ (a : Addr) (pn : List (Addr × Obj)), PSs (X.suite a pn) (b0 :: suite) ts) :
    PS X (.Try body [.ExceptHandler (some (.Name x np)) (some n) (b0 :: suite) pt] [] [] pos) (fun Z σ H => tb (wKeep X.K cv i ts Z) Z σ H) := by
  constructor
  intro pins s σ H Z I hw
  have hfr : X.A.frames = some (X.env :: X.outer) := I.ok.frames.trans (by rw [hs])
  apply wpAny_Try_except
  have run := (hb (wKeep X.K cv i ts Z) (X.pn ++ pins) (fun x1 z1 => wpAny (model X.prog X.w) X.A (noteFrame x1 X.env)
      (fun _ z2 => wpAny (model X.prog X.w) X.A (setFlight x1 none) (fun _ z3 => wpAny (model X.prog X.w) X.A
        (handleBy x1 X.env [.ExceptHandler (some (.Name x np)) (some n) (b0 :: suite) pt]) (SP X pins Z) X.xe z3) X.xe z2) X.xe z1)
    (fun u sx hx => ?_) PassesOwn.looking).run [] s σ H Z (I.toTry _) hw
  · refine wpAny_mono run (fun f s1 q => ?_) fun _ _ q => q
    cases f with
    | next => obtain ⟨σ1, H1, J, q⟩ := q; exact wpAny_execs_nil ⟨σ1, H1, J.ofTry I.ok, q⟩
    | brk => obtain ⟨σ1, H1, J, q⟩ := q; exact ⟨σ1, H1, J.ofTry I.ok, q⟩
    | cont => obtain ⟨σ1, H1, J, q⟩ := q; exact ⟨σ1, H1, J.ofTry I.ok, q⟩
    | ret u => obtain ⟨v, σ1, H1, J, r, q⟩ := q; exact ⟨v, σ1, H1, J.ofTry I.ok, r, q⟩
  · obtain ⟨a, B, sI, pl, σ1, H1, cls, dd, rfl, Jt, nb, up, sky, na, hos, hag, C, rfl, rfl, hex, want⟩ := hx
    have J : Inv X pins σ1 H1 sI := Jt.ofTry I.ok
    rw [show (X.tr (X.pn ++ pins) _).stack = X.env :: X.outer from hs] at sky
    refine Sky.land Zc.steady hfr hf sky fun h3 fl3 up3 => ?_
    have nofr : ∀ {h : Heap} {w : Obj} {vs : Array Value}, h.FunFrames B (X.env :: X.outer) → h.get? a = some w → w.data = .fields vs → a ∉ frs (X.env :: X.outer) := fun {h w vs} ff q z hm => by
      obtain ⟨_, w', q', hnf⟩ := ff.mem hm
      rw [q] at q'; cases q'
      exact hnf _ z
    obtain ⟨oe3, vs3, T3, oT3, ts3, he3, hz3, hd3, h13, hT3⟩ := id fl3.2.2.2
    have nfr := nofr fl3.2.2.1 he3 hd3
    have freshI : sI.heap.get? a = none := by
      cases q : sI.heap.get? a with
      | none => rfl
      | some w =>
        have z := nb a w q (by rw [show (X.tr (X.pn ++ pins) _).stack = X.env :: X.outer from hs]; exact nfr)
        rw [fl3.2.1] at z; cases z
    have nL : a ≠ X.env.locals := fun z => nfr (List.mem_filterMap.mpr ⟨X.env, List.mem_cons_self, by rw [hf, z]⟩)
    have fresh0 : X.s_0.heap.get? a = none := by
      cases q : X.s_0.heap.get? a with
      | none => rfl
      | some w =>
        obtain ⟨w', q'⟩ := J.base.there a w q (by rw [hex0]; exact List.not_mem_nil)
        rw [freshI] at q'; cases q'
    have nC : ∀ y k, X.env.cells.lookup y = some k → k ≠ a := fun y k q z => by
      obtain ⟨v, w, r, _⟩ := J.cell y k q
      rw [z, freshI] at r; cases r
    have nP : ∀ p ∈ X.pn ++ pins, p.1 ≠ a := fun p hp z => by
      have r := (J.pin p hp).1
      rw [z, freshI] at r; cases r
    have lift : ∀ {h : Heap}, HandSPX.FlyingZ B (X.env :: X.outer) a (Zc (.ref C) none) h → sx.heap.UpToSlots h → Inv X pins σ1 (upd H1 a (ExT C a)) { sx with heap := h } := fun {h} fl u => by
      have L := J.landed (s' := { sx with heap := h }) (fun k w q hk => nb k w q hk) fl.1 (up.trans u) hos hag
      obtain ⟨oe, vs, T, oT, tss, he, hz, hd, _⟩ := id fl.2.2.2
      refine inv_track L na fresh0 nL nC nP ⟨⟨oe, vs, he, hz, hd⟩, ⟨oe, he⟩, fun h1 h2 ⟨oe', vs', r1, r2, r3⟩ k => ⟨oe', vs', k _ r1, r2, r3⟩⟩
    have suiteI : ∀ {τ : L2.St} {F : Hp} {z : Shared}, Inv X pins τ F z → Inv (X.suite a (X.pn ++ pins)) [] τ F z := fun {τ F z} Q =>
      ⟨Q.ok.suite _ _, Q.os, Q.bare, Q.base, Q.loc, Q.cell, Q.free, Q.freeC, fun p hp => Q.pin p (by rwa [List.append_nil] at hp), Q.hok, Q.len⟩
    have backI : ∀ {τ : L2.St} {F : Hp} {z : Shared}, Inv (X.suite a (X.pn ++ pins)) [] τ F z → Inv X pins τ F z := fun {τ F z} Q =>
      ⟨I.ok, Q.os, Q.bare, Q.base, Q.loc, Q.cell, Q.free, Q.freeC, fun p hp => Q.pin p (List.mem_append_left _ hp), Q.hok, Q.len⟩
    have I3 := lift fl3 up3
    have tyL : PySem.W.Looks (model X.prog X.w) h3 (typeOf (.ref a)) (.ref C) := fun _ _ _ _ kk qq => wpAny_typeOf_ref (kk _ _ he3) (by rw [hz3.1]; exact qq)
    have mt := PySem.W.exm_one (M := model X.prog X.w) I3.kIn tyL hex
    apply wpAny_handleBy_cons (codeAny_handlers_test _) (by intro q; cases q)
    have test : ∀ {Q : Value → Shared → Prop} {E : Value → Shared → Prop}, Q cv { sx with heap := h3 } → wpAny (model X.prog X.w) (X.A.mark (some (.ref a))) (eval (.Name x np) X.env) Q E { sx with heap := h3 } := fun {Q E} q => by
      obtain ⟨hg, hdb, hm | ⟨hm, hv, hnn⟩⟩ := hcn
      · exact ld_glob (X := X.suite a (X.pn ++ pins)) (suiteI I3) hg hm q hdb
      · exact ld_blt (X := X.suite a (X.pn ++ pins)) (suiteI I3) hg hm hv q hnn hdb
    refine test (mt.here ?_)
    apply codeAny_handlers_suite_as
    refine HandSPX.lands_againZ fl3 fun h4 fl4 up4 => ?_
    refine store_ok (X := X.suite a (X.pn ++ pins)) (v := .ref a) (suiteI (lift fl4 (up3.trans up4))) hN hi (.inl hln) rfl (fun s5 I5 => ?_) (.inr hln)
    refine wpAny_mono ((hsu a (X.pn ++ pins)).run [] s5 _ _ _ I5 (want a na)) (fun f s6 q => ?_) fun _ _ z => False.elim z
    cases f with
    | next => obtain ⟨τ, F, Q, q⟩ := q; exact gone_ok (backI Q) hN hi hln fun s7 Q7 => ⟨_, _, Q7, q⟩
    | brk => obtain ⟨τ, F, Q, q⟩ := q; exact gone_ok (backI Q) hN hi hln fun s7 Q7 => ⟨_, _, Q7, q⟩
    | cont => obtain ⟨τ, F, Q, q⟩ := q; exact gone_ok (backI Q) hN hi hln fun s7 Q7 => ⟨_, _, Q7, q⟩
    | ret u => obtain ⟨v, τ, F, Q, r, q⟩ := q; exact gone_ok (backI Q) hN hi hln fun s7 Q7 => ⟨_, _, _, Q7, r, q⟩

/-- try: body / except x as n: kept = n: the exception's class is known; kept is slot k, n slot i -/
theorem xs_try {x n y : Str} {cv : Value} {i k : Nat} {np pt py pn' ps' : Pos} {C : Addr} (hs : X.stack = X.env :: X.outer) (hf : X.env.frame = some X.env.locals) (hex0 : X.ex = []) (hN : X.N.Nodup) (hi : X.N[i]? = some n) (hk : X.N[k]? = some y)
    (hln : X.env.kindOf n = some .local) (hly : X.env.kindOf y = some .local) (hcn : Names X x cv) (hex : PySem.W.exmOne X.K (.ref C) cv = some true)
    (hb : ∀ (V : WX) (pn : List (Addr × Obj)) (xe : Value → Shared → Prop), Takes (X.tr pn xe) V → PassesOwn (model X.prog X.w) X.A X.env xe → XSs (X.tr pn xe) V body ds (.es C ds))
    (h1 : (n == ("__debug__" : Str)) = false := by decide) (h2 : (n == ("__classdict__" : Str)) = false := by decide) (hsw : swapsWith (.Name n pn') (some (.Name y py)) ps'.line X.env = pure false := by rfl) (hik : i < ds.length := by exact Nat.lt_of_lt_of_le (Nat.lt_succ_self _) (Nat.le_of_ble_eq_true rfl)) :
    XS X W (.Try body [.ExceptHandler (some (.Name x np)) (some n) [.Assign [.Name y py] (.Name n pn') ps'] pt] [] [] pos) ds (.nx (((ds.set i (.fz (.exc C))).set k (.fz (.exc C))).set i .no)) := .mk fun G S0 S H σ E Z q => by
  refine ws_of (ps_try_keep (tb := fun V => fun Z σ H => ∀ (pn : List (Addr × Obj)) (xe : Value → Shared → Prop), Takes (X.tr pn xe) V → PassesOwn (model X.prog X.w) X.A X.env xe → wSs (X.tr pn xe) body Z σ H) (ts := tAsg (tVar i) (gName k)) hs hf hex0 hN hi hln hcn
    (fun V pn xe tk hp => ⟨fun pins s σ H Z I w => w pn xe tk hp pins s I⟩)
    (fun a pn => pss_one (ps_set (X := X.suite a pn) hN hk (.inl hly) (pe_var (X := X.suite a pn) hi (.inl hln) h1 h2) hsw (.inr hly)))) ?_
  intro pn xe tk hp
  refine hb _ pn xe tk hp G S0 S H σ E _ fun σ1 S1 H1 E1 => ⟨C, rfl, rfl, hex, fun a na => ?_⟩
  have sna : S1 a = none := E1.sh.free na
  have g : Gr S1 H1 (upd S1 a (ExT C a)) (upd H1 a (ExT C a)) := Gr.new E1.sh na
  have E2 := E1.grow g
  have r : Rp X.K (upd S1 a (ExT C a)) (.ref a) (.exc C) := .exc upd_same
  have hil : i < σ1.length := by rw [E1.len]; exact hik
  refine ⟨.ref a, by rw [List.getElem?_set_self hil], ?_⟩
  exact q _ _ _ (((E2.putD i r).putD k r).put_no i none)
/-- the body goes through -/
theorem xs_try0 {x n y : Str} {cv : Value} {i k : Nat} {np pt py pn' ps' : Pos} (hs : X.stack = X.env :: X.outer) (hf : X.env.frame = some X.env.locals) (hex0 : X.ex = []) (hN : X.N.Nodup) (hi : X.N[i]? = some n) (hk : X.N[k]? = some y)
    (hln : X.env.kindOf n = some .local) (hly : X.env.kindOf y = some .local) (hcn : Names X x cv)
    (hb : ∀ (V : WX) (pn : List (Addr × Obj)) (xe : Value → Shared → Prop), Takes (X.tr pn xe) V → PassesOwn (model X.prog X.w) X.A X.env xe → XSs (X.tr pn xe) V body ds (.nx ds1))
    (h1 : (n == ("__debug__" : Str)) = false := by decide) (h2 : (n == ("__classdict__" : Str)) = false := by decide) (hsw : swapsWith (.Name n pn') (some (.Name y py)) ps'.line X.env = pure false := by rfl) :
    XS X W (.Try body [.ExceptHandler (some (.Name x np)) (some n) [.Assign [.Name y py] (.Name n pn') ps'] pt] [] [] pos) ds (.nx ds1) := .mk fun G S0 S H σ E Z q => by
  refine ws_of (ps_try_keep (tb := fun V => fun Z σ H => ∀ (pn : List (Addr × Obj)) (xe : Value → Shared → Prop), Takes (X.tr pn xe) V → PassesOwn (model X.prog X.w) X.A X.env xe → wSs (X.tr pn xe) body Z σ H) (ts := tAsg (tVar i) (gName k)) hs hf hex0 hN hi hln hcn
    (fun V pn xe tk hp => ⟨fun pins s σ H Z I w => w pn xe tk hp pins s I⟩)
    (fun a pn => pss_one (ps_set (X := X.suite a pn) hN hk (.inl hly) (pe_var (X := X.suite a pn) hi (.inl hln) h1 h2) hsw (.inr hly)))) ?_
  intro pn xe tk hp
  exact hb _ pn xe tk hp G S0 S H σ E _ fun σ1 S1 H1 E1 => q σ1 S1 H1 E1
end

/-! ### defs -/
/-- what a def answers -/
inductive Res where
  | ok (d : D)
  | er (c : Addr)
abbrev Fs := List D → Res → Prop
def PostF (K : Fg) (S H : Hp) (Q : VK) (E : XK) : Res → Prop
  | .ok d => ∀ v S' H', Gr S H S' H' → Rp K S' v d → Q v H'
  | .er c => ∀ S' H', Gr S H S' H' → E (.ref c) none H'
/-- the promise: what F says of the arguments' data -/
def spF (K : Fg) (F : Fs) : Sp := fun vs H Q E => ∃ S args r, Same S H ∧ RpA K S vs args ∧ F args r ∧ PostF K S H Q E r
/-- a body's end and the def's answer -/
def Fits : Ou → Res → Prop
  | .rt d, .ok d' => d = d'
  | .nx _, .ok d' => d' = .non
  | .er c, .er c' => c = c'
  | .es c _, .er c' => c = c'
  | _, _ => False
/-- from a body: F's answer -/
def XF (X : Cx) (W : WX) (body : List Stmt) (ds : List It) (r : Res) : Prop := ∃ o, XSs X W body ds o ∧ Fits o r
/-- a def that is known by its module's name x, at level k -/
structure Df (P : Program) (w : World) (K : Fg) (mg : Str → Option Value) (base : Heap) (x : Str) (k : Nat) (F : Fs) : Prop where
  ex : ∃ f fd ps, mg x = some (.ref f) ∧ PySem.W.keepIn K (.ref f) = true ∧ Binds K fd ps [] ∧ FnOk P w K mg base (L2.CX P w) k f fd ps (spF K F)
/-- the slots at a def's entry -/
def ctx0 (n : Nat) (args : List D) : List It := args.map .fz ++ List.replicate (n - args.length) .no
theorem env_start {K : Fg} {S H : Hp} (k : Same S H) {N : List Str} {vs : List V} {args : List D} (r : RpA K S vs args) : Env K H S S H (L2.start N vs) (ctx0 N.length args) := by
  refine ⟨fun _ => [], k, Same.refl _, Same.refl _, fun _ _ => rfl, ?_, fun i it hi => ?_, fun _ => .nil, fun i j a h => (by cases h), fun i a h => (by cases h)⟩
  · simp [L2.start, ctx0, da_len r]
  · unfold ctx0 at hi
    by_cases h : i < args.length
    · rw [List.getElem?_append_left (by simpa using h), List.getElem?_map] at hi
      rw [List.getElem?_eq_getElem h] at hi
      cases hi
      obtain ⟨v, hv, rv⟩ := da_get r (List.getElem?_eq_getElem h)
      have hl := da_len r
      have e : (L2.start N vs)[i]? = some (some v) := by
        unfold L2.start
        rw [List.getElem?_append_left (by simpa [hl] using h), List.getElem?_map, hv]
        rfl
      rw [e]
      exact .fz rv
    · rw [List.getElem?_append_right (by simpa using h), List.getElem?_replicate] at hi
      split at hi
      · cases hi; exact .no _
      · cases hi
section
variable {P : Program} {w : World} {K : Fg} {mg : Str → Option Value} {base : Heap}
/-- a def by its body -/
theorem fn_ok {x qual : Str} {st : Stmt} {f : Addr} {fd : FuncData} {N ps : List Str} {k : Nat} {F : Fs} (U : Fun K x qual st f fd) (S : FnScope N ps (defScope st)) (len : ∀ args r, F args r → args.length = ps.length)
    (body : ∀ (cdv : Value) (A : Around) (outer : List PySem.Env) (s : Shared) (H : Hp) (E : XK) (args : List D) (r : Res), Room k (A.deeper (PyProof.Rows.envOfC qual (defScope st) s.heap.objs.size f cdv)) → F args r →
      XF (cxOf (L2.CX P w) P w K mg base N qual (defScope st) f cdv A outer s H E) (fun cls d _ H => E cls d H) (defBody st) (ctx0 N.length args) r) : FnOk P w K mg base (L2.CX P w) (k + 1) f fd ps (spF K F) := by
  refine U.okX S (fun vs H Q E ⟨S, args, r, _, ra, hf, _⟩ => (da_len ra).trans (len args r hf)) fun cdv A outer s H vs Q E hr ⟨S, args, r, ks, ra, hf, q⟩ => ?_
  obtain ⟨o, ho, he⟩ := body cdv A outer s H E args r hr hf
  refine ⟨_, pss_w, ho H S S H _ (env_start ks ra) _ ?_⟩
  have gr : ∀ {S' H' : Hp}, Fnl H S S' H' → Gr S H S' H' := fun z => ⟨z.s0, z.gh, z.sh, z.gs⟩
  cases o with
  | nx ds => cases r with
    | ok d => cases he; exact fun σ S' H' z => q .non S' H' (gr z.fin) .non
    | er c => cases he
  | rt d => cases r with
    | ok d' => cases he; exact fun v S' H' z rv => q v S' H' (gr z) rv
    | er c => cases he
  | er c => cases r with
    | ok d => cases he
    | er c' => cases he; exact fun σ S' H' z => q S' H' (gr z)
  | es c ds => cases r with
    | ok d => cases he
    | er c' => cases he; exact fun σ S' H' z => q S' H' (gr z.fin)
  | bk ds => cases r <;> cases he
  | ct ds => cases r <;> cases he
  | rs d it => cases r <;> cases he
end
section
variable {X : Cx} {W : WX} {e : Expr} {es : List Expr} {ds : List It} {pos : Pos} {d : D} {args : List D} {x : Str} {p : Pos} {k : Nat} {F : Fs}
theorem call_any (T : Df X.prog X.w X.K X.mg X.base x k F) (hr : Room k X.A) (tk : Takes X W) (ha : XA X (e :: es) ds args) {r : Res} (hF : F args r) (hg : Gl X x) (hdb : (x == ("__debug__" : Str)) = false)
    (he : starEach (e :: es) X.env = (false, eval e X.env) :: starEach es X.env) (hpl : (backTo pos (starEach es X.env)).any (·.1) = false) {G S0 S H : Hp} {σ : L2.St} (E : Env X.K G S0 S H σ ds) {Q : VK}
    (q : ∀ S1 H1, Gr S H S1 H1 → PostF X.K S1 H1 Q (fun cls d H => W cls d σ H) r) : wE X (.Call (.Name x p) (e :: es) [] pos) σ H Q := by
  obtain ⟨f, fd, ps, hm, hk, hb, fo⟩ := T.ex
  refine we_of (pe_callS fo hr hg hm hk hb (fun σ => passAt tk σ) pa_w hdb he hpl) (ha G S0 S H σ E _ fun vs S1 H1 g r1 => ?_)
  exact ⟨S1, args, r, g.sh, r1, hF, q S1 H1 g⟩
theorem xv_call (T : Df X.prog X.w X.K X.mg X.base x k F) (hr : Room k X.A) (tk : Takes X W) (ha : XA X (e :: es) ds args) (hF : F args (.ok d)) (hg : Gl X x := by rfl) (hdb : (x == ("__debug__" : Str)) = false := by decide)
    (he : starEach (e :: es) X.env = (false, eval e X.env) :: starEach es X.env := by exact se rfl) (hpl : (backTo pos (starEach es X.env)).any (·.1) = false := by exact spl rfl) : XV X (.Call (.Name x p) (e :: es) [] pos) ds d := .mk fun G S0 S H σ E Q q =>
  call_any T hr tk ha hF hg hdb he hpl E fun S1 H1 g v S' H' g' r => q v S' H' (g.trans g') r
theorem xr_call {c : Addr} (T : Df X.prog X.w X.K X.mg X.base x k F) (hr : Room k X.A) (tk : Takes X W) (ha : XA X (e :: es) ds args) (hF : F args (.er c)) (hg : Gl X x := by rfl) (hdb : (x == ("__debug__" : Str)) = false := by decide)
    (he : starEach (e :: es) X.env = (false, eval e X.env) :: starEach es X.env := by exact se rfl) (hpl : (backTo pos (starEach es X.env)).any (·.1) = false := by exact spl rfl) : XR X W (.Call (.Name x p) (e :: es) [] pos) ds c := .mk fun G S0 S H σ E q Q =>
  call_any T hr tk ha hF hg hdb he hpl E fun S1 H1 g S' H' g' => q S' H' (g.trans g')
end
end Lay
/-! Lay7: list comprehensions. -/
namespace Lay
open PySem L2
theorem wipe_at {σ : L2.St} {j : Nat} : ∀ vs : List Nat, (wipe σ vs)[j]? = if j ∈ vs then (σ[j]?.map fun _ => none) else σ[j]?
  | [] => by simp [wipe]
  | v :: vs => by
    have ih := wipe_at (σ := σ) (j := j) vs
    have hl := wipe_length σ vs
    unfold wipe
    by_cases h : v = j
    · subst h
      rw [if_pos List.mem_cons_self]
      by_cases q : v < σ.length
      · rw [List.getElem?_set_self (by rw [hl]; exact q), List.getElem?_eq_getElem q]; rfl
      · rw [List.getElem?_eq_none (by rw [List.length_set, hl]; omega), List.getElem?_eq_none (by omega)]; rfl
    · rw [List.getElem?_set_ne h, ih]
      by_cases z : j ∈ vs
      · rw [if_pos z, if_pos (List.mem_cons_of_mem _ z)]
      · rw [if_neg z, if_neg]
        intro q
        rcases List.mem_cons.mp q with e | e
        · exact h e.symm
        · exact z e
theorem wipe_set {σ : L2.St} {i : Nat} {o : Option V} {vs : List Nat} (h : i ∈ vs) : wipe (σ.set i o) vs = wipe σ vs := by
  apply List.ext_getElem?
  intro j
  rw [wipe_at, wipe_at]
  by_cases z : i = j
  · subst z
    rw [if_pos h, if_pos h]
    by_cases q : i < σ.length
    · rw [List.getElem?_set_self q, List.getElem?_eq_getElem q]; rfl
    · rw [List.set_eq_of_length_le (by omega)]
  · rw [List.getElem?_set_ne z]
theorem wipe_wipe {σ : L2.St} (vs : List Nat) : wipe (wipe σ vs) vs = wipe σ vs := by
  apply List.ext_getElem?
  intro j
  rw [wipe_at, wipe_at]
  split
  · cases σ[j]? <;> rfl
  · rfl
def wipeC (ds : List It) : List Nat → List It
  | [] => ds
  | v :: vs => (wipeC ds vs).set v .no
theorem Env.wipe {K : Fg} {G S0 S H : Hp} {σ : L2.St} {ds : List It} (e : Env K G S0 S H σ ds) : ∀ vs, Env K G S0 S H (L2.wipe σ vs) (wipeC ds vs)
  | [] => e
  | v :: vs => (Env.wipe e vs).put_no v none

abbrev Bk (X : Cx) (scope : Scope) (s : Shared) (H : Hp) (C : Addr) (cl : List (Str × Addr)) (fp : List Addr) : Cx := X.blk s H scope (compEnvC scope cl C X.env) fp
section
variable {X : Cx} {W : WX} {e a b c : Expr} {st : Stmt} {ds ds' ds1 : List It} {o : Ou} {pos : Pos} {d : D} {xs ys : List D} {tg iter elt : Expr} {ifs : List Expr} {scope : Scope} {own : List (Str × Nat)} {vs : List Nat}
/-- a target within a comprehension: its slots are among vs -/
structure XGW (X : Cx) (tg : Expr) (d : D) (ds ds' : List It) (vs : List Nat) : Prop where
  mk ::
  run : ∀ G S0 S H σ v, Env X.K G S0 S H σ ds → Rp X.K S v d → ∀ Q : L2.St → Hp → Prop, (∀ σ', Env X.K G S0 S H σ' ds' → wipe σ' vs = wipe σ vs → Q σ' H) → wG X tg v σ H Q
instance {X : Cx} {tg : Expr} {d : D} {ds ds' : List It} {vs : List Nat} : CoeFun (XGW X tg d ds ds' vs) (fun _ => ∀ G S0 S H σ v, Env X.K G S0 S H σ ds → Rp X.K S v d → ∀ Q : L2.St → Hp → Prop, (∀ σ', Env X.K G S0 S H σ' ds' → wipe σ' vs = wipe σ vs → Q σ' H) → wG X tg v σ H Q) := ⟨XGW.run⟩
structure XGWs (X : Cx) (tgs : List Expr) (xs : List D) (ds ds' : List It) (vs : List Nat) : Prop where
  mk ::
  run : ∀ G S0 S H σ us, Env X.K G S0 S H σ ds → RpA X.K S us xs → ∀ Q : L2.St → Hp → Prop, (∀ σ', Env X.K G S0 S H σ' ds' → wipe σ' vs = wipe σ vs → Q σ' H) → wGs X tgs us σ H Q
instance {X : Cx} {tgs : List Expr} {xs : List D} {ds ds' : List It} {vs : List Nat} : CoeFun (XGWs X tgs xs ds ds' vs) (fun _ => ∀ G S0 S H σ us, Env X.K G S0 S H σ ds → RpA X.K S us xs → ∀ Q : L2.St → Hp → Prop, (∀ σ', Env X.K G S0 S H σ' ds' → wipe σ' vs = wipe σ vs → Q σ' H) → wGs X tgs us σ H Q) := ⟨XGWs.run⟩
theorem xgw_name (i : Nat) {x : Str} {p : Pos} (hN : X.N.Nodup) (hi : X.N[i]? = some x := by rfl) (hx : Loc X.env.scope x := by first | exact Or.inl rfl | exact Or.inr rfl) (hf : X.fn x = true ∨ X.env.scope.names.lookup x = some .local := by first | exact .inl rfl | exact .inr rfl) (hm : i ∈ vs := by simp) :
    XGW X (.Name x p) d ds (ds.set i (.fz d)) vs := .mk fun G S0 S H σ v E r Q q => wg_of (pg_name (i := i) hN hi hx hf) (q _ (E.putD i r) (wipe_set hm))
theorem xgws_nil : XGWs X [] [] ds ds vs := .mk fun G S0 S H σ us E r Q q => by cases r; exact wgs_of pgs_nil ⟨rfl, q σ E rfl⟩
theorem xgws_cons {tg : Expr} {tgs : List Expr} (h1 : XGW X tg d ds ds1 vs) (h2 : XGWs X tgs xs ds1 ds' vs) (hs : (assignEach (tg :: tgs) X.env).map (·.2) = assign tg X.env :: (assignEach tgs X.env).map (·.2) := by rfl) : XGWs X (tg :: tgs) (d :: xs) ds ds' vs := .mk fun G S0 S H σ us E r Q q => by
  cases r with
  | cons r rs => exact wgs_of (pgs_cons pg_w pgs_w hs) ⟨_, _, rfl, h1 G S0 S H σ _ E r _ fun σ' E' w => h2 G S0 S H σ' _ E' rs Q fun σ2 E2 w2 => q σ2 E2 (w2.trans w)⟩
theorem xgw_tup {tgs : List Expr} {k : Nat} {p : Pos} (hc : X.calm = true) (h : XGWs X tgs xs ds ds' vs) (hn : (assignEach tgs X.env).length = xs.length := by rfl) (hst : (assignEach tgs X.env).findIdx? (·.1) = none := by rfl) : XGW X (.Tuple tgs k p) (.tup xs) ds ds' vs := .mk fun G S0 S H σ v E r Q q => by
  cases r with
  | tup h1 ra => exact wg_of (pg_tup (n := xs.length) hc pgs_w hn hst) ⟨_, _, rfl, st_of (E.sh _ _ h1), by rw [da_len ra], h G S0 S H σ _ E ra Q q⟩
/-- a clause's tests -/
def wPt (X : Cx) (ifs : List Expr) : TT := fun σ H Q => ∀ pins s, Inv X pins σ H s →
    wpAny (model X.prog X.w) X.A (forIn ifs true fun c r => if r = true then do let ok ← isTrue c X.env (eval c X.env); pure (ForInStep.yield ok) else pure (ForInStep.yield r)) (TP X pins σ Q) X.xe s
structure XTs (X : Cx) (ifs : List Expr) (ds : List It) (k : Bool) : Prop where
  mk ::
  run : ∀ G S0 S H σ, Env X.K G S0 S H σ ds → ∀ Q : Bool → Hp → Prop, (∀ S' H', Gr S H S' H' → Q k H') → wPt X ifs σ H Q
instance {X : Cx} {ifs : List Expr} {ds : List It} {k : Bool} : CoeFun (XTs X ifs ds k) (fun _ => ∀ G S0 S H σ, Env X.K G S0 S H σ ds → ∀ Q : Bool → Hp → Prop, (∀ S' H', Gr S H S' H' → Q k H') → wPt X ifs σ H Q) := ⟨XTs.run⟩
theorem xts_nil : XTs X [] ds true := .mk fun G S0 S H σ E Q q pins s I => pts_nil.run pins s σ H Q I (q S H E.gr)
theorem xts_one {k : Bool} (h : XT X c ds k) : XTs X [c] ds k := .mk fun G S0 S H σ E Q q pins s I => (pts_one pt_w).run pins s σ H Q I (h G S0 S H σ E Q q)
/-- the turns of a comprehension, whatever its frame -/
inductive Lc (X : Cx) (scope : Scope) (vs : List Nat) (tg elt : Expr) (ifs : List Expr) (ds : List It) : List D → List D → Prop where
  | nil : Lc X scope vs tg elt ifs ds [] []
  | cons {d y : D} {xs ys : List D} {ds1 : List It} : (∀ s H C cl fp, XGW (Bk X scope s H C cl fp) tg d ds ds1 vs) → (∀ s H C cl fp, XTs (Bk X scope s H C cl fp) ifs ds1 true) → (∀ s H C cl fp, XV (Bk X scope s H C cl fp) elt ds1 y) →
      Lc X scope vs tg elt ifs ds xs ys → Lc X scope vs tg elt ifs ds (d :: xs) (y :: ys)
  | skip {d : D} {xs ys : List D} {ds1 : List It} : (∀ s H C cl fp, XGW (Bk X scope s H C cl fp) tg d ds ds1 vs) → (∀ s H C cl fp, XTs (Bk X scope s H C cl fp) ifs ds1 false) →
      Lc X scope vs tg elt ifs ds xs ys → Lc X scope vs tg elt ifs ds (d :: xs) ys
theorem Lc.len (h : Lc X scope vs tg elt ifs ds xs ys) : ys.length ≤ xs.length := by
  induction h with
  | nil => simp
  | cons _ _ _ _ ih => simp; exact ih
  | skip _ _ _ ih => simp; omega
def uG (X : Cx) (scope : Scope) (tg : Expr) : TG := fun v σ H Q => ∀ s H0 C cl fp, wG (Bk X scope s H0 C cl fp) tg v σ H Q
def uT (X : Cx) (scope : Scope) (ifs : List Expr) : TT := fun σ H Q => ∀ s H0 C cl fp, wPt (Bk X scope s H0 C cl fp) ifs σ H Q
def uE (X : Cx) (scope : Scope) (elt : Expr) : TE := fun σ H Q => ∀ s H0 C cl fp, wE (Bk X scope s H0 C cl fp) elt σ H Q
theorem wG_all {v : V} {σ : L2.St} {H : Hp} {Q : L2.St → Hp → Prop} (h : ∀ s H0 C cl fp, wG (Bk X scope s H0 C cl fp) tg v σ H Q) : uG X scope tg v σ H Q := h
theorem lc_read (hi : XI X tg iter ds xs) (hl : Lc X scope vs tg elt ifs (wipeC ds vs) xs ys) (hz : xs.length ≤ 100000) {G S0 S H : Hp} {σ : L2.St} (E : Env X.K G S0 S H σ ds) {Q : VK}
    (q : ∀ p us S' H', Gr S H S' H' → H p = none → S' p = none → H' p = some (.lst us) → RpA X.K S' us ys → Q (.ref p) H') : tLc (wI X tg iter) (uG X scope tg) (uT X scope ifs) (uE X scope elt) vs σ H Q :=
  hi G S0 S H σ E _ fun J S1 H1 g1 wk => fun D hD => by
    have sD : S1 D = none := g1.sh.free hD
    refine ⟨fun i m H => m = xs.length - i ∧ i ≤ xs.length ∧ ∃ S us acc rest, Gr S1 H1 S H ∧ S D = none ∧ H D = some (.lst us) ∧ RpA X.K S us acc ∧ Lc X scope vs tg elt ifs (wipeC ds vs) (xs.drop i) rest ∧ acc ++ rest = ys,
      ⟨xs.length, by simp, Nat.zero_le _, S1, [], [], ys, Gr.newH g1.sh hD, sD, upd_same, .nil, hl, rfl⟩, ?_⟩
    rintro i m H2 ⟨rfl, hi, S2, us, acc, rest, g2, s2, h2, ra, F, eq⟩
    obtain ⟨w1, w2⟩ := wk i S2 H2 g2.s g2.sh
    have E2 : Env X.K G S0 S2 H2 (wipe σ vs) (wipeC ds vs) := ((E.grow g1).grow g2).wipe vs
    by_cases hlt : i < xs.length
    · obtain ⟨go, y⟩ := w1 hlt
      rw [List.drop_eq_getElem_cons hlt] at F
      refine .inr ⟨go, fun H' => ∃ S us acc rest, Gr S1 H1 S H' ∧ S D = none ∧ H' D = some (.lst us) ∧ RpA X.K S us acc ∧ Lc X scope vs tg elt ifs (wipeC ds vs) (xs.drop (i + 1)) rest ∧ acc ++ rest = ys,
        fun H' h => ⟨xs.length - (i + 1), by omega, rfl, hlt, h⟩, fun x H3 hy => ?_⟩
      obtain ⟨rfl, d, hd, r⟩ := y x H3 hy
      rw [List.getElem?_eq_getElem hlt] at hd
      have hd' := Option.some.inj hd
      subst hd'
      -- the block's own judgements, whatever its frame
      have glue : ∀ {ds1 : List It} {k : Bool} {R : L2.St → Hp → Prop}, (∀ s H C cl fp, XGW (Bk X scope s H C cl fp) tg xs[i] (wipeC ds vs) ds1 vs) → (∀ σ', Env X.K G S0 S2 H3 σ' ds1 → wipe σ' vs = wipe σ vs → R σ' H3) → uG X scope tg x (wipe σ vs) H3 R := fun {ds1 k R} hg hR s H0 C cl fp =>
        hg s H0 C cl fp G S0 S2 H3 _ x E2 r R fun σ' E' w => hR σ' E' (w.trans (wipe_wipe vs))
      cases F with
      | @cons _ y _ rest' ds1 hg ht hv F =>
        refine glue (k := true) hg fun σ' E' w => ⟨w, fun s H0 C cl fp => ht s H0 C cl fp G S0 S2 H3 σ' E' _ fun S3 H4 g3 => ?_⟩
        rw [if_pos rfl]
        intro s H0 C cl fp
        refine hv s H0 C cl fp G S0 S3 H4 σ' (E'.grow g3) _ fun u S4 H5 g4 ru => ?_
        have g34 := g3.trans g4
        have h5 : H5 D = some (.lst us) := g34.h _ _ h2
        have s4 : S4 D = none := by rw [g34.old D (nn_of h2)]; exact s2
        have ra' := da_same g34.s ra
        refine ⟨us, h5, szlt _ ?_, S4, us ++ [u], acc ++ [y], rest', ⟨g2.s.trans g34.s, fun k w z => ?_, fun k w z => ?_, fun k hk => ?_⟩, s4, upd_same, da_append ra' (da_one ru), F, by rw [List.append_assoc]; exact eq⟩
        · have e1 : acc.length + (y :: rest').length = ys.length := by rw [← eq, List.length_append]
          have e2 := hl.len
          have e3 := da_len ra
          simp only [List.length_cons] at e1
          omega
        · rw [upd_ne (ne_of_none z hD)]
          exact g34.h _ _ (g2.h _ _ z)
        · rw [upd_ne (fun e => by rw [e, s4] at z; cases z)]
          exact g34.sh _ _ z
        · exact (g34.old k (Same.nn g2.h hk)).trans (g2.old k hk)
      | @skip _ _ _ ds1 hg ht F =>
        refine glue (k := true) hg fun σ' E' w => ⟨w, fun s H0 C cl fp => ht s H0 C cl fp G S0 S2 H3 σ' E' _ fun S3 H4 g3 => ?_⟩
        rw [if_neg Bool.false_ne_true]
        exact ⟨S3, us, acc, rest, g2.trans g3, by rw [g3.old D (nn_of h2)]; exact s2, g3.h _ _ h2, da_same g3.s ra, F, eq⟩
    · have e : i = xs.length := by omega
      subst e
      rw [List.drop_length] at F
      cases F
      rw [List.append_nil] at eq
      subst eq
      exact .inl ⟨w2 (Nat.le_refl _), q D us S2 H2 (g1.trans g2) (g1.h.free hD) s2 h2 ra⟩
theorem xl_lc (own : List (Str × Nat)) (hc : X.calm = true) (hN : X.N.Nodup) (hi : XI X tg iter ds xs) (ok : BlkOk X.N X.env.scope scope own) (hl : Lc X scope (own.map (·.2)) tg elt ifs (wipeC ds (own.map (·.2))) xs ys) (hz : xs.length ≤ 100000)
    (hs : ∀ x, foldedSetIterable iter X.env x = pure x := by intro _; rfl) : XL X (.ListComp elt [⟨tg, iter, ifs, 0⟩] scope pos) ds ys := .mk fun G S0 S H σ E Q q =>
  we_of (pe_lc hc hN pi_w ok (fun s H0 C cl fp => ⟨fun pins s σ H v u Q I r h => (h _ _ _ _ _) pins s u I r⟩) (fun s H0 C cl fp => ⟨fun pins s σ H Q I h => (h _ _ _ _ _) pins s I⟩) (fun s H0 C cl fp => ⟨fun pins s σ H Q I h => (h _ _ _ _ _) pins s I⟩) hs)
    (lc_read hi hl hz E q)
theorem xs_lc (i : Nat) {y : Str} {py : Pos} (own : List (Str × Nat)) (hc : X.calm = true) (hN : X.N.Nodup) (hi : XI X tg iter ds xs) (ok : BlkOk X.N X.env.scope scope own) (hl : Lc X scope (own.map (·.2)) tg elt ifs (wipeC ds (own.map (·.2))) xs ys) (hz : xs.length ≤ 100000)
    (hy : X.N[i]? = some y := by rfl) (hyl : X.env.scope.names.lookup y = some .local := by rfl) (hsw : swapsWith (.ListComp elt [⟨tg, iter, ifs, 0⟩] scope pos) (some (.Name y py)) pos.line X.env = pure true := by exact sw_true rfl rfl rfl (by decide +kernel))
    {spos : Pos} (hline : spos.line = pos.line := by rfl) (hs : ∀ x, foldedSetIterable iter X.env x = pure x := by intro _; rfl) : XS X W (.Assign [.Name y py] (.ListComp elt [⟨tg, iter, ifs, 0⟩] scope pos) spos) ds (.nx (ds.set i (.ow ys))) := .mk fun G S0 S H σ E Z q =>
  ws_of (ps_setLc hc hN hy hyl (by rw [hline]; exact hsw) pi_w ok (fun s H0 C cl fp => ⟨fun pins s σ H v u Q I r h => (h _ _ _ _ _) pins s u I r⟩) (fun s H0 C cl fp => ⟨fun pins s σ H Q I h => (h _ _ _ _ _) pins s I⟩) (fun s H0 C cl fp => ⟨fun pins s σ H Q I h => (h _ _ _ _ _) pins s I⟩) hs)
    (lc_read hi hl hz E fun p us S' H' g h1 h2 h3 h4 => q _ S' H' (E.putL g i h1 h3 h2 h4))
end
end Lay
/-! Lay8: what the top leaves; more built-ins. -/
namespace Lay
open PySem L2
/-- the built-ins that are used are what they were -/
structure Tx (K : Fg) (mg : Str → Option Value) : Prop where
  len : mg "len" = none
  range : mg "range" = none
  sorted : mg "sorted" = none
  set : mg "set" = none
  list : mg "list" = none
  tuple : mg "tuple" = none
  sum : mg "sum" = none
  any : mg "any" = none
  all : mg "all" = none
  abs : mg "abs" = none
  max : mg "max" = none
  min : mg "min" = none
  int : mg "int" = none
  isinstance : mg "isinstance" = none
  bool : mg "bool" = none
/-- a def of the text, by its name -/
structure Dn (K : Fg) (mg : Str → Option Value) (x : Str) (st : Stmt) (ps : List Str) : Prop where
  ex : ∃ f fd, mg x = some (.ref f) ∧ Fun K x x st f fd ∧ Binds K fd ps []
section
variable {P : Program} {w : World} {K : Fg} {mg : Str → Option Value} {base : Heap}
theorem df_of {x : Str} {st : Stmt} {N ps : List Str} (k : Nat) {F : Fs} (U : Dn K mg x st ps) (S : FnScope N ps (defScope st)) (len : ∀ args r, F args r → args.length = ps.length)
    (body : ∀ (f : Addr) (cdv : Value) (A : Around) (outer : List PySem.Env) (s : Shared) (H : Hp) (E : XK) (args : List D) (r : Res), Room k (A.deeper (PyProof.Rows.envOfC x (defScope st) s.heap.objs.size f cdv)) →
      Takes (cxOf (L2.CX P w) P w K mg base N x (defScope st) f cdv A outer s H E) (fun cls d _ H => E cls d H) →
      PassesOwn (model P w) (A.deeper (PyProof.Rows.envOfC x (defScope st) s.heap.objs.size f cdv)) (PyProof.Rows.envOfC x (defScope st) s.heap.objs.size f cdv) (cxOf (L2.CX P w) P w K mg base N x (defScope st) f cdv A outer s H E).xe → F args r →
      XF (cxOf (L2.CX P w) P w K mg base N x (defScope st) f cdv A outer s H E) (fun cls d _ H => E cls d H) (defBody st) (ctx0 N.length args) r) : Df P w K mg base x (k + 1) F := by
  obtain ⟨f, fd, hm, hf, hb⟩ := U.ex
  exact ⟨f, fd, ps, hm, hf.kp, hb, fn_ok hf S len fun cdv A outer s H E args r hr hF => body f cdv A outer s H E args r hr (takes_of rfl rfl rfl rfl) (passes_of rfl) hF⟩
end
/-- the same for the law itself -/
theorem fnl_of {P : Program} {w : World} {K : Fg} {mg : Str → Option Value} {base : Heap} {x : Str} {st : Stmt} {N ps : List Str} (k : Nat) {F : Fs} {f : Addr} {fd : FuncData} (U : Fun K x x st f fd) (S : FnScope N ps (defScope st)) (len : ∀ args r, F args r → args.length = ps.length)
    (body : ∀ (cdv : Value) (A : Around) (outer : List PySem.Env) (s : Shared) (H : Hp) (E : XK) (args : List D) (r : Res), Room k (A.deeper (PyProof.Rows.envOfC x (defScope st) s.heap.objs.size f cdv)) →
      Takes (cxOf (L2.CX P w) P w K mg base N x (defScope st) f cdv A outer s H E) (fun cls d _ H => E cls d H) →
      PassesOwn (model P w) (A.deeper (PyProof.Rows.envOfC x (defScope st) s.heap.objs.size f cdv)) (PyProof.Rows.envOfC x (defScope st) s.heap.objs.size f cdv) (cxOf (L2.CX P w) P w K mg base N x (defScope st) f cdv A outer s H E).xe → F args r →
      XF (cxOf (L2.CX P w) P w K mg base N x (defScope st) f cdv A outer s H E) (fun cls d _ H => E cls d H) (defBody st) (ctx0 N.length args) r) : FnOk P w K mg base (L2.CX P w) (k + 1) f fd ps (spF K F) :=
  fn_ok U S len fun cdv A outer s H E args r hr hF => body cdv A outer s H E args r hr (takes_of rfl rfl rfl rfl) (passes_of rfl) hF
/-- the law's own promise -/
def F_law : Fs := fun args r => ∃ ns : List Int, args = [.scr ns] ∧ ns.length ≤ 63 ∧ r = .ok (.bl true)
theorem law_sp {K : Fg} {H : Hp} {a : Addr} {ns : List Int} (hl : ns.length ≤ 63) (h : SqL K H a (ns.map V.int)) : spF K F_law [.ref a] H (fun v _ => v = .bl true) fun _ _ _ => False :=
  ⟨H, [.scr ns], .ok (.bl true), Same.refl _, .cons (.scr h) .nil, ⟨ns, rfl, hl, rfl⟩, fun v S' H' g r => by cases r; rfl⟩
theorem law_cx {P : Program} {w : World} {outer : List PySem.Env} {H : Hp} {s s' : Shared} {e : Value} (h : L2.CX P w outer H s (fun _ _ _ => False) e s') : False := by
  obtain ⟨_, _, _, _, _, _, _, _, _, _, _, _, z⟩ := h
  exact z
/-- a def, by what the head tells of it -/
theorem dn_mk {K : Fg} {h : Heap} {mg : Str → Option Value} {x : Str} {st : Stmt} {ps : List Str} {f : Addr} {oc : Value} {od an : Option Addr} {osl : Array (Option Value)} {kV doc pm cdv ct : Value} (X : K.In h) (G : h.Ns mainGlobals mg)
    (a : PySem.W.nsIn K mainGlobals x = some (some (.ref f))) (l : K.lookup f = some ⟨oc, od, .func (PySem.W.fnOf x x (defArgs st) (defBody st) (defScope st) .none kV doc pm an cdv ct), osl⟩) (c : PySem.W.codeIn K cdv x = true) (k : PySem.W.keepIn K (.ref f) = true)
    (b : ∀ (kV doc pm : Value) (an : Option Addr) (cdv ct : Value) (us : List Value), us.length = ps.length → bindArgs (PySem.W.fnOf x x (defArgs st) (defBody st) (defScope st) .none kV doc pm an cdv ct) ⟨us, []⟩ = pure (ps.zip us)) : Dn K mg x st ps :=
  ⟨f, _, PySem.W.mg_of X G a, fun_mk l c k, (fun_mk l c k).binds b⟩
/-- the law itself, likewise -/
structure Dl (K : Fg) (st : Stmt) (fa : Addr) : Prop where
  ex : ∃ fd, Fun K "law" "law" st fa fd ∧ ∀ (s : Shared) (v : Value), BindsTo s fd ⟨[v], []⟩ [("_law_script", v)]
theorem dl_mk {K : Fg} {h : Heap} {mg : Str → Option Value} {st : Stmt} {fa f : Addr} {oc : Value} {od an : Option Addr} {osl : Array (Option Value)} {kV doc pm cdv ct : Value} (X : K.In h) (G : h.Ns mainGlobals mg) (hfa : mg "law" = some (.ref fa))
    (a : PySem.W.nsIn K mainGlobals "law" = some (some (.ref f))) (l : K.lookup f = some ⟨oc, od, .func (PySem.W.fnOf "law" "law" (defArgs st) (defBody st) (defScope st) .none kV doc pm an cdv ct), osl⟩) (c : PySem.W.codeIn K cdv "law" = true) (k : PySem.W.keepIn K (.ref f) = true)
    (b : ∀ (kV doc pm : Value) (an : Option Addr) (cdv ct v : Value), bindArgs (PySem.W.fnOf "law" "law" (defArgs st) (defBody st) (defScope st) .none kV doc pm an cdv ct) ⟨[v], []⟩ = pure [(("_law_script" : Str), v)]) : Dl K st fa := by
  have e := hfa.symm.trans (PySem.W.mg_of X G a)
  cases e
  exact ⟨_, fun_mk l c k, fun s v => .of_eq (b ..)⟩
theorem Df.mono {P : Program} {w : World} {K : Fg} {mg : Str → Option Value} {base : Heap} {x : Str} {j k : Nat} {F : Fs} (h : Df P w K mg base x j F) (l : j ≤ k) : Df P w K mg base x k F :=
  let ⟨f, fd, ps, a, b, c, d⟩ := h.ex; ⟨f, fd, ps, a, b, c, d.mono l⟩
theorem XF.mk {X : Cx} {W : WX} {body : List Stmt} {ds : List It} {r : Res} (o : Ou) (h : XSs X W body ds o) (f : Fits o r) : XF X W body ds r := ⟨o, h, f⟩
theorem XF.rt {X : Cx} {W : WX} {body : List Stmt} {ds : List It} {d : D} (h : XSs X W body ds (.rt d)) : XF X W body ds (.ok d) := ⟨_, h, rfl⟩
theorem XF.er {X : Cx} {W : WX} {body : List Stmt} {ds : List It} {c : Addr} (h : XSs X W body ds (.er c)) : XF X W body ds (.er c) := ⟨_, h, rfl⟩
theorem XF.nx {X : Cx} {W : WX} {body : List Stmt} {ds ds' : List It} (h : XSs X W body ds (.nx ds')) : XF X W body ds (.ok .non) := ⟨_, h, rfl⟩
section
variable {X : Cx} {W : WX} {e a b c : Expr} {ds : List It} {pos : Pos} {A B : D} {i j : Int}
theorem xv_ifd {d d' : D} {k : Bool} (hc : XT X c ds k) (ha : k = true → XV X a ds d) (hb : k = false → XV X b ds d') : XV X (.IfExp c a b pos) ds (if k = true then d else d') :=
  xv_if hc (fun h => by rw [if_pos h]; exact ha h) fun h => by rw [h, if_neg Bool.false_ne_true]; exact hb h
/-- an item of a list that a typed list makes -/
theorem ix_map {α : Type} {f : α → D} {xs : List α} {i : Int} {x : α} (h : atI xs i = some x) : ixD (.lst (xs.map f)) i = some (f x) := by
  show atI (xs.map f) i = some (f x)
  unfold atI at h ⊢
  rw [List.length_map]
  cases q : ixN xs.length i with
  | none => rw [q] at h; cases h
  | some j =>
    rw [q] at h
    show (xs.map f)[j]? = _
    have h : xs[j]? = some x := h
    rw [List.getElem?_map, h]; rfl
theorem atI_ge {α : Type} {xs : List α} {i : Int} (h0 : 0 ≤ i) (h1 : i < xs.length) : atI xs i = some (xs[i.toNat]'(by omega)) := by
  unfold atI ixN
  rw [if_pos h0, if_pos h1]
  show xs[i.toNat]? = _
  rw [List.getElem?_eq_getElem]
theorem atI_d {α : Type} {xs : List α} {i : Int} (d : α) (h0 : 0 ≤ i) (h1 : i < xs.length) : atI xs i = some (xs.getD i.toNat d) := by
  rw [atI_ge h0 h1]; congr 1
  rw [List.getD_eq_getElem?_getD, List.getElem?_eq_getElem (by omega)]; rfl
theorem atI_lastD {α : Type} {xs : List α} (h : xs ≠ []) : atI xs (-1) = some (xs.getLast h) := by
  have hl : 0 < xs.length := List.length_pos_iff.mpr h
  unfold atI ixN
  rw [if_neg (by omega), if_pos (by omega)]
  show xs[((-1 : Int) + (xs.length : Int)).toNat]? = _
  have e : ((-1 : Int) + (xs.length : Int)).toNat = xs.length - 1 := by omega
  rw [e, ← List.getLast?_eq_getElem?, List.getLast?_eq_some_getLast h]
theorem ixN_ge {n : Nat} {i : Int} (h0 : 0 ≤ i) (h1 : i < n) : ixN n i = some i.toNat := by unfold ixN; rw [if_pos h0, if_pos h1]
theorem xv_sum {p : Pos} {ns : List Int} (hc : X.calm = true) (hm : X.mg "sum" = none) (ha : XB X e ds A) (h : A = .lst (ns.map .int)) (hg : Gl X "sum" := by rfl) (hs : starEach [e] X.env = (false, eval e X.env) :: starEach [] X.env := by exact se rfl) (hpl : (backTo pos (starEach [] X.env)).any (·.1) = false := by exact spl rfl) :
    XV X (.Call (.Name "sum" p) [e] [] pos) ds (.int ns.sum) := by
  subst h
  exact xv_callB (cr_sum hc) hm boot_sum' (xab_cons ha xab_nil hs) (fun S H vs Q k r q => by
    obtain ⟨v, rfl, r1⟩ := rba1 r
    obtain ⟨p, vs, rfl, h1, h2⟩ := r1.lst k
    have e := da_ints h2
    subst e
    exact ⟨p, ns, rfl, sq_of h1, q _ S H (.refl k) (.int _)⟩) hg (he := hs) (hpl := hpl)
theorem xv_any {p : Pos} {ns : List Bool} (hc : X.calm = true) (hm : X.mg "any" = none) (ha : XB X e ds A) (h : A = .lst (ns.map .bl)) (hg : Gl X "any" := by rfl) (hs : starEach [e] X.env = (false, eval e X.env) :: starEach [] X.env := by exact se rfl) (hpl : (backTo pos (starEach [] X.env)).any (·.1) = false := by exact spl rfl) :
    XV X (.Call (.Name "any" p) [e] [] pos) ds (.bl (ns.any id)) := by
  subst h
  exact xv_callB (cr_any hc) hm boot_any' (xab_cons ha xab_nil hs) (fun S H vs Q k r q => by
    obtain ⟨v, rfl, r1⟩ := rba1 r
    obtain ⟨p, vs, rfl, h1, h2⟩ := r1.lst k
    have e := da_bools h2
    subst e
    exact ⟨p, ns, rfl, sq_of h1, q _ S H (.refl k) (.bl _)⟩) hg (he := hs) (hpl := hpl)
theorem xv_all {p : Pos} {ns : List Bool} (hc : X.calm = true) (hm : X.mg "all" = none) (ha : XB X e ds A) (h : A = .lst (ns.map .bl)) (hg : Gl X "all" := by rfl) (hs : starEach [e] X.env = (false, eval e X.env) :: starEach [] X.env := by exact se rfl) (hpl : (backTo pos (starEach [] X.env)).any (·.1) = false := by exact spl rfl) :
    XV X (.Call (.Name "all" p) [e] [] pos) ds (.bl (ns.all id)) := by
  subst h
  exact xv_callB (cr_all hc) hm boot_all' (xab_cons ha xab_nil hs) (fun S H vs Q k r q => by
    obtain ⟨v, rfl, r1⟩ := rba1 r
    obtain ⟨p, vs, rfl, h1, h2⟩ := r1.lst k
    have e := da_bools h2
    subst e
    exact ⟨p, ns, rfl, sq_of h1, q _ S H (.refl k) (.bl _)⟩) hg (he := hs) (hpl := hpl)
/-! ### comprehensions of the usual kinds -/
theorem Lc.is {scope : Scope} {vs : List Nat} {tg elt : Expr} {ifs : List Expr} {xs ys zs : List D} (h : Lc X scope vs tg elt ifs ds xs ys) (q : ys = zs) : Lc X scope vs tg elt ifs ds xs zs := q ▸ h
theorem truD_map {α : Type} {f : α → D} {xs : List α} {k : Bool} (h : (!xs.isEmpty) = k) : truD (.lst (xs.map f)) = some k := by subst h; cases xs <;> rfl
theorem lc_map {α : Type} {f g : α → D} {scope : Scope} {vs : List Nat} {tg elt : Expr} : ∀ (xs : List α), (∀ x ∈ xs, ∃ ds1, (∀ s H C cl fp, XGW (Bk X scope s H C cl fp) tg (f x) ds ds1 vs) ∧ (∀ s H C cl fp, XV (Bk X scope s H C cl fp) elt ds1 (g x))) →
    Lc X scope vs tg elt [] ds (xs.map f) (xs.map g)
  | [], _ => .nil
  | x :: xs, h => by
    obtain ⟨ds1, hg, he⟩ := h x List.mem_cons_self
    exact .cons hg (fun _ _ _ _ _ => xts_nil) he (lc_map xs fun y hy => h y (List.mem_cons_of_mem _ hy))
theorem lc_filter {α : Type} {f g : α → D} {p : α → Bool} {scope : Scope} {vs : List Nat} {tg elt : Expr} {ifs : List Expr} : ∀ (xs : List α), (∀ x ∈ xs, ∃ ds1, (∀ s H C cl fp, XGW (Bk X scope s H C cl fp) tg (f x) ds ds1 vs) ∧ (∀ s H C cl fp, XTs (Bk X scope s H C cl fp) ifs ds1 (p x)) ∧ (p x = true → ∀ s H C cl fp, XV (Bk X scope s H C cl fp) elt ds1 (g x))) →
    Lc X scope vs tg elt ifs ds (xs.map f) ((xs.filter p).map g)
  | [], _ => .nil
  | x :: xs, h => by
    obtain ⟨ds1, hg, ht, he⟩ := h x List.mem_cons_self
    have ih := lc_filter xs fun y hy => h y (List.mem_cons_of_mem _ hy)
    cases e : p x with
    | true =>
      rw [List.filter_cons_of_pos (by rw [e])]
      rw [e] at ht
      exact .cons hg ht (he e) ih
    | false =>
      rw [List.filter_cons_of_neg (by rw [e]; exact Bool.false_ne_true)]
      rw [e] at ht
      exact .skip hg ht ih
/-! ### ifs in a block -/
variable {st : Stmt} {sts rest AA BB : List Stmt} {ds1 : List It} {o : Ou} {k : Bool}
theorem xss_if (hc : XT X c ds k) (ht : k = true → XT X c ds true → XSs X W (.If c AA BB pos :: rest) ds o) (hf : k = false → XT X c ds false → XSs X W (.If c AA BB pos :: rest) ds o) : XSs X W (.If c AA BB pos :: rest) ds o := by
  cases k with
  | true => exact ht rfl hc
  | false => exact hf rfl hc
theorem xss_yes (hc : XT X c ds true) (h : XSs X W AA ds (.nx ds1)) (h2 : XSs X W rest ds1 o) : XSs X W (.If c AA BB pos :: rest) ds o := xss_cons (xs_yes hc h) h2
theorem xss_no (hc : XT X c ds false) (h : XSs X W BB ds (.nx ds1)) (h2 : XSs X W rest ds1 o) : XSs X W (.If c AA BB pos :: rest) ds o := xss_cons (xs_no hc h) h2
theorem xss_no0 (hc : XT X c ds false) (h2 : XSs X W rest ds o) : XSs X W (.If c AA [] pos :: rest) ds o := xss_cons (xs_no hc xss_nil) h2
theorem xss_yesS (hc : XT X c ds true) (h : XSs X W AA ds o) (ho : goesOn o = false := by rfl) : XSs X W (.If c AA BB pos :: rest) ds o := xss_stop (xs_yes hc h) ho
theorem xss_noS (hc : XT X c ds false) (h : XSs X W BB ds o) (ho : goesOn o = false := by rfl) : XSs X W (.If c AA BB pos :: rest) ds o := xss_stop (xs_no hc h) ho
theorem xss_ret {d : D} (he : XV X e ds d) : XSs X W (.Return (some e) pos :: rest) ds (.rt d) := xss_stop (xs_ret he)
theorem xss_raise {x m : Str} {C : Addr} {j : Nat} {p p2 p3 : Pos} (hc : X.calm = true) (tk : Takes X W) (T : EC X.K X.mg x C) (hg : Gl X x := by rfl) (hdb : (x == ("__debug__" : Str)) = false := by decide) :
    XSs X W (.Raise (some (.Call (.Name x p) [.Constant (.str m) j p2] [] p3)) none pos :: rest) ds (.er C) := (xss_stop (xs_raise hc tk T hg hdb)).er
theorem xss_then {o1 : Ou} (h : XS X W st ds o1) (hn : ∀ ds1, o1 = .nx ds1 → XSs X W rest ds1 o) (hs : goesOn o1 = false → o1 = o) : XSs X W (st :: rest) ds o := by
  cases o1 with
  | nx ds1 => exact xss_cons h (hn ds1 rfl)
  | _ => exact xss_stop (h.is (hs rfl)) (by rw [← hs rfl]; rfl)
/-! ### 0, 1, .. from a number on -/
def rngF (i m : Nat) : List D := (List.range' i m).map fun (k : Nat) => D.int (k : Int)
theorem rngD_F (n : Nat) : rngD n = rngF 0 n := by unfold rngD rngF; rw [List.range_eq_range']
theorem rngF_0 (i : Nat) : rngF i 0 = [] := rfl
theorem rngF_succ (i m : Nat) : rngF i (m + 1) = .int i :: rngF (i + 1) m := rfl
theorem rngF_len (i m : Nat) : (rngF i m).length = m := by simp [rngF]
/-- a turn that goes on if c, else ends the loop by o1 -/
theorem Fr.chk {tg : Expr} {body : List Stmt} {d : D} {xs : List D} {a b : List It} {o1 : Ou} (cc : Bool) (hg : XG X tg d ds ds1) (hb : XSs X W body ds1 (if cc = true then .nx a else o1)) (hl : Le a b) (ht : turns o1 = none) (h : cc = true → Fr X W tg body xs b o) (h' : cc = false → o = brk o1) :
    Fr X W tg body (d :: xs) ds o := by
  cases cc with
  | true => rw [if_pos rfl] at hb; exact .step hg hb rfl hl (h rfl)
  | false => rw [if_neg Bool.false_ne_true] at hb; rw [h' rfl]; exact .out hg hb ht
/-! ### tuples of whole numbers, compared -/
theorem xt_ltT {ns ms : List Int} (hu : X.A.units + 64 < cLine) (ha : XB X a ds A) (hb : XB X b ds B) (h1 : A = .tup (ns.map .int)) (h2 : B = .tup (ms.map .int)) : XT X (.Compare a [.Lt] [b] pos) ds (HT.lexLt ns ms) := by
  subst h1 h2
  exact xt_cmp (op_ltT (by omega)) ha hb (nomark _) fun S H x y Q k r1 r2 q => by
    obtain ⟨p, vs, rfl, p1, a1⟩ := r1.tup
    obtain ⟨p', vs', rfl, p2, a2⟩ := r2.tup
    have e1 := da_ints a1
    have e2 := da_ints a2
    subst e1 e2
    exact ⟨p, p', ns, ms, rfl, rfl, st_of (k _ _ p1), st_of (k _ _ p2), q⟩
end
end Lay
/-! Lay9: sorted(set(..)) of tuples of whole numbers. -/
namespace Lay
open PySem L2
/-- a tuple of whole numbers -/
def eT (ns : List Int) : D := .tup (ns.map .int)
section
variable {B : Int}
theorem code_bd : ∀ {ns : List Int}, TS.Bd B ns → 0 ≤ TS.code B ns ∧ TS.code B ns < B ^ ns.length
  | [], _ => by simp [TS.code]
  | d :: r, h => by
    obtain ⟨h1, h2⟩ := h.head
    obtain ⟨h3, h4⟩ := code_bd h.tail
    have hB : 0 < B := by omega
    have hp : 0 < B ^ r.length := Int.pow_pos hB
    simp only [TS.code, List.length_cons, Int.pow_succ]
    constructor
    · have := Int.mul_nonneg h1 (Int.le_of_lt hp); omega
    · have : (d + 1) * B ^ r.length ≤ B * B ^ r.length := Int.mul_le_mul_of_nonneg_right (by omega) (Int.le_of_lt hp)
      rw [Int.add_mul] at this
      rw [Int.mul_comm (B ^ r.length) B]
      omega
theorem code_inj : ∀ {ns ms : List Int}, TS.Bd B ns → TS.Bd B ms → ns.length = ms.length → TS.code B ns = TS.code B ms → ns = ms
  | [], [], _, _, _, _ => rfl
  | [], _ :: _, _, _, h, _ => by cases h
  | _ :: _, [], _, _, h, _ => by cases h
  | d :: r, d' :: r', h, h', hl, hc => by
    have hl' : r.length = r'.length := by simpa using hl
    obtain ⟨a1, a2⟩ := code_bd h.tail
    obtain ⟨b1, b2⟩ := code_bd h'.tail
    simp only [TS.code] at hc
    rw [← hl'] at hc b2
    have hp : 0 < B ^ r.length := Int.pow_pos (by have := h.head; omega)
    have e : d = d' := by
      rcases Int.lt_trichotomy d d' with z | z | z
      · have : (d + 1) * B ^ r.length ≤ d' * B ^ r.length := Int.mul_le_mul_of_nonneg_right (by omega) (Int.le_of_lt hp)
        rw [Int.add_mul] at this; omega
      · exact z
      · have : (d' + 1) * B ^ r.length ≤ d * B ^ r.length := Int.mul_le_mul_of_nonneg_right (by omega) (Int.le_of_lt hp)
        rw [Int.add_mul] at this; omega
    subst e
    rw [code_inj h.tail h'.tail hl' (by omega)]
/-- a list that rises strictly by a key is told by its members -/
theorem rise_unique {α : Type} (f : α → Int) : ∀ {xs ys : List α}, xs.Pairwise (fun a b => f a < f b) → ys.Pairwise (fun a b => f a < f b) → (∀ x, x ∈ xs ↔ x ∈ ys) → xs = ys
  | [], [], _, _, _ => rfl
  | [], y :: ys, _, _, h => absurd ((h y).mpr List.mem_cons_self) (by simp)
  | x :: xs, [], _, _, h => absurd ((h x).mp List.mem_cons_self) (by simp)
  | x :: xs, y :: ys, hx, hy, h => by
    rw [List.pairwise_cons] at hx hy
    have e : x = y := by
      rcases List.mem_cons.mp ((h x).mp List.mem_cons_self) with q | q
      · exact q
      · rcases List.mem_cons.mp ((h y).mpr List.mem_cons_self) with q' | q'
        · exact q'.symm
        · have := hx.1 y q'
          have := hy.1 x q
          omega
    subst e
    congr 1
    refine rise_unique f hx.2 hy.2 fun z => ⟨fun hz => ?_, fun hz => ?_⟩
    · rcases List.mem_cons.mp ((h z).mp (List.mem_cons_of_mem _ hz)) with q | q
      · subst q; exact absurd (hx.1 _ hz) (Int.lt_irrefl _)
      · exact q
    · rcases List.mem_cons.mp ((h z).mpr (List.mem_cons_of_mem _ hz)) with q | q
      · subst q; exact absurd (hy.1 _ hz) (Int.lt_irrefl _)
      · exact q
end
theorem da_tups {K : Fg} {S : Hp} : ∀ {vs : List V} {xs : List (List Int)}, RpA K S vs (xs.map eT) → ∃ ks : List (Addr × List Int), vs = ks.map (fun p => V.ref p.1) ∧ xs = ks.map (·.2) ∧ ∀ p ∈ ks, S p.1 = some (.tup (p.2.map V.int))
  | _, [], h => by cases h; exact ⟨[], rfl, rfl, fun _ z => by cases z⟩
  | _, x :: xs, h => by
    cases h with
    | cons h t =>
      obtain ⟨ks, e1, e2, hk⟩ := da_tups t
      cases h with
      | @tup a vs _ ha hr =>
        have z := da_ints hr
        subst z
        refine ⟨(a, x) :: ks, by rw [e1]; rfl, by rw [e2]; rfl, fun p hp => ?_⟩
        rcases List.mem_cons.mp hp with rfl | hp
        · exact ha
        · exact hk p hp
theorem tups_da {K : Fg} {S : Hp} : ∀ (ks : List (Addr × List Int)), (∀ p ∈ ks, S p.1 = some (.tup (p.2.map V.int))) → RpA K S (ks.map fun p => V.ref p.1) ((ks.map (·.2)).map eT)
  | [], _ => .nil
  | p :: ks, h => .cons (.tup (h p List.mem_cons_self) (ints_da _)) (tups_da ks fun q hq => h q (List.mem_cons_of_mem _ hq))
theorem boot_sorted' : bootBuiltins ("sorted" : Str) = some (.builtin "sorted") := by decide +kernel
theorem boot_set' : bootBuiltins ("set" : Str) = some (.type "set") := by decide +kernel
section
variable {X : Cx} {e : Expr} {ds : List It} {pos : Pos}
theorem xl_sortset {p p2 pos2 : Pos} {A : D} {xs ys : List (List Int)} (d : Nat) (B : Int) (hc : X.calm = true) (hu : X.A.units + 64 < cLine) (hm : X.mg "sorted" = none) (hm2 : X.mg "set" = none) (ha : XB X e ds A) (hA : A = .lst (xs.map eT)) (hz : xs.length < 64) (hd : 1 ≤ d) (hb : ∀ x ∈ xs, x.length = d ∧ TS.Bd B x)
    (hy : ys.Pairwise fun a b => TS.code B a < TS.code B b) (hmem : ∀ x, x ∈ ys ↔ x ∈ xs) (hg : Gl X "sorted" := by rfl) (hg2 : Gl X "set" := by rfl) (hs : starEach [e] X.env = (false, eval e X.env) :: starEach [] X.env := by exact se rfl) (hpl2 : (backTo pos2 (starEach [] X.env)).any (·.1) = false := by exact spl rfl)
    (hs2 : starEach [.Call (.Name "set" p2) [e] [] pos2] X.env = (false, eval (.Call (.Name "set" p2) [e] [] pos2) X.env) :: starEach [] X.env := by rfl) (hpl : (backTo pos (starEach [] X.env)).any (·.1) = false := by exact spl rfl) :
    XL X (.Call (.Name "sorted" p) [.Call (.Name "set" p2) [e] [] pos2] [] pos) ds (ys.map eT) := .mk fun G S0 S H σ E Q q =>
  we_of (pe_callB (cr_sortedT hc) hg hm boot_sorted' (pa_cons (pe_callTy (cr_setOfT hc hu) hg2 hm2 boot_set' (pa_cons pe_w pa_nil hs) (he := hs) (hpl := hpl2)) pa_nil hs2) (he := hs2) (hpl := hpl)) (ha G S0 S H σ E _ fun v S1 H1 g1 r1 => by
    obtain ⟨l, vs, rfl, hl, ra⟩ := (hA ▸ r1).lst g1.sh
    obtain ⟨ks, rfl, rfl, hk⟩ := da_tups ra
    refine ⟨l, ks, rfl, sq_of hl, fun p hp => st_of (g1.sh _ _ (hk p hp)), by simpa using hz, fun a L ha0 hL1 hL2 => ?_⟩
    have kL : ∀ p ∈ L, S1 p.1 = some (.tup (p.2.map V.int)) := fun p hp => hk p (hL1 p hp)
    have g2 : Gr S1 H1 S1 (upd H1 a (SetTO X.prog X.w a L)) := Gr.newH g1.sh ha0
    refine ⟨a, L, d, B, rfl, upd_same, fun p hp => st_of (g2.sh _ _ (kL p hp)), hd, fun p hp => hb p.2 (List.mem_map_of_mem (hL1 p hp)), fun L' n pm nd h64 pw hn => ?_⟩
    have hb' : ∀ p ∈ L', p.2.length = d ∧ TS.Bd B p.2 := fun p hp => hb p.2 (List.mem_map_of_mem (hL1 p (pm.mem_iff.mp hp)))
    have strict : (L'.map (·.2)).Pairwise fun a b => TS.code B a < TS.code B b := by
      rw [List.pairwise_map]
      have nd' : L'.Pairwise fun a b => a.2 ≠ b.2 := by
        have := nd
        unfold List.Nodup at this
        rwa [List.pairwise_map] at this
      have both := pw.and nd'
      refine both.imp_of_mem fun {a b} ha hb ⟨h1, h2⟩ => ?_
      rcases Int.lt_or_eq_of_le h1 with z | z
      · exact z
      · obtain ⟨a1, a2⟩ := hb' a ha
        obtain ⟨b1, b2⟩ := hb' b hb
        exact absurd (code_inj a2 b2 (by omega) z) h2
    have eq : L'.map (·.2) = ys := rise_unique (TS.code B) strict hy fun x => by
      rw [hmem, List.mem_map, List.mem_map]
      constructor
      · rintro ⟨p, hp, rfl⟩
        exact ⟨p, hL1 p (pm.mem_iff.mp hp), rfl⟩
      · rintro ⟨p, hp, rfl⟩
        obtain ⟨p', hp', e'⟩ := List.mem_map.mp (hL2 p hp)
        exact ⟨p', pm.mem_iff.mpr hp', e'⟩
    have g3 : Gr S1 (upd H1 a (SetTO X.prog X.w a L)) S1 (upd (upd H1 a (SetTO X.prog X.w a L)) n (.lst (L'.map fun q => V.ref q.1))) := Gr.newH g2.sh hn
    have gg := (g1.trans g2).trans g3
    refine q n _ S1 _ gg (g1.h.free (g2.h.free hn)) (g1.sh.free (g2.h.free hn)) upd_same ?_
    rw [← eq]
    exact tups_da L' fun p hp => kL p (pm.mem_iff.mp hp))
end
end Lay
/-! Lay10: methods that only read; isinstance. -/
namespace Lay
open PySem L2 PyProof.Rows
/-! ### flat data -/
def flatD : D → Bool
  | .non => true
  | .bl _ => true
  | .int _ => true
  | .str _ => true
  | _ => false
def toV : D → V
  | .non => .non
  | .bl b => .bl b
  | .int i => .int i
  | .str x => .str x
  | _ => .non
theorem rp_flat {K : Fg} {S : Hp} {v : V} {d : D} (h : Rp K S v d) (f : flatD d = true) : v = toV d ∧ flatV v = true := by
  cases h <;> first | exact ⟨rfl, rfl⟩ | cases f
theorem rb_flat {K : Fg} {S H : Hp} {v : V} {d : D} (h : Rb K S H v d) (f : flatD d = true) : v = toV d ∧ flatV v = true := by
  rcases h with h | ⟨p, vs, xs, rfl, rfl, _⟩
  · exact rp_flat h f
  · cases f
theorem rpa_flat {K : Fg} {S : Hp} : ∀ {vs : List V} {ds : List D}, RpA K S vs ds → ds.all flatD = true → vs = ds.map toV ∧ vs.all flatV = true
  | _, _, .nil, _ => ⟨rfl, rfl⟩
  | _, _, .cons h t, f => by
    rw [List.all_cons, Bool.and_eq_true] at f
    obtain ⟨e1, e2⟩ := rp_flat h f.1
    obtain ⟨e3, e4⟩ := rpa_flat t f.2
    exact ⟨by rw [e1, e3]; rfl, by rw [List.all_cons, e2, e4]; rfl⟩
/-- == of flat data -/
def eqF (a b : D) : Bool := eqV (toV a) (toV b)
theorem eqF_int {i j : Int} : eqF (.int i) (.int j) = decide (i = j) := rfl
section
variable {X : Cx} {e a b c : Expr} {es : List Expr} {ds : List It} {pos : Pos} {A B d : D} {xs ys : List D}
theorem xv_bm {T id : String} {name : Str} {r : V → List V → Hp → VK → Prop} {pa : Pos} (pl : PlainAttrs T) (slot : Slot T name id) (hty : typeOf (.builtin id) = pure (.type "method_descriptor")) (hm : MtR X id r) (ho : XB X a ds A) (ha : XAB X (e :: es) ds ys)
    (ht : ∀ (S H : Hp) x, Same S H → Rb X.K S H x A → tyV X.K T x H) (hr : ∀ (S H : Hp) x vs (Q : VK), Same S H → Rb X.K S H x A → RbA X.K S H vs ys → (∀ v S' H', Gr S H S' H' → Rp X.K S' v d → Q v H') → r x vs H Q)
    (hbase : attributeBase a name X.env (eval a X.env) = eval a X.env) (hfew : ((backTo pos (starEach (e :: es) X.env)).all (fun x => !x.1) && (backToKw pos (keywordEach [] X.env)).all (fun x => x.1.isSome)
      && decide ((e :: es).length + ([] : List Keyword).length + (if ([] : List Keyword).isEmpty then 0 else 1) < 30)) = true)
    (hline : (pa.endLine == pos.line) = true) (hs : starEach (e :: es) X.env = (false, eval e X.env) :: starEach es X.env) (hplain : (backTo pos (starEach es X.env)).any (·.1) = false) : XV X (.Call (.Attribute a name pa) (e :: es) [] pos) ds d := .mk fun G S0 S H σ E Q q =>
  we_of (pe_bm pl slot hty hm pe_w pa_w hbase hfew hline hs hplain) (ho G S0 S H σ E _ fun x S1 H1 g1 r1 => ⟨ht S1 H1 x g1.sh r1, ha G S0 S1 H1 σ (E.grow g1) _ fun vs S2 H2 g2 r2 =>
    hr S2 H2 x vs Q g2.sh (r1.gr g2) r2 fun v S3 H3 g3 r3 => q v S3 H3 ((g1.trans g2).trans g3) r3⟩)
theorem ty_lst {xs : List D} (S H : Hp) (x : V) (k : Same S H) (r : Rb X.K S H x (.lst xs)) : tyV X.K "list" x H := by
  obtain ⟨p, vs, rfl, h1, _⟩ := r.lst k
  exact ty_list h1
/-- how often a flat thing stands in a list of such -/
def rCntF (K : Fg) : V → List V → Hp → VK → Prop := fun x xs H Q => ∃ (p : Addr) (ys : List V) (y : V), x = .ref p ∧ xs = [y] ∧ SqL K H p ys ∧ flatV y = true ∧ ys.all flatV = true ∧ Q (.int (ys.countP fun z => eqV z y : Nat)) H
theorem countP_eqU {x : V} : ∀ {xs : List V} {us : List Value}, Vals xs us → xs.all flatV = true → us.countP (eqU x) = xs.countP fun y => eqV y x
  | _, _, .nil, _ => rfl
  | y :: xs, u :: us, .cons r t, f => by
    rw [List.all_cons, Bool.and_eq_true] at f
    rw [List.countP_cons, List.countP_cons, eqU_of r f.1, countP_eqU t f.2]
theorem mt_cntF : MtR X "list.count" (rCntF X.K) := by
  rintro pins s σ H x zs v us Q I rx rz ⟨p, ys, y, rfl, rfl, hs, fy, fys, q⟩
  cases rx
  obtain ⟨u, rfl, ru⟩ := rz.one
  obtain ⟨its, rv, ⟨⟨c, dd, dt, sl⟩, n, ho, hc, hdn, hd⟩, _⟩ := I.list hs
  dsimp only at hc hd
  subst hc hd
  refine PySem.call_meets PySem.F.slot_list_count ⟨_, ho, rfl⟩ PySem.F.entry_list_count (PySem.F.args_list_count_2 _ _)
    (SeqAt.list_countAt p its.toArray n dd sl u (eqU y)) ⟨ho, fun z hz => mem_eqAt ru fy rv fys z (by simpa using hz), ?_⟩
  refine ⟨.int (ys.countP fun z => eqV z y : Nat), H, I.tok _, ⟨s.toks, ?_⟩, q⟩
  rw [← countP_eqU rv fys]
theorem count_toV {d : D} {xs : List D} : (xs.map toV).countP (fun z => eqV z (toV d)) = xs.countP fun z => eqF z d := by
  rw [List.countP_map]; rfl
theorem xv_count {pa : Pos} (ho : XB X a ds (.lst xs)) (ha : XB X e ds d) (hf : flatD d = true) (hfs : xs.all flatD = true) (hbase : attributeBase a "count" X.env (eval a X.env) = eval a X.env := by rfl) (hline : (pa.endLine == pos.line) = true := by rfl) (hst : isStar e = false := by rfl) :
    XV X (.Call (.Attribute a "count" pa) [e] [] pos) ds (.int (xs.countP fun z => eqF z d : Nat)) :=
  xv_bm PySem.F.plainAttrs_list PySem.F.slot_list_count PySem.F.type_list_count mt_cntF ho (xab_cons ha xab_nil (se hst)) ty_lst (fun S H x vs Q k r rr q => by
    obtain ⟨p, us, rfl, h1, h2⟩ := r.lst k
    obtain ⟨v, rfl, r1⟩ := rba1 rr
    obtain ⟨rfl, f1⟩ := rb_flat r1 hf
    obtain ⟨rfl, f2⟩ := rpa_flat h2 hfs
    exact ⟨p, _, _, rfl, rfl, sq_of h1, f1, f2, by rw [count_toV]; exact q _ S H (.refl k) (.int _)⟩) hbase (sfew (by simp [hst]) (by simp)) hline (se hst) (spl rfl)
theorem xv_index {pa : Pos} {j : Nat} {z : D} (ho : XB X a ds (.lst xs)) (ha : XB X e ds d) (hf : flatD d = true) (hfs : xs.all flatD = true) (hj : xs[j]? = some z) (hz : eqF z d = true) (hn : ∀ (m : Nat) (z' : D), m < j → xs[m]? = some z' → eqF z' d = false)
    (hbase : attributeBase a "index" X.env (eval a X.env) = eval a X.env := by rfl) (hline : (pa.endLine == pos.line) = true := by rfl) (hst : isStar e = false := by rfl) : XV X (.Call (.Attribute a "index" pa) [e] [] pos) ds (.int (j : Int)) :=
  xv_bm PySem.F.plainAttrs_list PySem.F.slot_list_index PySem.F.type_list_index mt_index ho (xab_cons ha xab_nil (se hst)) ty_lst (fun S H x vs Q k r rr q => by
    obtain ⟨p, us, rfl, h1, h2⟩ := r.lst k
    obtain ⟨v, rfl, r1⟩ := rba1 rr
    obtain ⟨rfl, f1⟩ := rb_flat r1 hf
    obtain ⟨rfl, f2⟩ := rpa_flat h2 hfs
    exact ⟨p, _, _, j, toV z, rfl, rfl, sq_of h1, f1, f2, by rw [List.getElem?_map, hj]; rfl, hz, fun m z' hm hz' => by
      rw [List.getElem?_map] at hz'
      cases w : xs[m]? with
      | none => rw [w] at hz'; cases hz'
      | some y => rw [w] at hz'; cases hz'; exact hn m y hm w, q _ S H (.refl k) (.int _)⟩) hbase (sfew (by simp [hst]) (by simp)) hline (se hst) (spl rfl)
/-- in, not in: a flat thing, a list or tuple of such -/
def inF (d : D) (xs : List D) : Bool := xs.any fun x => eqF x d
theorem inF_toV {d : D} {xs : List D} : inV (toV d) (xs.map toV) = inF d xs := by
  unfold inV inF
  rw [List.any_map]; rfl
theorem in_read {neg : Bool} {S H : Hp} {x y : V} {Q : VK} (k : Same S H) (hB : B = .lst xs ∨ B = .tup xs) (hf : flatD A = true) (hfs : xs.all flatD = true) (r1 : Rb X.K S H x A) (r2 : Rb X.K S H y B) (q : Q (.bl (if neg then !inF A xs else inF A xs)) H) : rIn X.K neg x y H Q := by
  obtain ⟨p, vs, rfl, h1, h2⟩ := rb_seq k r2 hB
  obtain ⟨rfl, f1⟩ := rb_flat r1 hf
  obtain ⟨rfl, f2⟩ := rpa_flat h2 hfs
  exact ⟨p, _, rfl, h1, f1, f2, by rw [inF_toV]; exact q⟩
theorem xt_in (ha : XB X a ds A) (hb : XB X b ds B) (hB : B = .lst xs ∨ B = .tup xs) (hf : flatD A = true) (hfs : xs.all flatD = true) (hm : behindInMarks .In b = false := by rfl) : XT X (.Compare a [.In] [b] pos) ds (inF A xs) :=
  xt_cmp op_in_seq ha hb hm fun S H x y Q k r1 r2 q => in_read k hB hf hfs r1 r2 q
theorem xv_in (ha : XB X a ds A) (hb : XB X b ds B) (hB : B = .lst xs ∨ B = .tup xs) (hf : flatD A = true) (hfs : xs.all flatD = true) (hm : behindInMarks .In b = false := by rfl) : XV X (.Compare a [.In] [b] pos) ds (.bl (inF A xs)) :=
  xv_cmp op_in_seq ha hb hm fun S H x y Q k r1 r2 q => in_read k hB hf hfs r1 r2 q
theorem xt_nin (ha : XB X a ds A) (hb : XB X b ds B) (hB : B = .lst xs ∨ B = .tup xs) (hf : flatD A = true) (hfs : xs.all flatD = true) (hm : behindInMarks .NotIn b = false := by rfl) : XT X (.Compare a [.NotIn] [b] pos) ds (!inF A xs) :=
  xt_cmp op_notIn_seq ha hb hm fun S H x y Q k r1 r2 q => in_read (neg := true) k hB hf hfs r1 r2 q
theorem xv_nin (ha : XB X a ds A) (hb : XB X b ds B) (hB : B = .lst xs ∨ B = .tup xs) (hf : flatD A = true) (hfs : xs.all flatD = true) (hm : behindInMarks .NotIn b = false := by rfl) : XV X (.Compare a [.NotIn] [b] pos) ds (.bl (!inF A xs)) :=
  xv_cmp op_notIn_seq ha hb hm fun S H x y Q k r1 r2 q => in_read (neg := true) k hB hf hfs r1 r2 q

/-! ### isinstance -/
theorem boot_isinstance' : bootBuiltins ("isinstance" : Str) = some (.builtin "isinstance") := by decide +kernel
/-- a class of the program's errors, as isinstance asks it -/
structure EI (K : Fg) (C : Addr) : Prop where
  ex : ExcC K C
  t : PySem.W.typeIn K (.ref C) = some (.type "type")
  i : PySem.W.isClsIn K C = true
  s : PySem.W.subIn K (.ref C) (.ref C) = some true
  v : PySem.W.subIn K (.ref C) (.type "ValueError") = some true
theorem kit_ref {K : Fg} {C C' : Addr} {k : Bool} (h : EI K C) (h' : EI K C') (s : PySem.W.subIn K (.ref C) (.ref C') = some k) : PySem.W.kitOne K (.ref C) (.ref C') = some k := by
  unfold PySem.W.kitOne
  by_cases z : C = C'
  · subst z
    rw [h.s] at s
    cases s
    rw [if_pos (by simp)]
  · rw [if_neg (by simp [z])]
    unfold PySem.W.kitCls
    dsimp only
    have i : (PySem.W.clsIn K C').isSome = true := h'.i
    rw [i, h'.t, if_pos (by rfl)]
    exact s
theorem kit_ve {K : Fg} {C : Addr} (h : EI K C) : PySem.W.kitOne K (.ref C) (.type "ValueError") = some true := by
  unfold PySem.W.kitOne
  rw [if_neg (by intro z; exact absurd (beq_iff_eq.mp z) (fun z => nomatch z))]
  unfold PySem.W.kitCls
  dsimp only
  rw [if_pos (by decide +kernel)]
  exact h.v
def rIsX (K : Fg) (C : Addr) : List V → Hp → VK → Prop := fun xs H Q => ∃ (a : Addr) (c : V) (cv : Value) (b : Bool), xs = [.ref a, c] ∧ H a = some (ExT C a) ∧ ClsV c cv ∧ PySem.W.kitOne K (.ref C) cv = some b ∧ Q (.bl b) H
theorem call_isX {C : Addr} (h : EI X.K C) : CallR X (.builtin "isinstance") (rIsX X.K C) := by
  rintro pins s σ H xs us Q I r ⟨a, c, cv, k, rfl, ha, hc, hk, q⟩
  cases r with
  | cons r1 r =>
    cases r with
    | cons r2 r =>
      cases r
      cases r1
      have e := hc.eq r2
      subst e
      obtain ⟨⟨oe, ws, g1, ⟨g2, g3⟩, g4⟩, _⟩ : ObjOk X.prog X.w H s.heap a (ExT C a) := I.hok a _ ha
      have J : PySem.W.InstAt s.heap a oe C none := by
        cases oe
        dsimp only at g2 g3 g4
        subst g2 g3 g4
        exact ⟨g1, rfl, rfl, trivial⟩
      exact PySem.W.kia_one (PySem.W.handS_kitx_exc h.ex.hg h.ex.hk h.ex.hs h.ex.hd h.ex.ha h.ex.hn h.ex.ht h.ex.hm) I.kIn J hk (fun z => nomatch z) fun tk => ⟨.bl k, H, I.tok tk, rfl, q⟩
/-- isinstance(x, Y), x an exception of the class at C, Y a class of the program -/
theorem xv_isX {p p2 : Pos} {y : Str} {C C' : Addr} {k : Bool} (hm : X.mg "isinstance" = none) (h : EI X.K C) (h' : EI X.K C') (s : PySem.W.subIn X.K (.ref C) (.ref C') = some k) (gy : X.mg y = some (.ref C')) (ha : XB X e ds (.exc C)) (hg : Gl X "isinstance" := by rfl) (hgy : Gl X y := by rfl)
    (hdb : (y == ("__debug__" : Str)) = false := by decide) (hst : isStar e = false := by rfl) : XV X (.Call (.Name "isinstance" p) [e, .Name y p2] [] pos) ds (.bl k) := .mk fun G S0 S H σ E Q q =>
  we_of (pe_callB (call_isX h) hg hm boot_isinstance' (pa_cons pe_w (pa_cons (pe_glob (v := .ref C') hgy gy rfl hdb) pa_nil (se rfl)) (se hst)) (he := se hst) (hpl := spl rfl)) (ha G S0 S H σ E _ fun v S1 H1 g r => by
    rcases r with r | ⟨_, _, _, _, z, _⟩
    · cases r with
      | exc ha => exact ⟨_, _, _, k, rfl, g.sh _ _ ha, .own C', kit_ref h h' s, q _ S1 H1 g (.bl k)⟩
    · cases z)
theorem xv_isVE {p p2 : Pos} {C : Addr} (hm : X.mg "isinstance" = none) (hmv : X.mg "ValueError" = none) (h : EI X.K C) (ha : XB X e ds (.exc C)) (hg : Gl X "isinstance" := by rfl) (hgy : Gl X "ValueError" := by rfl) (hst : isStar e = false := by rfl) :
    XV X (.Call (.Name "isinstance" p) [e, .Name "ValueError" p2] [] pos) ds (.bl true) := .mk fun G S0 S H σ E Q q =>
  we_of (pe_callB (call_isX h) hg hm boot_isinstance' (pa_cons pe_w (pa_cons (pe_bltn (v := .ty "ValueError") hgy hmv (by decide +kernel) rfl) pa_nil (se rfl)) (se hst)) (he := se hst) (hpl := spl rfl)) (ha G S0 S H σ E _ fun v S1 H1 g r => by
    rcases r with r | ⟨_, _, _, _, z, _⟩
    · cases r with
      | exc ha => exact ⟨_, _, _, true, rfl, g.sh _ _ ha, .ty "ValueError", kit_ve h, q _ S1 H1 g (.bl true)⟩
    · cases z)
end
end Lay
/-! Lay11: sorted of any number of tuples of whole numbers. -/
namespace Lay
open PySem L2 PyProof.Rows
section
variable {prog : Program} {w : World} {A : Around} {s : Shared}
/-- a tuple's number, read off the heap h -/
noncomputable def rkT (h : Heap) (B : Int) (v : Value) : Int := open Classical in if z : ∃ ns, TS.TupInts h v ns then TS.code B z.choose else 0
theorem rkT_of {h : Heap} {B : Int} {v : Value} {ns : List Int} (t : TS.TupInts h v ns) : rkT h B v = TS.code B ns := by
  unfold rkT
  have z : ∃ ns, TS.TupInts h v ns := ⟨ns, t⟩
  rw [dif_pos z, show z.choose = ns from z.choose_spec.ints.symm.trans t.ints]
theorem swoT (r : Value → Int) : SrtO.Swo fun v u => decide (r v < r u) := ⟨fun x y h => by simp at h ⊢; omega, fun x y z h q => by simp at h q ⊢; omega⟩
theorem sortableT {a : Addr} {vs : List Value} {d : Nat} {B : Int} (hd : 1 ≤ d) (h2 : 2 ≤ vs.length) (x : TS.TupsOk s.heap d B vs) (r : Value → Int) (hr : ∀ v ∈ vs, ∀ ns, TS.TupInts s.heap v ns → r v = TS.code B ns)
    (ha : ∀ o, s.heap.get? a = some o → o.cls ≠ .type "tuple") : SrtO.SortableO prog w A s a vs fun v u => decide (r v < r u) := fun h' keep => by
  have kp : ∀ b o, s.heap.get? b = some o → o.cls = .type "tuple" → h'.get? b = some o := fun b o e c => keep b o (fun z => ha o (by rw [← z]; exact e) c) e
  have x' := x.keeps kp
  obtain ⟨fs, k, hl, hi⟩ := TS.firsts_of hd vs x'
  refine ⟨tuples' true, fun Q E hq => PySem.W.kat_kind (T := .type "int") k (by omega) (fun f hf => ?_) rfl ?_, fun p q hp hq => ?_⟩
  · obtain ⟨n, t, rfl⟩ := hi f hf
    exact PySem.W.Looks.now
  · rw [show (Value.type "int" != Value.type "tuple") = true from by decide +kernel]
    exact hq
  · obtain ⟨ns, tp, lp, bp⟩ := x' _ hp
    obtain ⟨ms, tq, lq, bq⟩ := x' _ hq
    obtain ⟨ns0, tp0, _⟩ := x _ hp
    obtain ⟨ms0, tq0, _⟩ := x _ hq
    have ep : r p.1 = TS.code B ns := by rw [hr _ hp _ tp0, (tp0.keeps kp).ints.symm.trans tp.ints]
    have eq : r q.1 = TS.code B ms := by rw [hr _ hq _ tq0, (tq0.keeps kp).ints.symm.trans tq.ints]
    show wpAny (model prog w) A (keyLt' (tuples' true) p.1 q.1) (fun z s' => s' = { s with heap := h' } ∧ z = decide (r p.1 < r q.1)) (fun _ _ => False) { s with heap := h' }
    rw [ep, eq]
    obtain ⟨a1, xs, e1, ⟨o, ho, hc, n, hdt⟩, i⟩ := tp
    obtain ⟨a2, ys, e2, ⟨o', ho', hc', n', hdt'⟩, i'⟩ := tq
    rw [e1, e2]
    refine PySem.W.kat_lt ho hdt ho' hdt' ?_
    have l1 := i.length
    have l2 := i'.length
    rw [Array.length_toList] at l1 l2
    rw [show decide (xs.size < ys.size) = false from decide_eq_false (by omega)]
    exact TS.lex_ints 0 i i' (by omega) bp bq ⟨rfl, rfl⟩
end
/-- sorted(xs), xs tuples of d ints in [0, B) -/
def rSortA (K : Fg) (d : Nat) (B : Int) : List V → Hp → VK → Prop := fun vs H Q => ∃ (a : Addr) (ks : List (Addr × List Int)), vs = [V.ref a] ∧ SqL K H a (ks.map fun p => V.ref p.1) ∧ (∀ p ∈ ks, SqT K H p.1 (p.2.map V.int) ∧ p.2.length = d ∧ TS.Bd B p.2) ∧
  ∀ (ls : List (Addr × List Int)) (p : Addr), ls.Perm ks → ls.Pairwise (fun x y => TS.code B x.2 ≤ TS.code B y.2) → H p = none → Q (.ref p) (upd H p (.lst (ls.map fun p => V.ref p.1)))
theorem perm_back {α β : Type} {f : α → β} : ∀ {ys : List β} {xs : List α}, ys.Perm (xs.map f) → ∃ zs : List α, zs.Perm xs ∧ ys = zs.map f := by
  intro ys xs h
  generalize e : xs.map f = l at h
  induction h generalizing xs with
  | nil => cases xs with
    | nil => exact ⟨[], .refl _, rfl⟩
    | cons => cases e
  | cons x p ih =>
    -- ys = x :: l1, perm to x :: l2 = xs.map f
    cases xs with
    | nil => cases e
    | cons a xs =>
      cases e
      obtain ⟨zs, h1, h2⟩ := ih rfl
      exact ⟨a :: zs, h1.cons a, by rw [h2]; rfl⟩
  | swap x y l =>
    cases xs with
    | nil => cases e
    | cons a xs => cases xs with
      | nil => cases e
      | cons b xs => cases e; exact ⟨b :: a :: xs, .swap a b xs, rfl⟩
  | trans p q ih1 ih2 =>
    obtain ⟨zs, h1, h2⟩ := ih2 e
    obtain ⟨ws, h3, h4⟩ := ih1 h2.symm
    exact ⟨ws, h3.trans h1, h4⟩
section
variable {X : Cx}
theorem cr_sortA {d : Nat} {B : Int} (hd : 1 ≤ d) : CallR X (.builtin "sorted") (rSortA X.K d B) := by
  rintro pins s σ H vs us Q I r ⟨a, ks, rfl, hs, hk, q⟩
  obtain ⟨its, rv, hl, hz⟩ := I.list hs
  obtain ⟨u, rfl, ru⟩ := vals1 r
  obtain rfl : u = Value.ref a := ru
  have e0 := refs_of_vals rv
  have e1 : its = ks.map fun p => Value.ref p.1 := by simpa using e0
  subst e1
  have hx : TS.TupsOk s.heap d B (ks.map fun p => Value.ref p.1) := fun v hv => by
    obtain ⟨p, hp, rfl⟩ := List.mem_map.mp hv
    obtain ⟨h1, h2, h3⟩ := hk p hp
    exact ⟨p.2, tupI_raw I h1, h2, h3⟩
  refine SrtO.sorted_ord (swoT (rkT s.heap B)) hl.isList (by simpa using hz) (fun h2 h1 b hb kk => ?_) fun out hs hb => ?_
  · refine sortableT (s := { s with heap := h1 }) hd h2 (hx.keeps fun b o e _ => (kk b o e).2) (rkT s.heap B) (fun v hv ns t => ?_) fun o e => ?_
    · obtain ⟨ns0, t0, _⟩ := hx v hv
      rw [rkT_of t0, (t0.keeps fun b o e _ => (kk b o e).2).ints.symm.trans t.ints]
    · have e' : some o = some (seqObj "list" _ 0) := e.symm.trans hb
      cases e'
      intro c
      exact absurd (Value.type.inj c) (by decide)
  · obtain ⟨ls, hp, rfl⟩ := perm_back hb.perm
    have hsz : ls.length = ks.length := hp.length_eq
    obtain ⟨n, hn⟩ : ∃ n, (sortedAll s.heap (ks.map fun p => Value.ref p.1) (ls.map fun p => Value.ref p.1).toArray).get? (s.heap.objs.size + 1) = some (seqObj "list" (ls.map fun p => Value.ref p.1).toArray n) := sortedAll_at _ _ _
    refine ⟨.ref (s.heap.objs.size + 1), upd H (s.heap.objs.size + 1) (.lst (ls.map fun p => V.ref p.1)), I.laid (t' := s.toks) (fun b o e => sortedAll_old e) (Nat.le_succ _) ⟨by rw [List.length_map, hsz]; simpa using hz, _, n, vals_of_refs ls, hn⟩, rfl,
      q ls _ hp ?_ (I.hok.fresh (Nat.le_succ _))⟩
    have hs' := hs
    unfold SrtO.Srtd at hs'
    rw [List.pairwise_map] at hs'
    refine hs'.imp_of_mem fun {x y} hx1 hy1 h => ?_
    have t1 := tupI_raw I (hk x (hp.mem_iff.mp hx1)).1
    have t2 := tupI_raw I (hk y (hp.mem_iff.mp hy1)).1
    have h : decide (rkT s.heap B (.ref y.1) < rkT s.heap B (.ref x.1)) = false := h
    rw [rkT_of t1, rkT_of t2, decide_eq_false_iff_not] at h
    omega
end
section
variable {X : Cx} {e : Expr} {ds : List It} {pos : Pos} {A : D}
/-- sorted(xs): ys is the same list in order -/
theorem xl_sortA {p : Pos} {xs ys : List (List Int)} (d : Nat) (B : Int) (hm : X.mg "sorted" = none) (ha : XB X e ds A) (hA : A = .lst (xs.map eT)) (hd : 1 ≤ d) (hb : ∀ x ∈ xs, x.length = d ∧ TS.Bd B x)
    (hy : ys.Pairwise fun a b => TS.code B a ≤ TS.code B b) (hp : ys.Perm xs) (hg : Gl X "sorted" := by rfl) (hs : isStar e = false := by rfl) : XL X (.Call (.Name "sorted" p) [e] [] pos) ds (ys.map eT) := .mk fun G S0 S H σ E Q q =>
  we_of (pe_callB (cr_sortA (d := d) (B := B) hd) hg hm boot_sorted' (pa_cons pe_w pa_nil (se hs)) (he := se hs) (hpl := spl rfl)) (ha G S0 S H σ E _ fun v S1 H1 g1 r1 => by
    rw [hA] at r1
    obtain ⟨l, vs, rfl, hl, ra⟩ := r1.lst g1.sh
    obtain ⟨ks, rfl, rfl, hk⟩ := da_tups ra
    refine ⟨l, ks, rfl, sq_of hl, fun p hp => ⟨st_of (g1.sh _ _ (hk p hp)), hb p.2 (List.mem_map_of_mem hp)⟩, fun ls n pm pw hn => ?_⟩
    have hb' : ∀ z ∈ ls.map (·.2), z.length = d ∧ TS.Bd B z := fun z hz => by
      obtain ⟨p, hp, rfl⟩ := List.mem_map.mp hz
      exact hb p.2 (List.mem_map_of_mem (pm.mem_iff.mp hp))
    have pw' : (ls.map (·.2)).Pairwise fun a b => TS.code B a ≤ TS.code B b := by rw [List.pairwise_map]; exact pw
    have eq : ls.map (·.2) = ys := by
      have pp : (ls.map (·.2)).Perm ys := (pm.map _).trans hp.symm
      refine pp.eq_of_pairwise (fun a b ha hb2 h1 h2 => ?_) pw' hy
      obtain ⟨a1, a2⟩ := hb' a ha
      obtain ⟨b1, b2⟩ := hb b (hp.mem_iff.mp hb2)
      exact code_inj a2 b2 (by omega) (by omega)
    have g2 : Gr S1 H1 S1 (upd H1 n (.lst (ls.map fun p => V.ref p.1))) := Gr.newH g1.sh hn
    refine q n _ S1 _ (g1.trans g2) (g1.h.free hn) (g1.sh.free hn) upd_same ?_
    rw [← eq]
    exact tups_da ls fun p hp => hk p (pm.mem_iff.mp hp))
end
end Lay
/-! Lay12: the facts of the top. -/
namespace Lay
open PySem L2 PyProof.Rows
section
variable {K : Fg} {h : Heap} {mg : Str → Option Value}
theorem tx_mk (X : K.In h) (G : h.Ns mainGlobals mg) (z1 : PySem.W.nsIn K mainGlobals "len" = some none) (z2 : PySem.W.nsIn K mainGlobals "range" = some none) (z3 : PySem.W.nsIn K mainGlobals "sorted" = some none) (z4 : PySem.W.nsIn K mainGlobals "set" = some none)
    (z5 : PySem.W.nsIn K mainGlobals "list" = some none) (z6 : PySem.W.nsIn K mainGlobals "tuple" = some none) (z7 : PySem.W.nsIn K mainGlobals "sum" = some none) (z8 : PySem.W.nsIn K mainGlobals "any" = some none) (z9 : PySem.W.nsIn K mainGlobals "all" = some none)
    (z10 : PySem.W.nsIn K mainGlobals "abs" = some none) (z11 : PySem.W.nsIn K mainGlobals "max" = some none) (z12 : PySem.W.nsIn K mainGlobals "min" = some none) (z13 : PySem.W.nsIn K mainGlobals "int" = some none) (z14 : PySem.W.nsIn K mainGlobals "isinstance" = some none)
    (z16 : PySem.W.nsIn K mainGlobals "bool" = some none)
    (z15 : PySem.W.nsIn K mainGlobals "ValueError" = some none) : Tx K mg ∧ mg "ValueError" = none :=
  have m := fun {x : Str} (z : PySem.W.nsIn K mainGlobals x = some none) => PySem.W.mg_none_of X G z
  ⟨⟨m z1, m z2, m z3, m z4, m z5, m z6, m z7, m z8, m z9, m z10, m z11, m z12, m z13, m z14, m z16⟩, m z15⟩
theorem c_mk {x : Str} {i : Int} {t : Tok} (X : K.In h) (G : h.Ns mainGlobals mg) (a : PySem.W.nsIn K mainGlobals x = some (some (.int i t))) : ∃ t, mg x = some (.int i t) := ⟨t, PySem.W.mg_of X G a⟩
theorem ec_mk {x : Str} {C : Addr} (X : K.In h) (G : h.Ns mainGlobals mg) (a : PySem.W.nsIn K mainGlobals x = some (some (.ref C))) (q : PySem.W.excIn K C [.type "ValueError", .type "Exception", .type "BaseException", .type "object"] "ValueError.__new__" = true) (kp : PySem.W.keepIn K (.ref C) = true)
    (b : PySem.W.subIn K (.ref C) (.type "BaseException") = some true) (t : PySem.W.typeIn K (.ref C) = some (.type "type")) : EC K mg x C := ⟨PySem.W.mg_of X G a, q, kp, b, t⟩
theorem ei_mk {C : Addr} (t : PySem.W.typeIn K (.ref C) = some (.type "type")) (i : PySem.W.isClsIn K C = true) (s : PySem.W.subIn K (.ref C) (.ref C) = some true) (v : PySem.W.subIn K (.ref C) (.type "ValueError") = some true)
    (hg : PySem.W.findIn K (.ref C) "__getattribute__" = some (some (.builtin "BaseException.__getattribute__"))) (hk : PySem.W.findIn K (.ref C) "__getattr__" = some none) (hs : PySem.W.subIn K (.ref C) (.type "BaseException") = some true) (hd : PySem.W.hasDictIn K C = true)
    (ha : PySem.W.findIn K (.ref C) "__class__" = some (some (.builtin "object.__class__"))) (hn : PySem.W.specialIn K (.builtin "object.__class__") "__get__" = some (some (.builtin "getset_descriptor.__get__"))) (ht : PySem.W.takesIn K (.builtin "object.__class__") = some true)
    (hm : PySem.W.mroIn K C (.type "object") = some true) : EI K C := ⟨⟨hg, hk, hs, hd, ha, hn, ht, hm⟩, t, i, s, v⟩
end
/-- the error that all errors of the program are: what an except clause asks -/
structure EP (K : Fg) (mg : Str → Option Value) (cE : Addr) : Prop where
  g : mg "PurseError" = some (.ref cE)
  hd : PySem.W.hasDictIn K cE = true
  b : PySem.W.subIn K (.ref cE) (.type "BaseException") = some true
  t : PySem.W.typeIn K (.ref cE) = some (.type "type")
theorem ep_mk {K : Fg} {h : Heap} {mg : Str → Option Value} {C : Addr} (X : K.In h) (G : h.Ns mainGlobals mg) (a : PySem.W.nsIn K mainGlobals "PurseError" = some (some (.ref C))) (hd : PySem.W.hasDictIn K C = true)
    (b : PySem.W.subIn K (.ref C) (.type "BaseException") = some true) (t : PySem.W.typeIn K (.ref C) = some (.type "type")) : EP K mg C := ⟨PySem.W.mg_of X G a, hd, b, t⟩
theorem EP.exm {K : Fg} {mg : Str → Option Value} {cE C : Addr} (h : EP K mg cE) (s : PySem.W.subIn K (.ref C) (.ref cE) = some true) : PySem.W.exmOne K (.ref C) (.ref cE) = some true := PySem.W.exm_ref h.b h.hd h.t s
theorem EP.names {X : Cx} {cE : Addr} (h : EP X.K X.mg cE) (hg : Gl X "PurseError") : Names X "PurseError" (.ref cE) := ⟨hg, rfl, .inl h.g⟩
/-- the five errors, in the law's order -/
def nm5 : Fin 5 → Str
  | 0 => "BadMachine"
  | 1 => "BadRow"
  | 2 => "BadPrices"
  | 3 => "BadModel"
  | 4 => "BadForm"
def cls5 (a b c d e : Addr) : Fin 5 → Addr
  | 0 => a
  | 1 => b
  | 2 => c
  | 3 => d
  | 4 => e
structure E5 (K : Fg) (mg : Str → Option Value) (cE : Addr) (cls : Fin 5 → Addr) : Prop where
  ep : EP K mg cE
  ve : mg "ValueError" = none
  ec : ∀ i, EC K mg (nm5 i) (cls i)
  ei : ∀ i, EI K (cls i)
  sub : ∀ i j, PySem.W.subIn K (.ref (cls i)) (.ref (cls j)) = some (decide (i = j))
  par : ∀ i, PySem.W.subIn K (.ref (cls i)) (.ref cE) = some true
theorem e5_mk {K : Fg} {mg : Str → Option Value} {cE a b c d e : Addr} (ep : EP K mg cE) (ve : mg "ValueError" = none) (ec0 : EC K mg "BadMachine" a) (ec1 : EC K mg "BadRow" b) (ec2 : EC K mg "BadPrices" c) (ec3 : EC K mg "BadModel" d) (ec4 : EC K mg "BadForm" e)
    (ei0 : EI K a) (ei1 : EI K b) (ei2 : EI K c) (ei3 : EI K d) (ei4 : EI K e)
    (s01 : PySem.W.subIn K (.ref a) (.ref b) = some false) (s02 : PySem.W.subIn K (.ref a) (.ref c) = some false) (s03 : PySem.W.subIn K (.ref a) (.ref d) = some false) (s04 : PySem.W.subIn K (.ref a) (.ref e) = some false)
    (s10 : PySem.W.subIn K (.ref b) (.ref a) = some false) (s12 : PySem.W.subIn K (.ref b) (.ref c) = some false) (s13 : PySem.W.subIn K (.ref b) (.ref d) = some false) (s14 : PySem.W.subIn K (.ref b) (.ref e) = some false)
    (s20 : PySem.W.subIn K (.ref c) (.ref a) = some false) (s21 : PySem.W.subIn K (.ref c) (.ref b) = some false) (s23 : PySem.W.subIn K (.ref c) (.ref d) = some false) (s24 : PySem.W.subIn K (.ref c) (.ref e) = some false)
    (s30 : PySem.W.subIn K (.ref d) (.ref a) = some false) (s31 : PySem.W.subIn K (.ref d) (.ref b) = some false) (s32 : PySem.W.subIn K (.ref d) (.ref c) = some false) (s34 : PySem.W.subIn K (.ref d) (.ref e) = some false)
    (s40 : PySem.W.subIn K (.ref e) (.ref a) = some false) (s41 : PySem.W.subIn K (.ref e) (.ref b) = some false) (s42 : PySem.W.subIn K (.ref e) (.ref c) = some false) (s43 : PySem.W.subIn K (.ref e) (.ref d) = some false)
    (p0 : PySem.W.subIn K (.ref a) (.ref cE) = some true) (p1 : PySem.W.subIn K (.ref b) (.ref cE) = some true) (p2 : PySem.W.subIn K (.ref c) (.ref cE) = some true) (p3 : PySem.W.subIn K (.ref d) (.ref cE) = some true) (p4 : PySem.W.subIn K (.ref e) (.ref cE) = some true) :
    E5 K mg cE (cls5 a b c d e) where
  ep := ep
  ve := ve
  ec := fun i => match i with | 0 => ec0 | 1 => ec1 | 2 => ec2 | 3 => ec3 | 4 => ec4
  ei := fun i => match i with | 0 => ei0 | 1 => ei1 | 2 => ei2 | 3 => ei3 | 4 => ei4
  sub := fun i j => match i, j with
    | 0, 0 => ei0.s | 0, 1 => s01 | 0, 2 => s02 | 0, 3 => s03 | 0, 4 => s04
    | 1, 0 => s10 | 1, 1 => ei1.s | 1, 2 => s12 | 1, 3 => s13 | 1, 4 => s14
    | 2, 0 => s20 | 2, 1 => s21 | 2, 2 => ei2.s | 2, 3 => s23 | 2, 4 => s24
    | 3, 0 => s30 | 3, 1 => s31 | 3, 2 => s32 | 3, 3 => ei3.s | 3, 4 => s34
    | 4, 0 => s40 | 4, 1 => s41 | 4, 2 => s42 | 4, 3 => s43 | 4, 4 => ei4.s
  par := fun i => match i with | 0 => p0 | 1 => p1 | 2 => p2 | 3 => p3 | 4 => p4
theorem walk_F {l : PySem.W.OpenLaw} {q : Program} {loose : List Str} {XP : (Str → Option Value) → Heap → Prop} {YP : World → Heap → Prop} {d : DefRec} {K : Params → PySem.W.Frag} (k : Nat) (hn : l.most = some 63) (hdf : d.params.defaults = []) (hr : Room k callerA)
    (hY : ∀ (w : World) (h : Heap), YP w h → (K w.params).In h)
    (F : ∀ (w : World) (mg : Str → Option Value) (fa : Addr) (h : Heap), (K w.params).In h → h.Ns mainGlobals mg → mg d.name = some (.ref fa) →
      ∃ fd : FuncData, (∀ (s : Shared) (u : Value), BindsTo s fd ⟨[u], []⟩ [("_law_script", u)]) ∧ ∀ base : Heap, (K w.params).In base → base.Ns mainGlobals mg → FnOk l.prog w (K w.params) mg base (L2.CX l.prog w) k fa fd ["_law_script"] (spF (K w.params) F_law)) :
    PySem.W.WalkO q loose XP YP l.row.toRowW d [] (fun f vs => PySem.call f vs) :=
  L2.walk_of (n := 63) (k := k) (x := "_law_script") (CX := fun w => L2.CX l.prog w) (sp := fun w => spF (K w.params) F_law) hn (by decide) hdf hr hY F (fun w H a ns hl _ hS => law_sp hl hS) fun w H s e s2 z => law_cx z
end Lay
/-! Lay13: what may be compared, told by depth; lists of lists of the frame's own. -/
namespace Lay
open PySem L2
/-- data of at most n deep, that may be compared -/
def okN (n : Nat) (d : D) : Prop := plain d = true ∧ (py d).canLay0 = true ∧ (py d).depth ≤ n
theorem okN.e {n : Nat} {d : D} (h : okN n d) (hn : n ≤ 64 := by decide) : okE d = true := by
  obtain ⟨h1, h2, h3⟩ := h
  unfold okE SeqAt.shaped
  rw [h1, h2]
  simp; omega
theorem okN.mono {m n : Nat} {d : D} (h : okN m d) (l : m ≤ n) : okN n d := ⟨h.1, h.2.1, Nat.le_trans h.2.2 l⟩
theorem okN_int {n : Nat} {i : Int} : okN n (.int i) := ⟨rfl, rfl, Nat.zero_le _⟩
theorem okN_bl {n : Nat} {i : Bool} : okN n (.bl i) := ⟨rfl, rfl, Nat.zero_le _⟩
theorem okN_non {n : Nat} : okN n .non := ⟨rfl, rfl, Nat.zero_le _⟩
theorem okN_all {n : Nat} : ∀ {ds : List D}, (∀ d ∈ ds, okN n d) → plainAll ds = true ∧ PyData.canLayAll0 (pyAll ds) = true ∧ PyData.depthAll (pyAll ds) ≤ n
  | [], _ => ⟨rfl, rfl, Nat.zero_le _⟩
  | d :: ds, h => by
    obtain ⟨a, b, c⟩ := okN_all (ds := ds) fun x hx => h x (List.mem_cons_of_mem _ hx)
    obtain ⟨a1, b1, c1⟩ := h d List.mem_cons_self
    refine ⟨?_, ?_, ?_⟩
    · show (plain d && plainAll ds) = true
      rw [a1, a]; rfl
    · show (PyData.canLay0 (py d) && PyData.canLayAll0 (pyAll ds)) = true
      rw [b1, b]; rfl
    · show max (PyData.depth (py d)) (PyData.depthAll (pyAll ds)) ≤ n
      omega
theorem okN_lst {n : Nat} {ds : List D} (h : ∀ d ∈ ds, okN n d) : okN (n + 1) (.lst ds) := by
  obtain ⟨a, b, c⟩ := okN_all h
  refine ⟨a, b, ?_⟩
  show PyData.depthAll (pyAll ds) + 1 ≤ n + 1
  omega
theorem okN_tup {n : Nat} {ds : List D} (h : ∀ d ∈ ds, okN n d) : okN (n + 1) (.tup ds) := by
  obtain ⟨a, b, c⟩ := okN_all h
  refine ⟨a, b, ?_⟩
  show PyData.depthAll (pyAll ds) + 1 ≤ n + 1
  omega
theorem eqD_refl {A : D} (h : okE A = true) : eqD A A = true := PySem.SeqAt.eqv_refl _ (SeqAt.canLay_of_shaped (okE_r h))

/-! ### lists of lists of the frame's own -/
section
variable {K : Fg} {G S0 S H S' H' : Hp} {σ : St} {ds : List It} {A : Nat → List Addr}
theorem itr_ll {o : Option V} {xss : List (List D)} {as : List Addr} (q : ItR K S H (.ll xss) o as) : ∃ p vs bs, o = some (.ref p) ∧ as = p :: bs ∧ H p = some (.lst vs) ∧ LlR K S H xss vs bs := by
  cases q with
  | ll q q2 => exact ⟨_, _, _, rfl, rfl, q, q2⟩
theorem llr_len : ∀ {xss : List (List D)} {vs : List V} {as : List Addr}, LlR K S H xss vs as → vs.length = xss.length ∧ as.length = xss.length
  | _, _, _, .nil => ⟨rfl, rfl⟩
  | _, _, _, .cons _ _ t => by
    obtain ⟨a, b⟩ := llr_len t
    exact ⟨by simp [a], by simp [b]⟩
theorem llr_get : ∀ {xss : List (List D)} {vs : List V} {as : List Addr} {j : Nat} {xs : List D}, LlR K S H xss vs as → xss[j]? = some xs → ∃ p ws, vs[j]? = some (.ref p) ∧ as[j]? = some p ∧ H p = some (.lst ws) ∧ RpA K S ws xs
  | _, _, _, 0, _, .cons h r _, e => by cases e; exact ⟨_, _, rfl, rfl, h, r⟩
  | _, _, _, j + 1, _, .cons _ _ t, e => llr_get (j := j) t e
theorem llr_set : ∀ {xss : List (List D)} {vs : List V} {as : List Addr} {j : Nat} {ys : List D} {p : Addr} {ws : List V}, LlR K S H xss vs as → as.Nodup → as[j]? = some p → RpA K S ws ys → LlR K S (upd H p (.lst ws)) (xss.set j ys) vs as
  | _, _, _, 0, _, p, _, .cons h r t, nd, e, q => by
    cases e
    rw [List.nodup_cons] at nd
    exact .cons upd_same q (llr_keep (Same.refl _) t fun a ha => upd_ne fun z => nd.1 (by rw [← z]; exact ha))
  | _, _, _, j + 1, _, p, _, .cons (as := bs) h r t, nd, e, q => by
    rw [List.nodup_cons] at nd
    have hm : p ∈ bs := List.mem_of_getElem? (show bs[j]? = some p from e)
    exact .cons ((upd_ne fun z => nd.1 (by rw [z]; exact hm)).trans h) r (llr_set t nd.2 e q)
theorem llr_dp (k : Same S H) : ∀ {xss : List (List D)} {vs : List V} {as : List Addr}, LlR K S H xss vs as → plainAll (xss.map D.lst) = true → DpAll K H vs (pyAll (xss.map D.lst))
  | _, _, _, .nil, _ => .nil
  | _, _, _, .cons h r t, p => by
    obtain ⟨p1, p2⟩ := Bool.and_eq_true_iff.mp p
    exact .cons (.lst (sq_of h) (rpa_dp k _ _ r p1)) (llr_dp k t p2)
theorem EnvA.ll (e : EnvA K G S0 S H σ ds A) {i : Nat} {xss : List (List D)} (h : ds[i]? = some (.ll xss)) : ∃ p vs bs, σ[i]? = some (some (.ref p)) ∧ A i = p :: bs ∧ H p = some (.lst vs) ∧ LlR K S H xss vs bs := by
  obtain ⟨p, vs, bs, hv, ha, hp, r⟩ := itr_ll (e.it i _ h)
  exact ⟨p, vs, bs, join_some hv, ha, hp, r⟩
/-- one of the lists changes -/
theorem Env.mutLL (e : Env K G S0 S H σ ds) {i : Nat} {xss : List (List D)} {j : Nat} {xs : List D} (h : ds[i]? = some (.ll xss)) (hj : xss[j]? = some xs) : ∃ p vs q ws, σ[i]? = some (some (.ref p)) ∧ H p = some (.lst vs) ∧ vs.length = xss.length ∧ vs[j]? = some (.ref q) ∧ H q = some (.lst ws) ∧ RpA K S ws xs ∧
    ∀ us ys, RpA K S us ys → Env K G S0 S (upd H q (.lst us)) σ (ds.set i (.ll (xss.set j ys))) := by
  obtain ⟨A, e⟩ := e
  obtain ⟨p, vs, bs, hv, ha, hp, r⟩ := e.ll h
  obtain ⟨q, ws, h1, h2, h3, h4⟩ := llr_get r hj
  refine ⟨p, vs, q, ws, hv, hp, (llr_len r).1, h1, h3, h4, fun us ys ru => ?_⟩
  have hm : q ∈ A i := by rw [ha]; exact List.mem_cons_of_mem _ (List.mem_of_getElem? h2)
  have nd := e.nd i
  obtain ⟨_, sq, gq⟩ := e.fr i q hm
  have hne : ∀ j a, j ≠ i → a ∈ A j → a ≠ q := fun j a z hj w => z (e.dj j i a hj (w ▸ hm))
  have fr := e.fr i
  rw [ha] at nd fr
  rw [List.nodup_cons] at nd
  have pq : p ≠ q := fun z => nd.1 (z ▸ List.mem_of_getElem? h2)
  have w := e.put (S' := S) (H' := upd H q (.lst us)) i (it := .ll (xss.set j ys)) (v := some (.ref p)) (Same.refl _) (fun b u w => by
      rw [upd_ne (fun z => by subst z; rw [sq] at w; cases w)]; exact e.sh _ _ w) (fun b u w => by rw [upd_ne (fun z => by subst z; rw [gq] at w; cases w)]; exact e.gh _ _ w) e.gs (.ll ((upd_ne pq).trans hp) (llr_set r nd.2 h2 ru)) (List.nodup_cons.mpr nd)
    (fun j a z hj => ⟨upd_ne (hne j a z hj), (e.fr j a hj).2.1⟩) fun a ha' => ⟨(fr a ha').2.1, (fr a ha').2.2, fun j z hj => z (e.dj j i a hj (by rw [ha]; exact ha'))⟩
  rw [set_get hv] at w
  exact ⟨_, w⟩
end
section
variable {X : Cx} {W : WX} {e a b c : Expr} {ds ds' : List It} {pos : Pos} {d : D} {xs ys : List D} {tg : Expr}
variable {x : Str} {px pa : Pos}
/-- x = [xs, ys] of new lists -/
theorem xs_own2 (i : Nat) {p pl : Pos} (hN : X.N.Nodup) (ha : XL X a ds xs) (hb : XL X b ds ys) (hi : X.N[i]? = some x := by rfl) (hx : Loc X.env.scope x := by first | exact Or.inl rfl | exact Or.inr rfl) (hs : swapsWith (.List [a, b] pl) (some (.Name x p)) pos.line X.env = pure false := by rfl)
    (hf : X.fn x = true ∨ X.env.scope.names.lookup x = some .local := by first | exact .inl rfl | exact .inr rfl) (h1 : starEach [a, b] X.env = (false, eval a X.env) :: starEach [b] X.env := by exact se rfl) (h2 : starEach [b] X.env = (false, eval b X.env) :: starEach [] X.env := by exact se rfl) :
    XS X W (.Assign [.Name x p] (.List [a, b] pl) pos) ds (.nx (ds.set i (.ll [xs, ys]))) := .mk fun G S0 S H σ E Z q =>
  ws_of (ps_set hN hi hx (pe_lst (pa_cons pe_w (pa_cons pe_w pa_nil h2) h1)) hs hf) (ha G S0 S H σ E _ fun p1 vs1 S1 H1 g1 f1 f2 f3 r1 => hb G S0 S1 H1 σ (E.grow g1) _ fun p2 vs2 S2 H2 g2 f4 f5 f6 r2 => by
    refine ⟨sz _ (Nat.le_of_ble_eq_true rfl), fun p hp => q _ S2 _ ?_⟩
    have z1 : H2 p1 = some (.lst vs1) := g2.h _ _ f3
    have s1 : S2 p1 = none := by rw [g2.old p1 (nn_of f3)]; exact f2
    have n12 : p1 ≠ p2 := fun z => by rw [z, f4] at f3; cases f3
    have np1 : p1 ≠ p := fun z => by rw [z, hp] at z1; cases z1
    have np2 : p2 ≠ p := fun z => by rw [z, hp] at f6; cases f6
    have n2 : H p2 = none := g1.h.free f4
    have n3 : H p = none := g1.h.free (g2.h.free hp)
    have g : Gr S H S2 (upd H2 p (.lst [.ref p1, .ref p2])) := (g1.trans g2).trans (Gr.newH g2.sh hp)
    obtain ⟨A, e⟩ := E
    have e' := e.grow g
    have hS : S2 p = none := g2.sh.free hp
    refine ⟨_, e'.put i (it := .ll [xs, ys]) (as := [p, p1, p2]) (Same.refl _) e'.sh e'.gh e'.gs (.ll upd_same (.cons ((upd_ne np1).trans z1) (da_same g2.s r1) (.cons ((upd_ne np2).trans f6) r2 .nil))) ?_ (fun j a _ ha => ⟨rfl, (e'.fr j a ha).2.1⟩) fun a ha => ?_⟩
    · simp [n12, np1.symm, np2.symm]
    · have new : ∀ a, H a = none → S2 a = none → S2 a = none ∧ G a = none ∧ ∀ j, j ≠ i → a ∉ A j := fun a h1 h2 => ⟨h2, e.gh.free h1, fun j _ hj => e.own hj h1⟩
      rcases List.mem_cons.mp ha with rfl | ha
      · exact new _ n3 hS
      · rcases List.mem_cons.mp ha with rfl | ha
        · exact new _ f1 s1
        · rcases List.mem_singleton.mp ha with rfl
          exact new _ n2 f5)
/-- x != b -/
theorem xt_neLL (i : Nat) {B : D} {xss : List (List D)} (hu : X.A.units + 64 < cLine) (hb : XB X b ds B) (h1 : okE (.lst (xss.map .lst)) = true) (h2 : okE B = true) (hd : ds[i]? = some (.ll xss) := by rfl) (hN : X.N[i]? = some x := by rfl) (hv : Vis X.env.scope x := by first | exact Or.inl rfl | exact Or.inr (Or.inl rfl) | exact Or.inr (Or.inr rfl)) (h3 : (x == ("__debug__" : Str)) = false := by decide)
    (h4 : (x == ("__classdict__" : Str)) = false := by decide) : XT X (.Compare (.Name x px) [.NotEq] [b] pos) ds (!eqD (.lst (xss.map .lst)) B) := .mk fun G S0 S H σ E Q q => by
  obtain ⟨A, e⟩ := E
  obtain ⟨p, vs, bs, hv', ha, hp, r⟩ := e.ll hd
  exact wt_of (pt_cmpR (op_neD hu) (pe_var (i := i) hN hv h3 h4) pe_w (nomark _)) ⟨.ref p, hv', hb G S0 S H σ ⟨A, e⟩ _ fun y S2 H2 g r2 => ⟨_, _, .lst (sq_of (g.h _ _ hp)) (llr_dp g.sh (llr_keep g.s r fun a ha' => keep_of g.h (llr_owned r a ha')) (okE_l h1)), rb_dp g.sh r2 (okE_l h2), okE_r h1, okE_r h2, ⟨_, rfl, q S2 H2 g⟩⟩⟩
theorem ll_atI {α : Type} {vs : List α} {n : Nat} {m : Int} {j : Nat} {v : α} (hn : vs.length = n) (hj : ixN n m = some j) (h : vs[j]? = some v) : atI vs m = some v := by
  unfold atI
  rw [hn, hj]; exact h
/-- x[k] == b -/
theorem xt_eqLL (i : Nat) {B : D} {xss : List (List D)} {m : Int} {j : Nat} {k : Expr} {pk : Pos} (hu : X.A.units + 64 < cLine) (hk : XV X k ds (.int m)) (hj : ixN xss.length m = some j) (hx : xss[j]? = some xs) (hb : XB X b ds B) (h1 : okE (.lst xs) = true) (h2 : okE B = true) (hd : ds[i]? = some (.ll xss) := by rfl) (hN : X.N[i]? = some x := by rfl) (hv : Vis X.env.scope x := by first | exact Or.inl rfl | exact Or.inr (Or.inl rfl) | exact Or.inr (Or.inr rfl)) (h3 : (x == ("__debug__" : Str)) = false := by decide)
    (h4 : (x == ("__classdict__" : Str)) = false := by decide) (hs : PlainIx k := by exact fun _ _ => rfl) : XT X (.Compare (.Subscript (.Name x px) k pk) [.Eq] [b] pos) ds (eqD (.lst xs) B) := .mk fun G S0 S H σ E Q q => by
  refine wt_of (pt_cmpR (op_eqD hu) (pe_ix ix_seq (pe_var (i := i) hN hv h3 h4) pe_w hs) pe_w (nomark _)) ?_
  obtain ⟨p, vs, r, ws, hv', hp, hl, hvj, hr, ra, _⟩ := E.mutLL hd hx
  refine ⟨.ref p, hv', hk G S0 S H σ E _ fun kv S1 H1 g1 rk => ?_⟩
  cases rk
  refine .inl ⟨p, vs, m, .ref r, rfl, rfl, sq_of (g1.h _ _ hp), ll_atI hl hj hvj, ?_⟩
  exact hb G S0 S1 H1 σ (E.grow g1) _ fun y S2 H2 g r2 => ⟨_, _, .lst (sq_of (g.h _ _ (g1.h _ _ hr))) (rpa_dp g.sh _ _ (da_same g.s (da_same g1.s ra)) (okE_l h1)), rb_dp g.sh r2 (okE_l h2), okE_r h1, okE_r h2, ⟨_, rfl, q S2 H2 (g1.trans g)⟩⟩
/-- tg = a[x[k].pop(0)] -/
theorem xs_asgPopIx (i : Nat) {xss : List (List D)} {m y : Int} {j : Nat} {k : Expr} {pk pc ps pz : Pos} {jz} (ha : XV X a ds (.lst xs)) (hk : XV X k ds (.int m)) (hj : ixN xss.length m = some j) (hx : xss[j]? = some (.int y :: ys)) (hy : atI xs y = some d) (hg : XG X tg d (ds.set i (.ll (xss.set j ys))) ds') (hd : ds[i]? = some (.ll xss) := by rfl)
    (hN : X.N[i]? = some x := by rfl) (hv : Vis X.env.scope x := by first | exact Or.inl rfl | exact Or.inr (Or.inl rfl) | exact Or.inr (Or.inr rfl)) (h3 : (x == ("__debug__" : Str)) = false := by decide) (h4 : (x == ("__classdict__" : Str)) = false := by decide) (hi : PlainIx k := by exact fun _ _ => rfl)
    (hbase : attributeBase (.Subscript (.Name x px) k pk) "pop" X.env (eval (.Subscript (.Name x px) k pk) X.env) = eval (.Subscript (.Name x px) k pk) X.env := by rfl) (hline : (pa.endLine == pc.line) = true := by rfl)
    (hs : swapsWithSole [tg] (.Subscript a (.Call (.Attribute (.Subscript (.Name x px) k pk) "pop" pa) [.Constant (.int 0) jz pz] [] pc) ps) pos.line X.env = pure false := by rfl) (hw : swappedStores [tg] (.Subscript a (.Call (.Attribute (.Subscript (.Name x px) k pk) "pop" pa) [.Constant (.int 0) jz pz] [] pc) ps) X.env = pure none := by rfl)
    (h1 : (assignEach [tg] X.env).map (·.2) = [assign tg X.env] := by rfl) : XS X W (.Assign [tg] (.Subscript a (.Call (.Attribute (.Subscript (.Name x px) k pk) "pop" pa) [.Constant (.int 0) jz pz] [] pc) ps) pos) ds (.nx ds') := .mk fun G S0 S H σ E Z q => by
  refine ws_of (ps_asg (pe_ix ix_seq pe_w (pe_bm PySem.F.plainAttrs_list PySem.F.slot_list_pop PySem.F.type_list_pop (fun pins s σ H x xs v us Q I rx rv h => mt_popAt pins s σ H x xs v us Q I rx rv h) (pe_ix ix_seq (pe_var (i := i) hN hv h3 h4) pe_w hi) (pa_cons pe_int pa_nil (se rfl)) hbase (sfew rfl (Nat.le_of_ble_eq_true rfl)) hline (se rfl) (spl rfl)) (fun _ _ => rfl)) pg_w hs hw h1) ?_
  refine ha G S0 S H σ E _ fun av S1 H1 g1 r1 => ?_
  have E1 := E.grow g1
  obtain ⟨p, vs, r, ws, hv', hp, hl, hvj, hr, ra, _⟩ := E1.mutLL hd hx
  refine ⟨.ref p, hv', hk G S0 S1 H1 σ E1 _ fun kv S2 H2 g2 rk => ?_⟩
  cases rk
  refine .inl ⟨p, vs, m, .ref r, rfl, rfl, sq_of (g2.h _ _ hp), ll_atI hl hj hvj, ty_list (g2.h _ _ hr), ?_⟩
  obtain ⟨p', vs', r', ws', hv2, hp2, hl2, hvj2, hr2, ra2, mut2⟩ := (E1.grow g2).mutLL hd hx
  rw [hv'] at hv2
  cases hv2
  rw [g2.h _ _ hp] at hp2
  cases hp2
  rw [hvj] at hvj2
  cases hvj2
  cases ra2 with
  | @cons v0 _ vs0 _ rv rvs =>
    cases rv
    refine ⟨r, _, 0, 0, _, rfl, rfl, hr2, by decide, by decide, (ixN_seq (ixN_ge (i := 0) (by decide) (by simp))).1, rfl, ?_⟩
    have E3 := mut2 _ _ rvs
    cases r1 with
    | @lst qa ws2 _ hq raq =>
      obtain ⟨v, hv3, rv3⟩ := da_atI raq hy
      have hq2 := E3.sh _ _ (g2.s _ _ hq)
      exact .inl ⟨qa, ws2, y, v, rfl, rfl, sq_of hq2, hv3, hg G S0 S2 _ σ v E3 (dp_same g2.s rv3) _ fun σ' E4 => q σ' S2 _ E4⟩
theorem pyAll_get : ∀ {xs : List D} {j : Nat}, (pyAll xs)[j]? = xs[j]?.map py
  | [], _ => rfl
  | x :: xs, 0 => rfl
  | x :: xs, j + 1 => pyAll_get (xs := xs) (j := j)
/-- xs.index(e), of data of any depth -/
theorem xv_indexD {j : Nat} {z : D} (hu : X.A.units + 65 < cLine) (ho : XB X a ds (.lst xs)) (ha : XB X e ds d) (hk1 : okE (.lst xs) = true) (hk2 : okE d = true) (hj : xs[j]? = some z) (hz : eqD z d = true) (hn : ∀ (m : Nat) (z' : D), m < j → xs[m]? = some z' → eqD z' d = false)
    (hbase : attributeBase a "index" X.env (eval a X.env) = eval a X.env := by rfl) (hline : (pa.endLine == pos.line) = true := by rfl) (hst : isStar e = false := by rfl) : XV X (.Call (.Attribute a "index" pa) [e] [] pos) ds (.int (j : Int)) :=
  xv_bm PySem.F.plainAttrs_list PySem.F.slot_list_index PySem.F.type_list_index (mt_indexD hu) ho (xab_cons ha xab_nil (se hst)) ty_lst (fun S H x vs Q k r rr q => by
    have r0 := r
    obtain ⟨p, us, rfl, h1, h2⟩ := r.lst k
    obtain ⟨v, rfl, r1⟩ := rba1 rr
    refine ⟨p, v, py d, pyAll xs, j, py z, rfl, rfl, rb_dp k r0 (okE_l hk1), rb_dp k r1 (okE_l hk2), okE_r hk1, okE_r hk2, by rw [pyAll_get, hj]; rfl, hz, fun m z' hm hz' => ?_, q _ S H (.refl k) (.int _)⟩
    rw [pyAll_get] at hz'
    cases w : xs[m]? with
    | none => rw [w] at hz'; cases hz'
    | some y => rw [w] at hz'; cases hz'; exact hn m y hm w) hbase (sfew (by simp [hst]) (by simp)) hline (se hst) (spl rfl)
/-- a while whose end is told by what is true of it -/
theorem xss_whileE {c : Expr} {body rest : List Stmt} {n : Nat} {Q : List It → Prop} {o : Ou} (hp : PassesOwn (model X.prog X.w) X.A X.env X.xe) (hw : ∃ ds1, Q ds1 ∧ Wh X W c body n ds (.nx ds1)) (h : ∀ ds1, Q ds1 → XSs X W rest ds1 o) : XSs X W (.While c body [] pos :: rest) ds o := by
  obtain ⟨ds1, q, hw⟩ := hw
  exact xss_cons (xs_while hp hw) (h ds1 q)
theorem xss_whileX {c : Expr} {body rest : List Stmt} {Q : List It → Prop} {o : Ou} (hp : PassesOwn (model X.prog X.w) X.A X.env X.xe) (hw : ∃ n ds1, Q ds1 ∧ Wh X W c body n ds (.nx ds1)) (h : ∀ ds1, Q ds1 → XSs X W rest ds1 o) : XSs X W (.While c body [] pos :: rest) ds o := by
  obtain ⟨n, ds1, q, hw⟩ := hw
  exact xss_cons (xs_while hp hw) (h ds1 q)
end
end Lay
/-! Lay14: instances: their fields. -/
namespace Lay
open PySem L2
/-! ### names of fields, by place -/
section
variable {α : Type} {f : Str} {x y : α}
theorem look_at : ∀ {l : List (Str × α)} {k : Nat}, (l.map (·.1)).Nodup → l[k]? = some (f, x) → l.lookup f = some x
  | [], _, _, h => by cases h
  | (n, z) :: l, 0, _, h => by cases h; simp [List.lookup]
  | (n, z) :: l, k + 1, nd, h => by
    rw [List.map_cons, List.nodup_cons] at nd
    have hm : f ∈ l.map (·.1) := List.mem_map.mpr ⟨(f, x), List.mem_of_getElem? (show l[k]? = some (f, x) from h), rfl⟩
    have e : (f == n) = false := by
      rw [beq_eq_false_iff_ne]
      intro z
      exact nd.1 (z ▸ hm)
    simp only [List.lookup, e]
    exact look_at nd.2 (show l[k]? = some (f, x) from h)
theorem look_no : ∀ {l : List (Str × α)}, f ∉ l.map (·.1) → l.lookup f = none
  | [], _ => rfl
  | (n, z) :: l, h => by
    rw [List.map_cons, List.mem_cons] at h
    have e : (f == n) = false := by
      rw [beq_eq_false_iff_ne]
      intro z
      exact h (.inl z)
    simp only [List.lookup, e]
    exact look_no fun q => h (.inr q)
def putI (f : Str) (d : α) : List (Str × α) → List (Str × α)
  | [] => [(f, d)]
  | (g, x) :: r => if g = f then (g, d) :: r else (g, x) :: putI f d r
theorem putI_at : ∀ {l : List (Str × α)} {k : Nat}, (l.map (·.1)).Nodup → l[k]? = some (f, x) → putI f y l = l.set k (f, y)
  | [], _, _, h => by cases h
  | (n, z) :: l, 0, _, h => by cases h; unfold putI; rw [if_pos rfl]; rfl
  | (n, z) :: l, k + 1, nd, h => by
    rw [List.map_cons, List.nodup_cons] at nd
    have hm : f ∈ l.map (·.1) := List.mem_map.mpr ⟨(f, x), List.mem_of_getElem? (show l[k]? = some (f, x) from h), rfl⟩
    have e : ¬ n = f := fun z => nd.1 (by rw [show (n, _).1 = f from z]; exact hm)
    unfold putI
    rw [if_neg e, putI_at nd.2 (show l[k]? = some (f, x) from h)]
    rfl
theorem putI_no : ∀ {l : List (Str × α)}, f ∉ l.map (·.1) → putI f y l = l ++ [(f, y)]
  | [], _ => rfl
  | (n, z) :: l, h => by
    rw [List.map_cons, List.mem_cons] at h
    have e : ¬ n = f := fun z => h (.inl z.symm)
    unfold putI
    rw [if_neg e, putI_no fun q => h (.inr q)]
    rfl
end
/-! ### what the fields hold -/
section
variable {K : Fg} {S H : Hp} {f : Str}
theorem rpF_look {d : D} : ∀ {fv : List (Str × V)} {fs : List (Str × D)}, RpF K S fv fs → fs.lookup f = some d → ∃ v, fv.lookup f = some v ∧ Rp K S v d
  | _, _, .nil, h => by cases h
  | (n, v) :: fv, (_, x) :: fs, .cons r t, h => by
    by_cases e : f = n
    · subst e
      simp only [List.lookup, beq_self_eq_true] at h ⊢
      cases h
      exact ⟨v, rfl, r⟩
    · have : (f == n) = false := by simp [e]
      simp only [List.lookup, this] at h ⊢
      exact rpF_look t h
theorem rpF_none : ∀ {fv : List (Str × V)} {fs : List (Str × D)}, RpF K S fv fs → fs.lookup f = none → fv.lookup f = none
  | _, _, .nil, h => rfl
  | (n, v) :: fv, (_, x) :: fs, .cons r t, h => by
    by_cases e : f = n
    · subst e
      simp only [List.lookup, beq_self_eq_true] at h
      cases h
    · have : (f == n) = false := by simp [e]
      simp only [List.lookup, this] at h ⊢
      exact rpF_none t h
theorem fsr_look {g : FI} : ∀ {fs : List (Str × FI)} {fv : List (Str × V)} {bs : List Addr}, FsR K S H fs fv bs → fs.lookup f = some g → ∃ v as, fv.lookup f = some v ∧ FIR K S H g v as ∧ ∀ x ∈ as, x ∈ bs
  | _, _, _, .nil, h => by cases h
  | (n, x) :: fs, (_, v) :: fv, _, .cons r t, h => by
    by_cases e : f = n
    · subst e
      simp only [List.lookup, beq_self_eq_true] at h ⊢
      cases h
      exact ⟨v, _, rfl, r, fun x hx => List.mem_append_left _ hx⟩
    · have : (f == n) = false := by simp [e]
      simp only [List.lookup, this] at h ⊢
      obtain ⟨v, as, h1, h2, h3⟩ := fsr_look t h
      exact ⟨v, as, h1, h2, fun x hx => List.mem_append_right _ (h3 x hx)⟩
theorem fsr_none : ∀ {fs : List (Str × FI)} {fv : List (Str × V)} {bs : List Addr}, FsR K S H fs fv bs → fs.lookup f = none → fv.lookup f = none
  | _, _, _, .nil, h => rfl
  | (n, x) :: fs, (_, v) :: fv, _, .cons r t, h => by
    by_cases e : f = n
    · subst e
      simp only [List.lookup, beq_self_eq_true] at h
      cases h
    · have : (f == n) = false := by simp [e]
      simp only [List.lookup, this] at h ⊢
      exact fsr_none t h
theorem fsr_len : ∀ {fs : List (Str × FI)} {fv : List (Str × V)} {bs : List Addr}, FsR K S H fs fv bs → fv.length = fs.length
  | _, _, _, .nil => rfl
  | _, _, _, .cons _ t => by rw [List.length_cons, List.length_cons, fsr_len t]
theorem fsr_put {g : FI} {v : V} {as : List Addr} (r : FIR K S H g v as) : ∀ {fs : List (Str × FI)} {fv : List (Str × V)} {bs : List Addr}, FsR K S H fs fv bs → ∃ bs', FsR K S H (putI f g fs) (putF f v fv) bs' ∧ (∀ x ∈ bs', x ∈ bs ∨ x ∈ as) ∧ (bs.Nodup → as.Nodup → (∀ x ∈ as, x ∉ bs) → bs'.Nodup)
  | [], _, _, .nil => ⟨as ++ [], .cons r .nil, fun x hx => .inr (by simpa using hx), fun _ h _ => by simpa using h⟩
  | (n, x) :: fs, (_, y) :: fv, _, .cons (as := as0) (bs := bs0) r1 t => by
    unfold putI putF
    by_cases e : n = f
    · rw [if_pos e, if_pos e]
      refine ⟨_, .cons r t, fun x hx => ?_, fun h1 h2 h3 => ?_⟩
      · rcases List.mem_append.mp hx with q | q
        · exact .inr q
        · exact .inl (List.mem_append_right _ q)
      · rw [List.nodup_append] at h1 ⊢
        exact ⟨h2, h1.2.1, fun x hx y hy z => h3 x hx (List.mem_append_right _ (z ▸ hy))⟩
    · rw [if_neg e, if_neg e]
      obtain ⟨bs', q1, q2, q3⟩ := fsr_put r t
      refine ⟨_, .cons r1 q1, fun x hx => ?_, fun h1 h2 h3 => ?_⟩
      · rcases List.mem_append.mp hx with q | q
        · exact .inl (List.mem_append_left _ q)
        · rcases q2 x q with z | z
          · exact .inl (List.mem_append_right _ z)
          · exact .inr z
      · rw [List.nodup_append] at h1 ⊢
        refine ⟨h1.1, q3 h1.2.1 h2 fun x hx z => h3 x hx (List.mem_append_right _ z), fun x hx y hy z => ?_⟩
        rcases q2 y hy with w | w
        · exact h1.2.2 x hx y w z
        · exact h3 y w (List.mem_append_left _ (z ▸ hx))
theorem fsr_mut {oa : Option Addr} {xs : List D} : ∀ {fs : List (Str × FI)} {fv : List (Str × V)} {bs : List Addr}, FsR K S H fs fv bs → bs.Nodup → fs.lookup f = some (.ow oa xs) → ∃ p vs, fv.lookup f = some (.ref p) ∧ p ∈ bs ∧ (∀ a, oa = some a → p = a) ∧ H p = some (.lst vs) ∧ RpA K S vs xs ∧
    ∀ ws ys ob, RpA K S ws ys → (∀ a, ob = some a → p = a) → FsR K S (upd H p (.lst ws)) (putI f (.ow ob ys) fs) fv bs
  | _, _, _, .nil, _, h => by cases h
  | (n, x) :: fs, (_, v) :: fv, _, .cons (as := as0) (bs := bs0) r t, nd, h => by
    rw [List.nodup_append] at nd
    by_cases e : f = n
    · subst e
      simp only [List.lookup, beq_self_eq_true] at h ⊢
      cases h
      cases r with
      | @ow _ _ p vs z hp ra =>
        refine ⟨p, vs, rfl, List.mem_append_left _ List.mem_cons_self, z, hp, ra, fun ws ys ob q qz => ?_⟩
        unfold putI
        rw [if_pos rfl]
        exact .cons (.ow qz upd_same q) (fsr_keep (Same.refl _) t fun a ha => upd_ne fun w => nd.2.2 p List.mem_cons_self a ha w.symm)
    · have : (f == n) = false := by simp [e]
      simp only [List.lookup, this] at h ⊢
      obtain ⟨p, vs, h1, h2, h3, h4, h5, h6⟩ := fsr_mut t nd.2.1 h
      refine ⟨p, vs, h1, List.mem_append_right _ h2, h3, h4, h5, fun ws ys ob q qz => ?_⟩
      unfold putI
      rw [if_neg (fun z => e z.symm)]
      exact .cons (fir_keep (Same.refl _) r fun a ha => upd_ne fun w => nd.2.2 a ha p h2 w) (h6 ws ys ob q qz)
end
def allF (fs : List (Str × D)) : List (Str × FI) := fs.map fun p => (p.1, FI.fz p.2)
theorem fsr_all {K : Fg} {S H : Hp} : ∀ {fs : List (Str × D)} {fv : List (Str × V)} {as : List Addr}, FsR K S H (allF fs) fv as → RpF K S fv fs
  | [], _, _, h => by cases h; exact .nil
  | (n, d) :: fs, _, _, h => by
    cases h with
    | cons h t =>
      cases h with
      | fz r => exact .cons r (fsr_all t)
/-! ### a slot's own object -/
section
variable {K : Fg} {G S0 S H S' H' : Hp} {σ : St} {ds : List It} {A : Nat → List Addr} {i : Nat} {C : Addr} {oa ob : Option Addr} {fs : List (Str × FI)} {f : Str}
theorem EnvA.obj (e : EnvA K G S0 S H σ ds A) (h : ds[i]? = some (.ob C oa fs)) : ∃ p dx fv bs, σ[i]? = some (some (.ref p)) ∧ A i = p :: bs ∧ (∀ a, oa = some a → p = a) ∧ H p = some (.ins C dx fv) ∧ FsR K S H fs fv bs := by
  obtain ⟨p, dx, fv, bs, hv, ha, hp, hH, r⟩ := itr_ob (e.it i _ h)
  exact ⟨p, dx, fv, bs, join_some hv, ha, hp, hH, r⟩
/-- a field that is frozen -/
theorem Env.fldz (E : Env K G S0 S H σ ds) {d : D} (h : ds[i]? = some (.ob C oa fs)) (hl : fs.lookup f = some (.fz d)) : ∃ p dx fv v, σ[i]? = some (some (.ref p)) ∧ H p = some (.ins C dx fv) ∧ fv.lookup f = some v ∧ Rp K S v d := by
  obtain ⟨A, e⟩ := E
  obtain ⟨p, dx, fv, bs, h1, _, _, h2, r⟩ := e.obj h
  obtain ⟨v, as, h3, q, _⟩ := fsr_look r hl
  cases q with
  | fz q => exact ⟨p, dx, fv, v, h1, h2, h3, q⟩
/-- a field that is a list of its own -/
theorem Env.fldo (E : Env K G S0 S H σ ds) {xs : List D} (h : ds[i]? = some (.ob C oa fs)) (hl : fs.lookup f = some (.ow ob xs)) : ∃ p dx fv q vs, σ[i]? = some (some (.ref p)) ∧ H p = some (.ins C dx fv) ∧ fv.lookup f = some (.ref q) ∧ (∀ a, ob = some a → q = a) ∧ H q = some (.lst vs) ∧ RpA K S vs xs ∧
    S q = none ∧ ∀ ws ys ob', RpA K S ws ys → (∀ a, ob' = some a → q = a) → Env K G S0 S (upd H q (.lst ws)) σ (ds.set i (.ob C oa (putI f (.ow ob' ys) fs))) := by
  obtain ⟨A, e⟩ := E
  obtain ⟨p, dx, fv, bs, h1, ha, hp, h2, r⟩ := e.obj h
  have nd := e.nd i
  rw [ha, List.nodup_cons] at nd
  obtain ⟨q, vs, h3, hq, hz, h4, ra, mt⟩ := fsr_mut r nd.2 hl
  have hm : q ∈ A i := by rw [ha]; exact List.mem_cons_of_mem _ hq
  obtain ⟨_, sq, gq⟩ := e.fr i q hm
  refine ⟨p, dx, fv, q, vs, h1, h2, h3, hz, h4, ra, sq, fun ws ys ob' rw' qz => ?_⟩
  have hne : ∀ j a, j ≠ i → a ∈ A j → a ≠ q := fun j a z hj w => z (e.dj j i a hj (w ▸ hm))
  have pq : p ≠ q := fun z => nd.1 (z ▸ hq)
  have fr := e.fr i
  rw [ha] at fr
  have w := e.put (S' := S) (H' := upd H q (.lst ws)) i (it := .ob C oa (putI f (.ow ob' ys) fs)) (v := some (.ref p)) (as := p :: bs) (Same.refl _) (fun b u w => by
      rw [upd_ne (fun z => by subst z; rw [sq] at w; cases w)]; exact e.sh _ _ w) (fun b u w => by rw [upd_ne (fun z => by subst z; rw [gq] at w; cases w)]; exact e.gh _ _ w) e.gs (.ob hp ((upd_ne pq).trans h2) (mt ws ys ob' rw' qz)) (List.nodup_cons.mpr nd)
    (fun j a z hj => ⟨upd_ne (hne j a z hj), (e.fr j a hj).2.1⟩) fun a ha' => ⟨(fr a ha').2.1, (fr a ha').2.2, fun j z hj => z (e.dj j i a hj (by rw [ha]; exact ha'))⟩
  rw [set_get h1] at w
  exact ⟨_, w⟩
/-- a field is stored -/
theorem Env.setF (E : Env K G S0 S H σ ds) (g : Gr S H S' H') {fi : FI} {v : V} {as : List Addr} (h : ds[i]? = some (.ob C oa fs)) (r : FIR K S' H' fi v as) (fresh : ∀ x ∈ as, H x = none ∧ S' x = none) (nd : as.Nodup) : ∃ p dx fv, σ[i]? = some (some (.ref p)) ∧ H' p = some (.ins C dx fv) ∧ fv.length = fs.length ∧
    Env K G S0 S' (upd H' p (.ins C dx (putF f v fv))) σ (ds.set i (.ob C oa (putI f fi fs))) := by
  obtain ⟨A, e0⟩ := E
  have e := e0.grow g
  obtain ⟨p, dx, fv, bs, h1, ha, hp, h2, rf⟩ := e.obj h
  have nda := e.nd i
  have fr := e.fr i
  rw [ha] at nda fr
  rw [List.nodup_cons] at nda
  have own : ∀ x ∈ p :: bs, H x ≠ none := fun x hx => e0.own (i := i) (by rw [ha]; exact hx)
  obtain ⟨bs', q1, q2, q3⟩ := fsr_put (f := f) r rf
  have nd2 : bs'.Nodup := q3 nda.2 nd fun x hx z => own x (List.mem_cons_of_mem _ z) (fresh x hx).1
  have pn : p ∉ bs' := fun z => by
    rcases q2 p z with w | w
    · exact nda.1 w
    · exact own p List.mem_cons_self (fresh p w).1
  obtain ⟨_, sp, gp⟩ := e.fr i p (by rw [ha]; exact List.mem_cons_self)
  have hne : ∀ j a, j ≠ i → a ∈ A j → a ≠ p := fun j a z hj w => z (e.dj j i a hj (by rw [ha, w]; exact List.mem_cons_self))
  refine ⟨p, dx, fv, h1, h2, fsr_len rf, ?_⟩
  have w := e.put (S' := S') (H' := upd H' p (.ins C dx (putF f v fv))) i (it := .ob C oa (putI f fi fs)) (v := some (.ref p)) (as := p :: bs') (Same.refl _) (fun b u w => by
      rw [upd_ne (fun z => by subst z; rw [sp] at w; cases w)]; exact e.sh _ _ w) (fun b u w => by rw [upd_ne (fun z => by subst z; rw [gp] at w; cases w)]; exact e.gh _ _ w) e.gs (.ob hp upd_same (fsr_keep (Same.refl _) q1 fun a ha => upd_ne fun z => pn (z ▸ ha))) (List.nodup_cons.mpr ⟨pn, nd2⟩)
    (fun j a z hj => ⟨upd_ne (hne j a z hj), (e.fr j a hj).2.1⟩) fun a ha' => by
      rcases List.mem_cons.mp ha' with rfl | hb
      · exact ⟨sp, gp, fun j z hj => z (e.dj j i _ hj (by rw [ha]; exact List.mem_cons_self))⟩
      · rcases q2 a hb with w | w
        · have hm := List.mem_cons_of_mem p w
          exact ⟨(fr a hm).2.1, (fr a hm).2.2, fun j z hj => z (e.dj j i a hj (by rw [ha]; exact hm))⟩
        · exact ⟨(fresh a w).2, e0.gh.free (fresh a w).1, fun j _ hj => e0.own hj (fresh a w).1⟩
  rw [set_get h1] at w
  exact ⟨_, w⟩
end
/-! ### fields read and stored -/
section
variable {X : Cx} {W : WX} {e b : Expr} {ds : List It} {pos pos' px : Pos} {d : D} {x : Str} {C : Addr} {oa ob : Option Addr} {f : Str} {xs : List D}
/-- e.f of an instance that will not change -/
theorem xv_fld {fs : List (Str × D)} (k : Nat) (he : XV X e ds (.ins C fs)) (c : Cls X.K C) (n : NoAttr X.K C f) (hk : fs[k]? = some (f, d) := by rfl) {FN : List Str} (nd : FN.Nodup) (hn : fs.map (·.1) = FN := by rfl) (hb : attributeBase e f X.env (eval e X.env) = eval e X.env := by rfl) : XV X (.Attribute e f pos) ds d := .mk fun G S0 S H σ E Q q =>
  we_of (pe_fld pe_w hb) (he G S0 S H σ E _ fun v S' H' g r => by
    cases r with
    | @ins a _ dx fv _ h rf =>
      obtain ⟨v, hv, rv⟩ := rpF_look rf (look_at (hn ▸ nd) hk)
      exact ⟨a, C, dx, fv, v, rfl, g.sh _ _ h, c, n, hv, q v S' H' g rv⟩)
variable {fs : List (Str × FI)}
/-- x.f of an own object: frozen -/
theorem xv_fldO (i k : Nat) (c : Cls X.K C) (n : NoAttr X.K C f) (hd : ds[i]? = some (.ob C oa fs) := by rfl) (hk : fs[k]? = some (f, .fz d) := by rfl) {FN : List Str} (nd : FN.Nodup) (hn : fs.map (·.1) = FN := by rfl) (hN : X.N[i]? = some x := by rfl) (hv : Vis X.env.scope x := by first | exact Or.inl rfl | exact Or.inr (Or.inl rfl) | exact Or.inr (Or.inr rfl))
    (h1 : (x == ("__debug__" : Str)) = false := by decide) (h2 : (x == ("__classdict__" : Str)) = false := by decide) (hb : attributeBase (.Name x px) f X.env (eval (.Name x px) X.env) = eval (.Name x px) X.env := by rfl) : XV X (.Attribute (.Name x px) f pos) ds d := .mk fun G S0 S H σ E Q q => by
  obtain ⟨p, dx, fv, v, hσ, hp, hl, r⟩ := E.fldz hd (look_at (hn ▸ nd) hk)
  exact we_of (pe_fld (pe_var (i := i) hN hv h1 h2) hb) ⟨.ref p, hσ, p, C, dx, fv, v, rfl, hp, c, n, hl, q v S H E.gr r⟩
/-- x.f of an own object: a list of its own -/
theorem xb_fldO (i k : Nat) (c : Cls X.K C) (n : NoAttr X.K C f) (hd : ds[i]? = some (.ob C oa fs) := by rfl) (hk : fs[k]? = some (f, .ow ob xs) := by rfl) {FN : List Str} (nd : FN.Nodup) (hn : fs.map (·.1) = FN := by rfl) (hN : X.N[i]? = some x := by rfl) (hv : Vis X.env.scope x := by first | exact Or.inl rfl | exact Or.inr (Or.inl rfl) | exact Or.inr (Or.inr rfl))
    (h1 : (x == ("__debug__" : Str)) = false := by decide) (h2 : (x == ("__classdict__" : Str)) = false := by decide) (hb : attributeBase (.Name x px) f X.env (eval (.Name x px) X.env) = eval (.Name x px) X.env := by rfl) : XB X (.Attribute (.Name x px) f pos) ds (.lst xs) := .mk fun G S0 S H σ E Q q => by
  obtain ⟨p, dx, fv, a, vs, hσ, hp, hl, _, ha, r, _, _⟩ := E.fldo hd (look_at (hn ▸ nd) hk)
  exact we_of (pe_fld (pe_var (i := i) hN hv h1 h2) hb) ⟨.ref p, hσ, p, C, dx, fv, _, rfl, hp, c, n, hl, q _ S H E.gr (.inr ⟨a, vs, xs, rfl, rfl, ha, r⟩)⟩
/-- x.f = e, by its place -/
theorem xs_fldP {fi : FI} {fs' : List (Str × FI)} (i : Nat) (hput : putI f fi fs = fs') (he : ∀ G S0 S H σ, Env X.K G S0 S H σ ds → ∀ Q : VK, (∀ v as S' H', Gr S H S' H' → FIR X.K S' H' fi v as → (∀ x ∈ as, H x = none ∧ S' x = none) → as.Nodup → Q v H') → wE X e σ H Q)
    (c : Cls X.K C) (n : NoAttr X.K C f) (hl : fs.length < 900) (hd : ds[i]? = some (.ob C oa fs)) (hN : X.N[i]? = some x) (hv : Vis X.env.scope x)
    (h1 : (x == ("__debug__" : Str)) = false) (h2 : (x == ("__classdict__" : Str)) = false) (hs : swapsWith e (some (.Attribute (.Name x px) f pos')) pos.line X.env = pure false) :
    XS X W (.Assign [.Attribute (.Name x px) f pos'] e pos) ds (.nx (ds.set i (.ob C oa fs'))) := .mk fun G S0 S H σ E Z q =>
  ws_of (ps_fld (pe_var (i := i) hN hv h1 h2) pe_w hs) (he G S0 S H σ E _ fun v as S' H' g r fr nd => by
    obtain ⟨p, dx, fv, hσ, hp, hlen, mt⟩ := E.setF (f := f) g hd r fr nd
    exact ⟨.ref p, hσ, p, C, dx, fv, rfl, hp, c, n, by rw [hlen]; omega, q _ S' _ (hput ▸ mt)⟩)
theorem he_v (he : XV X e ds d) : ∀ G S0 S H σ, Env X.K G S0 S H σ ds → ∀ Q : VK, (∀ v as S' H', Gr S H S' H' → FIR X.K S' H' (.fz d) v as → (∀ x ∈ as, H x = none ∧ S' x = none) → as.Nodup → Q v H') → wE X e σ H Q := fun G S0 S H σ E Q q =>
  he G S0 S H σ E Q fun v S' H' g r => q v [] S' H' g (.fz r) (fun _ z => by cases z) .nil
theorem he_l (he : XL X e ds xs) : ∀ G S0 S H σ, Env X.K G S0 S H σ ds → ∀ Q : VK, (∀ v as S' H', Gr S H S' H' → FIR X.K S' H' (.ow none xs) v as → (∀ x ∈ as, H x = none ∧ S' x = none) → as.Nodup → Q v H') → wE X e σ H Q := fun G S0 S H σ E Q q =>
  he G S0 S H σ E Q fun p vs S' H' g h1 h2 h3 h4 => q _ [p] S' H' g (.ow (fun _ z => by cases z) h3 h4) (fun x hx => by rcases List.mem_singleton.mp hx with rfl; exact ⟨h1, h2⟩) (by simp)
section
variable {g : FI} (i k : Nat) (c : Cls X.K C) (n : NoAttr X.K C f) (hd : ds[i]? = some (.ob C oa fs) := by rfl) (hk : fs[k]? = some (f, g) := by rfl) {FN : List Str} (nd : FN.Nodup) (hn : fs.map (·.1) = FN := by rfl) (hl : fs.length < 900 := by exact Nat.lt_of_lt_of_le (Nat.lt_succ_self _) (Nat.le_of_ble_eq_true rfl)) (hN : X.N[i]? = some x := by rfl) (hv : Vis X.env.scope x := by first | exact Or.inl rfl | exact Or.inr (Or.inl rfl) | exact Or.inr (Or.inr rfl))
    (h1 : (x == ("__debug__" : Str)) = false := by decide) (h2 : (x == ("__classdict__" : Str)) = false := by decide) (hs : swapsWith e (some (.Attribute (.Name x px) f pos')) pos.line X.env = pure false := by rfl)
include c n hd hk nd hn hl hN hv h1 h2 hs
theorem xs_fld (he : XV X e ds d) : XS X W (.Assign [.Attribute (.Name x px) f pos'] e pos) ds (.nx (ds.set i (.ob C oa (fs.set k (f, .fz d))))) := xs_fldP i (putI_at (hn ▸ nd) hk) (he_v he) c n hl hd hN hv h1 h2 hs
theorem xs_fldL (he : XL X e ds xs) : XS X W (.Assign [.Attribute (.Name x px) f pos'] e pos) ds (.nx (ds.set i (.ob C oa (fs.set k (f, .ow none xs))))) := xs_fldP i (putI_at (hn ▸ nd) hk) (he_l he) c n hl hd hN hv h1 h2 hs
end
section
variable (i : Nat) (c : Cls X.K C) (n : NoAttr X.K C f) (hd : ds[i]? = some (.ob C oa fs) := by rfl) {FN : List Str} (hn : fs.map (·.1) = FN := by rfl) (hm : f ∉ FN := by decide +kernel) (hl : fs.length < 900 := by exact Nat.lt_of_lt_of_le (Nat.lt_succ_self _) (Nat.le_of_ble_eq_true rfl)) (hN : X.N[i]? = some x := by rfl) (hv : Vis X.env.scope x := by first | exact Or.inl rfl | exact Or.inr (Or.inl rfl) | exact Or.inr (Or.inr rfl))
    (h1 : (x == ("__debug__" : Str)) = false := by decide) (h2 : (x == ("__classdict__" : Str)) = false := by decide) (hs : swapsWith e (some (.Attribute (.Name x px) f pos')) pos.line X.env = pure false := by rfl)
include c n hd hn hm hl hN hv h1 h2 hs
/-- a new field -/
theorem xs_fld0 (he : XV X e ds d) : XS X W (.Assign [.Attribute (.Name x px) f pos'] e pos) ds (.nx (ds.set i (.ob C oa (fs ++ [(f, .fz d)])))) := xs_fldP i (putI_no (by rw [hn]; exact hm)) (he_v he) c n hl hd hN hv h1 h2 hs
theorem xs_fldL0 (he : XL X e ds xs) : XS X W (.Assign [.Attribute (.Name x px) f pos'] e pos) ds (.nx (ds.set i (.ob C oa (fs ++ [(f, .ow none xs)])))) := xs_fldP i (putI_no (by rw [hn]; exact hm)) (he_l he) c n hl hd hN hv h1 h2 hs
end
/-- x.f[m] = e -/
theorem xs_fldIx (i k : Nat) {m : Int} {j : Nat} {pt : Pos} (he : XV X e ds d) (hb : XV X b ds (.int m)) (c : Cls X.K C) (n : NoAttr X.K C f) (hj : ixN xs.length m = some j) (hd : ds[i]? = some (.ob C oa fs) := by rfl) (hk : fs[k]? = some (f, .ow ob xs) := by rfl) {FN : List Str} (nd : FN.Nodup) (hn : fs.map (·.1) = FN := by rfl)
    (hN : X.N[i]? = some x := by rfl) (hv : Vis X.env.scope x := by first | exact Or.inl rfl | exact Or.inr (Or.inl rfl) | exact Or.inr (Or.inr rfl))
    (h1 : (x == ("__debug__" : Str)) = false := by decide) (h2 : (x == ("__classdict__" : Str)) = false := by decide) (hbs : attributeBase (.Name x px) f X.env (eval (.Name x px) X.env) = eval (.Name x px) X.env := by rfl)
    (ha : ∀ v, assign (.Subscript (.Attribute (.Name x px) f pos') b pt) X.env v = (do
      let ov ← holding [v] (eval (.Attribute (.Name x px) f pos') X.env)
      let iv ← holding [v, ov] (eval b X.env)
      standAt pt
      holding [v, ov, iv] (setItem ov iv v)
      release [v, ov, iv] []) := by intro _; rfl)
    (hs : swapsWithSole [.Subscript (.Attribute (.Name x px) f pos') b pt] e pos.line X.env = pure false := by rfl) (hw : swappedStores [.Subscript (.Attribute (.Name x px) f pos') b pt] e X.env = pure none := by rfl)
    (h3 : (assignEach [.Subscript (.Attribute (.Name x px) f pos') b pt] X.env).map (·.2) = [assign (.Subscript (.Attribute (.Name x px) f pos') b pt) X.env] := by rfl) :
    XS X W (.Assign [.Subscript (.Attribute (.Name x px) f pos') b pt] e pos) ds (.nx (ds.set i (.ob C oa (fs.set k (f, .ow ob (xs.set j d)))))) := .mk fun G S0 S H σ E Z q =>
  ws_of (ps_asg pe_w (pg_sub (pe_fld (pe_var (i := i) hN hv h1 h2) hbs) pe_w set_list ha) hs hw h3) (he G S0 S H σ E _ fun v S' H' g r => by
    have E' := E.grow g
    obtain ⟨p, dx, fv, a, vs, hσ, hp, hl, _, ha, ra, _, _⟩ := E'.fldo hd (look_at (hn ▸ nd) hk)
    refine ⟨.ref p, hσ, p, C, dx, fv, _, rfl, hp, c, n, hl, hb G S0 S' H' σ E' _ fun kv S2 H2 g2 rk => ?_⟩
    cases rk
    have E2 := E'.grow g2
    obtain ⟨p', dx', fv', a', vs', hσ', hp', hl', hz', ha', ra', _, mt⟩ := E2.fldo hd (look_at (hn ▸ nd) hk)
    rw [hσ] at hσ'
    cases hσ'
    rw [g2.h _ _ hp] at hp'
    cases hp'
    rw [hl] at hl'
    cases hl'
    have q2 := mt (vs'.set j v) (xs.set j d) ob (da_set j ra' (dp_same g2.s r)) hz'
    rw [putI_at (hn ▸ nd) hk] at q2
    exact ⟨a, vs', m, j, rfl, rfl, ha', by rw [da_len ra']; exact hj, q _ S2 _ q2⟩)
/-- x.f.append(e) -/
theorem xs_fldApp (i k : Nat) {pa pc : Pos} (he : XV X e ds d) (c : Cls X.K C) (n : NoAttr X.K C f) (hz : xs.length < 100000) (hd : ds[i]? = some (.ob C oa fs) := by rfl) (hk : fs[k]? = some (f, .ow ob xs) := by rfl) {FN : List Str} (nd : FN.Nodup) (hn : fs.map (·.1) = FN := by rfl)
    (hN : X.N[i]? = some x := by rfl) (hv : Vis X.env.scope x := by first | exact Or.inl rfl | exact Or.inr (Or.inl rfl) | exact Or.inr (Or.inr rfl))
    (h1 : (x == ("__debug__" : Str)) = false := by decide) (h2 : (x == ("__classdict__" : Str)) = false := by decide) (hbs : attributeBase (.Name x px) f X.env (eval (.Name x px) X.env) = eval (.Name x px) X.env := by rfl)
    (hbase : attributeBase (.Attribute (.Name x px) f pos') "append" X.env (eval (.Attribute (.Name x px) f pos') X.env) = eval (.Attribute (.Name x px) f pos') X.env := by rfl)
    (hline : (pa.endLine == pc.line) = true := by rfl) (hst : isStar e = false := by rfl)
    (hsw : swapsWith (.Call (.Attribute (.Attribute (.Name x px) f pos') "append" pa) [e] [] pc) none pos.line X.env = pure false := by rfl) :
    XS X W (.Expr (.Call (.Attribute (.Attribute (.Name x px) f pos') "append" pa) [e] [] pc) pos) ds (.nx (ds.set i (.ob C oa (fs.set k (f, .ow ob (xs ++ [d])))))) := .mk fun G S0 S H σ E Z q => by
  refine ws_of (ps_expr (pe_bm PySem.F.plainAttrs_list PySem.F.slot_list_append PySem.F.type_list_append (fun pins s σ H x xs v us Q I rx rv h => mt_append pins s σ H x xs v us Q I rx rv h) (pe_fld (pe_var (i := i) hN hv h1 h2) hbs) (pa_cons pe_w pa_nil (se hst)) hbase (sfew (by simp [hst]) (by simp)) hline (se hst) (spl rfl)) hsw) ?_
  obtain ⟨p, dx, fv, a, vs, hσ, hp, hl, _, ha, ra, _, _⟩ := E.fldo hd (look_at (hn ▸ nd) hk)
  refine ⟨.ref p, hσ, p, C, dx, fv, _, rfl, hp, c, n, hl, ty_list ha, he G S0 S H σ E _ fun v S2 H2 g2 r => ?_⟩
  have E2 := E.grow g2
  obtain ⟨p', dx', fv', a', vs', hσ', hp', hl', hz', ha', ra', _, mt⟩ := E2.fldo hd (look_at (hn ▸ nd) hk)
  rw [hσ] at hσ'
  cases hσ'
  rw [g2.h _ _ hp] at hp'
  cases hp'
  rw [hl] at hl'
  cases hl'
  have q2 := mt (vs' ++ [v]) (xs ++ [d]) ob (da_append ra' (da_one r)) hz'
  rw [putI_at (hn ▸ nd) hk] at q2
  exact ⟨a, vs', v, rfl, rfl, ha', szlt _ (by rw [da_len ra']; exact hz), q _ S2 _ q2⟩
end
end Lay
/-! Lay15: methods; own objects made; dicts of the frame's own. -/
namespace Lay
open PySem L2
theorem passes0 {X : Cx} : Passes (L2.CX X.prog X.w) X (fun _ _ _ => False) := fun _ _ _ _ _ _ _ h => (law_cx h).elim
/-- a method of the text -/
structure Mn (K : Fg) (C : Addr) (m qual : Str) (st : Stmt) (ps : List Str) : Prop where
  ex : ∃ f fd, Meth K C m f ∧ Fun K m qual st f fd ∧ Binds K fd ps []
/-- the class x of the text, its __init__ by st -/
structure Cn (K : Fg) (mg : Str → Option Value) (x qual : Str) (C : Addr) (st : Stmt) (ps : List Str) : Prop where
  g : mg x = some (.ref C)
  cl : Cls K C
  ex : ∃ f fd, Mk K C f ∧ Fun K "__init__" qual st f fd ∧ Binds K fd ps []
/-- a method of an object that will not change -/
structure Dm (P : Program) (w : World) (K : Fg) (mg : Str → Option Value) (base : Heap) (C : Addr) (m : Str) (k : Nat) (F : Fs) : Prop where
  ex : ∃ f fd ps, Meth K C m f ∧ Binds K fd ps [] ∧ FnOk P w K mg base (L2.CX P w) k f fd ps (spF K F)
section
variable {P : Program} {w : World} {K : Fg} {mg : Str → Option Value} {base : Heap}
theorem dm_of {C : Addr} {m qual : Str} {st : Stmt} {N ps : List Str} (k : Nat) {F : Fs} (U : Mn K C m qual st ps) (S : FnScope N ps (defScope st)) (len : ∀ args r, F args r → args.length = ps.length)
    (body : ∀ (f : Addr) (cdv : Value) (A : Around) (outer : List PySem.Env) (s : Shared) (H : Hp) (E : XK) (args : List D) (r : Res), Room k (A.deeper (PyProof.Rows.envOfC qual (defScope st) s.heap.objs.size f cdv)) →
      Takes (cxOf (L2.CX P w) P w K mg base N qual (defScope st) f cdv A outer s H E) (fun cls d _ H => E cls d H) →
      PassesOwn (model P w) (A.deeper (PyProof.Rows.envOfC qual (defScope st) s.heap.objs.size f cdv)) (PyProof.Rows.envOfC qual (defScope st) s.heap.objs.size f cdv) (cxOf (L2.CX P w) P w K mg base N qual (defScope st) f cdv A outer s H E).xe → F args r →
      XF (cxOf (L2.CX P w) P w K mg base N qual (defScope st) f cdv A outer s H E) (fun cls d _ H => E cls d H) (defBody st) (ctx0 N.length args) r) : Dm P w K mg base C m (k + 1) F := by
  obtain ⟨f, fd, hm, hf, hb⟩ := U.ex
  exact ⟨f, fd, ps, hm, hb, fn_ok hf S len fun cdv A outer s H E args r hr hF => body f cdv A outer s H E args r hr (takes_of rfl rfl rfl rfl) (passes_of rfl) hF⟩
end
section
variable {X : Cx} {W : WX} {e o : Expr} {es : List Expr} {ds : List It} {pos apos : Pos} {d : D} {args : List D} {m : Str} {C : Addr} {k : Nat} {F : Fs} {fs : List (Str × D)} {pl : Sem Bool} {FN : List Str}
theorem xv_meth (T : Dm X.prog X.w X.K X.mg X.base C m k F) (c : Cls X.K C) (hr : Room k X.A) (he : XV X o ds (.ins C fs)) (ha : XA X (e :: es) ds args) (hF : F (.ins C fs :: args) (.ok d)) (hn : fs.map (·.1) = FN := by rfl) (hm : m ∉ FN := by decide +kernel)
    (hst : starEach (e :: es) X.env = (false, eval e X.env) :: starEach es X.env := by exact se rfl) (hpl : (backTo pos (starEach es X.env)).any (·.1) = false := by exact spl rfl)
    (ht : eval (.Call (.Attribute o m apos) (e :: es) [] pos) X.env = (do
      let ov ← eval o X.env
      standAt apos.atName
      let (f, first) ← holding [ov] (getMethod ov m pl)
      callWith pos f first (backTo pos (starEach (e :: es) X.env)) (backToKw pos (keywordEach [] X.env))) := by rfl) : XV X (.Call (.Attribute o m apos) (e :: es) [] pos) ds d := .mk fun G S0 S H σ E Q q => by
  obtain ⟨f, fd, ps, hm', hb, fo⟩ := T.ex
  refine we_of (pe_meth pe_w c hm' fo hr hb .nil passes0 pa_w hst hpl ht) (he G S0 S H σ E _ fun v S1 H1 g1 r1 => ?_)
  cases r1 with
  | @ins a _ dx fv _ h rf =>
    refine ⟨a, dx, fv, rfl, g1.sh _ _ h, rpF_none rf (look_no (by rw [hn]; exact hm)), ha G S0 S1 H1 σ (E.grow g1) _ fun vs S2 H2 g2 r2 => ?_⟩
    rw [List.append_nil]
    exact ⟨S2, .ins C fs :: args, .ok d, g2.sh, .cons (.ins (g2.s _ _ h) (df_same g2.s rf)) r2, hF, fun v S' H' g' r => q v S' H' ((g1.trans g2).trans g') r⟩
theorem xv_meth0 (T : Dm X.prog X.w X.K X.mg X.base C m k F) (c : Cls X.K C) (hr : Room k X.A) (he : XV X o ds (.ins C fs)) (hF : F [.ins C fs] (.ok d)) (hn : fs.map (·.1) = FN := by rfl) (hm : m ∉ FN := by decide +kernel)
    (ht : eval (.Call (.Attribute o m apos) [] [] pos) X.env = (do
      let ov ← eval o X.env
      standAt apos.atName
      let (f, first) ← holding [ov] (getMethod ov m pl)
      callWith pos f first (backTo pos (starEach [] X.env)) (backToKw pos (keywordEach [] X.env))) := by rfl) : XV X (.Call (.Attribute o m apos) [] [] pos) ds d := .mk fun G S0 S H σ E Q q => by
  obtain ⟨f, fd, ps, hm', hb, fo⟩ := T.ex
  refine we_of (pe_meth0 pe_w c hm' fo hr hb .nil passes0 ht) (he G S0 S H σ E _ fun v S1 H1 g1 r1 => ?_)
  cases r1 with
  | @ins a _ dx fv _ h rf =>
    refine ⟨a, dx, fv, rfl, g1.sh _ _ h, rpF_none rf (look_no (by rw [hn]; exact hm)), ?_⟩
    exact ⟨S1, [.ins C fs], .ok d, g1.sh, .cons (.ins h rf) .nil, hF, fun v S' H' g' r => q v S' H' (g1.trans g') r⟩
end
/-! ### methods of an object that they change -/
abbrev Ofs := List D → List (Str × FI) → List (Str × FI) → D → Prop
def lessL (as : List Addr) (H : Hp) : Hp := fun b => if b ∈ as then none else H b
theorem lessL_in {as : List Addr} {H : Hp} {b : Addr} (h : b ∈ as) : lessL as H b = none := if_pos h
theorem lessL_no {as : List Addr} {H : Hp} {b : Addr} (h : b ∉ as) : lessL as H b = H b := if_neg h
theorem lessL_same {as : List Addr} {H : Hp} : Same (lessL as H) H := fun b u e => by
  by_cases z : b ∈ as
  · rw [lessL_in z] at e; cases e
  · rw [lessL_no z] at e; exact e
def spO (K : Fg) (C : Addr) (F : Ofs) : Sp := fun vs H Q E => ∃ S a dx vs' args fs fs' d fv bs, vs = .ref a :: vs' ∧ H a = some (.ins C dx fv) ∧ FsR K S H fs fv bs ∧ (a :: bs).Nodup ∧ (∀ x ∈ a :: bs, S x = none) ∧ Same S H ∧ RpA K S vs' args ∧ F args fs fs' d ∧
  ∀ v S' H' dx' fv' bs', Fnl (lessL (a :: bs) H) S S' H' → (a :: bs').Nodup → (∀ x ∈ a :: bs', S' x = none ∧ lessL (a :: bs) H x = none) → H' a = some (.ins C dx' fv') → FsR K S' H' fs' fv' bs' → Rp K S' v d → Q v H'
theorem env_startG {K : Fg} {G S H : Hp} (k : Same S H) (kG : Same G H) {N : List Str} {vs : List V} {args : List D} (r : RpA K S vs args) : EnvA K G S S H (L2.start N vs) (ctx0 N.length args) (fun _ => []) := by
  refine ⟨k, kG, Same.refl _, fun _ _ => rfl, ?_, fun i it hi => ?_, fun _ => .nil, fun i j a h => (by cases h), fun i a h => (by cases h)⟩
  · simp [L2.start, ctx0, da_len r]
  · unfold ctx0 at hi
    by_cases h : i < args.length
    · rw [List.getElem?_append_left (by simpa using h), List.getElem?_map] at hi
      rw [List.getElem?_eq_getElem h] at hi
      cases hi
      obtain ⟨v, hv, rv⟩ := da_get r (List.getElem?_eq_getElem h)
      have hl := da_len r
      have e : (L2.start N vs)[i]? = some (some v) := by
        unfold L2.start
        rw [List.getElem?_append_left (by simpa [hl] using h), List.getElem?_map, hv]
        rfl
      rw [e]
      exact .fz rv
    · rw [List.getElem?_append_right (by simpa using h), List.getElem?_replicate] at hi
      split at hi
      · cases hi; exact .no _
      · cases hi
/-- the slots at the entry of a method of an own object -/
def ctxO (n : Nat) (C a : Addr) (fs : List (Str × FI)) (args : List D) : List It := (ctx0 n (.non :: args)).set 0 (.ob C (some a) fs)
theorem env_obj {K : Fg} {S H : Hp} {a C dx : Addr} {fs : List (Str × FI)} {fv : List (Str × V)} {bs : List Addr} (k : Same S H) (ha : H a = some (.ins C dx fv)) (rf : FsR K S H fs fv bs) (nd : (a :: bs).Nodup) (hS : ∀ x ∈ a :: bs, S x = none) {N : List Str} {vs : List V} {args : List D} (r : RpA K S vs args) :
    Env K (lessL (a :: bs) H) S S H (L2.start N (.ref a :: vs)) (ctxO N.length C a fs args) := by
  have e := env_startG (N := N) k (lessL_same (as := a :: bs)) (.cons .non r)
  have q := e.put (S' := S) (H' := H) 0 (it := .ob C (some a) fs) (v := some (.ref a)) (as := a :: bs) (Same.refl _) k lessL_same (fun _ _ => rfl) (.ob (fun b hb => by cases hb; rfl) ha rf) nd (fun j b _ hb => by cases hb) (fun b hb =>
    ⟨hS b hb, lessL_in hb, fun j _ hj => by cases hj⟩)
  exact ⟨_, q⟩
def FitsO (C a : Addr) (fs' : List (Str × FI)) (d : D) : Ou → Prop
  | .nx ds => d = .non ∧ ∃ rest, ds = .ob C (some a) fs' :: rest
  | .rs d' it => d = d' ∧ it = .ob C (some a) fs'
  | _ => False
theorem FO.nx {X : Cx} {W : WX} {body : List Stmt} {ds rest : List It} {C a : Addr} {fs' : List (Str × FI)} (h : XSs X W body ds (.nx (.ob C (some a) fs' :: rest))) : ∃ o, XSs X W body ds o ∧ FitsO C a fs' .non o := ⟨_, h, rfl, rest, rfl⟩
theorem FO.rs {X : Cx} {W : WX} {body : List Stmt} {ds : List It} {C a : Addr} {fs' : List (Str × FI)} {d : D} (h : XSs X W body ds (.rs d (.ob C (some a) fs'))) : ∃ o, XSs X W body ds o ∧ FitsO C a fs' d o := ⟨_, h, rfl, rfl⟩
/-- a method that changes its object -/
structure Do (P : Program) (w : World) (K : Fg) (mg : Str → Option Value) (base : Heap) (C : Addr) (m : Str) (k : Nat) (F : Ofs) : Prop where
  ex : ∃ f fd ps, Meth K C m f ∧ Binds K fd ps [] ∧ FnOk P w K mg base (L2.CX P w) k f fd ps (spO K C F)
/-- a class, its __init__ by F -/
structure Dc (P : Program) (w : World) (K : Fg) (mg : Str → Option Value) (base : Heap) (x : Str) (C : Addr) (k : Nat) (F : Ofs) : Prop where
  ex : ∃ f fd ps, mg x = some (.ref C) ∧ Mk K C f ∧ Binds K fd ps [] ∧ FnOk P w K mg base (L2.CX P w) k f fd ps (spO K C F)
section
variable {P : Program} {w : World} {K : Fg} {mg : Str → Option Value} {base : Heap} {C : Addr} {m qual : Str} {st : Stmt} {N ps : List Str} {F : Ofs}
theorem obj_ok {x : Str} {f : Addr} {fd : FuncData} {k : Nat} (U : Fun K x qual st f fd) (S : FnScope N ps (defScope st)) (len : ∀ args fs fs' d, F args fs fs' d → args.length + 1 = ps.length)
    (body : ∀ (cdv : Value) (A : Around) (outer : List PySem.Env) (s : Shared) (H : Hp) (E : XK) (a : Addr) (args : List D) (fs fs' : List (Str × FI)) (d : D), Room k (A.deeper (PyProof.Rows.envOfC qual (defScope st) s.heap.objs.size f cdv)) →
      Takes (cxOf (L2.CX P w) P w K mg base N qual (defScope st) f cdv A outer s H E) (fun cls d _ H => E cls d H) →
      PassesOwn (model P w) (A.deeper (PyProof.Rows.envOfC qual (defScope st) s.heap.objs.size f cdv)) (PyProof.Rows.envOfC qual (defScope st) s.heap.objs.size f cdv) (cxOf (L2.CX P w) P w K mg base N qual (defScope st) f cdv A outer s H E).xe → F args fs fs' d →
      ∃ o, XSs (cxOf (L2.CX P w) P w K mg base N qual (defScope st) f cdv A outer s H E) (fun cls d _ H => E cls d H) (defBody st) (ctxO N.length C a fs args) o ∧ FitsO C a fs' d o) : FnOk P w K mg base (L2.CX P w) (k + 1) f fd ps (spO K C F) := by
  refine U.okX S (fun vs H Q E ⟨S, a, dx, vs', args, fs, fs', d, fv, bs, e, _, _, _, _, _, ra, hf, _⟩ => by rw [e, List.length_cons, da_len ra]; exact len args fs fs' d hf) fun cdv A outer s H vs Q E hr ⟨S, a, dx, vs', args, fs, fs', d, fv, bs, e, ha, rf, nd, hS, ks, ra, hf, q⟩ => ?_
  subst e
  obtain ⟨o, ho, ht⟩ := body cdv A outer s H E a args fs fs' d hr (takes_of rfl rfl rfl rfl) (passes_of rfl) hf
  refine ⟨_, pss_w, ho (lessL (a :: bs) H) S S H _ (env_obj ks ha rf nd hS ra) _ ?_⟩
  have fin : ∀ {σ : L2.St} {S' H' : Hp} {rest : List It} {v : V}, Env K (lessL (a :: bs) H) S S' H' σ (.ob C (some a) fs' :: rest) → Rp K S' v d → Q v H' := fun {σ S' H' rest v} E rv => by
    obtain ⟨B, e⟩ := E
    obtain ⟨p, dx', fv', bs', _, hB, hp, hH, r⟩ := e.obj (i := 0) rfl
    have hpa := hp a rfl
    subst hpa
    have nd' := e.nd 0
    rw [hB] at nd'
    exact q v S' H' dx' fv' bs' (Env.fin ⟨B, e⟩) nd' (fun x hx => (e.fr 0 x (by rw [hB]; exact hx)).2) hH r rv
  cases o with
  | nx ds =>
    obtain ⟨h1, rest, h2⟩ := ht
    subst h1 h2
    exact fun σ S' H' E => fin E .non
  | rs d' it =>
    obtain ⟨h1, h2⟩ := ht
    subst h1 h2
    exact fun v σ S' H' ds E r => fin E r
  | _ => exact ht.elim
theorem do_of (k : Nat) (U : Mn K C m qual st ps) (S : FnScope N ps (defScope st)) (len : ∀ args fs fs' d, F args fs fs' d → args.length + 1 = ps.length)
    (body : ∀ (f : Addr) (cdv : Value) (A : Around) (outer : List PySem.Env) (s : Shared) (H : Hp) (E : XK) (a : Addr) (args : List D) (fs fs' : List (Str × FI)) (d : D), Room k (A.deeper (PyProof.Rows.envOfC qual (defScope st) s.heap.objs.size f cdv)) →
      Takes (cxOf (L2.CX P w) P w K mg base N qual (defScope st) f cdv A outer s H E) (fun cls d _ H => E cls d H) →
      PassesOwn (model P w) (A.deeper (PyProof.Rows.envOfC qual (defScope st) s.heap.objs.size f cdv)) (PyProof.Rows.envOfC qual (defScope st) s.heap.objs.size f cdv) (cxOf (L2.CX P w) P w K mg base N qual (defScope st) f cdv A outer s H E).xe → F args fs fs' d →
      ∃ o, XSs (cxOf (L2.CX P w) P w K mg base N qual (defScope st) f cdv A outer s H E) (fun cls d _ H => E cls d H) (defBody st) (ctxO N.length C a fs args) o ∧ FitsO C a fs' d o) : Do P w K mg base C m (k + 1) F := by
  obtain ⟨f, fd, hm, hf, hb⟩ := U.ex
  exact ⟨f, fd, ps, hm, hb, obj_ok hf S len (body f)⟩
theorem dc_of {x : Str} (k : Nat) (U : Cn K mg x qual C st ps) (S : FnScope N ps (defScope st)) (len : ∀ args fs fs' d, F args fs fs' d → args.length + 1 = ps.length)
    (body : ∀ (f : Addr) (cdv : Value) (A : Around) (outer : List PySem.Env) (s : Shared) (H : Hp) (E : XK) (a : Addr) (args : List D) (fs fs' : List (Str × FI)) (d : D), Room k (A.deeper (PyProof.Rows.envOfC qual (defScope st) s.heap.objs.size f cdv)) →
      Takes (cxOf (L2.CX P w) P w K mg base N qual (defScope st) f cdv A outer s H E) (fun cls d _ H => E cls d H) →
      PassesOwn (model P w) (A.deeper (PyProof.Rows.envOfC qual (defScope st) s.heap.objs.size f cdv)) (PyProof.Rows.envOfC qual (defScope st) s.heap.objs.size f cdv) (cxOf (L2.CX P w) P w K mg base N qual (defScope st) f cdv A outer s H E).xe → F args fs fs' d →
      ∃ o, XSs (cxOf (L2.CX P w) P w K mg base N qual (defScope st) f cdv A outer s H E) (fun cls d _ H => E cls d H) (defBody st) (ctxO N.length C a fs args) o ∧ FitsO C a fs' d o) : Dc P w K mg base x C (k + 1) F := by
  obtain ⟨f, fd, hm, hf, hb⟩ := U.ex
  exact ⟨f, fd, ps, U.g, hm, hb, obj_ok hf S len (body f)⟩
end
/-! ### made objects -/
section
variable {X : Cx} {W : WX} {e a b c : Expr} {es : List Expr} {ds ds' ds1 ds2 : List It} {pos p apos px : Pos} {d : D} {args xs : List D} {x y m : Str} {C : Addr} {k : Nat} {F : Ofs} {fs fs' : List (Str × FI)} {pl : Sem Bool} {FN : List Str}
/-- gives a new object -/
structure XO (X : Cx) (e : Expr) (ds : List It) (C : Addr) (fs : List (Str × FI)) : Prop where
  mk ::
  run : ∀ G S0 S H σ, Env X.K G S0 S H σ ds → ∀ Q : VK, (∀ p S' H' dx fv bs, Gr S H S' H' → (p :: bs).Nodup → (∀ x ∈ p :: bs, H x = none ∧ S' x = none) → H' p = some (.ins C dx fv) → FsR X.K S' H' fs fv bs → Q (.ref p) H') → wE X e σ H Q
instance {X : Cx} {e : Expr} {ds : List It} {C : Addr} {fs : List (Str × FI)} : CoeFun (XO X e ds C fs) (fun _ => ∀ G S0 S H σ, Env X.K G S0 S H σ ds → ∀ Q : VK, (∀ p S' H' dx fv bs, Gr S H S' H' → (p :: bs).Nodup → (∀ x ∈ p :: bs, H x = none ∧ S' x = none) → H' p = some (.ins C dx fv) → FsR X.K S' H' fs fv bs → Q (.ref p) H') → wE X e σ H Q) := ⟨XO.run⟩
theorem xo_make (T : Dc X.prog X.w X.K X.mg X.base x C k F) (hr : Room (k + 1) X.A) (ha : XA X (e :: es) ds args) (hF : F args [] fs' .non) (hg : Gl X x := by rfl) (hdb : (x == ("__debug__" : Str)) = false := by decide)
    (he : starEach (e :: es) X.env = (false, eval e X.env) :: starEach es X.env := by exact se rfl) (hpl : (backTo pos (starEach es X.env)).any (·.1) = false := by exact spl rfl) : XO X (.Call (.Name x p) (e :: es) [] pos) ds C fs' := .mk fun G S0 S H σ E Q q => by
  obtain ⟨f, fd, ps, hm, M, hb, Fo⟩ := T.ex
  refine we_of (pe_make M Fo hr hg hm hb .nil passes0 pa_w hdb he hpl) (ha G S0 S H σ E _ fun vs S1 H1 g r => fun a dx h1 h2 hne => ?_)
  have k1 : Same H1 (upd H1 dx (.own a)) := same_new h2
  have h3 : upd H1 dx (.own a) a = none := by rw [upd_ne (fun z => hne z.symm)]; exact h1
  have k2 : Same (upd H1 dx (.own a)) (upd (upd H1 dx (.own a)) a (.ins C dx [])) := same_new h3
  have hS1 : S1 a = none := g.sh.free h1
  refine ⟨S1, a, dx, vs, args, [], fs', .non, [], [], by rw [List.append_nil], upd_same, .nil, by simp, (fun x hx => by rcases List.mem_singleton.mp hx with rfl; exact hS1), (g.sh.trans k1).trans k2, r, hF, fun v S' H' dx' fv bs fn nd hfr hH rf rv => ?_⟩
  cases rv
  refine ⟨rfl, q a S' H' dx' fv bs ⟨g.s.trans fn.s0, fun b u hb => ?_, fn.sh, fun b hb => ?_⟩ nd (fun x hx => ⟨?_, (hfr x hx).1⟩) hH rf⟩
  · have hb1 := g.h _ _ hb
    have ne : b ≠ a := fun z => by rw [z, h1] at hb1; cases hb1
    exact fn.gh _ _ (by rw [lessL_no (by simpa using ne)]; exact k2 _ _ (k1 _ _ hb1))
  · have hb1 : H1 b ≠ none := Same.nn g.h hb
    have ne : b ≠ a := fun z => hb1 (by rw [z]; exact h1)
    rw [fn.gs b (by rw [lessL_no (by simpa using ne)]; exact Same.nn k2 (Same.nn k1 hb1)), g.old b hb]
  · by_cases z : x = a
    · rw [z]; exact g.h.free h1
    · have := (hfr x hx).2
      rw [lessL_no (by simpa using z)] at this
      exact g.h.free (k1.free (k2.free this))
/-- a new object of frozen fields, that will not change -/
theorem XO.v {gs : List (Str × D)} (h : XO X e ds C (allF gs)) : XV X e ds (.ins C gs) := .mk fun G S0 S H σ E Q q =>
  h G S0 S H σ E Q fun p S' H' dx fv bs g nd hf hH rf => by
    obtain ⟨h1, h2⟩ := hf p List.mem_cons_self
    exact q _ _ H' (g.freeze h1 hH h2) (.ins upd_same (df_same (same_new h2) (fsr_all rf)))
theorem XO.is (h : XO X e ds C fs) (q : fs = fs') : XO X e ds C fs' := q ▸ h
/-- y = a new object -/
theorem xs_ownO (i : Nat) {p : Pos} (hN : X.N.Nodup) (he : XO X e ds C fs) (hi : X.N[i]? = some y := by rfl) (hx : Loc X.env.scope y := by first | exact Or.inl rfl | exact Or.inr rfl) (hs : swapsWith e (some (.Name y p)) pos.line X.env = pure false := by rfl)
    (hf : X.fn y = true ∨ X.env.scope.names.lookup y = some .local := by first | exact .inl rfl | exact .inr rfl) : XS X W (.Assign [.Name y p] e pos) ds (.nx (ds.set i (.ob C none fs))) := .mk fun G S0 S H σ E Z q =>
  ws_of (ps_set hN hi hx pe_w hs hf) (he G S0 S H σ E _ fun p S' H' dx fv bs g nd hf hH rf => q _ S' H' (by
    obtain ⟨A, e0⟩ := E
    have e := e0.grow g
    exact ⟨_, e.put i (it := .ob C none fs) (as := p :: bs) (Same.refl _) e.sh e.gh e.gs (.ob (fun _ z => by cases z) hH rf) nd (fun j a _ ha => ⟨rfl, (e.fr j a ha).2.1⟩) fun a ha =>
      ⟨(hf a ha).2, e0.gh.free (hf a ha).1, fun j _ hj => e0.own hj (hf a ha).1⟩⟩))
/-! ### expressions that change the frame's objects -/
structure XM (X : Cx) (e : Expr) (ds ds' : List It) (d : D) : Prop where
  mk ::
  run : ∀ G S0 S H σ, Env X.K G S0 S H σ ds → ∀ Q : VK, (∀ v S' H', Env X.K G S0 S' H' σ ds' → Rp X.K S' v d → Q v H') → wE X e σ H Q
instance {X : Cx} {e : Expr} {ds ds' : List It} {d : D} : CoeFun (XM X e ds ds' d) (fun _ => ∀ G S0 S H σ, Env X.K G S0 S H σ ds → ∀ Q : VK, (∀ v S' H', Env X.K G S0 S' H' σ ds' → Rp X.K S' v d → Q v H') → wE X e σ H Q) := ⟨XM.run⟩
structure XMA (X : Cx) (es : List Expr) (ds ds' : List It) (ys : List D) : Prop where
  mk ::
  run : ∀ G S0 S H σ, Env X.K G S0 S H σ ds → ∀ Q : List V → Hp → Prop, (∀ vs S' H', Env X.K G S0 S' H' σ ds' → RpA X.K S' vs ys → Q vs H') → wA X es σ H Q
instance {X : Cx} {es : List Expr} {ds ds' : List It} {ys : List D} : CoeFun (XMA X es ds ds' ys) (fun _ => ∀ G S0 S H σ, Env X.K G S0 S H σ ds → ∀ Q : List V → Hp → Prop, (∀ vs S' H', Env X.K G S0 S' H' σ ds' → RpA X.K S' vs ys → Q vs H') → wA X es σ H Q) := ⟨XMA.run⟩
theorem XV.xm (h : XV X e ds d) : XM X e ds ds d := .mk fun G S0 S H σ E Q q => h G S0 S H σ E Q fun v S' H' g r => q v S' H' (E.grow g) r
theorem XA.xm (h : XA X es ds xs) : XMA X es ds ds xs := .mk fun G S0 S H σ E Q q => h G S0 S H σ E Q fun v S' H' g r => q v S' H' (E.grow g) r
theorem xma_cons (ha : XM X e ds ds1 d) (hr : XMA X es ds1 ds2 xs) (hs : starEach (e :: es) X.env = (false, eval e X.env) :: starEach es X.env := by exact se rfl) : XMA X (e :: es) ds ds2 (d :: xs) := .mk fun G S0 S H σ E Q q =>
  wa_of (pa_cons pe_w pa_w hs) (ha G S0 S H σ E _ fun v S1 H1 E1 r1 => hr G S1 S1 H1 σ E1.rebase _ fun vs S2 H2 E2 r2 => q _ S2 H2 (E2.base E1.s0 E1.gs) (.cons (dp_same E2.s0 r1) r2))
theorem XM.is {d' : D} (h : XM X e ds ds' d) (q : d = d') : XM X e ds ds' d' := q ▸ h
theorem xs_exprM (he : XM X e ds ds' d) (hs : swapsWith e none pos.line X.env = pure false := by rfl) : XS X W (.Expr e pos) ds (.nx ds') := .mk fun G S0 S H σ E Z q =>
  ws_of (ps_expr pe_w hs) (he G S0 S H σ E _ fun v S' H' E' r => q σ S' H' E')
theorem xs_setM (i : Nat) {p : Pos} (hN : X.N.Nodup) (he : XM X e ds ds' d) (hi : X.N[i]? = some y := by rfl) (hx : Loc X.env.scope y := by first | exact Or.inl rfl | exact Or.inr rfl) (hs : swapsWith e (some (.Name y p)) pos.line X.env = pure false := by rfl)
    (hf : X.fn y = true ∨ X.env.scope.names.lookup y = some .local := by first | exact .inl rfl | exact .inr rfl) : XS X W (.Assign [.Name y p] e pos) ds (.nx (ds'.set i (.fz d))) := .mk fun G S0 S H σ E Z q =>
  ws_of (ps_set hN hi hx pe_w hs hf) (he G S0 S H σ E _ fun v S' H' E' r => q _ S' H' (E'.putD i r))
theorem xs_retM (he : XM X e ds ds' d) : XS X W (.Return (some e) pos) ds (.rt d) := .mk fun G S0 S H σ E Z q =>
  ws_of (ps_ret pe_w) (he G S0 S H σ E _ fun v S' H' E' r => q v S' H' E'.fin r)
/-- behind a method of the object of slot i -/
theorem obj_after {G S0 S H : Hp} {σ : St} {A : Nat → List Addr} {i : Nat} {q : Addr} {bs : List Addr} {oa : Option Addr} (e : EnvA X.K G S0 S H σ ds A) (hA : A i = q :: bs) (hσ : σ[i]? = some (some (.ref q))) (hz : ∀ a, oa = some a → q = a)
    {S' H' : Hp} {dx' : Addr} {fv' : List (Str × V)} {bs' : List Addr} (fn : Fnl (lessL (q :: bs) H) S S' H') (nd : (q :: bs').Nodup) (hf : ∀ x ∈ q :: bs', S' x = none ∧ lessL (q :: bs) H x = none) (hH : H' q = some (.ins C dx' fv')) (rf : FsR X.K S' H' fs' fv' bs') :
    Env X.K G S0 S' H' σ (ds.set i (.ob C oa fs')) := by
  have gno : ∀ b, G b ≠ none → b ∉ q :: bs := fun b hb z => hb (e.fr i b (by rw [hA]; exact z)).2.2
  have w := e.put (S' := S') (H' := H') i (it := .ob C oa fs') (v := some (.ref q)) (as := q :: bs') fn.s0 fn.sh
    (fun b u w => fn.gh _ _ (by rw [lessL_no (gno b (by rw [w]; exact fun z => by cases z))]; exact e.gh _ _ w))
    (fun b hb => (fn.gs b (by rw [lessL_no (gno b hb)]; exact Same.nn e.gh hb)).trans (e.gs b hb)) (.ob hz hH rf) nd
    (fun j b hj hb => by
      have hno : b ∉ q :: bs := fun z => hj (e.dj j i b hb (by rw [hA]; exact z))
      have hn := e.own hb
      refine ⟨?_, ?_⟩
      · obtain ⟨u, hu⟩ := some_nn hn
        rw [hu]
        exact fn.gh _ _ (by rw [lessL_no hno]; exact hu)
      · rw [fn.gs b (by rw [lessL_no hno]; exact hn)]
        exact (e.fr j b hb).2.1)
    fun x hx => by
      obtain ⟨h1, h2⟩ := hf x hx
      by_cases z : x ∈ q :: bs
      · have hm : x ∈ A i := by rw [hA]; exact z
        exact ⟨h1, (e.fr i x hm).2.2, fun j hj hx' => hj (e.dj j i x hx' hm)⟩
      · rw [lessL_no z] at h2
        exact ⟨h1, e.gh.free h2, fun j _ hj => e.own hj h2⟩
  rw [set_get hσ] at w
  exact ⟨_, w⟩
/-- x.m(e, ..) -/
theorem xm_meth (i : Nat) {oa : Option Addr} {fs0 : List (Str × FI)} (T : Do X.prog X.w X.K X.mg X.base C m k F) (c : Cls X.K C) (hr : Room k X.A) (ha : XMA X (e :: es) ds ds1 args) (hF : F args fs fs' d) (hd : ds[i]? = some (.ob C oa fs0) := by rfl) (hd1 : ds1[i]? = some (.ob C oa fs) := by rfl)
    (hn : fs0.map (·.1) = FN := by rfl) (hm : m ∉ FN := by decide +kernel) (hN : X.N[i]? = some x := by rfl) (hv : Vis X.env.scope x := by first | exact Or.inl rfl | exact Or.inr (Or.inl rfl) | exact Or.inr (Or.inr rfl))
    (h1 : (x == ("__debug__" : Str)) = false := by decide) (h2 : (x == ("__classdict__" : Str)) = false := by decide)
    (hst : starEach (e :: es) X.env = (false, eval e X.env) :: starEach es X.env := by exact se rfl) (hpl : (backTo pos (starEach es X.env)).any (·.1) = false := by exact spl rfl)
    (ht : eval (.Call (.Attribute (.Name x px) m apos) (e :: es) [] pos) X.env = (do
      let ov ← eval (.Name x px) X.env
      standAt apos.atName
      let (f, first) ← holding [ov] (getMethod ov m pl)
      callWith pos f first (backTo pos (starEach (e :: es) X.env)) (backToKw pos (keywordEach [] X.env))) := by rfl) : XM X (.Call (.Attribute (.Name x px) m apos) (e :: es) [] pos) ds (ds1.set i (.ob C oa fs')) d := .mk fun G S0 S H σ E Q q => by
  obtain ⟨f, fd, ps, hm', hb, fo⟩ := T.ex
  refine we_of (pe_meth (pe_var (i := i) hN hv h1 h2) c hm' fo hr hb .nil passes0 pa_w hst hpl ht) ?_
  obtain ⟨A0, e0⟩ := id E
  obtain ⟨p, dx, fv, bs, hσ, _, _, hp, rf⟩ := e0.obj hd
  refine ⟨.ref p, hσ, p, dx, fv, rfl, hp, fsr_none rf (look_no (by rw [hn]; exact hm)), ha G S0 S H σ E _ fun vs S1 H1 E1 r1 => ?_⟩
  obtain ⟨A, e⟩ := E1
  obtain ⟨p', dx', fv', bs', hσ', hA, hz, hp', rf'⟩ := e.obj hd1
  rw [hσ] at hσ'
  cases hσ'
  have nd := e.nd i
  rw [hA] at nd
  rw [List.append_nil]
  exact ⟨S1, p, dx', vs, args, fs, fs', d, fv', bs', rfl, hp', rf', nd, fun x hx => (e.fr i x (by rw [hA]; exact hx)).2.1, e.sh, r1, hF, fun v S' H' dx2 fv2 bs2 fn nd2 hf2 hH rf2 rv => q v S' H' (obj_after e hA hσ hz fn nd2 hf2 hH rf2) rv⟩
/-- x.m() -/
theorem xm_meth0 (i : Nat) {oa : Option Addr} (T : Do X.prog X.w X.K X.mg X.base C m k F) (c : Cls X.K C) (hr : Room k X.A) (hF : F [] fs fs' d) (hd : ds[i]? = some (.ob C oa fs) := by rfl)
    (hn : fs.map (·.1) = FN := by rfl) (hm : m ∉ FN := by decide +kernel) (hN : X.N[i]? = some x := by rfl) (hv : Vis X.env.scope x := by first | exact Or.inl rfl | exact Or.inr (Or.inl rfl) | exact Or.inr (Or.inr rfl))
    (h1 : (x == ("__debug__" : Str)) = false := by decide) (h2 : (x == ("__classdict__" : Str)) = false := by decide)
    (ht : eval (.Call (.Attribute (.Name x px) m apos) [] [] pos) X.env = (do
      let ov ← eval (.Name x px) X.env
      standAt apos.atName
      let (f, first) ← holding [ov] (getMethod ov m pl)
      callWith pos f first (backTo pos (starEach [] X.env)) (backToKw pos (keywordEach [] X.env))) := by rfl) : XM X (.Call (.Attribute (.Name x px) m apos) [] [] pos) ds (ds.set i (.ob C oa fs')) d := .mk fun G S0 S H σ E Q q => by
  obtain ⟨f, fd, ps, hm', hb, fo⟩ := T.ex
  refine we_of (pe_meth0 (pe_var (i := i) hN hv h1 h2) c hm' fo hr hb .nil passes0 ht) ?_
  obtain ⟨A, e⟩ := id E
  obtain ⟨p, dx, fv, bs, hσ, hA, hz, hp, rf⟩ := e.obj hd
  have nd := e.nd i
  rw [hA] at nd
  refine ⟨.ref p, hσ, p, dx, fv, rfl, hp, fsr_none rf (look_no (by rw [hn]; exact hm)), ?_⟩
  exact ⟨S, p, dx, [], [], fs, fs', d, fv, bs, rfl, hp, rf, nd, fun x hx => (e.fr i x (by rw [hA]; exact hx)).2.1, e.sh, .nil, hF, fun v S' H' dx2 fv2 bs2 fn nd2 hf2 hH rf2 rv => q v S' H' (obj_after e hA hσ hz fn nd2 hf2 hH rf2) rv⟩
end
/-! ### dicts of the frame's own, keys whole numbers -/
section
variable {K : Fg} {S : Hp}
theorem dkr_val {n : Int} : ∀ {ds : List (Int × D)} {kvs : List (Key × V)}, DkR K S ds kvs → (∀ d, ds.lookup n = some d → ∃ v, valV kvs (.inl n) = some v ∧ Rp K S v d) ∧ (ds.lookup n = none → valV kvs (.inl n) = none)
  | _, _, .nil => ⟨(fun d h => by cases h), (fun _ => rfl)⟩
  | (m, x) :: ds, _, .cons (v := v) r t => by
    obtain ⟨h1, h2⟩ := dkr_val (n := n) t
    by_cases e : n = m
    · subst e
      refine ⟨fun d h => ?_, fun h => ?_⟩
      · simp only [List.lookup, beq_self_eq_true] at h
        cases h
        exact ⟨v, valV_pos rfl, r⟩
      · simp only [List.lookup, beq_self_eq_true] at h
        cases h
    · have e1 : (n == m) = false := by simp [e]
      have e2 : ¬ ((Sum.inl m, v) : Key × V).1 = .inl n := fun z => e (Sum.inl.inj z).symm
      refine ⟨fun d h => ?_, fun h => ?_⟩
      · simp only [List.lookup, e1] at h
        rw [valV_neg e2]
        exact h1 d h
      · simp only [List.lookup, e1] at h
        rw [valV_neg e2]
        exact h2 h
theorem dkr_snoc {n : Int} {d : D} {v : V} (r : Rp K S v d) : ∀ {ds : List (Int × D)} {kvs : List (Key × V)}, DkR K S ds kvs → DkR K S (ds ++ [(n, d)]) (kvs ++ [(.inl n, v)])
  | _, _, .nil => .cons r .nil
  | _, _, .cons r1 t => .cons r1 (dkr_snoc r t)
theorem dkr_put {n : Int} {d : D} {v : V} {ds : List (Int × D)} {kvs : List (Key × V)} (h : DkR K S ds kvs) (r : Rp K S v d) (hn : ds.lookup n = none) : DkR K S (ds ++ [(n, d)]) (putK kvs (.inl n) v) := by
  unfold putK
  rw [valV_any, (dkr_val h).2 hn]
  rw [if_neg (by simp)]
  exact dkr_snoc r h
theorem dkr_len : ∀ {ds : List (Int × D)} {kvs : List (Key × V)}, DkR K S ds kvs → kvs.length = ds.length
  | _, _, .nil => rfl
  | _, _, .cons _ t => by rw [List.length_cons, List.length_cons, dkr_len t]
end
section
variable {X : Cx} {W : WX} {e a b c : Expr} {ds : List It} {pos px pos' : Pos} {d : D} {x y : Str} {kvs : List (Int × D)} {n : Int}
/-- y = {a: b} -/
theorem xs_dict1 (i : Nat) {p pd : Pos} (hN : X.N.Nodup) (ha : XV X a ds (.int n)) (hb : XV X b ds d) (hi : X.N[i]? = some y := by rfl) (hx : Loc X.env.scope y := by first | exact Or.inl rfl | exact Or.inr rfl) (hs : swapsWith (.Dict [some a] [b] pd) (some (.Name y p)) pos.line X.env = pure false := by rfl)
    (hf : X.fn y = true ∨ X.env.scope.names.lookup y = some .local := by first | exact .inl rfl | exact .inr rfl) : XS X W (.Assign [.Name y p] (.Dict [some a] [b] pd) pos) ds (.nx (ds.set i (.dk [(n, d)]))) := .mk fun G S0 S H σ E Z q =>
  ws_of (ps_set hN hi hx (pe_disp (pps_cons pe_w pe_w pps_nil) rfl rfl (by simp) (by simp)) hs hf) fun u hu => by
    have g0 : Gr S H S (upd H u (.dK [])) := Gr.newH E.sh hu
    refine ha G S0 S _ σ (E.grow g0) _ fun v S1 H1 g1 r1 => hb G S0 S1 H1 σ ((E.grow g0).grow g1) _ fun z S2 H2 g2 r2 => ?_
    cases r1
    have g := (g0.trans g1).trans g2
    have h2 : H2 u = some (.dK []) := g2.h _ _ (g1.h _ _ upd_same)
    have su : S2 u = none := by
      rw [g2.old u (by rw [g1.h _ _ upd_same]; exact fun z => by cases z), g1.old u (by rw [upd_same]; exact fun z => by cases z)]
      exact E.sh.free hu
    refine ⟨h2, [(.inl n, z)], rfl, by simp, q _ S2 _ ?_⟩
    have g3 : Gr S H S2 (upd H2 u (.dK (mergeK [] [(.inl n, z)]))) := by
      refine ⟨g.s, fun b w hb => ?_, fun b w hb => ?_, g.old⟩
      · rw [upd_ne (fun z => by rw [z, hu] at hb; cases hb)]; exact g.h _ _ hb
      · rw [upd_ne (fun z => by rw [z, su] at hb; cases hb)]; exact g.sh _ _ hb
    exact E.put1 g3 i hu su (.dk upd_same (.cons r2 .nil))
/-- e in x, e not in x -/
theorem dk_has (i : Nat) (hu : X.A.units + 64 < cLine) (ha : XV X a ds (.int n)) {G S0 S H : Hp} {σ : St} (E : Env X.K G S0 S H σ ds) (hd : ds[i]? = some (.dk kvs)) {Q : VK} (q : ∀ S' H', Gr S H S' H' → Q (.bl (!(kvs.lookup n).isSome)) H') (hN : X.N[i]? = some x) (hv : Vis X.env.scope x) (h1 : (x == ("__debug__" : Str)) = false) (h2 : (x == ("__classdict__" : Str)) = false) : tDNotIn (wE X a) (tVar i) σ H Q :=
  ha G S0 S H σ E _ fun v S1 H1 g1 r1 => by
    cases r1
    obtain ⟨p, vs, hσ, hp, _, _, dk⟩ := (E.grow g1).dk hd
    refine ⟨.ref p, hσ, p, _, rfl, DGet.k (k := .inl n) hp, ?_⟩
    have e : (valV vs (.inl n)).isSome = (kvs.lookup n).isSome := by
      cases h : kvs.lookup n with
      | none => rw [(dkr_val dk).2 h]; rfl
      | some d => obtain ⟨v, hv, _⟩ := (dkr_val dk).1 d h; rw [hv]; rfl
    rw [e]
    exact q S1 H1 g1
theorem xt_dnin (i : Nat) (hu : X.A.units + 64 < cLine) (ha : XV X a ds (.int n)) (hd : ds[i]? = some (.dk kvs) := by rfl) (hN : X.N[i]? = some x := by rfl) (hv : Vis X.env.scope x := by first | exact Or.inl rfl | exact Or.inr (Or.inl rfl) | exact Or.inr (Or.inr rfl)) (h1 : (x == ("__debug__" : Str)) = false := by decide) (h2 : (x == ("__classdict__" : Str)) = false := by decide)
    (hm : behindInMarks .NotIn (.Name x px) = false := by rfl) : XT X (.Compare a [.NotIn] [.Name x px] pos) ds (!(kvs.lookup n).isSome) := .mk fun G S0 S H σ E Q q =>
  wt_of (pt_cmp (pc_dnotin (by omega) pe_w (pe_var (i := i) hN hv h1 h2)) hm) (dk_has i hu ha E hd (fun S' H' g => ⟨_, rfl, q S' H' g⟩) hN hv h1 h2)
theorem xv_dnin (i : Nat) (hu : X.A.units + 64 < cLine) (ha : XV X a ds (.int n)) (hd : ds[i]? = some (.dk kvs) := by rfl) (hN : X.N[i]? = some x := by rfl) (hv : Vis X.env.scope x := by first | exact Or.inl rfl | exact Or.inr (Or.inl rfl) | exact Or.inr (Or.inr rfl)) (h1 : (x == ("__debug__" : Str)) = false := by decide) (h2 : (x == ("__classdict__" : Str)) = false := by decide)
    (hm : behindInMarks .NotIn (.Name x px) = false := by rfl) : XV X (.Compare a [.NotIn] [.Name x px] pos) ds (.bl (!(kvs.lookup n).isSome)) := .mk fun G S0 S H σ E Q q =>
  we_of (pe_cmp (pc_dnotin (by omega) pe_w (pe_var (i := i) hN hv h1 h2)) hm) (dk_has i hu ha E hd (fun S' H' g => q _ S' H' g (.bl _)) hN hv h1 h2)
/-- x[e] -/
theorem xv_dget (i : Nat) (hu : X.A.units + 64 < cLine) (ha : XV X a ds (.int n)) (hk : kvs.lookup n = some d) (hd : ds[i]? = some (.dk kvs) := by rfl) (hN : X.N[i]? = some x := by rfl) (hv : Vis X.env.scope x := by first | exact Or.inl rfl | exact Or.inr (Or.inl rfl) | exact Or.inr (Or.inr rfl)) (h1 : (x == ("__debug__" : Str)) = false := by decide) (h2 : (x == ("__classdict__" : Str)) = false := by decide)
    (hs : NoSl a := by exact fun _ _ => rfl) : XV X (.Subscript (.Name x px) a pos) ds d := .mk fun G S0 S H σ E Q q => by
  refine we_of (pe_dget (by omega) (pe_var (i := i) hN hv h1 h2) pe_w hs) ?_
  obtain ⟨p, vs, hσ, hp, _, _, _⟩ := E.dk hd
  refine ⟨.ref p, hσ, ha G S0 S H σ E _ fun v S1 H1 g1 r1 => ?_⟩
  cases r1
  obtain ⟨p', vs', hσ', hp', _, _, dk⟩ := (E.grow g1).dk hd
  rw [hσ] at hσ'
  cases hσ'
  obtain ⟨v, hv', rv⟩ := (dkr_val dk).1 d hk
  exact ⟨p, v, rfl, by rw [← hv']; exact DGet.k (k := .inl n) hp', q v S1 H1 g1 rv⟩
/-- x[a] = e, a new key -/
theorem xs_dput (i : Nat) (hu : X.A.units + 64 < cLine) (he : XV X e ds d) (ha : XV X a ds (.int n)) (hk : kvs.lookup n = none) (hz : kvs.length < 100000) (hd : ds[i]? = some (.dk kvs) := by rfl) (hN : X.N[i]? = some x := by rfl) (hv : Vis X.env.scope x := by first | exact Or.inl rfl | exact Or.inr (Or.inl rfl) | exact Or.inr (Or.inr rfl)) (h1 : (x == ("__debug__" : Str)) = false := by decide) (h2 : (x == ("__classdict__" : Str)) = false := by decide)
    (hs : swapsWith e (some (.Subscript (.Name x px) a pos')) pos.line X.env = pure false := by rfl) : XS X W (.Assign [.Subscript (.Name x px) a pos'] e pos) ds (.nx (ds.set i (.dk (kvs ++ [(n, d)])))) := .mk fun G S0 S H σ E Z q =>
  ws_of (ps_dput (by omega) (pe_var (i := i) hN hv h1 h2) pe_w pe_w hs) (he G S0 S H σ E _ fun v S1 H1 g1 r1 => by
    obtain ⟨p, vs, hσ, hp, _, _, _⟩ := (E.grow g1).dk hd
    refine ⟨.ref p, hσ, ha G S0 S1 H1 σ (E.grow g1) _ fun w S2 H2 g2 r2 => ?_⟩
    cases r2
    have E2 := (E.grow g1).grow g2
    obtain ⟨p', vs', hσ', hp', _, _, dk⟩ := E2.dk hd
    rw [hσ] at hσ'
    cases hσ'
    exact ⟨p, _, rfl, DPut.k (k := .inl n) hp' (szlt _ (by rw [dkr_len dk]; exact hz)), q _ S2 _ (E2.mutK hd hσ (dkr_put dk (dp_same g2.s r1) hk))⟩)
end
/-! ### what the head tells of a class -/
section
variable {K : Fg} {h : Heap} {mg : Str → Option Value} {C : Addr}
theorem na_mk {f : Str} (a : PySem.W.findIn K (.ref C) f = some none) : NoAttr K C f := a
theorem mn_mk {m qual : Str} {st : Stmt} {ps : List Str} {f : Addr} {oc : Value} {od an : Option Addr} {osl : Array (Option Value)} {kV doc pm cdv ct : Value}
    (a : PySem.W.findIn K (.ref C) m = some (some (.ref f))) (i : PySem.W.isFn K (.ref f) = true) (l : K.lookup f = some ⟨oc, od, .func (PySem.W.fnOf m qual (defArgs st) (defBody st) (defScope st) .none kV doc pm an cdv ct), osl⟩) (c : PySem.W.codeIn K cdv qual = true) (k : PySem.W.keepIn K (.ref f) = true)
    (b : ∀ (kV doc pm : Value) (an : Option Addr) (cdv ct : Value) (us : List Value), us.length = ps.length → bindArgs (PySem.W.fnOf m qual (defArgs st) (defBody st) (defScope st) .none kV doc pm an cdv ct) ⟨us, []⟩ = pure (ps.zip us)) : Mn K C m qual st ps :=
  ⟨f, _, ⟨a, i, k⟩, fun_mk l c k, (fun_mk l c k).binds b⟩
theorem cn_mk {x qual : Str} {st : Stmt} {ps : List Str} {f : Addr} {oc : Value} {od an : Option Addr} {osl : Array (Option Value)} {kV doc pm cdv ct : Value} (X : K.In h) (G : h.Ns mainGlobals mg)
    (aC : PySem.W.nsIn K mainGlobals x = some (some (.ref C))) (a : PySem.W.findIn K (.ref C) "__init__" = some (some (.ref f))) (i : PySem.W.isFn K (.ref f) = true) (l : K.lookup f = some ⟨oc, od, .func (PySem.W.fnOf "__init__" qual (defArgs st) (defBody st) (defScope st) .none kV doc pm an cdv ct), osl⟩) (c : PySem.W.codeIn K cdv qual = true) (k : PySem.W.keepIn K (.ref f) = true)
    (b : ∀ (kV doc pm : Value) (an : Option Addr) (cdv ct : Value) (us : List Value), us.length = ps.length → bindArgs (PySem.W.fnOf "__init__" qual (defArgs st) (defBody st) (defScope st) .none kV doc pm an cdv ct) ⟨us, []⟩ = pure (ps.zip us))
    (pg : PySem.W.plainGet K C Str.empty = true) (hd : PySem.W.hasDictIn K C = true) (po : PySem.W.plainOver K C = true) (sa : PySem.W.findIn K (.ref C) "__setattr__" = some (some (.builtin "object.__setattr__"))) (mk : PySem.W.makesIn K C = true) (kc : PySem.W.keepIn K (.ref C) = true) : Cn K mg x qual C st ps :=
  ⟨PySem.W.mg_of X G aC, ⟨pg, hd, po, sa⟩, f, _, ⟨mk, a, i, kc⟩, fun_mk l c k, (fun_mk l c k).binds b⟩
end
end Lay
/-! Lay16: slices, least and greatest of a list, wide numbers, in of any data. -/
namespace Lay
open PySem L2
/-- the items of xs[lo:hi] -/
def cutD {α : Type} (xs : List α) (lo hi : Option Int) : List α := (xs.drop (HT.sIx xs.length 0 lo)).take (HT.sIx xs.length xs.length hi - HT.sIx xs.length 0 lo)
theorem cutD_from {α : Type} (xs : List α) {i : Int} (h : 0 ≤ i) : cutD xs (some i) none = xs.drop i.toNat := by
  unfold cutD
  rw [HT.sIx_none]
  have e : HT.sIx xs.length 0 (some i) = min i.toNat xs.length := by
    exact if_neg (by omega)
  rw [e]
  by_cases q : i.toNat ≤ xs.length
  · rw [Nat.min_eq_left q, List.take_of_length_le (by rw [List.length_drop]; omega)]
  · rw [Nat.min_eq_right (by omega), List.drop_length, List.drop_of_length_le (by omega)]; simp
theorem cutD_to {α : Type} (xs : List α) {i : Int} (h : 0 ≤ i) : cutD xs none (some i) = xs.take i.toNat := by
  unfold cutD
  have e : HT.sIx xs.length xs.length (some i) = min i.toNat xs.length := by
    exact if_neg (by omega)
  rw [HT.sIx_none, e, List.drop_zero, Nat.sub_zero]
  by_cases q : i.toNat ≤ xs.length
  · rw [Nat.min_eq_left q]
  · rw [Nat.min_eq_right (by omega), List.take_length, List.take_of_length_le (by omega)]
theorem cutD_init {α : Type} (xs : List α) : cutD xs none (some (-1)) = xs.dropLast := by
  unfold cutD
  have e : HT.sIx xs.length xs.length (some (-1)) = xs.length - 1 := by
    show (if (-1 : Int) < 0 then ((-1 : Int) + (xs.length : Int)).toNat else min (-1 : Int).toNat xs.length) = _
    rw [if_pos (by decide)]; omega
  rw [HT.sIx_none, e, List.drop_zero, Nat.sub_zero, List.dropLast_eq_take]
theorem cutD_last {α : Type} (xs : List α) : cutD xs (some (-1)) none = xs.drop (xs.length - 1) := by
  unfold cutD
  have e : HT.sIx xs.length 0 (some (-1)) = xs.length - 1 := by
    show (if (-1 : Int) < 0 then ((-1 : Int) + (xs.length : Int)).toNat else min (-1 : Int).toNat xs.length) = _
    rw [if_pos (by decide)]; omega
  rw [HT.sIx_none, e, List.take_of_length_le (by rw [List.length_drop]; omega)]
theorem cutD_map {α β : Type} (f : α → β) (xs : List α) (lo hi : Option Int) : cutD (xs.map f) lo hi = (cutD xs lo hi).map f := by
  unfold cutD
  rw [List.length_map, List.map_take, List.map_drop]
theorem da_cut {K : Fg} {S : Hp} {vs : List V} {xs : List D} (lo hi : Option Int) (h : RpA K S vs xs) : RpA K S (cutV vs lo hi) (cutD xs lo hi) := by
  unfold cutV cutD
  rw [da_len h]
  exact da_take _ (da_drop _ h)
section
variable {X : Cx} {e a b c : Expr} {ds : List It} {pos p2 : Pos} {A B d : D} {i j : Int} {xs ys : List D}
def wO (X : Cx) (o : Option Expr) : TO := fun σ H Q => ∀ pins s, Inv X pins σ H s → wpAny (model X.prog X.w) X.A (evalPart o X.env) (fun u s' => ∃ o H', Inv X pins σ H' s' ∧ IsPart u o ∧ Q o H') X.xe s
theorem po_w {o : Option Expr} : PO X o (wO X o) := ⟨fun pins s _ _ _ I h => h pins s I⟩
theorem wo_of {o : Option Expr} {t : TO} (h : PO X o t) {σ : St} {H : Hp} {Q : Option Int → Hp → Prop} (q : t σ H Q) : wO X o σ H Q := fun pins s I => h.run pins s σ H Q I q
structure XP (X : Cx) (o : Option Expr) (ds : List It) (v : Option Int) : Prop where
  mk ::
  run : ∀ G S0 S H σ, Env X.K G S0 S H σ ds → ∀ Q : Option Int → Hp → Prop, (∀ S' H', Gr S H S' H' → Q v H') → wO X o σ H Q
theorem xp_none : XP X none ds none := .mk fun G S0 S H σ E Q q => wo_of po_none (q S H E.gr)
theorem xp_some (h : XV X e ds (.int i)) : XP X (some e) ds (some i) := .mk fun G S0 S H σ E Q q => wo_of (po_some pe_w) (h G S0 S H σ E _ fun v S' H' g r => by cases r; exact ⟨i, rfl, q S' H' g⟩)
/-- xs[lo:hi] -/
theorem xl_sl {lo hi : Option Expr} {l h : Option Int} (ha : XB X a ds (.lst xs)) (hl : XP X lo ds l) (hh : XP X hi ds h) : XL X (.Subscript a (.Slice lo hi none p2) pos) ds (cutD xs l h) := .mk fun G S0 S H σ E Q q =>
  we_of (pe_slice sl_list pe_w po_w po_w) (ha G S0 S H σ E _ fun v S1 H1 g1 r1 => hl.run G S0 S1 H1 σ (E.grow g1) _ fun S2 H2 g2 => hh.run G S0 S2 H2 σ ((E.grow g1).grow g2) _ fun S3 H3 g3 => by
    have g := (g1.trans g2).trans g3
    obtain ⟨p, vs, rfl, hp, ra⟩ := (r1.gr (g2.trans g3)).lst g3.sh
    exact ⟨p, vs, rfl, sq_of hp, fun n hn => q n _ S3 _ (g.trans (Gr.newH g3.sh hn)) (g.h.free hn) (g3.sh.free hn) upd_same (da_cut l h ra)⟩)
/-- t[lo:hi] of a tuple -/
theorem xv_slT {lo hi : Option Expr} {l h : Option Int} (ha : XB X a ds (.tup xs)) (hl : XP X lo ds l) (hh : XP X hi ds h) : XV X (.Subscript a (.Slice lo hi none p2) pos) ds (.tup (cutD xs l h)) := .mk fun G S0 S H σ E Q q =>
  we_of (pe_slice sl_tupA pe_w po_w po_w) (ha G S0 S H σ E _ fun v S1 H1 g1 r1 => hl.run G S0 S1 H1 σ (E.grow g1) _ fun S2 H2 g2 => hh.run G S0 S2 H2 σ ((E.grow g1).grow g2) _ fun S3 H3 g3 => by
    have g := (g1.trans g2).trans g3
    obtain ⟨p, vs, rfl, hp, ra⟩ := (r1.gr (g2.trans g3)).tup
    refine ⟨p, vs, rfl, st_of (g3.sh _ _ hp), fun hw => q _ S3 H3 g (.tup hp ?_), fun _ n hn => q _ _ _ (g.trans (Gr.new g3.sh hn)) (.tup upd_same (da_same (same_new (g3.sh.free hn)) (da_cut l h ra)))⟩
    have e : cutV vs l h = vs := by unfold cutV; rw [hw.1, hw.2, List.drop_zero, Nat.sub_zero, List.take_length]
    have := da_cut l h ra
    rw [e] at this
    exact this)
/-- xs[::-1] -/
theorem xl_rev {k : Nat} {p1 p3 p4 : Pos} (ha : XB X a ds (.lst xs)) : XL X (.Subscript a (.Slice none none (some (.UnaryOp .USub (.Constant (.int 1) k p1) p4)) p3) pos) ds xs.reverse := .mk fun G S0 S H σ E Q q =>
  we_of (pe_revL pe_w) (ha G S0 S H σ E _ fun v S1 H1 g1 r1 => by
    obtain ⟨p, vs, rfl, hp, ra⟩ := r1.lst g1.sh
    exact ⟨p, vs, rfl, sq_of hp, fun n hn => q n _ S1 _ (g1.trans (Gr.newH g1.sh hn)) (g1.h.free hn) (g1.sh.free hn) upd_same (da_reverse ra)⟩)
/-! ### least and greatest of a list -/
def lmin (ns : List Int) : Int := ns.min?.getD 0
def lmax (ns : List Int) : Int := ns.max?.getD 0
theorem lmin_of {ns : List Int} {m : Int} (h : m ∈ ns) (hl : ∀ y ∈ ns, m ≤ y) : lmin ns = m := by
  unfold lmin
  rw [List.min?_eq_some_iff.mpr ⟨h, hl⟩]; rfl
theorem lmax_of {ns : List Int} {m : Int} (h : m ∈ ns) (hl : ∀ y ∈ ns, y ≤ m) : lmax ns = m := by
  unfold lmax
  rw [List.max?_eq_some_iff.mpr ⟨h, hl⟩]; rfl
theorem lmin_spec {ns : List Int} (h : ns ≠ []) : lmin ns ∈ ns ∧ ∀ y ∈ ns, lmin ns ≤ y := by
  cases e : ns.min? with
  | none => exact absurd (List.min?_eq_none_iff.mp e) h
  | some m =>
    have := List.min?_eq_some_iff.mp e
    unfold lmin
    rw [e]; exact this
theorem lmax_spec {ns : List Int} (h : ns ≠ []) : lmax ns ∈ ns ∧ ∀ y ∈ ns, y ≤ lmax ns := by
  cases e : ns.max? with
  | none => exact absurd (List.max?_eq_none_iff.mp e) h
  | some m =>
    have := List.max?_eq_some_iff.mp e
    unfold lmax
    rw [e]; exact this
theorem xv_minL {p : Pos} {ns : List Int} (hc : X.calm = true) (hm : X.mg "min" = none) (ha : XB X e ds A) (h : A = .lst (ns.map .int)) (hne : ns ≠ []) (hg : Gl X "min" := by rfl) (hs : isStar e = false := by rfl) :
    XV X (.Call (.Name "min" p) [e] [] pos) ds (.int (lmin ns)) := by
  subst h
  exact xv_callB (cr_min hc) hm boot_min (xab_cons ha xab_nil (se hs)) (fun S H vs Q k r q => by
    obtain ⟨v, rfl, r1⟩ := rba1 r
    obtain ⟨p, vs, rfl, h1, h2⟩ := r1.lst k
    have e := da_ints h2
    subst e
    exact ⟨p, ns, rfl, sq_of h1, List.length_pos_iff.mpr hne, fun m hm hl => by rw [← lmin_of hm hl]; exact q _ S H (.refl k) (.int _)⟩) hg (he := se hs) (hpl := spl rfl)
theorem xv_maxL {p : Pos} {ns : List Int} (hc : X.calm = true) (hm : X.mg "max" = none) (ha : XB X e ds A) (h : A = .lst (ns.map .int)) (hne : ns ≠ []) (hg : Gl X "max" := by rfl) (hs : isStar e = false := by rfl) :
    XV X (.Call (.Name "max" p) [e] [] pos) ds (.int (lmax ns)) := by
  subst h
  exact xv_callB (cr_max hc) hm boot_max (xab_cons ha xab_nil (se hs)) (fun S H vs Q k r q => by
    obtain ⟨v, rfl, r1⟩ := rba1 r
    obtain ⟨p, vs, rfl, h1, h2⟩ := r1.lst k
    have e := da_ints h2
    subst e
    exact ⟨p, ns, rfl, sq_of h1, List.length_pos_iff.mpr hne, fun m hm hl => by rw [← lmax_of hm hl]; exact q _ S H (.refl k) (.int _)⟩) hg (he := se hs) (hpl := spl rfl)
/-! ### wide numbers -/
theorem xv_mulW (ha : XB X a ds (.int i)) (hb : XB X b ds (.int j)) (hc : CMulW i j) : XV X (.BinOp a .Mult b pos) ds (.int (i * j)) :=
  xv_bin op_mulW ha hb fun S H x y Q k r1 r2 q => ⟨i, j, r1.int, r2.int, hc, q _ S H (.refl k) (.int _)⟩
theorem xv_divW (ha : XB X a ds (.int i)) (hb : XB X b ds (.int j)) (hc : CDivW i j) : XV X (.BinOp a .FloorDiv b pos) ds (.int (i / j)) :=
  xv_bin op_fdivW ha hb fun S H x y Q k r1 r2 q => ⟨i, j, r1.int, r2.int, hc, q _ S H (.refl k) (.int _)⟩
/-! ### in, of data of any depth -/
theorem inD_py {A : D} : ∀ {xs : List D}, (pyAll xs).any (fun z => PyData.eqv z (py A)) = inD A xs
  | [] => rfl
  | x :: xs => by
    show (PyData.eqv (py x) (py A) || (pyAll xs).any fun z => PyData.eqv z (py A)) = (eqD x A || inD A xs)
    rw [inD_py]; rfl
theorem xv_inD (hu : X.A.units + 65 < cLine) (ha : XB X a ds A) (hb : XB X b ds (.lst xs)) (h1 : okE A = true) (h2 : okE (.lst xs) = true) (hm : behindInMarks .In b = false := by rfl) : XV X (.Compare a [.In] [b] pos) ds (.bl (inD A xs)) :=
  xv_cmp (op_inD hu) ha hb hm fun S H x y Q k r1 r2 q => ⟨py A, pyAll xs, rb_dp k r1 (okE_l h1), rb_dp k r2 (okE_l h2), okE_r h1, okE_r h2, by rw [inD_py]; exact q⟩
theorem xt_inD (hu : X.A.units + 65 < cLine) (ha : XB X a ds A) (hb : XB X b ds (.lst xs)) (h1 : okE A = true) (h2 : okE (.lst xs) = true) (hm : behindInMarks .In b = false := by rfl) : XT X (.Compare a [.In] [b] pos) ds (inD A xs) :=
  xt_cmp (op_inD hu) ha hb hm fun S H x y Q k r1 r2 q => ⟨py A, pyAll xs, rb_dp k r1 (okE_l h1), rb_dp k r2 (okE_l h2), okE_r h1, okE_r h2, by rw [inD_py]; exact q⟩
theorem xt_ninD (hu : X.A.units + 65 < cLine) (ha : XB X a ds A) (hb : XB X b ds (.lst xs)) (h1 : okE A = true) (h2 : okE (.lst xs) = true) (hm : behindInMarks .NotIn b = false := by rfl) : XT X (.Compare a [.NotIn] [b] pos) ds (!inD A xs) :=
  xt_cmp (op_notInD hu) ha hb hm fun S H x y Q k r1 r2 q => ⟨py A, pyAll xs, rb_dp k r1 (okE_l h1), rb_dp k r2 (okE_l h2), okE_r h1, okE_r h2, by rw [inD_py]; exact q⟩
theorem xv_ninD (hu : X.A.units + 65 < cLine) (ha : XB X a ds A) (hb : XB X b ds (.lst xs)) (h1 : okE A = true) (h2 : okE (.lst xs) = true) (hm : behindInMarks .NotIn b = false := by rfl) : XV X (.Compare a [.NotIn] [b] pos) ds (.bl (!inD A xs)) :=
  xv_cmp (op_notInD hu) ha hb hm fun S H x y Q k r1 r2 q => ⟨py A, pyAll xs, rb_dp k r1 (okE_l h1), rb_dp k r2 (okE_l h2), okE_r h1, okE_r h2, by rw [inD_py]; exact q⟩
/-- t + u of tuples -/
theorem xv_catT (ha : XB X a ds (.tup xs)) (hb : XB X b ds (.tup ys)) (hne : xs ≠ []) (hz : xs.length + ys.length ≤ 100000) : XV X (.BinOp a .Add b pos) ds (.tup (xs ++ ys)) :=
  xv_bin op_catT ha hb fun S H x y Q k r1 r2 q => by
    obtain ⟨p, vs, rfl, hp, ra⟩ := r1.tup
    obtain ⟨p', vs', rfl, hp', rb⟩ := r2.tup
    refine ⟨p, p', vs, vs', rfl, rfl, st_of (k _ _ hp), st_of (k _ _ hp'), fun z => hne ?_, sz _ (by rw [da_len ra, da_len rb]; exact hz), fun h0 => ?_, fun _ n hn => q _ _ _ (Gr.new k hn) (.tup upd_same (da_same (same_new (k.free hn)) (da_append ra rb)))⟩
    · rw [z] at ra; cases ra; rfl
    · rw [h0] at rb
      cases rb
      rw [List.append_nil] at q
      exact q _ S H (.refl k) (.tup hp ra)
/-! ### more -/
theorem xr_if {W : WX} {C : Addr} {k : Bool} (hc : XT X c ds k) (ha : k = true → XR X W a ds C) (hb : k = false → XR X W b ds C) : XR X W (.IfExp c a b pos) ds C := .mk fun G S0 S H σ E q Q =>
  we_of (pe_ifExp pt_w pe_w pe_w) (hc G S0 S H σ E _ fun S' H' g => by
    cases k with
    | true => rw [if_pos rfl]; exact ha rfl G S0 S' H' σ (E.grow g) (fun S2 H2 g2 => q S2 H2 (g.trans g2)) _
    | false => rw [if_neg Bool.false_ne_true]; exact hb rfl G S0 S' H' σ (E.grow g) (fun S2 H2 g2 => q S2 H2 (g.trans g2)) _)
/-- x, y = a, b -/
theorem xs_par {W : WX} {d1 d2 : D} (i j : Nat) {x y : Str} {px py pt : Pos} {kt k2 pt2} (hc : X.calm = true) (hN : X.N.Nodup) (ha : XV X a ds d1) (hb : XV X b ds d2) (hij : i ≠ j := by decide) (hi : X.N[i]? = some x := by rfl) (hj : X.N[j]? = some y := by rfl)
    (hx : X.env.scope.names.lookup x = some .local := by rfl) (hy : X.env.scope.names.lookup y = some .local := by rfl) (h1 : starEach [a, b] X.env = (false, eval a X.env) :: starEach [b] X.env := by exact se rfl) (h2 : starEach [b] X.env = (false, eval b X.env) :: starEach [] X.env := by exact se rfl)
    (hw : swappedStores [.Tuple [.Name x px, .Name y py] kt pt] (.Tuple [a, b] k2 pt2) X.env = pure (some [x, y]) := by rfl)
    (hs : swapsWithSole [.Tuple [.Name x px, .Name y py] kt pt] (.Tuple [a, b] k2 pt2) pos.line X.env = pure false := by rfl) : XS X W (.Assign [.Tuple [.Name x px, .Name y py] kt pt] (.Tuple [a, b] k2 pt2) pos) ds (.nx ((ds.set i (.fz d1)).set j (.fz d2))) := .mk fun G S0 S H σ E Z q =>
  ws_of (ps_par hc hN hi hj hij hx hy (pa_cons pe_w (pa_cons pe_w pa_nil h2) h1) hw hs) (ha G S0 S H σ E _ fun v S1 H1 g1 r1 => hb G S0 S1 H1 σ (E.grow g1) _ fun v2 S2 H2 g2 r2 => ⟨v, v2, rfl, q _ S2 H2 ((((E.grow g1).grow g2).putD i (dp_same g2.s r1)).putD j r2)⟩)
/-- the type of data, by its name -/
def tyN : D → Option String
  | .bl _ => some "bool"
  | .int _ => some "int"
  | .str _ => some "str"
  | .lst _ => some "list"
  | .tup _ => some "tuple"
  | _ => none
theorem rb_ty {K : Fg} {S H : Hp} {v : V} {A : D} {n : String} (k : Same S H) (h : Rb K S H v A) (t : tyN A = some n) : TyX K H v (.type n) := by
  cases A with
  | bl b => rw [h.bl]; cases t; exact .base (.bl b)
  | int b => rw [h.int]; cases t; exact .base (.int b)
  | str b => rw [h.str]; cases t; exact .base (.str b)
  | lst xs => obtain ⟨p, vs, rfl, hp, _⟩ := h.lst k; cases t; exact .base (.lst hp)
  | tup xs => obtain ⟨p, vs, rfl, hp, _⟩ := h.tup; cases t; exact .base (.tup (k _ _ hp))
  | _ => cases t
/-- isinstance(x, T), T a built-in class -/
theorem xv_isT {p p2 : Pos} {y : Str} {T n : String} {k : Bool} (hm : X.mg "isinstance" = none) (hmy : X.mg y = none) (hby : bootBuiltins y = some (.type T)) (ha : XB X e ds A) (ht : tyN A = some n) (hk : kitB n T = some k) (hg : Gl X "isinstance" := by rfl) (hgy : Gl X y := by rfl) (hst : isStar e = false := by rfl) (hny : y ≠ "__name__" := by decide) (hdy : (y == ("__debug__" : Str)) = false := by decide) :
    XV X (.Call (.Name "isinstance" p) [e, .Name y p2] [] pos) ds (.bl k) := .mk fun G S0 S H σ E Q q =>
  we_of (pe_callB call_isi hg hm boot_isinstance' (pa_cons pe_w (pa_cons (pe_bltn (v := .ty T) hgy hmy hby rfl hny hdy) pa_nil (se rfl)) (se hst)) (he := se hst) (hpl := spl rfl)) (ha G S0 S H σ E _ fun v S1 H1 g r => ⟨v, .ty T, .type n, .type T, k, rfl, .ty T, rb_ty g.sh r ht, kit_ty hk, q _ S1 H1 g (.bl k)⟩)
theorem boot_bool : bootBuiltins ("bool" : Str) = some (.type "bool") := by decide +kernel
theorem boot_int' : bootBuiltins ("int" : Str) = some (.type "int") := by decide +kernel
theorem boot_tuple' : bootBuiltins ("tuple" : Str) = some (.type "tuple") := by decide +kernel
theorem boot_list' : bootBuiltins ("list" : Str) = some (.type "list") := by decide +kernel
end
end Lay
/-! Lay17: sorted(set(xs)) of a list of whole numbers. -/
namespace Lay
open PySem L2 PySem.Spec PyProof.Rows
/-- an empty set, as it is made -/
abbrev e0 (w : World) : Obj := { cls := .type "set", dict := none, data := .set #[] 0 (.fresh 0 0 (!w.params.followText "set-order")) }
section
variable {P : Program} {w : World} {A : Around} {E : Value → Shared → Prop} {s : Shared}
theorem set_ofL {l : Addr} {its : Array Value} (ns : List Int) {Q : Value → Shared → Prop} (hh : A.handled = none) (hl : s.heap.IsList l its) (hit : IntsAre its.toList ns) (hb : ns.length + 1 < scanBound)
    (h : ∀ (h' : Heap) (tk c : Nat), SetR w h' s.heap.objs.size (fun j => decide (j ∈ ns)) c → c ≤ ns.length → (∀ b o, s.heap.get? b = some o → h'.get? b = some o) → Q (.ref s.heap.objs.size) { s with heap := h', toks := tk }) : wpAny (model P w) A (call (.type "set") [.ref l]) Q E s := by
  have len : its.size = ns.length := by have q := IntsAre.length hit; rwa [Array.length_toList] at q
  obtain ⟨c, tl, hmro⟩ := F.called_set.mro
  have hmade := F.called_set.made; have hsub := F.called_set.sub
  refine wpAny_call (codeAny_of_tree ?_)
  refine wpAny_pure ⟨Code.quiet_builtin _ (by decide +kernel), codeAny_builtin F.entry_type_call (by
    rw [Around.under_plain (weight_type_call_type "set" [.ref l] []) rfl]
    have z1 := F.called_set.notType; have z2 := F.called_set.canCreate; have z3 := F.typeCall_set_1 (.ref l)
    repeat (any_goals (first | assumption | wp_step))
    refine codeAny_mono (code_set_led1 (.ref l) (E := E) (Q₁ := fun u t => u = .ref s.heap.objs.size ∧ t = { s with heap := s.heap.push (e0 w) }) ⟨rfl, rfl⟩) fun r t hr => ?_
    rcases r with e | fl
    · exact hr
    rcases fl with _ | _ | _ | u
    · exact hr.elim
    · exact hr.elim
    · exact hr.elim
    obtain ⟨rfl, rfl⟩ := hr
    have hS : (s.heap.push (e0 w)).get? s.heap.objs.size = some (e0 w) := Heap.get?_push_size _ rfl
    have hT : Shared.TypeIs { s with heap := s.heap.push (e0 w) } (.ref s.heap.objs.size) "set" := ⟨_, hS, rfl⟩
    have y1 := F.called_set.init.lookup; have y2 := F.called_set.init.bind (.ref s.heap.objs.size)
    repeat (any_goals (first | assumption | wp_step))
    refine codeAny_mono (codeAny_call_builtin (R := wants (fun r t => r = .none ∧ ∃ h' tk c, t = { s with heap := h', toks := tk } ∧ SetR w h' s.heap.objs.size (fun j => decide (j ∈ ns)) c ∧ c ≤ ns.length ∧ ∀ b o, s.heap.get? b = some o → h'.get? b = some o) E) F.called_set.init.plain F.entry_set_init (check_set_init_1 hT ?_)) fun r t hr => ?_
    rotate_left
    · rcases r with e | fl
      · exact hr
      · rcases fl with _ | _ | _ | u
        · exact hr.elim
        · exact hr.elim
        · exact hr.elim
        · obtain ⟨rfl, h', tk, c, rfl, x1, x2, x3⟩ := hr
          repeat (any_goals (first | assumption | wp_step))
          exact h _ _ _ x1 x2 x3
    · obtain ⟨⟨oc, od, dt, sl⟩, ol, hc, n, hd⟩ := hl
      simp only at hc hd
      subst hc hd
      have ol' := Heap.get?_push_of_some (e0 w) ol
      have w1 := F.sub_list_set; have w2 := F.sub_list_frozenset
      have w3 : (Value.type "list" == Value.type "dict") = false := by decide
      have isl : (s.heap.push (e0 w)).IsList l its := ⟨_, ol', rfl, n, rfl⟩
      unfold Builtin.«set.__init__» noKeywords Builtin.Frozenset.updateFrom
      generalize gI : pyIter = PI
      wp_walk
      subst gI
      refine wpAny_pyIter_list isl (wpAny_bind (wpAny_runValue ?_))
      have lS : l < s.heap.objs.size := Heap.lt_size ol
      have sz : (s.heap.push (e0 w)).objs.size = s.heap.objs.size + 1 := Heap.size_push ..
      have neI : l ≠ (s.heap.push (e0 w)).objs.size := by rw [sz]; exact Nat.ne_of_lt (Nat.lt_succ_of_lt lS)
      have nf : s.heap.objs.size ∉ [(s.heap.push (e0 w)).objs.size, l] := by rw [sz]; intro z; exact (List.mem_cons.mp z).elim (fun z => absurd z (Nat.ne_of_lt (Nat.lt_succ_self _))) fun z => absurd (List.mem_singleton.mp z) (Nat.ne_of_gt lS)
      refine set_update_ints (P := P) ((Walks.list (show A.in1.in1.in1.handled = none by simp [hh]) _ l neI its).toS) s.heap.objs.size nf ns len hb (fun i v hv => ?_) (its.size - 0) 0 _ (by omega) (Nat.zero_le _) ⟨⟨_, Heap.get?_push_size _ rfl, rfl, rfl⟩, isl.push _⟩ ⟨0, Nat.le_refl 0, setR_new_at (Heap.get?_push_of_some _ hS)⟩ fun t c hm hc hS' => ?_
      · have hi : i < ns.length := by rw [← len]; exact (Array.getElem?_eq_some_iff.mp hv).1
        obtain ⟨tt, e⟩ := IntsAre.int_at hit i v (by rw [Array.getElem?_toList]; exact hv)
        exact ⟨ns[i], tt, List.getElem?_eq_getElem hi, by rw [e, List.getD_eq_getElem?_getD, List.getElem?_eq_getElem hi]; rfl⟩
      · obtain ⟨h', g', d', tk', os'⟩ := t
        obtain rfl : g' = s.gens := hm.gens
        obtain rfl : d' = s.drawn := hm.drawn
        obtain rfl : os' = s.os := hm.os
        rw [len] at hc
        refine wpAny_pure (wpAny_pure ⟨rfl, h', tk', c, rfl, hS', hc, fun b o e => ?_⟩)
        have b0 := Heap.lt_size e
        exact hm.heap b o (by rw [sz]; intro z; exact (List.mem_cons.mp z).elim (fun z => absurd z (Nat.ne_of_lt b0)) fun z => absurd (List.mem_singleton.mp z) (Nat.ne_of_lt (Nat.lt_succ_of_lt b0))) (Heap.get?_push_of_some _ (Heap.get?_push_of_some _ e)))⟩
end
/-- set(xs) of whole numbers -/
def rSetI (K : Fg) (w : World) : List V → Hp → VK → Prop := fun vs H Q => ∃ (l : Addr) (ns : List Int), vs = [.ref l] ∧ SqL K H l (ns.map V.int) ∧ ns.length ≤ 1000 ∧ ∀ a c, H a = none → c ≤ ns.length → Q (.ref a) (upd H a (SetO w a (fun j => decide (j ∈ ns)) c))
section
variable {X : Cx}
theorem cr_setI (hc : X.calm = true) : CallR X (.type "set") (rSetI X.K X.w) := by
  rintro pins s σ H vs us Q I r ⟨l, ns, rfl, hs, hz, q⟩
  obtain ⟨its, rv, hl, _⟩ := I.list hs
  obtain ⟨u, rfl, ru⟩ := vals1 r
  obtain rfl : u = Value.ref l := ru
  refine set_ofL (P := X.prog) ns (I.ok.hd hc) hl.isList (by simpa using ints_of_vals rv) (by unfold scanBound; omega) fun h' tk c R hcn k => ?_
  exact ⟨.ref s.heap.objs.size, _, I.laid (t' := tk) (fun b u e => k b u e) (Nat.le_refl _) (setO_new R), rfl, q _ _ (I.hok.fresh (Nat.le_refl _)) hcn⟩
variable {e : Expr} {ds : List It} {pos : Pos} {A : D}
theorem xl_sortsetI {p p2 pos2 : Pos} {xs ys : List Int} (hc : X.calm = true) (hm : X.mg "sorted" = none) (hm2 : X.mg "set" = none) (ha : XB X e ds A) (hA : A = .lst (xs.map .int)) (hz : xs.length < 64) (hy : ys.Pairwise (· < ·)) (hmem : ∀ x, x ∈ ys ↔ x ∈ xs) (hg : Gl X "sorted" := by rfl) (hg2 : Gl X "set" := by rfl) (hs : isStar e = false := by rfl) :
    XL X (.Call (.Name "sorted" p) [.Call (.Name "set" p2) [e] [] pos2] [] pos) ds (ys.map .int) := .mk fun G S0 S H σ E Q q =>
  we_of (pe_callB (cr_sortedSet hc) hg hm boot_sorted' (pa_cons (pe_callTy (cr_setI hc) hg2 hm2 boot_set' (pa_cons pe_w pa_nil (se hs)) (he := se hs) (hpl := spl rfl)) pa_nil (se rfl)) (he := se rfl) (hpl := spl rfl)) (ha G S0 S H σ E _ fun v S1 H1 g1 r1 => by
    obtain ⟨l, vs, rfl, hl, ra⟩ := (hA ▸ r1).lst g1.sh
    have z := da_ints ra
    subst z
    refine ⟨l, xs, rfl, sq_of hl, by omega, fun a c ha0 hcn => ⟨a, _, c, rfl, upd_same, by omega, fun ns' n pw hmm _ hn => ?_⟩⟩
    have eq : ns' = ys := rise_unique id pw hy fun x => by rw [hmem, hmm, decide_eq_true_eq]
    subst eq
    have g2 : Gr S1 H1 S1 (upd H1 a (SetO X.w a (fun j => decide (j ∈ xs)) c)) := Gr.newH g1.sh ha0
    have g3 := Gr.newH (o := .lst (ns'.map V.int)) g2.sh hn
    have gg := (g1.trans g2).trans g3
    exact q n _ S1 _ gg (g1.h.free (g2.h.free hn)) (g1.sh.free (g2.h.free hn)) upd_same (ints_da ns'))
end
end Lay
/-! Lay18: isinstance of a caught error, with a tuple of classes. -/
namespace Lay
open PySem L2 PyProof.Rows
def rIsXT (K : Fg) (C : Addr) : List V → Hp → VK → Prop := fun xs H Q => ∃ (a tp : Addr) (cs : List V) (us : List Value) (b : Bool), xs = [.ref a, .ref tp] ∧ H a = some (ExT C a) ∧ H tp = some (.tup cs) ∧ Paired ClsV cs us ∧ PySem.W.kitAny K (.ref C) us = some b ∧ Q (.bl b) H
section
variable {X : Cx} {e : Expr} {ds : List It} {pos : Pos}
theorem call_isXT {C : Addr} (h : EI X.K C) : CallR X (.builtin "isinstance") (rIsXT X.K C) := by
  rintro pins s σ H xs us Q I r ⟨a, tp, cs, ws, k, rfl, ha, hT, hc, hk, q⟩
  obtain ⟨u1, u2, rfl, r1, r2⟩ := vals2 r
  obtain rfl : u1 = Value.ref a := r1
  obtain rfl : u2 = Value.ref tp := r2
  obtain ⟨⟨oe, vs, g1, ⟨g2, g3⟩, g4⟩, _⟩ : ObjOk X.prog X.w H s.heap a (ExT C a) := I.hok a _ ha
  have J : PySem.W.InstAt s.heap a oe C none := by
    cases oe
    dsimp only at g2 g3 g4
    subst g2 g3 g4
    exact ⟨g1, rfl, rfl, trivial⟩
  obtain ⟨_, its, rv, ⟨oc, od, dt, sl⟩, z1, z2, n, z3⟩ := (show ObjOk X.prog X.w H s.heap tp (.tup cs) from I.hok tp _ hT)
  have e3 := ClsV.all hc rv
  subst e3
  simp only at z2 z3
  subst z2 z3
  exact PySem.W.kia_tup (PySem.W.handS_kitx_exc h.ex.hg h.ex.hk h.ex.hs h.ex.hd h.ex.ha h.ex.hn h.ex.ht h.ex.hm) I.kIn J z1 hk (fun z => nomatch z) fun tk => ⟨.bl k, H, I.tok tk, rfl, q⟩
/-- isinstance(x, (Y1, .., Y4)), x an exception of the class at C -/
theorem xv_isX4 {p p1 p2 p3 p4 p5 : Pos} {x1} {y1 y2 y3 y4 : Str} {C C1 C2 C3 C4 : Addr} {k : Bool} (hm : X.mg "isinstance" = none) (h : EI X.K C) (m1 : X.mg y1 = some (.ref C1)) (m2 : X.mg y2 = some (.ref C2)) (m3 : X.mg y3 = some (.ref C3)) (m4 : X.mg y4 = some (.ref C4))
    (hk : PySem.W.kitAny X.K (.ref C) [.ref C1, .ref C2, .ref C3, .ref C4] = some k) (ha : XB X e ds (.exc C)) (hg : Gl X "isinstance" := by rfl) (g1 : Gl X y1 := by rfl) (g2 : Gl X y2 := by rfl) (g3 : Gl X y3 := by rfl) (g4 : Gl X y4 := by rfl)
    (d1 : (y1 == ("__debug__" : Str)) = false := by decide) (d2 : (y2 == ("__debug__" : Str)) = false := by decide) (d3 : (y3 == ("__debug__" : Str)) = false := by decide) (d4 : (y4 == ("__debug__" : Str)) = false := by decide) (hst : isStar e = false := by rfl) :
    XV X (.Call (.Name "isinstance" p) [e, .Tuple [.Name y1 p1, .Name y2 p2, .Name y3 p3, .Name y4 p4] x1 p5] [] pos) ds (.bl k) := .mk fun G S0 S H σ E Q q =>
  we_of (pe_callB (call_isXT h) hg hm boot_isinstance' (pa_cons pe_w (pa_cons (pe_tup (pa_cons (pe_glob (v := .ref C1) g1 m1 rfl d1) (pa_cons (pe_glob (v := .ref C2) g2 m2 rfl d2) (pa_cons (pe_glob (v := .ref C3) g3 m3 rfl d3) (pa_cons (pe_glob (v := .ref C4) g4 m4 rfl d4) pa_nil (se rfl)) (se rfl)) (se rfl)) (se rfl))) pa_nil (se rfl)) (se hst)) (he := se hst) (hpl := spl rfl)) (ha G S0 S H σ E _ fun v S1 H1 g r => by
    rcases r with r | ⟨_, _, _, _, z, _⟩
    · cases r with
      | @exc a _ ha =>
        refine ⟨sz _ (Nat.le_of_ble_eq_true rfl), fun t ht => ?_⟩
        have gg := g.trans (Gr.new (o := .tup [.ref C1, .ref C2, .ref C3, .ref C4]) g.sh ht)
        exact ⟨a, t, _, _, k, rfl, by rw [upd_ne (ne_of_none (g.sh _ _ ha) ht)]; exact g.sh _ _ ha, upd_same, .cons (.own C1) (.cons (.own C2) (.cons (.own C3) (.cons (.own C4) .nil))), hk, q _ _ _ gg (.bl k)⟩
    · cases z)
end
theorem kit_no4 {K : Fg} {mg : Str → Option Value} {cE : Addr} {cls : Fin 5 → Addr} (E : E5 K mg cE cls) {i a b c d : Fin 5} (h : (i ≠ a ∧ i ≠ b) ∧ i ≠ c ∧ i ≠ d) : PySem.W.kitAny K (.ref (cls i)) [.ref (cls a), .ref (cls b), .ref (cls c), .ref (cls d)] = some false := by
  have one : ∀ j, i ≠ j → PySem.W.kitOne K (.ref (cls i)) (.ref (cls j)) = some false := fun j z => kit_ref (E.ei i) (E.ei j) (by rw [E.sub, decide_eq_false z])
  exact kitAny_cons (one a h.1.1) (fun _ => kitAny_cons (one b h.1.2) (fun _ => kitAny_cons (one c h.2.1) (fun _ => kitAny_cons (one d h.2.2) (fun _ => kitAny_nil) (fun z => by cases z)) (fun z => by cases z)) (fun z => by cases z)) (fun z => by cases z)
end Lay
/-! Lay19: for over a list that an own object's field holds. -/
namespace Lay
open PySem L2
inductive FrP (X : Cx) (W : WX) (tg : Expr) (body : List Stmt) (Pin : List It → Prop) : List D → List It → Ou → Prop where
  | nil {ds ds' : List It} : Pin ds → Le ds ds' → FrP X W tg body Pin [] ds (.nx ds')
  | step {d : D} {xs : List D} {ds ds1 a b : List It} {o o' : Ou} : Pin ds → XG X tg d ds ds1 → XSs X W body ds1 o' → turns o' = some a → Le a b → FrP X W tg body Pin xs b o → FrP X W tg body Pin (d :: xs) ds o
def PinAt (i k : Nat) (C : Addr) (f : Str) (q : Addr) (xs : List D) (FN : List Str) (ds : List It) : Prop := ∃ (oa : Option Addr) (fs : List (Str × FI)), ds[i]? = some (.ob C oa fs) ∧ fs[k]? = some (f, .ow (some q) xs) ∧ fs.map (·.1) = FN
theorem FrP.pin {X : Cx} {W : WX} {tg : Expr} {body : List Stmt} {Pin : List It → Prop} {xs : List D} {ds : List It} {o : Ou} (h : FrP X W tg body Pin xs ds o) : Pin ds := by
  cases h with
  | nil h _ => exact h
  | step h _ _ _ _ _ => exact h
theorem upd_as {H : Hp} {a : Addr} {o : HO} (h : H a = some o) : upd H a o = H := by
  funext b
  by_cases z : b = a
  · subst z; rw [upd_same, h]
  · rw [upd_ne z]
section
variable {X : Cx} {W : WX} {tg : Expr} {body : List Stmt} {ds : List It} {pos px pp : Pos} {x f : Str} {C : Addr} {oa ob : Option Addr} {fs : List (Str × FI)} {xs : List D} {o : Ou}
theorem xs_forF (i k : Nat) (hp : PassesOwn (model X.prog X.w) X.A X.env X.xe) (hc : X.calm = true) (c : Cls X.K C) (n : NoAttr X.K C f) {FN : List Str} (nd : FN.Nodup) (hf : ∀ q : Addr, FrP X W tg body (PinAt i k C f q xs FN) xs (ds.set i (.ob C oa (fs.set k (f, .ow (some q) xs)))) o)
    (hd : ds[i]? = some (.ob C oa fs) := by rfl) (hk : fs[k]? = some (f, .ow ob xs) := by rfl) (hn : fs.map (·.1) = FN := by rfl) (hN : X.N[i]? = some x := by rfl) (hv : Vis X.env.scope x := by first | exact Or.inl rfl | exact Or.inr (Or.inl rfl) | exact Or.inr (Or.inr rfl))
    (h1 : (x == ("__debug__" : Str)) = false := by decide) (h2 : (x == ("__classdict__" : Str)) = false := by decide) (hb : attributeBase (.Name x px) f X.env (eval (.Name x px) X.env) = eval (.Name x px) X.env := by rfl)
    (hs : ∀ y, foldedSetIterable (.Attribute (.Name x px) f pp) X.env y = pure y := by intro _; rfl) : XS X W (.For tg (.Attribute (.Name x px) f pp) body [] pos) ds o := .mk fun G S0 S H σ E Z q => by
  refine ws_of (ps_for hp hc (pi_list (pe_fld (pe_var (i := i) hN hv h1 h2) hb)) pg_w pss_w hs) ?_
  obtain ⟨p, dx, fv, a, vs, hσ, hpo, hl, _, ha, ra, _, mt⟩ := E.fldo hd (look_at (hn ▸ nd) hk)
  have E0 := mt vs xs (some a) ra (fun b z => by cases z; rfl)
  rw [upd_as ha, putI_at (hn ▸ nd) hk] at E0
  have hf := hf a
  refine ⟨.ref p, hσ, p, C, dx, fv, _, rfl, hpo, c, n, hl, a, rfl, ⟨vs, sq_of ha⟩, ?_⟩
  refine ⟨fun j m σ H => m = xs.length - j ∧ j ≤ xs.length ∧ ∃ S ds', Env X.K G S0 S H σ ds' ∧ FrP X W tg body (PinAt i k C f a xs FN) (xs.drop j) ds' o, ⟨xs.length, by simp, Nat.zero_le _, S, _, E0, hf⟩, ?_⟩
  rintro j m σ2 H2 ⟨rfl, hj, S2, ds2, E2, F⟩
  obtain ⟨oa2, fs2, d1, d2, d3⟩ := F.pin
  obtain ⟨p2, dx2, fv2, a2, vs2, _, _, _, hz2, ha2, ra2, _, _⟩ := E2.fldo d1 (look_at (d3 ▸ nd) d2)
  have e2 := hz2 a rfl
  subst e2
  have sq : SqL X.K H2 a2 vs2 := sq_of ha2
  by_cases hlt : j < xs.length
  · rw [List.drop_eq_getElem_cons hlt] at F
    obtain ⟨v, hv2, rv⟩ := da_get ra2 (List.getElem?_eq_getElem hlt)
    refine .inr ⟨⟨vs2, v, sq, hv2⟩, fun σ' H' => ∃ S ds', Env X.K G S0 S H' σ' ds' ∧ FrP X W tg body (PinAt i k C f a2 xs FN) (xs.drop (j + 1)) ds' o, fun σ' H' ⟨S', ds', h2, h3⟩ => ⟨xs.length - (j + 1), by omega, rfl, hlt, S', ds', h2, h3⟩, fun y H3 hy => ?_⟩
    obtain ⟨e, hy⟩ := hy
    subst e
    have z := hy vs2 sq
    rw [hv2] at z
    cases z
    cases F with
    | @step _ _ _ ds3 a b _ o' hpn hg hb ht hl F =>
      refine hg G S0 S2 _ σ2 _ E2 rv _ fun σ' E' => hb G S2 S2 _ σ' E'.rebase _ ?_
      cases o' with
      | nx z => cases ht; exact fun σ'' S'' H'' E'' => ⟨S'', b, hl _ _ _ _ _ _ (E''.base E2.s0 E2.gs), F⟩
      | ct z => cases ht; exact fun σ'' S'' H'' E'' => ⟨S'', b, hl _ _ _ _ _ _ (E''.base E2.s0 E2.gs), F⟩
      | _ => cases ht
  · have e : j = xs.length := by omega
    subst e
    rw [List.drop_length] at F
    cases F with
    | nil _ hL => exact .inl ⟨⟨vs2, sq, by rw [da_len ra2]; exact Nat.le_refl _⟩, q σ2 S2 H2 (hL _ _ _ _ _ _ E2)⟩
end
/-- the list's address is forgotten -/
theorem Le.unpin {ds : List It} {C : Addr} {oa : Option Addr} {fs : List (Str × FI)} {f : Str} {ob : Option Addr} {xs : List D} (i k : Nat) {FN : List Str} (nd : FN.Nodup) (hd : ds[i]? = some (.ob C oa fs) := by rfl) (hk : fs[k]? = some (f, .ow ob xs) := by rfl) (hn : fs.map (·.1) = FN := by rfl) : Le ds (ds.set i (.ob C oa (fs.set k (f, .ow none xs)))) := .mk fun K G S0 S H σ E => by
  obtain ⟨p, dx, fv, a, vs, hσ, hpo, hl, _, ha, ra, _, mt⟩ := E.fldo hd (look_at (hn ▸ nd) hk)
  have E0 := mt vs xs none ra (fun b z => by cases z)
  rw [upd_as ha, putI_at (hn ▸ nd) hk] at E0
  exact E0
section
variable {X : Cx} {ds : List It} {c a b : Expr} {d : D} {pos : Pos}
theorem xv_ifN (hc : XT X c ds false) (hb : XV X b ds d) : XV X (.IfExp c a b pos) ds d := xv_if hc (fun h => nomatch h) fun _ => hb
theorem xv_ifY (hc : XT X c ds true) (ha : XV X a ds d) : XV X (.IfExp c a b pos) ds d := xv_if hc (fun _ => ha) fun h => nomatch h
end
theorem blk_in {N : List Str} {sc sc' scope : Scope} {own : List (Str × Nat)} (e : sc = sc') (h : blkC N sc' scope own = true) : blkC N sc scope own = true := e ▸ h
end Lay
/-! Lay20: tuple * int. -/
namespace Lay
open PySem L2 PySem.Spec PyProof.Rows
/-- once the tuple: the tuple itself -/
theorem tuple_mul_one (l : Addr) (its : Array Value) (n : Nat) (dd : Option Addr) (sl : Array (Option Value)) (u : Tok) :
    Meets (Builtin.«tuple.__mul__» ⟨[.ref l, .int 1 u], []⟩) (fun _ R s => s.heap.get? l = some { cls := .type "tuple", dict := dd, data := .seq its n, slots := sl } ∧ R (.ok (.ret (Value.ref l))) s) :=
  .of_wp fun prog w A R s h => by
    obtain ⟨hp, g, d, tk, os⟩ := s
    obtain ⟨hl, h⟩ := h
    have f1 := AutoSeq1.idx_int
    have c0 : (decide ((1 : Int) < -(2 ^ 63)) || decide ((1 : Int) ≥ 2 ^ 63)) = false := by decide
    have c1 : (its.isEmpty || (1 : Int) == 1) = true := by rw [Bool.or_eq_true]; exact .inr rfl
    wp_walk using wpAny_loadPart' hl
    repeat (first
      | (refine wpAny_ite_false (decide_eq_false (by rw [c0]; exact Bool.false_ne_true)) ?_; wp_walk using wpAny_loadPart' hl)
      | (refine wpAny_ite_true (decide_eq_true c1) ?_; wp_walk using wpAny_loadPart' hl))
    exact ⟨_, rfl, h⟩
def rRepOne (K : PySem.W.Frag) : R2 := fun x y H Q => ∃ l xs, x = .ref l ∧ y = .int 1 ∧ SqT K H l xs ∧ Q (.ref l) H
section
variable {X : Cx} {a b : Expr} {ds : List It} {pos : Pos}
theorem op_repOne : OpR X (binaryOp .Mult) (rRepOne X.K) := by
  rintro pins s σ H x y v u Q I rx ry ⟨l, xs, rfl, rfl, hT, q⟩
  cases rx
  obtain ⟨t, rfl⟩ := ry
  obtain ⟨its, r, ⟨⟨cls, dd, data, sl⟩, ho, hc, n, hd⟩, hs⟩ := I.tuple hT
  simp only at hc hd
  subst hc hd
  exact wpAny_binaryOp_repeat_ref (T := "tuple") (U := "int") (by decide) ⟨_, ho, rfl⟩ (fun s' => typeIs_int s' 1 t) noFill_tuple_mul F.fills_int_mul F.slot_int_rmul repeat_tuple F.slot_int_index.lookup (call_meets F.slot_int_rmul (typeIs_int s 1 t) F.entry_int_rmul (F.args_int_rmul_2 _ _) (int_rmul_tuple 1 t l its.toArray n dd sl) ⟨ho, rfl, ⟨_, ho, rfl⟩, call_meets F.slot_tuple_mul ⟨_, ho, rfl⟩ F.entry_tuple_mul (F.args_tuple_mul_2 _ _) (tuple_mul_one l its.toArray n dd sl t) ⟨ho, ⟨.ref l, H, I, rfl, q⟩⟩⟩)
/-- t * n of a tuple -/
theorem xv_repT {xs : List D} {j : Int} (ha : XB X a ds (.tup xs)) (hb : XB X b ds (.int j)) (hne : xs ≠ []) (h1 : 1 ≤ j) (h2 : j ≤ 1000) (hz : xs.length ≤ 1000) : XV X (.BinOp a .Mult b pos) ds (.tup (List.replicate j.toNat xs).flatten) := by
  by_cases e : j = 1
  · subst e
    have q : (List.replicate (1 : Int).toNat xs).flatten = xs := by show [xs].flatten = xs; simp
    rw [q]
    exact xv_bin op_repOne ha hb fun S H x y Q k r1 r2 q => by
      obtain ⟨p, vs, rfl, hp, ra⟩ := r1.tup
      exact ⟨p, vs, rfl, r2.int, st_of (k _ _ hp), q _ S H (.refl k) (.tup hp ra)⟩
  · exact xv_bin op_repT ha hb fun S H x y Q k r1 r2 q => by
      obtain ⟨p, vs, rfl, hp, ra⟩ := r1.tup
      exact ⟨p, j, vs, rfl, r2.int, st_of (k _ _ hp), fun z => hne (by rw [z] at ra; cases ra; rfl), by omega, h2, by rw [da_len ra]; exact hz, fun n hn => q _ _ _ (Gr.new k hn) (.tup upd_same (da_same (same_new (k.free hn)) (da_rep ra _)))⟩
end
end Lay
/-! Lay21: t + u of tuples, the first perhaps without items. -/
namespace Lay
open PySem L2
section
variable {X : Cx} {a b : Expr} {ds : List It} {pos : Pos} {xs ys : List D}
theorem xv_catA (ha : XB X a ds (.tup xs)) (hb : XB X b ds (.tup ys)) (hz : xs.length + ys.length ≤ 100000) : XV X (.BinOp a .Add b pos) ds (.tup (xs ++ ys)) :=
  xv_bin op_catA ha hb fun S H x y Q k r1 r2 q => by
    obtain ⟨p, vs, rfl, hp, ra⟩ := r1.tup
    obtain ⟨p', vs', rfl, hp', rb⟩ := r2.tup
    refine ⟨p, p', vs, vs', rfl, rfl, st_of (k _ _ hp), st_of (k _ _ hp'), sz _ (by rw [da_len ra, da_len rb]; exact hz), fun h0 => ?_, fun _ h0 => ?_, fun _ _ n hn => q _ _ _ (Gr.new k hn) (.tup upd_same (da_same (same_new (k.free hn)) (da_append ra rb)))⟩
    · rw [h0] at ra
      cases ra
      exact q _ S H (.refl k) (.tup hp' rb)
    · rw [h0] at rb
      cases rb
      rw [List.append_nil] at q
      exact q _ S H (.refl k) (.tup hp ra)
variable {e : Expr}
theorem xv_tupT {p : Pos} (hm : X.mg "tuple" = none) (ha : XB X e ds (.tup xs)) (hg : Gl X "tuple" := by rfl) (hs : starEach [e] X.env = (false, eval e X.env) :: starEach [] X.env := by exact se rfl) (hpl : (backTo pos (starEach [] X.env)).any (·.1) = false := by exact spl rfl) : XV X (.Call (.Name "tuple" p) [e] [] pos) ds (.tup xs) :=
  xv_callTy call_tupleT hm boot_tuple (xab_cons ha xab_nil hs) (fun S H vs Q k r q => by
    obtain ⟨v, rfl, r1⟩ := rba1 r
    obtain ⟨p, vs, rfl, h1, h2⟩ := r1.tup
    exact ⟨p, vs, rfl, st_of (k _ _ h1), q _ S H (.refl k) (.tup h1 h2)⟩) hg (he := hs) (hpl := hpl)
end
end Lay
/-! Lay22: sets of tuples whose hashes all differ, of any size up to 1228; their tables, without the heap. -/
namespace Lay
open PySem L2 PySem.Spec PyProof.Rows
/-- n steps of the round from x on: where it ends, and the places met as bits above b -/
def orbGo (m : Nat) : Nat → Nat → Nat → Nat × Nat
  | 0, x, b => (x, b)
  | n + 1, x, b => orbGo m n ((x * 5 + 1) % (m + 1)) (b ||| (1 <<< x))
theorem lcg_next (m x : Nat) : ∀ k, lcgI m x (k + 1) = lcgI m ((x * 5 + 1) % (m + 1)) k
  | 0 => rfl
  | k + 1 => congrArg (fun z => (z * 5 + 1) % (m + 1)) (lcg_next m x k)
theorem orb_end (m : Nat) : ∀ n x b, (orbGo m n x b).1 = lcgI m x n
  | 0, _, _ => rfl
  | n + 1, x, b => (orb_end m n _ _).trans (lcg_next m x n).symm
theorem orb_bits (m j : Nat) : ∀ n x b, (orbGo m n x b).2.testBit j = true → b.testBit j = true ∨ ∃ k, k < n ∧ lcgI m x k = j
  | 0, _, _, h => .inl h
  | n + 1, x, b, h => by
    rcases orb_bits m j n _ _ h with h | ⟨k, hk, e⟩
    · rw [Nat.testBit_or, Bool.or_eq_true] at h
      refine h.imp id fun h => ⟨0, by omega, ?_⟩
      rw [Nat.one_shiftLeft, Nat.testBit_two_pow, decide_eq_true_eq] at h
      exact h
    · exact .inr ⟨k + 1, by omega, (lcg_next m x k).trans e⟩
/-- the sizes that a set goes through -/
def MaskD (m : Nat) : Prop := m = 7 ∨ m = 31 ∨ m = 127 ∨ m = 511 ∨ m = 2047
theorem orb_full {m : Nat} (h : MaskD m) : orbGo m (m + 1) 0 0 = (0, 2 ^ (m + 1) - 1) := by
  rcases h with rfl | rfl | rfl | rfl | rfl <;> decide +kernel
theorem lcg_split (m i a : Nat) : ∀ k, lcgI m i (a + k) = lcgI m (lcgI m i a) k
  | 0 => rfl
  | k + 1 => congrArg (fun z => (z * 5 + 1) % (m + 1)) (lcg_split m i a k)
theorem round_meets {m : Nat} (hm : MaskD m) {i j : Nat} (hi : i ≤ m) (hj : j ≤ m) : ∃ k, k ≤ m ∧ lcgI m i k = j := by
  have full := orb_full hm
  have from0 : ∀ x, x ≤ m → ∃ k, k < m + 1 ∧ lcgI m 0 k = x := fun x hx => by
    have h : (orbGo m (m + 1) 0 0).2.testBit x = true := by rw [full]; show (2 ^ (m + 1) - 1).testBit x = true; rw [Nat.testBit_two_pow_sub_one, decide_eq_true_eq]; omega
    exact (orb_bits m x _ _ _ h).resolve_left (by rw [Nat.zero_testBit]; decide)
  have back : lcgI m 0 (m + 1) = 0 := by rw [← orb_end m (m + 1) 0 0, full]
  obtain ⟨a, ha, rfl⟩ := from0 i hi
  obtain ⟨b, hb, rfl⟩ := from0 j hj
  by_cases c : a ≤ b
  · exact ⟨b - a, by omega, by rw [← lcg_split, show a + (b - a) = b by omega]⟩
  · exact ⟨m + 1 + b - a, by omega, by rw [← lcg_split, show a + (m + 1 + b - a) = m + 1 + b by omega, lcg_split, back]⟩
/-- every slot begins a run of the way, and soon -/
theorem run_hits {m : Nat} (hm : MaskD m) (h : Int) {j : Nat} (hj : j ≤ m) : ∃ n, n ≤ m + 12 ∧ runI m (SetTable.bits h) n = j :=
  (round_meets hm (runI_le m (SetTable.bits h) 12) hj).elim fun k q => ⟨12 + k, by omega, (runI_tail (bits_lt h) k).trans q.2⟩
theorem way_bd (m : Nat) (h : Int) (k : Nat) : way m h k ≤ m := by
  have e := runEnd_bd (m := m) (i := SetTable.bits h % (m + 1)) (Nat.le_of_lt_succ (Nat.mod_lt (SetTable.bits h) (Nat.succ_pos m)))
  have q := nth_in (m := m) k (runAt m (SetTable.bits h % (m + 1)) (SetTable.bits h)) (by show SetTable.bits h % (m + 1) + (SetTable.runEnd m (SetTable.bits h % (m + 1)) - SetTable.bits h % (m + 1)) ≤ m; omega)
  exact Nat.le_trans (Nat.le_add_right _ _) q
/-- the first slot on the way that p takes, if p takes any -/
theorem way_first {m : Nat} (hm : MaskD m) (h : Int) {p : Nat → Prop} (hp : ∃ j, j ≤ m ∧ p j) : ∃ n K, n ≤ m + 12 ∧ K ≤ off m (SetTable.bits h % (m + 1)) (SetTable.bits h) n ∧ K < 10 * SetTable.turns m ∧ p (way m h K) ∧ ∀ k, k < K → ¬ p (way m h k) := by
  obtain ⟨j, hj, pj⟩ := hp
  obtain ⟨n, hn, e⟩ := run_hits hm h hj
  have at_ : way m h (off m (SetTable.bits h % (m + 1)) (SetTable.bits h) n) = j := by
    show SetTable.Probe.j (nth m _ (off m _ _ n)) = j
    rw [nth_off, itL_run]; exact e
  obtain ⟨K, k1, k2, k3⟩ := st_least (p := fun k => p (way m h k)) _ (show p (way m h (off m (SetTable.bits h % (m + 1)) (SetTable.bits h) n)) by rw [at_]; exact pj)
  have offB : ∀ (n i b : Nat), i ≤ m → off m i b n ≤ 10 * n := fun n => by
    induction n with
    | zero => intro _ _ _; exact Nat.le_refl _
    | succ n ih =>
      intro i b hi
      have := runEnd_bd hi
      have := ih (SetTable.leap m i b).1 (SetTable.leap m i b).2 (leap_le m i b)
      show (SetTable.runEnd m i - i + 1) + off m (SetTable.leap m i b).1 (SetTable.leap m i b).2 n ≤ 10 * (n + 1)
      omega
  have := offB n (SetTable.bits h % (m + 1)) (SetTable.bits h) (Nat.le_of_lt_succ (Nat.mod_lt _ (Nat.succ_pos m)))
  exact ⟨n, K, hn, k1, by unfold SetTable.turns; omega, k2, k3⟩
/-- a table of n slots taken -/
structure TabD (t : SetTable) (n : Nat) : Prop where
  up : Ris t.place.toList
  dm : t.dummies = #[]
  sz : t.place.size = n
  ok : MaskD t.mask
  bd : ∀ x ∈ t.place.toList, x ≤ t.mask
theorem TabD.free {t : SetTable} {n : Nat} (T : TabD t n) (hn : n ≤ t.mask) (h : Int) : ∃ K, K < 10 * SetTable.turns t.mask ∧ way t.mask h K ∉ t.place.toList ∧ ∀ k, k < K → way t.mask h k ∈ t.place.toList := by
  obtain ⟨j, hj, hnot⟩ := st_missing t.place.toList (t.mask + 1) (by rw [Array.length_toList, T.sz]; omega)
  obtain ⟨_, K, _, _, k1, k2, k3⟩ := way_first T.ok h (p := fun j => j ∉ t.place.toList) ⟨j, by omega, hnot⟩
  exact ⟨K, k1, k2, fun k hk => Classical.not_not.mp (k3 k hk)⟩
theorem TabD.put {t : SetTable} {n j : Nat} (T : TabD t n) (hj : j ≤ t.mask) (hnot : j ∉ t.place.toList) : TabD (t.put j).1 (n + 1) ∧ SetTable.below t.place j ≤ n := by
  obtain ⟨c1, _, _⟩ := below_cut T.up j
  have hp := put_place t j
  have hle : SetTable.below t.place j ≤ t.place.toList.length := by rw [Array.length_toList]; exact c1
  refine ⟨⟨ris_insert T.up fun e => hnot (List.mem_of_getElem? (by rw [Array.getElem?_toList]; exact e)), put_dm T.dm j, ?_, T.ok, fun x hx => ?_⟩, by rw [← T.sz]; exact c1⟩
  · rw [← Array.length_toList, hp, len_ins _ hle, Array.length_toList, T.sz]
  · rw [hp] at hx
    exact (mem_ins.1 hx).elim (fun e => e ▸ hj) (T.bd x)
/-! ### laid anew -/
/-- where the first ones sit -/
structure Seats (m n : Nat) (owner : Array (Option Nat)) : Prop where
  sz : owner.size = m + 1
  all : ∀ k, k < n → ∃ j, j ≤ m ∧ oAt owner j = some k
  few : ∃ ps : List Nat, ps.length = n ∧ ∀ j, j ≤ m → oAt owner j ≠ none → j ∈ ps
theorem Seats.next {m n : Nat} {owner : Array (Option Nat)} (hm : MaskD m) (S : Seats m n owner) (hn : n ≤ m) (h : Int) : ∃ j, SetTable.layClean.free m owner (SetTable.turns m) (SetTable.bits h % (m + 1)) (SetTable.bits h) = some j ∧ Seats m (n + 1) (owner.setIfInBounds j (some n)) := by
  obtain ⟨ps, hps, hin⟩ := S.few
  obtain ⟨j0, h0, hout⟩ := st_missing ps (m + 1) (by omega)
  have hj0 : oAt owner j0 = none := Classical.byContradiction fun c => hout (hin j0 (by omega) c)
  obtain ⟨r, K, hr, k1, _, k2, k3⟩ := way_first hm h (p := fun j => oAt owner j = none) ⟨j0, by omega, hj0⟩
  have hw := way_bd m h K
  have hself := oAt_set_self (owner := owner) (j := way m h K) (some n) (by rw [S.sz]; omega)
  refine ⟨way m h K, free_spec m owner (SetTable.turns m) r _ _ K (by unfold SetTable.turns; omega) k1 (fun k hk => ?_) (show (oAt owner (way m h K)).isNone = true by rw [k2]; rfl), by rw [Array.size_setIfInBounds]; exact S.sz, fun k hk => ?_, way m h K :: ps, by rw [List.length_cons, hps], fun j hj hne => ?_⟩
  · show (oAt owner (way m h k)).isNone = false
    cases z : oAt owner (way m h k) with
    | none => exact absurd z (k3 k hk)
    | some _ => rfl
  · by_cases e : k = n
    · exact ⟨way m h K, hw, by rw [e]; exact hself⟩
    · obtain ⟨j, a1, a2⟩ := S.all k (by omega)
      exact ⟨j, a1, by rw [oAt_set_ne _ fun z => by rw [z, k2] at a2; cases a2]; exact a2⟩
  · by_cases e : j = way m h K
    · exact e ▸ List.mem_cons_self
    · rw [oAt_set_ne _ e] at hne
      exact List.mem_cons_of_mem _ (hin j hj hne)
theorem seats_all {m : Nat} (hm : MaskD m) : ∀ (hs : List Int) (n : Nat) (owner : Array (Option Nat)), Seats m n owner → n + hs.length ≤ m → ∃ o2, hs.foldl (stepF m) (some (owner, n)) = some (o2, n + hs.length) ∧ Seats m (n + hs.length) o2
  | [], n, owner, S, _ => ⟨owner, rfl, S⟩
  | h :: hs, n, owner, S, hl => by
    rw [List.length_cons] at hl
    obtain ⟨j, e, S2⟩ := S.next hm (by omega) h
    obtain ⟨o2, f, S3⟩ := seats_all hm hs (n + 1) _ S2 (by omega)
    rw [show n + 1 + hs.length = n + (h :: hs).length by rw [List.length_cons]; omega] at f S3
    exact ⟨o2, by rw [List.foldl_cons, stepF_some e, f], S3⟩
theorem relaid_D (t : SetTable) {hs : Array Int} {wanted M : Nat} (hw : SetTable.sizeAbove wanted - 1 = M) (hM : MaskD M) (hn : hs.size ≤ M) :
    ∃ t' order, t.relaid hs wanted = some (t', order) ∧ order.toList.Perm (List.range hs.size) ∧ TabD t' hs.size ∧ (t'.mask = M ∧ t'.led = t.led ∧ t'.plain = t.plain) := by
  obtain ⟨owner, f, S⟩ := seats_all hM hs.toList 0 (Array.replicate (M + 1) none) ⟨by simp, fun k hk => absurd hk (by omega), [], rfl, fun j hj e => absurd (oAt_init hj) e⟩ (by rw [Array.length_toList]; omega)
  rw [Nat.zero_add, Array.length_toList] at f S
  have e : t.relaid hs wanted = some (tabOf t M owner, ((liveOf M owner).map (·.2)).toArray) := by
    rw [relaid_eq, hw, layClean_eq, f]; rfl
  obtain ⟨r1, r2⟩ := ris_live (fun j => owner.getD j none) (List.range (M + 1)) (show List.Pairwise _ _ from List.pairwise_lt_range)
  have r1 : Ris ((liveOf M owner).map (·.1)) := r1
  have r2 : ∀ x ∈ (liveOf M owner).map (·.1), x ∈ List.range (M + 1) := r2
  have every : ∀ k, k < hs.size → k ∈ (liveOf M owner).map (·.2) := fun k hk => by
    obtain ⟨j, b1, b2⟩ := S.all k hk
    exact List.mem_map.mpr ⟨(j, k), (mem_live S.sz).2 ⟨b1, b2⟩, rfl⟩
  have len : (liveOf M owner).length = hs.size := by
    obtain ⟨ps, p1, p2⟩ := S.few
    have differ : ((liveOf M owner).map (·.1)).Nodup := by
      unfold List.Nodup
      exact r1.imp fun h => Nat.ne_of_lt h
    have a := nat_nodup_len ((liveOf M owner).map (·.1)) ps differ fun x hx => by
      obtain ⟨⟨y, k⟩, hq, rfl⟩ := List.mem_map.mp hx
      obtain ⟨b1, b2⟩ := (mem_live S.sz).1 hq
      exact p2 y b1 (by rw [b2]; exact fun z => nomatch z)
    have b := nat_nodup_len (List.range hs.size) ((liveOf M owner).map (·.2)) List.nodup_range fun k hk => every k (List.mem_range.mp hk)
    rw [List.length_map] at a b
    rw [List.length_range] at b
    omega
  exact ⟨_, _, e, perm_range hs.size _ (by show ((liveOf M owner).map (·.2)).length = _; rw [List.length_map, len]) every, ⟨r1, rfl, by show ((liveOf M owner).map (·.1)).toArray.size = _; rw [List.size_toArray, List.length_map, len], hM, fun x hx => Nat.le_of_lt_succ (List.mem_range.mp (r2 x hx))⟩, rfl, rfl, rfl⟩
end Lay
/-! Lay23: one more put into a set of tuples whose hashes all differ. -/
namespace Lay
open PySem L2 PySem.Spec PyProof.Rows
abbrev Keys := List (Addr × List Int)
theorem grown_D {n m : Nat} (hm : MaskD m) (h1 : n * 5 < m * 3) (h2 : m * 3 ≤ (n + 1) * 5) (h3 : n + 1 ≤ 1228) : ∃ M, SetTable.sizeAbove (SetTable.grown (n + 1)) - 1 = M ∧ MaskD M ∧ SetTable.sizeAbove (SetTable.grown (n + 1)) ≤ 2048 ∧ (n + 1) * 5 < M * 3 := by
  rcases hm with rfl | rfl | rfl | rfl | rfl
  · obtain rfl : n = 4 := by omega
    exact ⟨31, by decide +kernel, .inr (.inl rfl), by decide +kernel, by decide⟩
  · obtain rfl : n = 18 := by omega
    exact ⟨127, by decide +kernel, .inr (.inr (.inl rfl)), by decide +kernel, by decide⟩
  · obtain rfl : n = 76 := by omega
    exact ⟨511, by decide +kernel, .inr (.inr (.inr (.inl rfl))), by decide +kernel, by decide⟩
  · obtain rfl : n = 306 := by omega
    exact ⟨2047, by decide +kernel, .inr (.inr (.inr (.inr rfl))), by decide +kernel, by decide⟩
  · omega
/-- a set on the heap, its tuples and their rows -/
structure DSet (P : Program) (w : World) (h : Heap) (a : Addr) (L : Keys) (es : Array (Int × Value)) (ep : Nat) (t : SetTable) : Prop where
  ob : ∃ o, h.get? a = some o ∧ o.ExactSet ∧ o.data = .set es ep t
  rows : es.toList = rowsOf P w L
  tab : TabD t L.length
  tup : ∀ p ∈ L, IsT P w h p.2 p.1
  pl : t.plain = true
  led : w.params.followText "set-order" = true ∨ t.led = true
  room : L.length * 5 < t.mask * 3
section
variable {P : Program} {w : World} {A : Around} {E : Value → Shared → Prop} {s : Shared} {a : Addr} {L : Keys} {es : Array (Int × Value)} {ep : Nat} {t : SetTable}
theorem rows_size (h : es.toList = rowsOf P w L) : es.size = L.length := by
  rw [← Array.length_toList, h, show (rowsOf P w L).length = L.length from List.length_map _]
theorem TabD.fits {n : Nat} (T : TabD t n) (hn : n ≤ t.mask) (he : es.size = n) : t.fits es.size = true := by
  unfold SetTable.fits SetTable.fill
  rw [T.dm, T.sz, he]
  simp only [List.size_toArray, List.length_nil, Nat.add_zero, Bool.and_eq_true, beq_iff_eq, decide_eq_true_eq]
  exact ⟨trivial, hn⟩
theorem MaskD.odd {m : Nat} (h : MaskD m) : m % 2 = 1 := by rcases h with rfl | rfl | rfl | rfl | rfl <;> rfl
theorem gave_no (T : MaskD t.mask) : ¬ t.gaveWay = true := by
  unfold SetTable.gaveWay
  rw [T.odd]; decide
theorem DSet.fits (R : DSet P w s.heap a L es ep t) : t.fits es.size = true := R.tab.fits (by have := R.room; omega) (rows_size R.rows)
/-- a hash that none has: the first free slot -/
theorem probe_D (T : TabD t L.length) (hr : es.toList = rowsOf P w L) {h : Int} (hne : ∀ p ∈ L, thash P w p.2 ≠ h) {K : Nat} (k1 : K < 10 * SetTable.turns t.mask) (k2 : way t.mask h K ∉ t.place.toList) (k3 : ∀ k, k < K → way t.mask h k ∈ t.place.toList) :
    t.probe (fun i => (es[i]?.map (·.1)).getD 0) h (t.probeStart h) = some (.empty (way t.mask h K) none) := by
  rcases go_spec t T.up T.dm (fun i => (es[i]?.map (·.1)).getD 0) h (10 * SetTable.turns t.mask) K (runAt t.mask (SetTable.bits h % (t.mask + 1)) (SetTable.bits h)) rfl k1 k3 k2 with ⟨_, i, _, hi, hh, _⟩ | ⟨_, e⟩
  · exfalso
    have hlt : i < L.length := by
      have := (List.getElem?_eq_some_iff.mp hi).1
      rwa [Array.length_toList, T.sz] at this
    refine hne L[i] (List.getElem_mem hlt) (Eq.trans ?_ hh)
    have q : es[i]? = some (thash P w L[i].2, Value.ref L[i].1) := by
      rw [← Array.getElem?_toList, hr]
      show (L.map _)[i]? = _
      rw [List.getElem?_map, List.getElem?_eq_getElem hlt]; rfl
    show _ = (es[i]?.map (·.1)).getD 0
    rw [q]; rfl
  · exact e
theorem search_D (R : DSet P w s.heap a L es ep t) {x : Value} {h : Int} (hne : ∀ p ∈ L, thash P w p.2 ≠ h) {Q : SetFound → Shared → Prop} (hQ : ∀ K, way t.mask h K ∉ t.place.toList → Q (.free (way t.mask h K) false) s) :
    wpAny (model P w) A (setSearch a x h true) Q E s := by
  obtain ⟨o, ho, _, hd⟩ := R.ob
  obtain ⟨K, k1, k2, k3⟩ := R.tab.free (by have := R.room; omega) h
  unfold setSearch
  rw [show (100000 : Nat) = 99999 + 1 from rfl, setSearchFrom_succ]
  refine wpAny_bind (wpAny_setState_of ho hd R.fits (wp_if_neg (gave_no R.tab.ok) ?_))
  try refine wpAny_bind (wpAny_pure ?_)
  dsimp only
  rw [show (none : Option SetTable.Probe).getD (t.probeStart h) = t.probeStart h from rfl, probe_D R.tab R.rows hne k1 k2 k3]
  exact wpAny_pure (hQ K k2)
/-- the rows laid anew: the same ones in another order -/
theorem relay_D {o : Obj} (ho : s.heap.get? a = some o) (hex : o.ExactSet) (hd : o.data = .set es ep t) (hr : es.toList = rowsOf P w L) (T : TabD t L.length) (hle : L.length ≤ t.mask) (tup : ∀ p ∈ L, IsT P w s.heap p.2 p.1) (pl : t.plain = true)
    (ld : w.params.followText "set-order" = true ∨ t.led = true) {wanted M : Nat} (hw : SetTable.sizeAbove wanted - 1 = M) (hM : MaskD M) (hw2 : SetTable.sizeAbove wanted ≤ 2048) (hroom : L.length * 5 < M * 3) {Q : Unit → Shared → Prop}
    (hQ : ∀ h' L' es' ep' t', Heap.SameBut a s.heap h' → DSet P w h' a L' es' ep' t' → L'.Perm L → Q () { s with heap := h' }) : wpAny (model P w) A (setRelay a wanted) Q E s := by
  have hs := rows_size hr
  obtain ⟨t', order, e, hp, T', em, el, epl⟩ := relaid_D t (hs := es.map (·.1)) (wanted := wanted) hw hM (by rw [Array.size_map]; omega)
  rw [Array.size_map, hs] at hp T'
  obtain ⟨L2, r1, r2, _⟩ := order_rows L es order hr hp
  have hl2 := r2.length_eq
  have hs2 := rows_size (P := P) (w := w) (L := L2) r1
  have room := sizeLine_eq
  rw [setRelay_eq]
  refine wpAny_bind (wpAny_setState_of ho hd (T.fits hle hs) (wp_if_neg (by omega) ?_))
  try refine wpAny_bind (wpAny_pure ?_)
  dsimp only
  rw [e]
  refine wpAny_bind (wp_if_neg (by rw [hs2, hl2, hs]; simp) ?_)
  try refine wpAny_bind (wpAny_pure ?_)
  refine wpAny_pure (wpAny_storeSet_of ho hd (hQ _ L2 (order.filterMap (es[·]?)) (ep + 1) t' (Heap.SameBut.update ..) ?_ r2) (by rw [hs2, hl2]; rcases hM with rfl | rfl | rfl | rfl | rfl <;> omega))
  exact ⟨⟨_, store_at ho hd, ⟨hex.1, hex.2.1, hex.2.2⟩, rfl⟩, r1, by rw [hl2]; exact T', fun p hpm => isT_same (tup p (r2.mem_iff.mp hpm)) ho hd (Heap.SameBut.update ..), by rw [epl]; exact pl, by rw [el]; exact ld, by rw [hl2, em]; exact hroom⟩
/-- one more -/
theorem add_D (R : DSet P w s.heap a L es ep t) {x : Addr} {k : List Int} (hx : IsT P w s.heap k x) (hne : ∀ p ∈ L, thash P w p.2 ≠ thash P w k) (hfew : L.length + 1 ≤ 1228) {Q : Bool → Shared → Prop}
    (hQ : ∀ h' L' es' ep' t', Heap.SameBut a s.heap h' → DSet P w h' a L' es' ep' t' → L'.Perm ((x, k) :: L) → Q true { s with heap := h' }) : wpAny (model P w) A (setAddHashed a (.ref x) (thash P w k)) Q E s := by
  obtain ⟨o, ho, hex, hd⟩ := R.ob
  have hs := rows_size R.rows
  have room := R.room
  have line := sizeLine_eq
  unfold setAddHashed
  rw [show (100000 : Nat) = 99999 + 1 from rfl]
  refine wpAny_holding ?_
  rw [setAddHashedIn_succ]
  refine wpAny_bind (wpAny_setState_of ho hd R.fits (wp_if_neg (by simp [byScan, Value.scannable]) ?_))
  try refine wpAny_bind (wpAny_pure ?_)
  refine wpAny_bind (search_D R hne fun K hK => ?_)
  refine wpAny_bind (wpAny_setState_of ho hd R.fits ?_)
  obtain ⟨T1, hb⟩ := R.tab.put (way_bd t.mask (thash P w k) K) hK
  have hpl : (t.put (way t.mask (thash P w k) K)).1.plain = true := R.pl
  have hld : w.params.followText "set-order" = true ∨ (t.put (way t.mask (thash P w k) K)).1.led = true := R.led
  have hmask : (t.put (way t.mask (thash P w k) K)).1.mask = t.mask := rfl
  have hpos : (t.put (way t.mask (thash P w k) K)).2 = SetTable.below t.place (way t.mask (thash P w k) K) := rfl
  have hin : (SetTable.insertAt es (SetTable.below t.place (way t.mask (thash P w k) K)) (thash P w k, Value.ref x)).toList = rowsOf P w (L.take (SetTable.below t.place (way t.mask (thash P w k) K)) ++ (x, k) :: L.drop (SetTable.below t.place (way t.mask (thash P w k) K))) := by rw [SetTable.toList_insertAt, rows_put, R.rows]
  dsimp only
  generalize way t.mask (thash P w k) K = j at *
  generalize t.put j = tp at *
  obtain ⟨t1, pos⟩ := tp
  dsimp only at T1 hpl hld hmask hpos ⊢
  subst hpos
  generalize SetTable.below t.place j = pos at *
  have pm := put_perm L pos (x, k)
  have hl1 : (L.take pos ++ (x, k) :: L.drop pos).length = L.length + 1 := pm.length_eq
  generalize L.take pos ++ (x, k) :: L.drop pos = L1 at *
  have he1 := rows_size (P := P) (w := w) (L := L1) hin
  first
    | (refine wpAny_bind (wp_if_pos hpl (hashBy_tup hx ?_)))
    | (refine wp_if_pos hpl (wpAny_bind (hashBy_tup hx ?_)))
  simp only [if_true]
  generalize SetTable.insertAt es pos (thash P w k, Value.ref x) = es1 at *
  refine wpAny_bind (wpAny_storeSet_of ho hd ?_ (by rw [he1, hl1]; omega))
  have same : Heap.SameBut a s.heap (s.heap.update a (Obj.putSet es1 t1)) := Heap.SameBut.update ..
  have ho1 := store_at (es' := es1) (t' := t1) ho hd
  generalize s.heap.update a (Obj.putSet es1 t1) = h1 at same ho1 ⊢
  have tup1 : ∀ p ∈ L1, IsT P w h1 p.2 p.1 := fun p hp => (List.mem_cons.mp (pm.mem_iff.mp hp)).elim (fun e => by rw [e]; exact isT_same hx ho hd same) fun hp => isT_same (R.tup p hp) ho hd same
  rw [← hl1] at T1
  have fillE : t1.fill = L1.length := by
    unfold SetTable.fill
    rw [T1.dm, T1.sz]; rfl
  by_cases full : t1.tooFull = true
  · have hf : t1.mask * 3 ≤ (L.length + 1) * 5 := by
      unfold SetTable.tooFull at full
      rw [decide_eq_true_eq, fillE, hl1] at full
      exact full
    rw [hmask] at hf
    obtain ⟨M, g1, g2, g3, g4⟩ := grown_D R.tab.ok room hf hfew
    have go : wpAny (model P w) A (setRelay a (SetTable.grown (es.size + 1))) (fun _ s' => wpAny (model P w) A (pure true) Q E s') E { s with heap := h1 } := by
      rw [hs]
      exact relay_D (s := { s with heap := h1 }) ho1 ⟨hex.1, hex.2.1, hex.2.2⟩ rfl hin T1 (by rw [hmask]; omega) tup1 hpl hld g1 g2 g3 (by rw [hl1]; exact g4) fun h2 L2 es2 ep2 t2 same2 R2 pm2 => wpAny_pure (hQ h2 L2 es2 ep2 t2 (same.trans same2) R2 (pm2.trans pm))
    first
      | exact wpAny_bind (wp_if_pos (by simp [full]) go)
      | exact wp_if_pos (by simp [full]) (wpAny_bind go)
  · have hf : (L.length + 1) * 5 < t1.mask * 3 := by
      unfold SetTable.tooFull at full
      rw [decide_eq_true_eq, fillE, hl1] at full
      omega
    have fin : Q true { s with heap := h1 } := hQ h1 L1 es1 (ep + 1) t1 same ⟨⟨_, ho1, ⟨hex.1, hex.2.1, hex.2.2⟩, rfl⟩, hin, T1, tup1, hpl, hld, by rw [hl1]; exact hf⟩ pm
    first
      | exact wp_if_neg (by simp [full]) (wpAny_pure fin)
      | exact wpAny_bind (wp_if_neg (by simp [full]) (wpAny_pure (wpAny_pure fin)))
end
end Lay
/-! Lay24: set(xs), xs tuples whose hashes all differ. -/
namespace Lay
open PySem L2 PySem.Spec PyProof.Rows
/-- no two of the tuples have one hash -/
def Differ (P : Program) (w : World) (ks : Keys) : Prop := (ks.map fun p => thash P w p.2).Nodup
section
variable {P : Program} {w : World} {A : Around} {E : Value → Shared → Prop} {s : Shared}
theorem DSet.still {h h' : Heap} {a : Addr} {L : Keys} {es : Array (Int × Value)} {ep : Nat} {t : SetTable} (R : DSet P w h a L es ep t) (ha : ∀ o, h.get? a = some o → h'.get? a = some o) (ht : ∀ p ∈ L, IsT P w h' p.2 p.1) : DSet P w h' a L es ep t :=
  ⟨R.ob.elim fun o q => ⟨o, ha o q.1, q.2⟩, R.rows, R.tab, ht, R.pl, R.led, R.room⟩
theorem DSet.none_in {h : Heap} {a : Addr} (ho : h.get? a = some { cls := .type "set", dict := none, data := .set #[] 0 (.fresh 0 0 (!w.params.followText "set-order")) }) : DSet P w h a [] #[] 0 (.fresh 0 0 (!w.params.followText "set-order")) :=
  ⟨⟨_, ho, ⟨rfl, rfl, rfl⟩, rfl⟩, rfl, ⟨.nil, rfl, rfl, .inl rfl, fun x hx => absurd hx (by intro z; cases z)⟩, fun p hp => absurd hp (by simp), rfl, by show _ ∨ (!w.params.followText "set-order") = true; cases w.params.followText "set-order" <;> simp, by show 0 * 5 < 7 * 3; decide⟩
theorem differ_new {ks L : Keys} (hd : Differ P w ks) {i : Nat} {p : Addr × List Int} (hp : ks[i]? = some p) (hL : L.Perm (ks.take i)) : ∀ q ∈ L, thash P w q.2 ≠ thash P w p.2 := by
  intro q hq e
  obtain ⟨j, hj, ej⟩ := List.getElem_of_mem (hL.mem_iff.mp hq)
  rw [List.length_take] at hj
  rw [List.getElem_take] at ej
  obtain ⟨hi, ei⟩ := List.getElem?_eq_some_iff.mp hp
  unfold Differ at hd
  have := (List.getElem_inj (h₀ := by rw [List.length_map]; omega) (h₁ := by rw [List.length_map]; exact hi) hd (i := j) (j := i)).mp (by rw [List.getElem_map, List.getElem_map, ej, ei, e])
  omega
/-- the items are put in, one by one -/
theorem loop_D {I S : Addr} {fp wr : List Addr} {G : Array GenState → Array GenState → Prop} {n : Nat} {Pv : Nat → Value → Prop} {St : Nat → Shared → Prop} {R : Result → Shared → Prop} (W : WalksS P w A.in1 I fp wr G n Pv St) (hout : S ∉ fp) (ks : Keys) (hn : n = ks.length) (few : ks.length ≤ 1228) (hd : Differ P w ks)
    (hval : ∀ i v, Pv i v → ∃ p, ks[i]? = some p ∧ v = .ref p.1) (h0 : Heap) (hk : ∀ p ∈ ks, IsT P w h0 p.2 p.1) (hS0 : h0.get? S = none) (hw0 : ∀ b ∈ wr, h0.get? b = none) (hu : A.in1.units < cLine) :
    ∀ (k i : Nat) (s : Shared), i + k = n → St i s → (∀ b o, h0.get? b = some o → s.heap.get? b = some o) → (∃ L es ep t, DSet P w s.heap S L es ep t ∧ L.Perm (ks.take i)) → (∀ s' L es ep t, Moved (S :: wr) G s s' → DSet P w s'.heap S L es ep t → L.Perm ks → (∀ b o, h0.get? b = some o → s'.heap.get? b = some o) → R (.ok (.ret .none)) s') →
      codeAny (model P w) A (.builtin "set.update.loop" ⟨[.ref S, .ref I], []⟩) R s := by
  have apart : S ∉ wr := fun h => hout (W.sub _ h)
  have wider : ∀ b ∈ wr, b ∈ S :: wr := fun b hb => .tail _ hb
  have keeps : ∀ {s s' : Shared}, Moved wr G s s' → (∀ b o, h0.get? b = some o → s.heap.get? b = some o) → ∀ b o, h0.get? b = some o → s'.heap.get? b = some o := fun hm hkp b o e => hm.heap b o (fun hb => nomatch (hw0 b hb).symm.trans e) (hkp b o e)
  have carried : ∀ {s s' : Shared} {L es ep t}, Moved wr G s s' → (∀ b o, h0.get? b = some o → s'.heap.get? b = some o) → (∀ p ∈ L, p ∈ ks) → DSet P w s.heap S L es ep t → DSet P w s'.heap S L es ep t := fun hm hkp sub D => D.still (fun o e => hm.heap S o apart e) fun p hp => isT_keep (hk p (sub p hp)) hkp
  intro k
  induction k with
  | zero =>
    rintro i s hi hst hkp ⟨L, es, ep, t, D, pm⟩ hR
    obtain rfl : i = n := by omega
    rw [hn, List.take_length] at pm
    refine codeAny_builtin F.entry_set_update_loop ?_
    rw [Around.under_plainId F.plain_set_update_loop _]
    show wpAny _ A.in1 (do let _ ← pyNext (.ref I); _) _ _ s
    refine wpAny_bind (W.done s _ _ hst fun s' hm => wpAny_pure (hR s' L es ep t (hm.mono wider) (carried hm (keeps hm hkp) (fun p hp => pm.mem_iff.mp hp) D) pm (keeps hm hkp)))
  | succ k ih =>
    rintro i s hi hst hkp ⟨L, es, ep, t, D, pm⟩ hR
    refine codeAny_builtin F.entry_set_update_loop ?_
    rw [Around.under_plainId F.plain_set_update_loop _]
    show wpAny _ A.in1 (do let _ ← pyNext (.ref I); _) _ _ s
    refine wpAny_bind (W.item i s _ _ (by omega) hst fun v s' hP hst' hm => ?_)
    obtain ⟨p, hp, rfl⟩ := hval i v hP
    have hkp' := keeps hm hkp
    have D' := carried hm hkp' (fun p hp => List.mem_of_mem_take (pm.mem_iff.mp hp)) D
    have hx : IsT P w s'.heap p.2 p.1 := isT_keep (hk p (List.mem_of_getElem? hp)) hkp'
    have hlt := (List.getElem?_eq_some_iff.mp hp).1
    show wpAny _ A.in1 (holding [Value.ref p.1] (setAdd S (.ref p.1)) >>= fun _ => _) _ _ s'
    unfold setAdd
    refine wpAny_bind (wpAny_holding (wpAny_holding (wpAny_bind (wpAny_pyHash_tuple hu hx ?_))))
    refine add_D (s := { s' with toks := s'.toks + (p.2.length + 1) }) D' hx (differ_new hd hp pm) (by rw [pm.length_eq, List.length_take]; omega) fun h' L' es' ep' t' same D2 pm2 => ?_
    have hkp2 : ∀ b o, h0.get? b = some o → h'.get? b = some o := fun b o e => (same.2 b fun z => by subst z; exact absurd (hS0.symm.trans e) (by intro y; cases y)).trans (hkp' b o e)
    have next : L'.Perm (ks.take (i + 1)) := by
      rw [take_next hp]
      exact pm2.trans ((pm.cons p).trans (List.perm_append_singleton p _).symm)
    refine wpAny_pure ⟨plainId_quiet F.plain_set_update_loop _, ih (i + 1) _ (by omega) (W.frame _ s' _ _ hst' (Nat.le_add_right _ _) fun b hb o e => (same.2 b fun z => hout (z ▸ hb)).trans e) hkp2 ⟨L', es', ep', t', D2, next⟩ fun s2 L2 es2 ep2 t2 hm2 D3 pm3 hkp3 => hR s2 L2 es2 ep2 t2 (Moved.trans W.gtrans ((hm.mono wider).then_heap (Nat.le_add_right _ _) fun b o hb e => (same.2 b fun z => hb (z ▸ .head _)).trans e) hm2) D3 pm3 hkp3⟩
abbrev setObj (w : World) : Obj := { cls := .type "set", dict := none, data := .set #[] 0 (.fresh 0 0 (!w.params.followText "set-order")) }
theorem call_set_D {l : Addr} {items : Array Value} (ks : Keys) {Q : Value → Shared → Prop} (hh : A.handled = none) (hl : s.heap.IsList l items) (hit : items.toList = ks.map fun p => Value.ref p.1) (hk : ∀ p ∈ ks, IsT P w s.heap p.2 p.1) (few : ks.length ≤ 1228) (hd : Differ P w ks) (hu : A.units + 3 < cLine)
    (h : ∀ (h' : Heap) (tk : Nat) L es ep t, DSet P w h' s.heap.objs.size L es ep t → L.Perm ks → (∀ b o, s.heap.get? b = some o → h'.get? b = some o) → Q (.ref s.heap.objs.size) { s with heap := h', toks := tk }) : wpAny (model P w) A (call (.type "set") [.ref l]) Q E s := by
  have size : items.size = ks.length := by rw [← Array.length_toList, hit, List.length_map]
  have fresh : ∀ b, s.heap.objs.size ≤ b → s.heap.get? b = none := fun b hb => by
    cases q : s.heap.get? b with
    | none => rfl
    | some o => exact absurd (Heap.lt_size q) (Nat.not_lt.mpr hb)
  have nth_ : ∀ (i : Nat) (v : Value), items[i]? = some v → ∃ p, ks[i]? = some p ∧ v = .ref p.1 := fun i v hv => by
    rw [← Array.getElem?_toList, hit, List.getElem?_map] at hv
    obtain ⟨p, hp, e⟩ := Option.map_eq_some_iff.mp hv
    exact ⟨p, hp, e.symm⟩
  obtain ⟨c, tl, hmro⟩ := F.called_set.mro
  have made := F.called_set.made; have sub := F.called_set.sub; have n1 := F.called_set.notType; have n2 := F.called_set.canCreate; have n3 := F.typeCall_set_1 (.ref l)
  refine wpAny_call (codeAny_of_tree (show wpAny _ _ (callAny (.type "set") _) _ _ _ from wpAny_pure ⟨Code.quiet_builtin _ (by decide +kernel), codeAny_builtin F.entry_type_call ?_⟩))
  rw [Around.under_plain (weight_type_call_type "set" [.ref l] []) rfl]
  repeat (any_goals (first | wp_step | assumption))
  refine codeAny_mono (code_set_led1 (.ref l) (E := E) (Q₁ := fun v s₁ => v = .ref s.heap.objs.size ∧ s₁ = { s with heap := s.heap.push (setObj w) }) ⟨rfl, rfl⟩) fun r s₁ hr => ?_
  match r, hr with
  | .error e, hr => exact hr
  | .ok (.ret v), hr =>
    obtain ⟨rfl, rfl⟩ := hr
    have there : (s.heap.push (setObj w)).get? s.heap.objs.size = some (setObj w) := Heap.get?_push_size _ rfl
    have typ : Shared.TypeIs { s with heap := s.heap.push (setObj w) } (.ref s.heap.objs.size) "set" := ⟨_, there, rfl⟩
    have li := F.called_set.init.lookup; have bi := F.called_set.init.bind (.ref s.heap.objs.size)
    repeat (any_goals (first | wp_step | assumption))
    refine codeAny_mono (codeAny_call_builtin (R := wants (fun r s₂ => r = .none ∧ ∃ h' tk L es ep t, s₂ = { s with heap := h', toks := tk } ∧ DSet P w h' s.heap.objs.size L es ep t ∧ L.Perm ks ∧ ∀ b o, s.heap.get? b = some o → h'.get? b = some o) E) F.called_set.init.plain F.entry_set_init (check_set_init_1 typ ?_)) fun r₂ s₂ hr₂ => ?_
    · obtain ⟨⟨ocls, odict, odata, oslots⟩, hol, hcl, nl, hdl⟩ := id hl
      dsimp only at hcl hdl
      subst hcl hdl
      have hol' : (s.heap.push (setObj w)).get? l = some { cls := .type "list", dict := odict, data := .seq items nl, slots := oslots } := Heap.get?_push_of_some _ hol
      have a1 := F.sub_list_set; have a2 := F.sub_list_frozenset; have a3 : (Value.type "list" == Value.type "dict") = false := by decide
      have isl : (s.heap.push (setObj w)).IsList l items := ⟨_, hol', rfl, nl, rfl⟩
      have hlt := Heap.lt_size hol
      have grown : (s.heap.push (setObj w)).objs.size = s.heap.objs.size + 1 := Heap.size_push ..
      unfold Builtin.«set.__init__» noKeywords Builtin.Frozenset.updateFrom
      generalize hIt : pyIter = it
      wp_walk
      subst hIt
      refine wpAny_pyIter_list isl (wpAny_bind (wpAny_runValue ?_))
      have off_l : l ≠ (s.heap.push (setObj w)).objs.size := by rw [grown]; exact Nat.ne_of_lt (Nat.lt_succ_of_lt hlt)
      have off_S : s.heap.objs.size ∉ [(s.heap.push (setObj w)).objs.size, l] := by
        rw [grown]; intro z
        rcases List.mem_cons.mp z with z | z
        · exact absurd z (Nat.ne_of_lt (Nat.lt_succ_self _))
        · exact absurd (List.mem_singleton.mp z) (Nat.ne_of_gt hlt)
      refine loop_D (S := s.heap.objs.size) ((Walks.list (show A.in1.in1.in1.handled = none by simp [hh]) _ l off_l items).toS) off_S ks size few hd nth_ s.heap hk (fresh _ (Nat.le_refl _)) (fun b hb => fresh b (by rw [List.mem_singleton.mp hb, grown]; exact Nat.le_succ _)) hu (items.size - 0) 0 _ (by omega)
        ⟨⟨_, Heap.get?_push_size _ rfl, rfl, rfl⟩, isl.push _⟩ (fun b o e => Heap.get?_push_of_some _ (Heap.get?_push_of_some _ e)) ⟨[], #[], 0, _, DSet.none_in (Heap.get?_push_of_some _ there), by rw [List.take_zero]⟩ ?_
      rintro ⟨h', g2, d', tk', os'⟩ L es ep t hm D pm keep
      obtain rfl : g2 = s.gens := hm.gens
      obtain rfl : d' = s.drawn := hm.drawn
      obtain rfl : os' = s.os := hm.os
      exact wpAny_pure (wpAny_pure ⟨rfl, h', tk', L, es, ep, t, rfl, D, pm, keep⟩)
    · match r₂, hr₂ with
      | .error e, hr₂ => exact hr₂
      | .ok (.ret v), hr₂ =>
        obtain ⟨rfl, h', tk, L, es, ep, t, rfl, D, pm, keep⟩ := hr₂
        repeat (any_goals (first | wp_step | assumption))
        exact h _ _ _ _ _ _ D pm keep
end
end Lay
/-! Lay25: sorted(set(xs)), xs tuples whose hashes all differ. -/
namespace Lay
open PySem L2 PySem.Spec PyProof.Rows
section
variable {P : Program} {w : World} {A : Around} {E : Value → Shared → Prop} {s : Shared}
theorem sorted_D {a : Addr} {L : Keys} {es : Array (Int × Value)} {ep : Nat} {t : SetTable} {Q : Value → Shared → Prop} (R : DSet P w s.heap a L es ep t) (hh : A.handled = none) (few : L.length ≤ 1228) {d : Nat} {B : Int} (hd : 1 ≤ d) (hB : ∀ p ∈ L, p.2.length = d ∧ TS.Bd B p.2)
    (hQ : ∀ s' p (out : Array Value) (c : Nat) (L' : Keys), (∀ b o, s.heap.get? b = some o → s'.heap.get? b = some o) → (s'.gens = s.gens ∧ s'.os = s.os) → s.heap.objs.size ≤ p → s'.heap.get? p = some (seqObj "list" out c) → out.toList = L'.map (fun q => Value.ref q.1) → L'.Perm L → L'.Pairwise (fun q r => TS.code B q.2 ≤ TS.code B r.2) → Q (.ref p) s') :
    wpAny (model P w) A (call (.builtin "sorted") [.ref a]) Q E s := by
  obtain ⟨o, ho, hex, hdt⟩ := R.ob
  have n := rows_size R.rows
  have line := sizeLine_eq
  refine Calls.call_function_entry kind_sorted plain_sorted entry_sorted (args_sorted1 _) ?_
  unfold Builtin.«sorted»
  refine wpAny_bind (m := checkCount "sorted" 1 1 _) (wpAny_pure (wpAny_bind (collect_set (A := A.in1) hh ⟨o, ho, hex.1, hdt⟩ R.fits (by rw [n]; unfold scanBound; omega) R.tab.up R.led fun s1 vs keep grows g1 o1 pm => ?_)))
  rw [R.rows, show (rowsOf P w L).map (·.2) = L.map fun q => Value.ref q.1 by unfold rowsOf; rw [List.map_map]; rfl] at pm
  obtain ⟨L1, p1, rfl⟩ := perm_back pm
  have l1 : (L1.map fun q => Value.ref q.1).length = L.length := by rw [List.length_map, p1.length_eq]
  refine wpAny_bind (wpAny_newList ?_ (by rw [l1]; omega))
  have hoL : (s1.heap.push (seqObj "list" (L1.map fun q => Value.ref q.1).toArray 0)).get? s1.heap.objs.size = some (seqObj "list" (L1.map fun q => Value.ref q.1).toArray 0) := Heap.get?_push_size _ rfl
  have old : ∀ b o, s.heap.get? b = some o → (s1.heap.push (seqObj "list" (L1.map fun q => Value.ref q.1).toArray 0)).get? b = some o := fun b o e => Heap.get?_push_of_some _ (keep b o e)
  have tup : ∀ q ∈ L1, TS.TupInts (s1.heap.push (seqObj "list" (L1.map fun q => Value.ref q.1).toArray 0)) (.ref q.1) q.2 := fun q hq => tupInts_of (P := P) (w := w) (isT_keep (R.tup q (p1.mem_iff.mp hq)) old)
  have oks : TS.TupsOk (s1.heap.push (seqObj "list" (L1.map fun q => Value.ref q.1).toArray 0)) d B (L1.map fun q => Value.ref q.1) := fun v hv => by
    obtain ⟨q, hq, rfl⟩ := List.mem_map.mp hv
    exact ⟨q.2, tup q hq, hB q (p1.mem_iff.mp hq)⟩
  generalize hH : s1.heap.push (seqObj "list" (L1.map fun q => Value.ref q.1).toArray 0) = H1 at *
  refine wpAny_bind (wpAny_holding (wpAny_call_entry slot_list_sort ⟨_, hoL, rfl⟩ entry_list_sort (SrtO.list_sort_ord (s := { s1 with heap := H1 }) (swoT (rkT H1 B)) hoL (by rw [l1]; omega) (fun h2 => sortableT (s := { s1 with heap := H1 }) hd h2 oks (rkT H1 B) (fun v hv ns tn => rkT_of tn) fun o e => ?_) fun out hs hb => ⟨_, rfl, ?_⟩) (args_list_sort _)))
  · obtain rfl := Option.some.inj (hoL.symm.trans e)
    exact fun c => absurd (Value.type.inj c) (by decide)
  · obtain ⟨L', p2, rfl⟩ := perm_back hb.perm
    obtain ⟨c, hc⟩ := sortedHeap_at (vs := L1.map fun q => Value.ref q.1) (out := (L'.map fun q => Value.ref q.1).toArray) hoL
    refine wpAny_pure ⟨_, rfl, hQ _ s1.heap.objs.size _ c L' (fun b u e => ?_) ⟨g1, o1⟩ grows hc rfl (p2.trans p1) ?_⟩
    · have lt1 := Heap.lt_size (keep b u e)
      show (sortedHeap H1 s1.heap.objs.size _ _).get? b = some u
      rw [sortedHeap_old (Nat.ne_of_lt lt1) (by rw [← hH, size_push']; exact Nat.lt_succ_of_lt lt1)]
      exact old b u e
    · unfold SrtO.Srtd at hs
      rw [List.pairwise_map] at hs
      refine hs.imp_of_mem fun {x y} hx hy h => ?_
      have h : decide (rkT H1 B (.ref y.1) < rkT H1 B (.ref x.1)) = false := h
      rw [rkT_of (tup x (p2.mem_iff.mp hx)), rkT_of (tup y (p2.mem_iff.mp hy)), decide_eq_false_iff_not] at h
      omega
/-- the set at a, its tuples apart -/
structure DSet0 (P : Program) (w : World) (h : Heap) (a : Addr) (L : Keys) : Prop where
  ex : ∃ (es : Array (Int × Value)) (ep : Nat) (t : SetTable), (∃ o, h.get? a = some o ∧ o.ExactSet ∧ o.data = .set es ep t) ∧ es.toList = rowsOf P w L ∧ TabD t L.length ∧ t.plain = true ∧ (w.params.followText "set-order" = true ∨ t.led = true) ∧ L.length * 5 < t.mask * 3
def SetDO (P : Program) (w : World) (a : Addr) (L : Keys) : HO := .ext fun h => DSet0 P w h a L
theorem setDO_ok {H : Hp} {h : Heap} {a : Addr} {L : Keys} (R : DSet0 P w h a L) : ObjOk P w H h a (SetDO P w a L) := by
  obtain ⟨es, ep, t, ⟨o, ho, r⟩, q⟩ := id R.ex
  refine ⟨R, ⟨o, ho⟩, fun h1 h2 p k => ?_⟩
  obtain ⟨es', ep', t', ⟨o', ho', r'⟩, q'⟩ := DSet0.ex p
  exact ⟨es', ep', t', ⟨o', k o' ho', r'⟩, q'⟩
end
def rSetD (K : Fg) (P : Program) (w : World) : List V → Hp → VK → Prop := fun xs H Q => ∃ (l : Addr) (ks : Keys), xs = [V.ref l] ∧ SqL K H l (ks.map fun p => V.ref p.1) ∧ (∀ p ∈ ks, SqT K H p.1 (p.2.map V.int)) ∧ (ks.length ≤ 1228 ∧ Differ P w ks) ∧ ∀ a L, H a = none → L.Perm ks → Q (.ref a) (upd H a (SetDO P w a L))
def rSortD (K : Fg) (P : Program) (w : World) : List V → Hp → VK → Prop := fun vs H Q => ∃ (a : Addr) (L : Keys) (d : Nat) (B : Int), vs = [V.ref a] ∧ H a = some (SetDO P w a L) ∧ (∀ p ∈ L, SqT K H p.1 (p.2.map V.int)) ∧ (1 ≤ d ∧ L.length ≤ 1228) ∧ (∀ p ∈ L, p.2.length = d ∧ TS.Bd B p.2) ∧
  ∀ (L' : Keys) (p : Addr), L'.Perm L → L'.Pairwise (fun q r => TS.code B q.2 ≤ TS.code B r.2) → H p = none → Q (.ref p) (upd H p (.lst (L'.map fun q => V.ref q.1)))
section
variable {X : Cx}
theorem cr_setD (hc : X.calm = true) (hu : X.A.units + 64 < cLine) : CallR X (.type "set") (rSetD X.K X.prog X.w) := by
  rintro pins s σ H xs us Q I r ⟨l, ks, rfl, hl, hk, ⟨few, df⟩, q⟩
  rw [Vals.ref1 r]
  obtain ⟨its, rv, pl, _⟩ := I.list hl
  exact call_set_D (P := X.prog) (w := X.w) ks (I.ok.hd hc) pl.isList (by simpa using refs_of_vals rv) (fun p hp => I.isT (hk p hp)) few df (by omega) fun h' tk L es ep t D pm keep =>
    ⟨.ref s.heap.objs.size, upd H s.heap.objs.size (SetDO X.prog X.w s.heap.objs.size L), I.laid (t' := tk) keep (Nat.le_refl _) (setDO_ok ⟨es, ep, t, D.ob, D.rows, D.tab, D.pl, D.led, D.room⟩), rfl, q _ L (I.hok.fresh (Nat.le_refl _)) pm⟩
theorem cr_sortD (hc : X.calm = true) : CallR X (.builtin "sorted") (rSortD X.K X.prog X.w) := by
  rintro pins s σ H vs us Q I r ⟨a, L, d, B, rfl, ha, hk, ⟨hd, few⟩, hB, q⟩
  obtain ⟨es, ep, t, h1, h2, h3, h4, h5, h6⟩ := DSet0.ex (show DSet0 X.prog X.w s.heap a L from (I.hok a _ ha).1)
  rw [Vals.ref1 r]
  refine sorted_D ⟨h1, h2, h3, fun p hp => I.isT (hk p hp), h4, h5, h6⟩ (I.ok.hd hc) few hd hB fun s' p out c L' keep go hp hg hout pm pw => ?_
  obtain ⟨g, o⟩ := go
  have hn : H p = none := I.hok.fresh hp
  have J : Inv X pins σ (upd H p (.lst (L'.map fun q => V.ref q.1))) { s with heap := s'.heap, gens := s'.gens, drawn := s'.drawn, toks := s'.toks } :=
    I.call (ch := []) (Un.laid keep hp hn) (I.hok.laid keep hp ⟨by rw [List.length_map, pm.length_eq, sizeLine_eq]; omega, out.toList, c, by rw [hout]; exact vals_of_refs L', hg⟩) (by rw [g]; exact I.bare) (fun _ z => nomatch z)
  rw [show s' = { s with heap := s'.heap, gens := s'.gens, drawn := s'.drawn, toks := s'.toks } by cases s'; cases s; cases o; rfl]
  exact ⟨.ref p, _, J, rfl, q L' p pm pw hn⟩
end
section
variable {X : Cx} {e : Expr} {ds : List It} {pos : Pos}
/-- sorted(set(xs)), all hashes apart: ys is the same list in order -/
theorem xl_sortsetD {p p2 pos2 : Pos} {A : D} {xs ys : List (List Int)} (d : Nat) (B : Int) (hc : X.calm = true) (hu : X.A.units + 64 < cLine) (hm : X.mg "sorted" = none) (hm2 : X.mg "set" = none) (ha : XB X e ds A) (hA : A = .lst (xs.map eT)) (hz : xs.length ≤ 1228) (df : (xs.map (thash X.prog X.w)).Nodup) (hd : 1 ≤ d) (hb : ∀ x ∈ xs, x.length = d ∧ TS.Bd B x)
    (hy : ys.Pairwise fun a b => TS.code B a ≤ TS.code B b) (hp : ys.Perm xs) (hg : Gl X "sorted" := by rfl) (hg2 : Gl X "set" := by rfl) (hs : starEach [e] X.env = (false, eval e X.env) :: starEach [] X.env := by exact se rfl) (hpl2 : (backTo pos2 (starEach [] X.env)).any (·.1) = false := by exact spl rfl)
    (hs2 : starEach [.Call (.Name "set" p2) [e] [] pos2] X.env = (false, eval (.Call (.Name "set" p2) [e] [] pos2) X.env) :: starEach [] X.env := by rfl) (hpl : (backTo pos (starEach [] X.env)).any (·.1) = false := by exact spl rfl) :
    XL X (.Call (.Name "sorted" p) [.Call (.Name "set" p2) [e] [] pos2] [] pos) ds (ys.map eT) := .mk fun G S0 S H σ E Q q =>
  we_of (pe_callB (cr_sortD hc) hg hm boot_sorted' (pa_cons (pe_callTy (cr_setD hc hu) hg2 hm2 boot_set' (pa_cons pe_w pa_nil hs) (he := hs) (hpl := hpl2)) pa_nil hs2) (he := hs2) (hpl := hpl)) (ha G S0 S H σ E _ fun v S1 H1 g1 r1 => by
    obtain ⟨l, vs, rfl, hl, ra⟩ := (hA ▸ r1).lst g1.sh
    obtain ⟨ks, rfl, rfl, hk⟩ := da_tups ra
    refine ⟨l, ks, rfl, sq_of hl, fun p hp => st_of (g1.sh _ _ (hk p hp)), ⟨by simpa using hz, by unfold Differ; rw [List.map_map] at df; exact df⟩, fun a L ha0 hL => ?_⟩
    have kL : ∀ p ∈ L, S1 p.1 = some (.tup (p.2.map V.int)) := fun p hp => hk p (hL.mem_iff.mp hp)
    have g2 : Gr S1 H1 S1 (upd H1 a (SetDO X.prog X.w a L)) := Gr.newH g1.sh ha0
    have bL : ∀ p ∈ L, p.2.length = d ∧ TS.Bd B p.2 := fun p hp => hb p.2 (List.mem_map_of_mem (hL.mem_iff.mp hp))
    refine ⟨a, L, d, B, rfl, upd_same, fun p hp => st_of (g2.sh _ _ (kL p hp)), ⟨hd, by rw [hL.length_eq]; simpa using hz⟩, bL, fun L' n pm pw hn => ?_⟩
    have eq : L'.map (·.2) = ys := by
      have pp : (L'.map (·.2)).Perm ys := ((pm.trans hL).map _).trans hp.symm
      refine pp.eq_of_pairwise (fun a b ha hb2 h1 h2 => ?_) (by rw [List.pairwise_map]; exact pw) hy
      obtain ⟨p, hp', rfl⟩ := List.mem_map.mp ha
      obtain ⟨a1, a2⟩ := bL p (pm.mem_iff.mp hp')
      obtain ⟨b1, b2⟩ := hb b (hp.mem_iff.mp hb2)
      exact code_inj a2 b2 (by omega) (by omega)
    have g3 : Gr S1 (upd H1 a (SetDO X.prog X.w a L)) S1 (upd (upd H1 a (SetDO X.prog X.w a L)) n (.lst (L'.map fun p => V.ref p.1))) := Gr.newH g2.sh hn
    have g4 := g1.trans (g2.trans g3)
    refine q n _ S1 _ g4 ((g1.trans g2).h.free hn) (g2.sh.free hn) upd_same ?_
    rw [← eq]
    exact tups_da L' fun p hp => kL p (pm.mem_iff.mp hp))
end
end Lay
/-! Lay26: min(a, b, c, d). -/
namespace Lay
open PySem L2 PySem.Spec PyProof.Rows
theorem argBest_le (f : Nat → Int) : ∀ k, argBest (fun i j => decide (f i < f j)) k ≤ k ∧ ∀ j ≤ k, f (argBest (fun i j => decide (f i < f j)) k) ≤ f j
  | 0 => ⟨Nat.le_refl _, fun j h => by have : j = 0 := by omega
                                       subst this; exact Int.le_refl _⟩
  | k + 1 => by
    obtain ⟨h1, h2⟩ := argBest_le f k
    unfold argBest
    by_cases h : f (k + 1) < f (argBest (fun i j => decide (f i < f j)) k)
    · rw [decide_eq_true h, if_pos rfl]
      refine ⟨Nat.le_refl _, fun j hj => ?_⟩
      rcases Nat.lt_or_ge j (k + 1) with z | z
      · have := h2 j (by omega); omega
      · have : j = k + 1 := by omega
        subst this; exact Int.le_refl _
    · rw [decide_eq_false h, if_neg Bool.false_ne_true]
      refine ⟨by omega, fun j hj => ?_⟩
      rcases Nat.lt_or_ge j (k + 1) with z | z
      · exact h2 j (by omega)
      · have : j = k + 1 := by omega
        subst this; omega
section
variable {prog : Program} {w : World} {A : Around} {E : Value → Shared → Prop} {s : Shared}
theorem args_min4 (a b c d : Value) : argsOk "min" ⟨[a, b, c, d], []⟩ := by unfold argsOk; kernel_rfl
/-- the four of a call, as the tuple that the call makes of them -/
def four (a b c d : Int) (t u x y : Tok) : Array (Int × Tok) := #[(a, t), (b, u), (c, x), (d, y)]
theorem four_min (a b c d : Int) (t u x y : Tok) {v : Value} (h : (intItems (four a b c d t u x y))[argBest (fun i j => decide (numAt (four a b c d t u x y) i < numAt (four a b c d t u x y) j)) 3]? = some v) : ∃ z, v = .int (min (min (min a b) c) d) z := by
  obtain ⟨z, e⟩ := intItems_at h
  refine ⟨z, ?_⟩
  rw [e]
  congr 1
  obtain ⟨m1, m2⟩ := argBest_le (numAt (four a b c d t u x y)) 3
  generalize argBest (fun i j => decide (numAt (four a b c d t u x y) i < numAt (four a b c d t u x y) j)) 3 = m at *
  have a0 : numAt _ m ≤ a := m2 0 (by omega)
  have a1 : numAt _ m ≤ b := m2 1 (by omega)
  have a2 : numAt _ m ≤ c := m2 2 (by omega)
  have a3 : numAt _ m ≤ d := m2 3 (by omega)
  have one : numAt (four a b c d t u x y) m = a ∨ numAt (four a b c d t u x y) m = b ∨ numAt (four a b c d t u x y) m = c ∨ numAt (four a b c d t u x y) m = d := by
    match m, m1 with
    | 0, _ => exact .inl rfl
    | 1, _ => exact .inr (.inl rfl)
    | 2, _ => exact .inr (.inr (.inl rfl))
    | 3, _ => exact .inr (.inr (.inr rfl))
  omega
theorem min_four_ints {a b c d : Int} {t u x y : Tok} {Q : Value → Shared → Prop} (hh : A.handled = none)
    (go : ∀ H tk z, (∀ l o, s.heap.get? l = some o → H.get? l = some o) → Q (.int (min (min (min a b) c) d) z) { s with heap := H, toks := tk }) :
    wpAny (model prog w) A (call (.builtin "min") [.int a t, .int b u, .int c x, .int d y]) Q E s := by
  refine call_function_tree F.kind_min F.plain_min F.entry_min (args_min4 _ _ _ _) ?_
  show wpAny _ A.in1 (Builtin.Builtins.bindParams "min" _ 0 ⟨[], []⟩ >>= _) _ _ s
  refine wpAny_bind (wpAny_of_eq (a := [none, none]) rfl ?_)
  change wpAny _ A.in1 (newTuple [.int a t, .int b u, .int c x, .int d y] >>= _) _ _ s
  refine wpAny_bind (wpAny_newObj_type ?_)
  generalize eH : s.heap.push { cls := .type "tuple", data := .seq #[.int a t, .int b u, .int c x, .int d y] } = H
  have sz : H.objs.size = s.heap.objs.size + 1 := by rw [← eH]; exact Heap.size_push ..
  have tup : H.IsTuple s.heap.objs.size (intItems (four a b c d t u x y)) := ⟨_, by rw [← eH]; exact Heap.get?_push_size _ rfl, rfl, 0, by simp [intItems, four]⟩
  have s4 : (intItems (four a b c d t u x y)).size = 4 := by simp [intItems, four]
  have old : ∀ l o, s.heap.get? l = some o → H.get? l = some o := fun l o e => by rw [← eH]; exact Heap.get?_push_of_some _ e
  have walk := Walks.tuple (prog := prog) (w := w) (A := A.in1) hh H.objs.size s.heap.objs.size (by rw [sz]; exact Nat.ne_of_lt (Nat.lt_succ_self _)) (intItems (four a b c d t u x y))
  refine wpAny_bind (wpAny_pyIter_tuple tup (wpAny_bind (wpAny_newObj_type (wpAny_pure ⟨plainId_quiet F.plain_min_loop _, ?_⟩))))
  refine codeAny_min_loop_first walk _ (CmpOf.ints_lt (numAt (four a b c d t u x y)) (fun _ _ => intItems_at)) _ ?_ (by rw [s4]; decide) (walk.frame _ _ _ (show _ ∧ _ from ⟨⟨_, Heap.get?_push_size _ rfl, rfl, rfl⟩, tup.push _⟩) fun _ _ _ e => Heap.get?_push_of_some _ e) (Heap.get?_push_size _ rfl) fun v H' tk hv keep => ?_
  · intro hm
    rw [Heap.size_push, sz] at hm
    rcases List.mem_cons.mp hm with e | hm
    · exact absurd (show (_ : Nat) = _ from e) (by omega)
    · exact absurd (show (_ : Nat) = _ from List.mem_singleton.mp hm) (by omega)
  · rw [s4] at hv
    obtain ⟨z, rfl⟩ := four_min a b c d t u x y hv
    refine go H' tk z fun l o e => ?_
    have hl : (l : Nat) < s.heap.objs.size := Heap.lt_size e
    refine keep l o (fun hm => ?_) (Nat.ne_of_lt (by rw [Heap.size_push, sz]; exact Nat.lt_succ_of_lt (Nat.lt_succ_of_lt hl))) (Heap.get?_push_of_some _ (Heap.get?_push_of_some _ (old l o e)))
    rw [List.mem_singleton.mp hm, sz] at hl
    exact Nat.lt_irrefl _ (Nat.lt_of_succ_lt hl)
end
section
variable {X : Cx} {W : WX} {ds : List It}
theorem vals4 {x y z k : V} {us : List Value} (r : Vals [x, y, z, k] us) : ∃ u w' t' k', us = [u, w', t', k'] ∧ RelV x u ∧ RelV y w' ∧ RelV z t' ∧ RelV k k' := by
  cases r with
  | cons r1 r2 =>
    cases r2 with
    | cons r2 r3 =>
      obtain ⟨u, w', rfl, r4, r5⟩ := vals2 r3
      exact ⟨_, _, u, w', rfl, r1, r2, r4, r5⟩
theorem call_min4 (hc : X.calm = true) : CallR X (.builtin "min") (fun xs H Q => ∃ i j k l, xs = [.int i, .int j, .int k, .int l] ∧ Q (.int (min (min (min i j) k) l)) H) := by
  intro pins s σ H xs us Q I r h
  obtain ⟨i, j, k, l, rfl, q⟩ := h
  obtain ⟨u1, u2, u3, u4, rfl, ⟨t, rfl⟩, ⟨t', rfl⟩, ⟨t2, rfl⟩, ⟨t3, rfl⟩⟩ := vals4 r
  exact min_four_ints (I.ok.hd hc) fun h' tk z hk => ⟨.int _, H, I.kept hk, ⟨_, rfl⟩, q⟩
theorem rba4 {K : Fg} {S H : Hp} {vs : List V} {d1 d2 d3 d4 : D} (h : RbA K S H vs [d1, d2, d3, d4]) : ∃ u v x y, vs = [u, v, x, y] ∧ Rb K S H u d1 ∧ Rb K S H v d2 ∧ Rb K S H x d3 ∧ Rb K S H y d4 := by
  cases h with
  | cons h t =>
    cases t with
    | cons h2 t =>
      obtain ⟨v, w, rfl, q1, q2⟩ := rba2 t
      exact ⟨_, _, v, w, rfl, h, h2, q1, q2⟩
theorem xv_min4 {p pos : Pos} {a b c d : Expr} {i j k l : Int} (hc : X.calm = true) (hm : X.mg "min" = none) (ha : XB X a ds (.int i)) (hb : XB X b ds (.int j)) (hcc : XB X c ds (.int k)) (hd : XB X d ds (.int l)) (hg : Gl X "min" := by rfl)
    (hs1 : starEach [a, b, c, d] X.env = (false, eval a X.env) :: starEach [b, c, d] X.env := by exact se rfl) (hs2 : starEach [b, c, d] X.env = (false, eval b X.env) :: starEach [c, d] X.env := by exact se rfl) (hs3 : starEach [c, d] X.env = (false, eval c X.env) :: starEach [d] X.env := by exact se rfl) (hs4 : starEach [d] X.env = (false, eval d X.env) :: starEach [] X.env := by exact se rfl)
    (hpl : (backTo pos (starEach [b, c, d] X.env)).any (·.1) = false := by exact spl rfl) :
    XV X (.Call (.Name "min" p) [a, b, c, d] [] pos) ds (.int (min (min (min i j) k) l)) :=
  xv_callB (call_min4 hc) hm boot_min (xab_cons ha (xab_cons hb (xab_cons hcc (xab_cons hd xab_nil hs4) hs3) hs2) hs1) (fun S H vs Q kk r q => by
    obtain ⟨u, v, x, y, rfl, r1, r2, r3, r4⟩ := rba4 r
    rw [r1.int, r2.int, r3.int, r4.int]
    exact ⟨i, j, k, l, rfl, q _ S H (.refl kk) (.int _)⟩) hg (he := hs1) (hpl := hpl)
end
end Lay
set_option autoImplicit true
namespace Prog
open PySem L2 Lay

def top (i : Nat) : Stmt := PySem.Challenge.pw_pursehall_k01_machines.main.body.getD i (.Pass ⟨0, 0, 0, 0⟩)

/-! the law's own draws -/
def cell (s : List Int) (k : Int) : Int := if s.isEmpty then 0 else s.getD (k % s.length).toNat 0
@[irreducible] def mix (s : List Int) (k : Int) : Int :=
  let n := (cell s k + 104729 * (k + 1)) % 4294967291
  let n := n * 48271 % 4294967279
  (n / 64 * 69621 + n) % 4294967231
theorem mix_nonneg (s : List Int) (k : Int) : 0 ≤ mix s k := by unfold mix; exact Int.emod_nonneg _ (by decide)
theorem mix_lt (s : List Int) (k : Int) : mix s k < 4294967231 := by unfold mix; exact Int.emod_lt_of_pos _ (by decide)

/-! machines, as the document has them -/
abbrev Deed := Int × Int × Int × Int
def dl (d : Deed) : List Int := [d.1, d.2.1, d.2.2.1, d.2.2.2]
def eDeed (d : Deed) : D := .tup ((dl d).map .int)
def eMach (p k : Int) (ds : List Deed) : D := .tup [.int p, .int k, .lst (ds.map eDeed)]
def deedOk (p kn : Int) (d : Deed) : Bool := decide (0 ≤ d.1) && decide (d.1 < p) && (decide (0 ≤ d.2.2.1) && decide (d.2.2.1 < p)) && (decide (0 ≤ d.2.1) && decide (d.2.1 < kn)) && (decide (0 ≤ d.2.2.2) && decide (d.2.2.2 ≤ 1000))
def dlt (c d : Deed) : Bool := HT.lexLt (dl c) (dl d)
def prevOk : Option Deed → Deed → Bool
  | none, _ => true
  | some c, d => dlt c d
def look (p kn : Int) : Option Deed → List Deed → Bool
  | _, [] => true
  | prev, d :: ds => deedOk p kn d && prevOk prev d && look p kn (some d) ds
def goodM (p kn : Int) (ds : List Deed) : Bool := decide (1 ≤ p) && decide (p ≤ 200) && (decide (1 ≤ kn) && decide (kn ≤ 8)) && decide (ds.length ≤ 600) && look p kn none ds
def dAt (ds : List Deed) (n : Int) : Deed := ds.getD n.toNat (0, 0, 0, 0)
theorem ix_deed {ds : List Deed} {n : Int} (h0 : 0 ≤ n) (h1 : n < ds.length) : ixD (.lst (ds.map eDeed)) n = some (eDeed (dAt ds n)) := ix_map (atI_d _ h0 h1)
theorem in_of {n : Int} {m : Nat} (h : (!(cmpI .LtE 0 n && cmpI .Lt n (m : Int))) = false) : 0 ≤ n ∧ n < m := by simpa [cmpI] using h
theorem ix_deedC {ds : List Deed} {n : Int} (h : (!(cmpI .LtE 0 n && cmpI .Lt n (((ds.map eDeed).length : Nat) : Int))) = false) : ixD (.lst (ds.map eDeed)) n = some (eDeed (dAt ds n)) := by
  obtain ⟨h0, h1⟩ := in_of h
  rw [List.length_map] at h1
  exact ix_deed h0 h1
theorem ix_lastM {α : Type} {f : α → D} {xs : List α} {x : α} (h : xs.getLast? = some x) : ixD (.lst (xs.map f)) (-1) = some (f x) := by
  refine ix_map ?_
  have hn : xs ≠ [] := by intro z; rw [z] at h; cases h
  rw [atI_lastD hn, ← List.getLast?_eq_some_getLast hn, h]
/-- a deed done at a place: where it leads -/
def step (ds : List Deed) (here n : Int) : Option Int := if 0 ≤ n ∧ n < ds.length ∧ (dAt ds n).1 = here then some (dAt ds n).2.2.1 else none
/-- the places that a row comes to, behind here -/
def goneL (ds : List Deed) : Int → List Int → Option (List Int)
  | _, [] => some []
  | here, n :: r => match step ds here n with
    | none => none
    | some h => (goneL ds h r).map (h :: ·)
theorem goneL_len (ds : List Deed) : ∀ (row : List Int) (here : Int) (l : List Int), goneL ds here row = some l → l.length = row.length
  | [], here, l, h => by cases h; rfl
  | n :: r, here, l, h => by
    unfold goneL at h
    split at h
    · cases h
    · rename_i h2 hs
      cases e : goneL ds h2 r with
      | none => rw [e] at h; cases h
      | some l2 => rw [e] at h; cases h; simp [goneL_len ds r h2 l2 e]
theorem goneL_some {ds : List Deed} {here n h : Int} {r : List Int} (e : step ds here n = some h) : goneL ds here (n :: r) = (goneL ds h r).map (h :: ·) := by
  conv => lhs; unfold goneL
  rw [e]
theorem goneL_none {ds : List Deed} {here n : Int} {r : List Int} (e : step ds here n = none) : goneL ds here (n :: r) = none := by
  conv => lhs; unfold goneL
  rw [e]
theorem step_to {ds : List Deed} {here n h : Int} (e : step ds here n = some h) : h = (dAt ds n).2.2.1 := by
  unfold step at e
  split at e
  · cases e; rfl
  · cases e
/-- what the deeds of a row cost -/
def costL (ds : List Deed) (row : List Int) : Int := (row.map fun n => (dAt ds n).2.2.2).sum
theorem goneL_in {ds : List Deed} : ∀ (row : List Int) (here : Int) (l : List Int), goneL ds here row = some l → ∀ n ∈ row, 0 ≤ n ∧ n < ds.length
  | [], here, l, _, n, hn => by cases hn
  | n :: r, here, l, h, m, hm => by
    cases e : step ds here n with
    | none => rw [goneL_none e] at h; cases h
    | some h2 =>
      rw [goneL_some e] at h
      have hin : 0 ≤ n ∧ n < ds.length := by
        unfold step at e
        split at e
        · omega
        · cases e
      rcases List.mem_cons.mp hm with rfl | hm
      · exact hin
      · cases e3 : goneL ds h2 r with
        | none => rw [e3] at h; cases h
        | some l2 => exact goneL_in r h2 l2 e3 m hm
theorem look_mem {p kn : Int} : ∀ (ds : List Deed) (prev : Option Deed), look p kn prev ds = true → ∀ d ∈ ds, deedOk p kn d = true
  | [], _, _, d, h => by cases h
  | c :: ds, prev, e, d, h => by
    unfold look at e
    rw [Bool.and_eq_true, Bool.and_eq_true] at e
    rcases List.mem_cons.mp h with rfl | h
    · exact e.1.1
    · exact look_mem ds _ e.2 d h
theorem goodM_d {p kn : Int} {ds : List Deed} (h : goodM p kn ds = true) : (1 ≤ p ∧ p ≤ 200) ∧ (1 ≤ kn ∧ kn ≤ 8) ∧ ds.length ≤ 600 ∧ ∀ d ∈ ds, (0 ≤ d.1 ∧ d.1 < p) ∧ (0 ≤ d.2.2.1 ∧ d.2.2.1 < p) ∧ (0 ≤ d.2.1 ∧ d.2.1 < kn) ∧ 0 ≤ d.2.2.2 ∧ d.2.2.2 ≤ 1000 := by
  unfold goodM at h
  simp only [Bool.and_eq_true, decide_eq_true_eq] at h
  obtain ⟨⟨⟨h1, h2⟩, h3⟩, h4⟩ := h
  refine ⟨h1, h2, h3, fun d hd => ?_⟩
  have q := look_mem ds none h4 d hd
  unfold deedOk at q
  simp only [Bool.and_eq_true, decide_eq_true_eq] at q
  obtain ⟨⟨⟨q1, q2⟩, q3⟩, q4⟩ := q
  exact ⟨q1, q2, q3, q4⟩
theorem dAt_mem {ds : List Deed} {n : Int} (h0 : 0 ≤ n) (h1 : n < ds.length) : dAt ds n ∈ ds := by
  unfold dAt
  rw [List.getD_eq_getElem?_getD, List.getElem?_eq_getElem (by omega)]
  exact List.getElem_mem _
theorem goneL_cons {ds : List Deed} {here n : Int} {r : List Int} {l : List Int} (h : goneL ds here (n :: r) = some l) : (0 ≤ n ∧ n < ds.length ∧ (dAt ds n).1 = here) ∧ ∃ l2, goneL ds (dAt ds n).2.2.1 r = some l2 ∧ l = (dAt ds n).2.2.1 :: l2 := by
  cases e : step ds here n with
  | none => rw [goneL_none e] at h; cases h
  | some h2 =>
    rw [goneL_some e] at h
    have e2 := step_to e
    subst e2
    refine ⟨?_, ?_⟩
    · unfold step at e
      split at e
      · assumption
      · cases e
    · cases e3 : goneL ds (dAt ds n).2.2.1 r with
      | none => rw [e3] at h; cases h
      | some l2 => rw [e3] at h; cases h; exact ⟨l2, rfl, rfl⟩
theorem step_at {ds : List Deed} {here n : Int} (h0 : 0 ≤ n) (h1 : n < ds.length) (h : (dAt ds n).1 = here) : step ds here n = some (dAt ds n).2.2.1 := by
  unfold step
  rw [if_pos ⟨h0, h1, h⟩]

/-! the law's drawn machines -/
def cd (d : Deed) : Int := TS.code 1024 (dl d)
def dins (d : Deed) : List Deed → List Deed
  | [] => [d]
  | x :: xs => if cd d < cd x then d :: x :: xs else if cd d = cd x then x :: xs else x :: dins d xs
/-- sorted, each once -/
def dsort : List Deed → List Deed
  | [] => []
  | d :: ds => dins d (dsort ds)
def BdD (d : Deed) : Prop := TS.Bd 1024 (dl d)
theorem dl_inj {c d : Deed} (h : dl c = dl d) : c = d := by
  obtain ⟨a, b, c', e⟩ := c
  obtain ⟨a2, b2, c2, e2⟩ := d
  simp only [dl, List.cons.injEq] at h
  obtain ⟨h1, h2, h3, h4, _⟩ := h
  rw [h1, h2, h3, h4]
theorem cd_inj {c d : Deed} (hc : BdD c) (hd : BdD d) (h : cd c = cd d) : c = d := dl_inj (code_inj hc hd rfl h)
theorem dins_mem {d : Deed} (hd : BdD d) : ∀ {xs : List Deed}, (∀ x ∈ xs, BdD x) → ∀ y, y ∈ dins d xs ↔ y = d ∨ y ∈ xs
  | [], _, y => by simp [dins]
  | x :: xs, h, y => by
    have ih := dins_mem hd (xs := xs) (fun z hz => h z (List.mem_cons_of_mem _ hz)) y
    unfold dins
    split
    · simp
    · split
      · rename_i h1 h2
        have e := cd_inj hd (h x List.mem_cons_self) h2
        subst e
        simp
      · simp only [List.mem_cons, ih]
        constructor
        · rintro (h | h | h) <;> simp [h]
        · rintro (h | h | h) <;> simp [h]
theorem dins_rise {d : Deed} : ∀ {xs : List Deed}, xs.Pairwise (fun a b => cd a < cd b) → (dins d xs).Pairwise (fun a b => cd a < cd b) ∧ ∀ y ∈ dins d xs, y = d ∨ y ∈ xs
  | [], _ => by simp [dins]
  | x :: xs, h => by
    rw [List.pairwise_cons] at h
    obtain ⟨ih1, ih2⟩ := dins_rise (d := d) h.2
    unfold dins
    split
    · rename_i h1
      refine ⟨?_, fun y hy => by simpa using hy⟩
      rw [List.pairwise_cons, List.pairwise_cons]
      refine ⟨fun y hy => ?_, h.1, h.2⟩
      rcases List.mem_cons.mp hy with rfl | hy
      · exact h1
      · have := h.1 y hy; omega
    · split
      · refine ⟨by rw [List.pairwise_cons]; exact ⟨h.1, h.2⟩, fun y hy => .inr hy⟩
      · rename_i h1 h2
        refine ⟨?_, fun y hy => ?_⟩
        · rw [List.pairwise_cons]
          refine ⟨fun y hy => ?_, ih1⟩
          rcases ih2 y hy with rfl | hy
          · omega
          · exact h.1 y hy
        · rcases List.mem_cons.mp hy with rfl | hy
          · exact .inr List.mem_cons_self
          · rcases ih2 y hy with z | z
            · exact .inl z
            · exact .inr (List.mem_cons_of_mem _ z)
theorem dsort_rise : ∀ (ds : List Deed), (dsort ds).Pairwise (fun a b => cd a < cd b)
  | [] => .nil
  | d :: ds => (dins_rise (dsort_rise ds)).1
theorem dsort_mem : ∀ {ds : List Deed}, (∀ d ∈ ds, BdD d) → ∀ y, y ∈ dsort ds ↔ y ∈ ds
  | [], _, y => by simp [dsort]
  | d :: ds, h, y => by
    have ih := dsort_mem (ds := ds) fun z hz => h z (List.mem_cons_of_mem _ hz)
    unfold dsort
    rw [dins_mem (h d List.mem_cons_self) (fun x hx => h x (List.mem_cons_of_mem _ ((ih x).mp hx))) y, ih y, List.mem_cons]
theorem dins_len {d : Deed} : ∀ (xs : List Deed), (dins d xs).length ≤ xs.length + 1
  | [] => by simp [dins]
  | x :: xs => by
    have := dins_len (d := d) xs
    unfold dins
    split
    · simp
    · split <;> simp <;> omega
theorem dsort_len : ∀ (ds : List Deed), (dsort ds).length ≤ ds.length
  | [] => by simp [dsort]
  | d :: ds => by
    have := dsort_len ds
    have := dins_len (d := d) (dsort ds)
    simp only [dsort, List.length_cons]; omega
/-- code and the tuples' own order -/
theorem lex_code {B : Int} : ∀ {ns ms : List Int}, TS.Bd B ns → TS.Bd B ms → ns.length = ms.length → (HT.lexLt ns ms = true ↔ TS.code B ns < TS.code B ms)
  | [], [], _, _, _ => by simp [HT.lexLt, TS.code]
  | [], _ :: _, _, _, h => by cases h
  | _ :: _, [], _, _, h => by cases h
  | d :: r, d' :: r', h, h', hl => by
    have hl' : r.length = r'.length := by simpa using hl
    obtain ⟨a1, a2⟩ := code_bd h.tail
    obtain ⟨b1, b2⟩ := code_bd h'.tail
    have ih := lex_code h.tail h'.tail hl'
    simp only [TS.code, HT.lexLt]
    rw [← hl'] at b2 ⊢
    have hp : 0 < B ^ r.length := Int.pow_pos (by have := h.head; omega)
    rcases Int.lt_trichotomy d d' with z | z | z
    · have : (d + 1) * B ^ r.length ≤ d' * B ^ r.length := Int.mul_le_mul_of_nonneg_right (by omega) (Int.le_of_lt hp)
      rw [Int.add_mul] at this
      rw [if_neg (by omega), decide_eq_true z]
      constructor
      · intro _; omega
      · intro _; rfl
    · subst z
      rw [if_pos rfl, ih]
      omega
    · have : (d' + 1) * B ^ r.length ≤ d * B ^ r.length := Int.mul_le_mul_of_nonneg_right (by omega) (Int.le_of_lt hp)
      rw [Int.add_mul] at this
      rw [if_neg (by omega), decide_eq_false (by omega)]
      constructor
      · intro q; cases q
      · intro q; omega
theorem dlt_cd {c d : Deed} (hc : BdD c) (hd : BdD d) : dlt c d = true ↔ cd c < cd d := lex_code hc hd rfl
/-- what look asks, of a list that rises by code -/
theorem look_of {p kn : Int} : ∀ (ds : List Deed) (prev : Option Deed), (∀ d ∈ ds, BdD d ∧ deedOk p kn d = true) → ds.Pairwise (fun a b => cd a < cd b) → (∀ c, prev = some c → BdD c ∧ ∀ d ∈ ds, cd c < cd d) → look p kn prev ds = true
  | [], _, _, _, _ => rfl
  | d :: ds, prev, h, hp, hc => by
    rw [List.pairwise_cons] at hp
    obtain ⟨hb, ho⟩ := h d List.mem_cons_self
    have h1 : prevOk prev d = true := by
      cases prev with
      | none => rfl
      | some c =>
        obtain ⟨c1, c2⟩ := hc c rfl
        exact (dlt_cd c1 hb).mpr (c2 d List.mem_cons_self)
    have h2 := look_of ds (some d) (fun x hx => h x (List.mem_cons_of_mem _ hx)) hp.2 fun c e => by cases e; exact ⟨hb, hp.1⟩
    unfold look
    rw [ho, h1, h2]
    rfl

def mPl (s : List Int) (k most : Int) : Int := 1 + mix s k % most
def mKn (s : List Int) (k : Int) : Int := 1 + mix s (k + 1) % 3
def mCost (n : Int) : Int := ([0, 1, 2, 3, 5, 9, 1, 0] : List Int).getD (n / 4096 % 8).toNat 0
def mDeed (s : List Int) (k most : Int) (j : Int) : Deed :=
  let n := mix s (k + 3 + j)
  (n % mPl s k most, n / 16 % mKn s k, n / 64 % mPl s k most, mCost n)
def mMany (s : List Int) (k most : Int) : Nat := (mix s (k + 2) % (2 * most + 1)).toNat
def mRaw (s : List Int) (k most : Int) : List Deed := (List.range (mMany s k most)).map fun (j : Nat) => mDeed s k most (j : Int)
def mDs (s : List Int) (k most : Int) : List Deed := dsort (mRaw s k most)
theorem mPl_bd {s : List Int} {k most : Int} (h : 1 ≤ most) : 1 ≤ mPl s k most ∧ mPl s k most ≤ most := by
  unfold mPl
  have h1 := Int.emod_nonneg (mix s k) (show most ≠ 0 by omega)
  have h2 := Int.emod_lt_of_pos (mix s k) (show 0 < most by omega)
  omega
theorem mKn_bd (s : List Int) (k : Int) : 1 ≤ mKn s k ∧ mKn s k ≤ 3 := by unfold mKn; omega
theorem mCost_bd (n : Int) : 0 ≤ mCost n ∧ mCost n ≤ 9 := by
  unfold mCost
  have : (n / 4096 % 8).toNat < 8 := by omega
  generalize (n / 4096 % 8).toNat = m at this
  match m, this with
  | 0, _ => decide
  | 1, _ => decide
  | 2, _ => decide
  | 3, _ => decide
  | 4, _ => decide
  | 5, _ => decide
  | 6, _ => decide
  | 7, _ => decide
theorem mMany_bd {s : List Int} {k most : Int} (h : 1 ≤ most) : (mMany s k most : Int) ≤ 2 * most := by
  unfold mMany
  have h1 := Int.emod_nonneg (mix s (k + 2)) (show 2 * most + 1 ≠ 0 by omega)
  have h2 := Int.emod_lt_of_pos (mix s (k + 2)) (show 0 < 2 * most + 1 by omega)
  omega
theorem mDeed_bd {s : List Int} {k most : Int} (h : 1 ≤ most) (h7 : most ≤ 200) (j : Int) : BdD (mDeed s k most j) ∧ deedOk (mPl s k most) (mKn s k) (mDeed s k most j) = true := by
  obtain ⟨p1, p2⟩ := mPl_bd (s := s) (k := k) h
  obtain ⟨k1, k2⟩ := mKn_bd s k
  obtain ⟨c1, c2⟩ := mCost_bd (mix s (k + 3 + j))
  have a1 := Int.emod_nonneg (mix s (k + 3 + j)) (show mPl s k most ≠ 0 by omega)
  have a2 := Int.emod_lt_of_pos (mix s (k + 3 + j)) (show 0 < mPl s k most by omega)
  have b1 := Int.emod_nonneg (mix s (k + 3 + j) / 16) (show mKn s k ≠ 0 by omega)
  have b2 := Int.emod_lt_of_pos (mix s (k + 3 + j) / 16) (show 0 < mKn s k by omega)
  have d1 := Int.emod_nonneg (mix s (k + 3 + j) / 64) (show mPl s k most ≠ 0 by omega)
  have d2 := Int.emod_lt_of_pos (mix s (k + 3 + j) / 64) (show 0 < mPl s k most by omega)
  constructor
  · intro m hm
    simp only [dl, mDeed, List.mem_cons, List.not_mem_nil, or_false] at hm
    rcases hm with rfl | rfl | rfl | rfl <;> omega
  · unfold deedOk
    simp only [mDeed, Bool.and_eq_true, decide_eq_true_eq]
    exact ⟨⟨⟨⟨decide_eq_true a1, decide_eq_true a2⟩, decide_eq_true d1, decide_eq_true d2⟩, decide_eq_true b1, decide_eq_true b2⟩, decide_eq_true c1, decide_eq_true (Int.le_trans c2 (by omega))⟩
theorem mRaw_bd {s : List Int} {k most : Int} (h : 1 ≤ most) (h7 : most ≤ 200) : ∀ d ∈ mRaw s k most, BdD d ∧ deedOk (mPl s k most) (mKn s k) d = true := fun d hd => by
  obtain ⟨j, _, rfl⟩ := List.mem_map.mp hd
  exact mDeed_bd h h7 j
theorem mDs_mem {s : List Int} {k most : Int} (h : 1 ≤ most) (h7 : most ≤ 200) (d : Deed) : d ∈ mDs s k most ↔ d ∈ mRaw s k most := dsort_mem (fun d hd => (mRaw_bd h h7 d hd).1) d
theorem mDs_bd {s : List Int} {k most : Int} (h : 1 ≤ most) (h7 : most ≤ 200) : ∀ d ∈ mDs s k most, BdD d ∧ deedOk (mPl s k most) (mKn s k) d = true := fun d hd => mRaw_bd h h7 d ((mDs_mem h h7 d).mp hd)
theorem mDs_len {s : List Int} {k most : Int} (h : 1 ≤ most) : ((mDs s k most).length : Int) ≤ 2 * most := by
  have h1 := dsort_len (mRaw s k most)
  have h2 := mMany_bd (s := s) (k := k) h
  have h3 : (mRaw s k most).length = mMany s k most := by simp [mRaw]
  unfold mDs
  omega
theorem mDs_rise (s : List Int) (k most : Int) : (mDs s k most).Pairwise (fun a b => cd a < cd b) := dsort_rise _
theorem mDs_good {s : List Int} {k most : Int} (h : 1 ≤ most) (h7 : most ≤ 200) : goodM (mPl s k most) (mKn s k) (mDs s k most) = true := by
  obtain ⟨p1, p2⟩ := mPl_bd (s := s) (k := k) h
  obtain ⟨k1, k2⟩ := mKn_bd s k
  have hl := mDs_len (s := s) (k := k) h
  unfold goodM
  rw [decide_eq_true p1, decide_eq_true (show mPl s k most ≤ 200 by omega), decide_eq_true k1, decide_eq_true (show mKn s k ≤ 8 by omega), decide_eq_true (show (mDs s k most).length ≤ 600 by omega),
    look_of _ none (mDs_bd h h7) (mDs_rise s k most) (fun c e => by cases e)]
  rfl
/-- the deeds that can be done at a place -/
def mSome (ds : List Deed) (here : Int) : List Nat := (List.range ds.length).filter fun (n : Nat) => decide ((dAt ds (n : Int)).1 = here)
def mPick (s : List Int) (k : Int) (ds : List Deed) (here : Int) (j : Nat) : Int := ((mSome ds here).getD (mix s (k + 1 + j) % (mSome ds here).length).toNat 0 : Nat)
def rowStep (s : List Int) (k : Int) (ds : List Deed) (st : List Int × Int) (j : Nat) : List Int × Int :=
  if (mSome ds st.2).isEmpty then st else (st.1 ++ [mPick s k ds st.2 j], (dAt ds (mPick s k ds st.2 j)).2.2.1)
def rowSt (s : List Int) (k : Int) (ds : List Deed) (n : Nat) : List Int × Int := (List.range n).foldl (rowStep s k ds) ([], 0)
def mRow (s : List Int) (k : Int) (ds : List Deed) (most : Int) : List Int := (rowSt s k ds (mix s k % (most + 1)).toNat).1
theorem rowSt_succ (s : List Int) (k : Int) (ds : List Deed) (n : Nat) : rowSt s k ds (n + 1) = rowStep s k ds (rowSt s k ds n) n := by
  unfold rowSt; rw [List.range_succ, List.foldl_append]; rfl
theorem mPick_mem {s : List Int} {k : Int} {ds : List Deed} {here : Int} {j : Nat} (h : (mSome ds here).isEmpty = false) : ∃ n ∈ mSome ds here, mPick s k ds here j = (n : Int) ∧ (mSome ds here)[(mix s (k + 1 + j) % (mSome ds here).length).toNat]? = some n := by
  have hl : 0 < (mSome ds here).length := by
    rw [List.isEmpty_eq_false_iff] at h
    exact List.length_pos_iff.mpr h
  have h1 := Int.emod_nonneg (mix s (k + 1 + j)) (show ((mSome ds here).length : Int) ≠ 0 by omega)
  have h2 := Int.emod_lt_of_pos (mix s (k + 1 + j)) (show (0 : Int) < ((mSome ds here).length : Int) by omega)
  unfold mPick
  generalize he : (mix s (k + 1 + j) % ((mSome ds here).length : Int)).toNat = m
  have hm : m < (mSome ds here).length := by omega
  refine ⟨(mSome ds here)[m], List.getElem_mem hm, ?_, ?_⟩
  · rw [List.getD_eq_getElem?_getD, List.getElem?_eq_getElem hm]; rfl
  · rw [List.getElem?_eq_getElem hm]
theorem mSome_spec {ds : List Deed} {here : Int} {n : Nat} (h : n ∈ mSome ds here) : n < ds.length ∧ (dAt ds n).1 = here := by
  unfold mSome at h
  rw [List.mem_filter, List.mem_range, decide_eq_true_eq] at h
  exact h
theorem step_pick {s : List Int} {k : Int} {ds : List Deed} {here : Int} {j : Nat} (h : (mSome ds here).isEmpty = false) : step ds here (mPick s k ds here j) = some (dAt ds (mPick s k ds here j)).2.2.1 := by
  obtain ⟨n, hn, e, _⟩ := mPick_mem (s := s) (k := k) (j := j) h
  obtain ⟨h1, h2⟩ := mSome_spec hn
  unfold step
  rw [e, if_pos ⟨by omega, by omega, h2⟩]
theorem getLast_snoc {a x : Int} {l : List Int} (h : a :: (l ++ [x]) ≠ []) : (a :: (l ++ [x])).getLast h = x := by
  have e : (a :: (l ++ [x])).getLast? = some x := List.getLast?_concat (l := a :: l)
  rw [List.getLast?_eq_some_getLast h] at e
  exact Option.some.inj e
/-- a row goes on -/
theorem goneL_snoc {ds : List Deed} : ∀ (row : List Int) (here : Int) (l : List Int) (n h : Int), goneL ds here row = some l → step ds ((here :: l).getLast (by simp)) n = some h → goneL ds here (row ++ [n]) = some (l ++ [h])
  | [], here, l, n, h, e, es => by
    cases e
    have es' : step ds here n = some h := es
    show goneL ds here [n] = _
    rw [goneL_some es']
    rfl
  | m :: r, here, l, n, h, e, es => by
    cases e1 : step ds here m with
    | none => rw [goneL_none e1] at e; cases e
    | some h1 =>
      rw [goneL_some e1] at e
      cases e2 : goneL ds h1 r with
      | none => rw [e2] at e; cases e
      | some l2 =>
        rw [e2] at e
        cases e
        have ih := goneL_snoc r h1 l2 n h e2 (by simpa using es)
        show goneL ds here (m :: (r ++ [n])) = _
        rw [goneL_some e1, ih]
        rfl
theorem rowSt_good (s : List Int) (k : Int) (ds : List Deed) : ∀ n, ∃ l, goneL ds 0 (rowSt s k ds n).1 = some l ∧ (0 :: l).getLast (by simp) = (rowSt s k ds n).2 ∧ (rowSt s k ds n).1.length ≤ n
  | 0 => ⟨[], rfl, rfl, by simp [rowSt]⟩
  | n + 1 => by
    obtain ⟨l, h1, h2, h3⟩ := rowSt_good s k ds n
    rw [rowSt_succ]
    unfold rowStep
    cases e : (mSome ds (rowSt s k ds n).2).isEmpty with
    | true => rw [if_pos rfl]; exact ⟨l, h1, h2, by omega⟩
    | false =>
      rw [if_neg Bool.false_ne_true]
      have q := goneL_snoc (rowSt s k ds n).1 0 l _ _ h1 (by rw [h2]; exact step_pick (s := s) (k := k) (j := n) e)
      exact ⟨_, q, getLast_snoc _, by rw [List.length_append, List.length_singleton]; omega⟩
theorem mRow_good (s : List Int) (k : Int) (ds : List Deed) (most : Int) (hm : 0 ≤ most) : ∃ l, goneL ds 0 (mRow s k ds most) = some l ∧ ((mRow s k ds most).length : Int) ≤ most := by
  obtain ⟨l, h1, _, h3⟩ := rowSt_good s k ds (mix s k % (most + 1)).toNat
  have h4 := Int.emod_nonneg (mix s k) (show most + 1 ≠ 0 by omega)
  have h5 := Int.emod_lt_of_pos (mix s k) (show 0 < most + 1 by omega)
  exact ⟨l, h1, by unfold mRow; omega⟩

/-! machines may be compared -/
theorem okN_deed (d : Deed) : okN 1 (eDeed d) := okN_tup (n := 0) fun x hx => by
  obtain ⟨i, _, rfl⟩ := List.mem_map.mp hx
  exact okN_int
theorem okN_deeds (ds : List Deed) : okN 2 (.lst (ds.map eDeed)) := okN_lst (n := 1) fun x hx => by
  obtain ⟨d, _, rfl⟩ := List.mem_map.mp hx
  exact okN_deed d
theorem okN_mach (p k : Int) (ds : List Deed) : okN 3 (eMach p k ds) := okN_tup (n := 2) fun x hx => by
  simp only [List.mem_cons, List.not_mem_nil, or_false] at hx
  rcases hx with rfl | rfl | rfl
  · exact okN_int
  · exact okN_int
  · exact okN_deeds ds
theorem okN_ints (ns : List Int) : okN 1 (.lst (ns.map .int)) := okN_lst (n := 0) fun x hx => by
  obtain ⟨i, _, rfl⟩ := List.mem_map.mp hx
  exact okN_int
theorem okN_intsT (ns : List Int) : okN 1 (.tup (ns.map .int)) := okN_tup (n := 0) fun x hx => by
  obtain ⟨i, _, rfl⟩ := List.mem_map.mp hx
  exact okN_int
theorem eqD_deed (c d : Deed) : eqD (eDeed c) (eDeed d) = decide (c = d) := by
  obtain ⟨a, b, e, f⟩ := c
  obtain ⟨a', b', e', f'⟩ := d
  show ((a == a') && ((b == b') && ((e == e') && ((f == f') && true)))) = _
  rw [Bool.eq_iff_iff]
  simp [Prod.ext_iff, and_assoc]
theorem idx_no {l : List Deed} {d : Deed} {j : Nat} (h : ∀ (m : Nat) (z : Deed), m < j → l[m]? = some z → z ≠ d) (m : Nat) (z' : D) (hm : m < j) (hz : (l.map eDeed)[m]? = some z') : eqD z' (eDeed d) = false := by
  rw [List.getElem?_map] at hz
  cases w : l[m]? with
  | none => rw [w] at hz; cases hz
  | some c =>
    rw [w] at hz
    cases hz
    rw [eqD_deed]
    exact decide_eq_false (h m c hm w)
theorem costL_cons (ds : List Deed) (n : Int) (r : List Int) : costL ds (n :: r) = (dAt ds n).2.2.2 + costL ds r := by
  unfold costL
  rw [List.map_cons, List.sum_cons]

/-! places that can be come to -/
inductive Reach (ds : List Deed) : Int → Prop where
  | zero : Reach ds 0
  | go {d : Deed} : d ∈ ds → Reach ds d.1 → Reach ds d.2.2.1
noncomputable def rB (p : Int) (ds : List Deed) : List Bool := (List.range p.toNat).map fun (v : Nat) => @decide (Reach ds (v : Int)) (Classical.propDecidable _)
theorem rB_len (p : Int) (ds : List Deed) : (rB p ds).length = p.toNat := by simp [rB]
theorem rB_get {p : Int} {ds : List Deed} {v : Nat} (h : v < p.toNat) : (rB p ds)[v]? = some (@decide (Reach ds (v : Int)) (Classical.propDecidable _)) := by
  unfold rB
  rw [List.getElem?_map, List.getElem?_range h]; rfl
/-- is v come to? -/
noncomputable def isR (ds : List Deed) (v : Int) : Bool := @decide (Reach ds v) (Classical.propDecidable _)
theorem isR_iff {ds : List Deed} {v : Int} : isR ds v = true ↔ Reach ds v := by unfold isR; exact @decide_eq_true_iff _ (Classical.propDecidable _)
theorem isR_of {ds : List Deed} {v : Int} {b : Bool} (h : b = true ↔ Reach ds v) : b = isR ds v := by
  rw [Bool.eq_iff_iff, h, isR_iff]
theorem rB_ix {p : Int} {ds : List Deed} {v : Int} (h0 : 0 ≤ v) (h1 : v < p) : ixD (.lst ((rB p ds).map .bl)) v = some (.bl (isR ds v)) := by
  refine ix_map ?_
  have hl : v < ((rB p ds).length : Nat) := by rw [rB_len]; omega
  rw [atI_ge h0 hl, ← List.getElem?_eq_getElem, rB_get (by omega), Int.toNat_of_nonneg h0]; rfl
/-- one deed of one turn -/
def dfs (here : Int) (st : List Bool × List Int) (d : Deed) : List Bool × List Int :=
  if d.1 = here ∧ st.1.getD d.2.2.1.toNat true = false then (st.1.set d.2.2.1.toNat true, st.2 ++ [d.2.2.1]) else st
def dfsAll (ds : List Deed) (here : Int) (st : List Bool × List Int) : List Bool × List Int := ds.foldl (dfs here) st
def on (found : List Bool) (v : Int) : Prop := 0 ≤ v ∧ found[v.toNat]? = some true
def msr (st : List Bool × List Int) : Nat := 2 * st.1.count false + st.2.length
structure DInv (p : Int) (ds : List Deed) (pend : Int → Prop) (st : List Bool × List Int) : Prop where
  len : (st.1.length : Int) = p
  ok : ∀ v : Int, on st.1 v → Reach ds v
  lf : ∀ v ∈ st.2, (0 ≤ v ∧ v < p) ∧ on st.1 v
  cl : ∀ d ∈ ds, on st.1 d.1 → d.1 ∈ st.2 ∨ on st.1 d.2.2.1 ∨ pend d.1
  z : on st.1 0
theorem count_set {l : List Bool} {i : Nat} (h : l.getD i true = false) : (l.set i true).count false + 1 = l.count false := by
  induction l generalizing i with
  | nil => simp at h
  | cons x xs ih =>
    cases i with
    | zero =>
      simp at h
      subst h
      simp
    | succ i =>
      have h' : xs.getD i true = false := by simpa using h
      have := ih h'
      rw [List.set_cons_succ, List.count_cons, List.count_cons]
      omega
theorem on_set {l : List Bool} {i : Nat} (hi : i < l.length) {v : Int} : on (l.set i true) v ↔ 0 ≤ v ∧ (v.toNat = i ∨ on l v) := by
  unfold on
  rw [List.getElem?_set]
  by_cases e : i = v.toNat
  · rw [if_pos e, if_pos (by omega)]; simp [e]
  · rw [if_neg e]
    constructor
    · rintro ⟨a, b⟩; exact ⟨a, .inr ⟨a, b⟩⟩
    · rintro ⟨a, b | b⟩
      · exact absurd b.symm e
      · exact b
theorem dfs_msr (here : Int) (st : List Bool × List Int) (d : Deed) : msr (dfs here st d) ≤ msr st := by
  unfold dfs
  split
  · rename_i h
    have := count_set h.2
    unfold msr
    simp only [List.length_append, List.length_singleton]
    omega
  · exact Nat.le_refl _
theorem dfsAll_msr (here : Int) : ∀ (ds : List Deed) (st : List Bool × List Int), msr (dfsAll ds here st) ≤ msr st
  | [], _ => Nat.le_refl _
  | d :: ds, st => Nat.le_trans (dfsAll_msr here ds (dfs here st d)) (dfs_msr here st d)
theorem getD_on {l : List Bool} {v : Int} (h0 : 0 ≤ v) (h1 : v < l.length) : l.getD v.toNat true = true ↔ on l v := by
  unfold on
  rw [List.getD_eq_getElem?_getD, List.getElem?_eq_getElem (by omega)]
  simp [h0]
/-- one deed keeps what is true -/
theorem dfs_inv {p : Int} {ds : List Deed} {here : Int} {pend : Int → Prop} {st : List Bool × List Int} {d : Deed} (hd : d ∈ ds) (hb : 0 ≤ d.2.2.1 ∧ d.2.2.1 < p) (hr : Reach ds here) (I : DInv p ds pend st) :
    DInv p ds pend (dfs here st d) ∧ (∀ v, on st.1 v → on (dfs here st d).1 v) ∧ (d.1 = here → on (dfs here st d).1 d.2.2.1) := by
  have hl := I.len
  unfold dfs
  split
  · rename_i h
    have hi : d.2.2.1.toNat < st.1.length := by omega
    have up : ∀ v, on st.1 v → on (st.1.set d.2.2.1.toNat true) v := fun v hv => (on_set hi).mpr ⟨hv.1, .inr hv⟩
    have me : on (st.1.set d.2.2.1.toNat true) d.2.2.1 := (on_set hi).mpr ⟨hb.1, .inl rfl⟩
    refine ⟨⟨by simpa using hl, fun v hv => ?_, fun v hv => ?_, fun c hc hv => ?_, up 0 I.z⟩, up, fun _ => me⟩
    · obtain ⟨h0, e | h1⟩ := (on_set hi).mp hv
      · have : v = d.2.2.1 := by omega
        rw [this]
        exact .go hd (by rw [h.1]; exact hr)
      · exact I.ok v h1
    · rcases List.mem_append.mp hv with hv | hv
      · exact ⟨(I.lf v hv).1, up v (I.lf v hv).2⟩
      · rw [List.mem_singleton] at hv
        subst hv
        exact ⟨hb, me⟩
    · obtain ⟨h0, e | h1⟩ := (on_set hi).mp hv
      · have : c.1 = d.2.2.1 := by omega
        exact .inl (List.mem_append_right _ (by rw [this]; exact List.mem_singleton_self _))
      · rcases I.cl c hc h1 with q | q | q
        · exact .inl (List.mem_append_left _ q)
        · exact .inr (.inl (up _ q))
        · exact .inr (.inr q)
  · rename_i h
    refine ⟨I, fun v hv => hv, fun e => ?_⟩
    refine (getD_on hb.1 (by omega)).mp ?_
    cases q : st.1.getD d.2.2.1.toNat true with
    | true => rfl
    | false => exact absurd ⟨e, q⟩ h
theorem dfsAll_inv {p : Int} {ds : List Deed} {here : Int} {pend : Int → Prop} (hb : ∀ d ∈ ds, 0 ≤ d.2.2.1 ∧ d.2.2.1 < p) (hr : Reach ds here) : ∀ (xs : List Deed) (st : List Bool × List Int), (∀ d ∈ xs, d ∈ ds) → DInv p ds pend st →
    DInv p ds pend (dfsAll xs here st) ∧ (∀ v, on st.1 v → on (dfsAll xs here st).1 v) ∧ (∀ d ∈ xs, d.1 = here → on (dfsAll xs here st).1 d.2.2.1)
  | [], st, _, I => ⟨I, fun v h => h, fun d hd => by cases hd⟩
  | d :: xs, st, hm, I => by
    obtain ⟨I1, u1, m1⟩ := dfs_inv (hm d List.mem_cons_self) (hb d (hm d List.mem_cons_self)) hr I
    obtain ⟨I2, u2, m2⟩ := dfsAll_inv hb hr xs (dfs here st d) (fun c hc => hm c (List.mem_cons_of_mem _ hc)) I1
    refine ⟨I2, fun v h => u2 v (u1 v h), fun c hc e => ?_⟩
    rcases List.mem_cons.mp hc with rfl | hc
    · exact u2 _ (m1 e)
    · exact m2 c hc e
/-- one turn -/
theorem turn_inv {p : Int} {ds : List Deed} {f : List Bool} {l : List Int} {here : Int} (hb : ∀ d ∈ ds, 0 ≤ d.2.2.1 ∧ d.2.2.1 < p) (I : DInv p ds (fun _ => False) (f, l ++ [here])) : DInv p ds (fun _ => False) (dfsAll ds here (f, l)) := by
  have I0 : DInv p ds (fun v => v = here) (f, l) := ⟨I.len, I.ok, fun v hv => I.lf v (List.mem_append_left _ hv), fun d hd h => by
    rcases I.cl d hd h with q | q | q
    · rcases List.mem_append.mp q with q | q
      · exact .inl q
      · exact .inr (.inr (List.mem_singleton.mp q))
    · exact .inr (.inl q)
    · exact q.elim, I.z⟩
  have hr : Reach ds here := I.ok _ (I.lf here (List.mem_append_right _ (List.mem_singleton_self _))).2
  obtain ⟨I1, u1, m1⟩ := dfsAll_inv hb hr ds (f, l) (fun d h => h) I0
  exact ⟨I1.len, I1.ok, I1.lf, fun d hd h => by
    rcases I1.cl d hd h with q | q | q
    · exact .inl q
    · exact .inr (.inl q)
    · exact .inr (.inl (m1 d hd q)), I1.z⟩
theorem turn_msr {ds : List Deed} {f : List Bool} {l : List Int} {here : Int} : msr (dfsAll ds here (f, l)) < msr (f, l ++ [here]) := by
  have := dfsAll_msr here ds (f, l)
  unfold msr at this ⊢
  simp only [List.length_append, List.length_singleton] at this ⊢
  omega
theorem start_inv {p : Int} {ds : List Deed} (hp : 1 ≤ p) : DInv p ds (fun _ => False) ((List.replicate p.toNat false).set 0 true, [0]) := by
  have hi : 0 < (List.replicate p.toNat false).length := by simp; omega
  have z : on ((List.replicate p.toNat false).set 0 true) 0 := (on_set hi).mpr ⟨by decide, .inl rfl⟩
  have only : ∀ v : Int, on ((List.replicate p.toNat false).set 0 true) v → v = 0 := fun v hv => by
    obtain ⟨h0, e | h1⟩ := (on_set hi).mp hv
    · omega
    · have := h1.2
      rw [List.getElem?_replicate] at this
      split at this <;> cases this
  refine ⟨by simp; omega, fun v hv => ?_, fun v hv => ?_, fun d hd h => ?_, z⟩
  · rw [only v hv]; exact .zero
  · rw [List.mem_singleton] at hv; subst hv; exact ⟨⟨by decide, by omega⟩, z⟩
  · rw [only _ h]; exact .inl (List.mem_singleton_self _)
/-- what stands there at the end -/
theorem end_inv {p : Int} {ds : List Deed} {f : List Bool} (I : DInv p ds (fun _ => False) (f, [])) : f = rB p ds := by
  have cl : ∀ v : Int, Reach ds v → on f v := fun v hv => by
    induction hv with
    | zero => exact I.z
    | go hd _ ih =>
      rcases I.cl _ hd ih with q | q | q
      · cases q
      · exact q
      · exact q.elim
  have hl : (f.length : Int) = p := I.len
  have ok : ∀ v : Int, on f v → Reach ds v := I.ok
  apply List.ext_getElem?
  intro i
  by_cases hi : i < p.toNat
  · rw [rB_get hi, List.getElem?_eq_getElem (by omega)]
    congr 1
    refine isR_of (ds := ds) (v := (i : Int)) ⟨fun h => ok _ ⟨by omega, ?_⟩, fun h => ?_⟩
    · rw [Int.toNat_natCast, List.getElem?_eq_getElem (by omega), h]
    · have := (cl _ h).2
      rw [Int.toNat_natCast, List.getElem?_eq_getElem (by omega)] at this
      exact Option.some.inj this
  · rw [List.getElem?_eq_none (by omega), List.getElem?_eq_none (by rw [rB_len]; omega)]

/-! rings of deeds that gain: the walk over all deeds again and again -/
def src (ds : List Deed) (e : Int) : Int := (dAt ds e).1
def dst (ds : List Deed) (e : Int) : Int := (dAt ds e).2.2.1
def wt (sm : List Int) (e : Int) : Int := sm.getD e.toNat 0
def gI (l : List Int) (v : Int) : Int := l.getD v.toNat 0
def gO (l : List (Option Int)) (v : Int) : Option Int := l.getD v.toNat none
abbrev RSt := List Int × List (Option Int) × Option Int
def relax (ds : List Deed) (sm : List Int) (s : RSt) (e : Int) : RSt :=
  if gI s.1 (dst ds e) < gI s.1 (src ds e) + wt sm e then (s.1.set (dst ds e).toNat (gI s.1 (src ds e) + wt sm e), s.2.1.set (dst ds e).toNat (some e), some (dst ds e)) else s
def pass (ds : List Deed) (sm ns : List Int) (s : RSt) : RSt := ns.foldl (relax ds sm) (s.1, s.2.1, none)
def passes (ds : List Deed) (sm ns : List Int) : Nat → RSt → RSt
  | 0, s => s
  | n + 1, s => passes ds sm ns n (pass ds sm ns s)
def upF (f : Int → Nat) (v : Int) (x : Nat) : Int → Nat := fun u => if u = v then x else f u
theorem upF_same {f : Int → Nat} {v : Int} {x : Nat} : upF f v x v = x := if_pos rfl
theorem upF_ne {f : Int → Nat} {u v : Int} {x : Nat} (h : u ≠ v) : upF f v x u = f u := if_neg h
theorem gI_set {l : List Int} {v u x : Int} (hv : 0 ≤ v) (hl : v < l.length) (hu : 0 ≤ u) : gI (l.set v.toNat x) u = if u = v then x else gI l u := by
  unfold gI
  rw [List.getD_eq_getElem?_getD, List.getElem?_set, List.getD_eq_getElem?_getD]
  by_cases e : u = v
  · subst e
    rw [if_pos rfl, if_pos (by omega), if_pos rfl]; rfl
  · rw [if_neg (by omega), if_neg e]
theorem gO_set {l : List (Option Int)} {v u : Int} {x : Option Int} (hv : 0 ≤ v) (hl : v < l.length) (hu : 0 ≤ u) : gO (l.set v.toNat x) u = if u = v then x else gO l u := by
  unfold gO
  rw [List.getD_eq_getElem?_getD, List.getElem?_set, List.getD_eq_getElem?_getD]
  by_cases e : u = v
  · subst e
    rw [if_pos rfl, if_pos (by omega), if_pos rfl]; rfl
  · rw [if_neg (by omega), if_neg e]
structure RInv (p : Int) (ds : List Deed) (sm ns : List Int) (k : Nat) (pre suf : List Int) (s : RSt) (t tau : Int → Nat) (clock : Nat) : Prop where
  lb : (s.1.length : Int) = p
  ll : (s.2.1.length : Int) = p
  a : ∀ e ∈ pre, t (src ds e) = k ∨ gI s.1 (src ds e) + wt sm e ≤ gI s.1 (dst ds e)
  su : ∀ e ∈ suf, k ≤ t (src ds e) + 1 ∨ gI s.1 (src ds e) + wt sm e ≤ gI s.1 (dst ds e)
  b : ∀ v, 0 ≤ v → v < p → ∀ e, gO s.2.1 v = some e → e ∈ ns ∧ dst ds e = v ∧ t v ≤ t (src ds e) + 1 ∧ gI s.1 v ≤ gI s.1 (src ds e) + wt sm e ∧ (tau v ≤ tau (src ds e) → gI s.1 v < gI s.1 (src ds e) + wt sm e)
  n : ∀ v, 0 ≤ v → v < p → 1 ≤ t v → ∃ e, gO s.2.1 v = some e
  tk : ∀ v, t v ≤ k
  tc : ∀ v, tau v ≤ clock
  c : ∀ v, 0 ≤ v → v < p → t v = k → s.2.2 ≠ none
  c2 : ∀ v, s.2.2 = some v → (0 ≤ v ∧ v < p) ∧ t v = k
theorem relax_inv {p : Int} {ds : List Deed} {sm ns : List Int} {k : Nat} {pre suf : List Int} {e : Int} {s : RSt} {t tau : Int → Nat} {clock : Nat} (hk : 1 ≤ k) (he : e ∈ ns) (hs : 0 ≤ src ds e ∧ src ds e < p) (hd : 0 ≤ dst ds e ∧ dst ds e < p)
    (hall : ∀ e ∈ ns, (0 ≤ src ds e ∧ src ds e < p) ∧ (0 ≤ dst ds e ∧ dst ds e < p)) (hpre : ∀ e ∈ pre, e ∈ ns) (hsuf : ∀ e ∈ suf, e ∈ ns)
    (I : RInv p ds sm ns k pre (e :: suf) s t tau clock) : ∃ t' tau' clock', RInv p ds sm ns k (pre ++ [e]) suf (relax ds sm s e) t' tau' clock' := by
  obtain ⟨b, l, ch⟩ := s
  have lb : (b.length : Int) = p := I.lb
  have ll : (l.length : Int) = p := I.ll
  unfold relax
  by_cases h : gI b (dst ds e) < gI b (src ds e) + wt sm e
  · rw [if_pos h]
    have gb : ∀ u, 0 ≤ u → gI (b.set (dst ds e).toNat (gI b (src ds e) + wt sm e)) u = if u = dst ds e then gI b (src ds e) + wt sm e else gI b u := fun u hu => gI_set hd.1 (by omega) hu
    have gl : ∀ u, 0 ≤ u → gO (l.set (dst ds e).toNat (some e)) u = if u = dst ds e then some e else gO l u := fun u hu => gO_set hd.1 (by omega) hu
    have tks : k ≤ t (src ds e) + 1 := by
      rcases I.su e List.mem_cons_self with q | q
      · exact q
      · simp only at q; omega
    refine ⟨upF t (dst ds e) k, upF tau (dst ds e) (clock + 1), clock + 1, ⟨by simpa using lb, by simpa using ll, ?_, ?_, ?_, ?_, ?_, ?_, ?_, ?_⟩⟩
    · intro c hc
      have hcn : c ∈ ns := by
        rcases List.mem_append.mp hc with hc | hc
        · exact hpre c hc
        · rw [List.mem_singleton] at hc; rw [hc]; exact he
      obtain ⟨cs, cd⟩ := hall c hcn
      by_cases e1 : src ds c = dst ds e
      · left; rw [e1, upF_same]
      · rw [upF_ne e1]
        simp only
        rw [gb _ cs.1, gb _ cd.1, if_neg e1]
        rcases List.mem_append.mp hc with hc | hc
        · rcases I.a c hc with q | q
          · exact .inl q
          · right
            simp only at q
            split
            · rename_i e2; rw [e2] at q; omega
            · exact q
        · rw [List.mem_singleton] at hc
          subst hc
          right
          rw [if_pos rfl]
          exact Int.le_refl _
    · intro c hc
      obtain ⟨cs, cd⟩ := hall c (hsuf c hc)
      by_cases e1 : src ds c = dst ds e
      · left; rw [e1, upF_same]; omega
      · rw [upF_ne e1]
        simp only
        rw [gb _ cs.1, gb _ cd.1, if_neg e1]
        rcases I.su c (List.mem_cons_of_mem _ hc) with q | q
        · exact .inl q
        · right
          simp only at q
          split
          · rename_i e2; rw [e2] at q; omega
          · exact q
    · intro v h0 h1 c hc
      simp only at hc ⊢
      rw [gl v h0] at hc
      split at hc
      · rename_i e1
        cases hc
        refine ⟨he, e1.symm, ?_, ?_, ?_⟩
        · rw [e1, upF_same]
          by_cases e2 : src ds e = dst ds e
          · rw [e2, upF_same]; omega
          · rw [upF_ne e2]; exact tks
        · rw [gb v h0, if_pos e1, gb _ hs.1]
          split
          · rename_i e2; rw [e2] at h; rw [e2]; omega
          · exact Int.le_refl _
        · rw [gb v h0, if_pos e1, gb _ hs.1, e1, upF_same]
          by_cases e2 : src ds e = dst ds e
          · rw [e2, if_pos rfl]; rw [e2] at h; intro _; omega
          · rw [upF_ne e2]
            intro q
            have := I.tc (src ds e)
            omega
      · rename_i e1
        obtain ⟨q1, q2, q3, q4, q5⟩ := I.b v h0 h1 c hc
        simp only at q4 q5
        obtain ⟨cs, cd⟩ := hall c q1
        refine ⟨q1, q2, ?_, ?_, ?_⟩
        · rw [upF_ne e1]
          by_cases e2 : src ds c = dst ds e
          · rw [e2, upF_same]; have := I.tk v; omega
          · rw [upF_ne e2]; exact q3
        · rw [gb v h0, if_neg e1, gb _ cs.1]
          split
          · rename_i e2; rw [e2] at q4; omega
          · exact q4
        · rw [upF_ne e1, gb v h0, if_neg e1, gb _ cs.1]
          by_cases e2 : src ds c = dst ds e
          · rw [if_pos e2]; rw [e2] at q4; intro _; omega
          · rw [upF_ne e2, if_neg e2]; exact q5
    · intro v h0 h1 ht
      simp only
      rw [gl v h0]
      by_cases e1 : v = dst ds e
      · rw [if_pos e1]; exact ⟨e, rfl⟩
      · rw [if_neg e1]
        rw [upF_ne e1] at ht
        exact I.n v h0 h1 ht
    · intro v
      by_cases e1 : v = dst ds e
      · rw [e1, upF_same]; exact Nat.le_refl _
      · rw [upF_ne e1]; exact I.tk v
    · intro v
      by_cases e1 : v = dst ds e
      · rw [e1, upF_same]; exact Nat.le_refl _
      · rw [upF_ne e1]; have := I.tc v; omega
    · intro v _ _ _ z; cases z
    · intro v z
      cases z
      exact ⟨hd, upF_same⟩
  · rw [if_neg h]
    refine ⟨t, tau, clock, ⟨lb, ll, fun c hc => ?_, fun c hc => I.su c (List.mem_cons_of_mem _ hc), I.b, I.n, I.tk, I.tc, I.c, I.c2⟩⟩
    rcases List.mem_append.mp hc with hc | hc
    · exact I.a c hc
    · rw [List.mem_singleton] at hc
      subst hc
      right
      simp only
      omega
theorem fold_inv {p : Int} {ds : List Deed} {sm ns : List Int} {k : Nat} (hk : 1 ≤ k) (hall : ∀ e ∈ ns, (0 ≤ src ds e ∧ src ds e < p) ∧ (0 ≤ dst ds e ∧ dst ds e < p)) : ∀ (suf pre : List Int) (s : RSt) (t tau : Int → Nat) (clock : Nat), (∀ e ∈ pre, e ∈ ns) → (∀ e ∈ suf, e ∈ ns) →
    RInv p ds sm ns k pre suf s t tau clock → ∃ t' tau' clock', RInv p ds sm ns k (pre ++ suf) [] (suf.foldl (relax ds sm) s) t' tau' clock'
  | [], pre, s, t, tau, clock, _, _, I => ⟨t, tau, clock, by rw [List.append_nil]; exact I⟩
  | e :: suf, pre, s, t, tau, clock, hp, hs, I => by
    have he := hs e List.mem_cons_self
    obtain ⟨t', tau', c', I'⟩ := relax_inv hk he (hall e he).1 (hall e he).2 hall hp (fun x hx => hs x (List.mem_cons_of_mem _ hx)) I
    have q := fold_inv hk hall suf (pre ++ [e]) _ t' tau' c' (fun x hx => by
      rcases List.mem_append.mp hx with hx | hx
      · exact hp x hx
      · rw [List.mem_singleton] at hx; rw [hx]; exact he) (fun x hx => hs x (List.mem_cons_of_mem _ hx)) I'
    rw [List.append_assoc] at q
    exact q
theorem next_inv {p : Int} {ds : List Deed} {sm ns : List Int} {k : Nat} {s : RSt} {t tau : Int → Nat} {clock : Nat} (I : RInv p ds sm ns k ns [] s t tau clock) : RInv p ds sm ns (k + 1) [] ns (s.1, s.2.1, none) t tau clock where
  lb := I.lb
  ll := I.ll
  a := fun e he => by cases he
  su := fun e he => by
    rcases I.a e he with q | q
    · exact .inl (by omega)
    · exact .inr q
  b := I.b
  n := I.n
  tk := fun v => by have := I.tk v; omega
  tc := I.tc
  c := fun v _ _ h => by have := I.tk v; omega
  c2 := fun v h => by cases h
theorem passes_inv {p : Int} {ds : List Deed} {sm ns : List Int} (hall : ∀ e ∈ ns, (0 ≤ src ds e ∧ src ds e < p) ∧ (0 ≤ dst ds e ∧ dst ds e < p)) : ∀ (n k : Nat) (s : RSt) (t tau : Int → Nat) (clock : Nat), 1 ≤ k → RInv p ds sm ns k [] ns (s.1, s.2.1, none) t tau clock →
    ∃ t' tau' clock', RInv p ds sm ns (k + n) ns [] (passes ds sm ns (n + 1) s) t' tau' clock'
  | 0, k, s, t, tau, clock, hk, I => by
    obtain ⟨t', tau', c', q⟩ := fold_inv hk hall ns [] _ t tau clock (fun _ h => by cases h) (fun _ h => h) I
    exact ⟨t', tau', c', q⟩
  | n + 1, k, s, t, tau, clock, hk, I => by
    obtain ⟨t', tau', c', q⟩ := fold_inv hk hall ns [] _ t tau clock (fun _ h => by cases h) (fun _ h => h) I
    have r := passes_inv hall n (k + 1) (pass ds sm ns s) t' tau' c' (by omega) (next_inv q)
    rw [show k + 1 + n = k + (n + 1) by omega] at r
    exact r
def rStart (p : Int) : RSt := (List.replicate p.toNat 0, List.replicate p.toNat none, none)
def rEnd (p : Int) (ds : List Deed) (sm ns : List Int) : RSt := passes ds sm ns (p.toNat + 1) (rStart p)
theorem rEnd_inv {p : Int} {ds : List Deed} {sm ns : List Int} (hp : 1 ≤ p) (hall : ∀ e ∈ ns, (0 ≤ src ds e ∧ src ds e < p) ∧ (0 ≤ dst ds e ∧ dst ds e < p)) : ∃ t tau clock, RInv p ds sm ns (p.toNat + 1) ns [] (rEnd p ds sm ns) t tau clock := by
  have I : RInv p ds sm ns 1 [] ns ((rStart p).1, (rStart p).2.1, none) (fun _ => 0) (fun _ => 0) 0 := by
    refine ⟨(by simp [rStart]; omega), (by simp [rStart]; omega), (fun e h => by cases h), (fun e h => .inl (Nat.le_refl _)), (fun v h0 h1 e he => ?_), (fun v _ _ h => by omega), (fun v => Nat.zero_le _), (fun v => Nat.le_refl _), (fun v _ _ h => by cases h), (fun v h => by cases h)⟩
    unfold gO rStart at he
    simp only [List.getD_eq_getElem?_getD, List.getElem?_replicate] at he
    split at he <;> cases he
  have q := passes_inv hall p.toNat 1 (rStart p) _ _ _ (by omega) I
  rw [Nat.add_comm 1] at q
  exact q
/-- nothing changed at last: what stands is a height that no deed beats -/
theorem ring_none {p : Int} {ds : List Deed} {sm ns : List Int} (hp : 1 ≤ p) (hall : ∀ e ∈ ns, (0 ≤ src ds e ∧ src ds e < p) ∧ (0 ≤ dst ds e ∧ dst ds e < p)) (h : (rEnd p ds sm ns).2.2 = none) : ∀ e ∈ ns, gI (rEnd p ds sm ns).1 (src ds e) + wt sm e ≤ gI (rEnd p ds sm ns).1 (dst ds e) := by
  obtain ⟨t, tau, clock, I⟩ := rEnd_inv (sm := sm) hp hall
  intro e he
  rcases I.a e he with q | q
  · exact absurd h (I.c _ (hall e he).1.1 (hall e he).1.2 q)
  · exact q
/-- the place that the last deed came from -/
def prv (ds : List Deed) (l : List (Option Int)) (v : Int) : Int := match gO l v with
  | some e => src ds e
  | none => v
def prvN (ds : List Deed) (l : List (Option Int)) : Nat → Int → Int
  | 0, v => v
  | n + 1, v => prvN ds l n (prv ds l v)
theorem prvN_succ (ds : List Deed) (l : List (Option Int)) : ∀ (n : Nat) (v : Int), prvN ds l (n + 1) v = prv ds l (prvN ds l n v)
  | 0, _ => rfl
  | n + 1, v => by
    rw [prvN, prvN_succ ds l n]; rfl
theorem prvN_add (ds : List Deed) (l : List (Option Int)) (v : Int) : ∀ (m n : Nat), prvN ds l (m + n) v = prvN ds l n (prvN ds l m v)
  | m, 0 => rfl
  | m, n + 1 => by rw [← Nat.add_assoc, prvN_succ, prvN_succ, prvN_add ds l v m n]
/-- more places than there are: one of them twice -/
theorem pigeon : ∀ (p : Nat) (f : Nat → Int), (∀ i, i ≤ p → 0 ≤ f i ∧ f i < p) → ∃ i j, i < j ∧ j ≤ p ∧ f i = f j := by
  intro p
  induction p with
  | zero => intro f h; have := h 0 (Nat.le_refl _); omega
  | succ p ih =>
    intro f h
    by_cases hx : ∃ i, i ≤ p ∧ f i = f (p + 1)
    · obtain ⟨i, hi, e⟩ := hx
      exact ⟨i, p + 1, by omega, Nat.le_refl _, e⟩
    · have hne : ∀ i, i ≤ p → f i ≠ f (p + 1) := fun i hi e => hx ⟨i, hi, e⟩
      obtain ⟨i, j, h1, h2, h3⟩ := ih (fun i => if f i < f (p + 1) then f i else f i - 1) (fun i hi => by
        have a := h i (by omega)
        have b := h (p + 1) (Nat.le_refl _)
        have c := hne i hi
        split <;> omega)
      refine ⟨i, j, h1, by omega, ?_⟩
      have a := hne i (by omega)
      have b := hne j (by omega)
      split at h3 <;> split at h3 <;> omega
structure RLoop (p : Int) (ds : List Deed) (sm ns : List Int) (s : RSt) (here : Int) (c : Nat) : Prop where
  pos : 1 ≤ c
  le : (c : Int) ≤ p
  back : prvN ds s.2.1 c here = here
  some : ∀ m, ∃ e, gO s.2.1 (prvN ds s.2.1 m here) = some e ∧ e ∈ ns ∧ dst ds e = prvN ds s.2.1 m here
  inR : 0 ≤ here ∧ here < p
theorem ring_loop {p : Int} {ds : List Deed} {sm ns : List Int} {v0 : Int} (hp : 1 ≤ p) (hall : ∀ e ∈ ns, (0 ≤ src ds e ∧ src ds e < p) ∧ (0 ≤ dst ds e ∧ dst ds e < p)) (h : (rEnd p ds sm ns).2.2 = some v0) :
    (∀ m, m ≤ p.toNat → ∃ e, gO (rEnd p ds sm ns).2.1 (prvN ds (rEnd p ds sm ns).2.1 m v0) = some e ∧ e ∈ ns) ∧ (0 ≤ v0 ∧ v0 < p) ∧ ∃ c, RLoop p ds sm ns (rEnd p ds sm ns) (prvN ds (rEnd p ds sm ns).2.1 p.toNat v0) c := by
  obtain ⟨t, tau, clock, I⟩ := rEnd_inv (sm := sm) hp hall
  generalize rEnd p ds sm ns = s at *
  obtain ⟨hv, ht⟩ := I.c2 v0 h
  have key : ∀ m, m ≤ p.toNat → (0 ≤ prvN ds s.2.1 m v0 ∧ prvN ds s.2.1 m v0 < p) ∧ p.toNat + 1 ≤ t (prvN ds s.2.1 m v0) + m := by
    intro m
    induction m with
    | zero => intro _; exact ⟨hv, by rw [prvN]; omega⟩
    | succ m ih =>
      intro hm
      obtain ⟨a, b⟩ := ih (by omega)
      obtain ⟨e, he⟩ := I.n _ a.1 a.2 (by omega)
      obtain ⟨q1, q2, q3, _⟩ := I.b _ a.1 a.2 e he
      have : prvN ds s.2.1 (m + 1) v0 = src ds e := by rw [prvN_succ]; unfold prv; rw [he]
      rw [this]
      exact ⟨(hall e q1).1, by omega⟩
  have ex : ∀ m, m ≤ p.toNat → ∃ e, gO s.2.1 (prvN ds s.2.1 m v0) = some e ∧ e ∈ ns ∧ dst ds e = prvN ds s.2.1 m v0 := fun m hm => by
    obtain ⟨a, b⟩ := key m hm
    obtain ⟨e, he⟩ := I.n _ a.1 a.2 (by omega)
    obtain ⟨q1, q2, _⟩ := I.b _ a.1 a.2 e he
    exact ⟨e, he, q1, q2⟩
  refine ⟨fun m hm => by obtain ⟨e, a, b, _⟩ := ex m hm; exact ⟨e, a, b⟩, hv, ?_⟩
  obtain ⟨i, j, h1, h2, h3⟩ := pigeon p.toNat (fun m => prvN ds s.2.1 m v0) (fun i hi => by have := (key i hi).1; omega)
  have per : ∀ m, prvN ds s.2.1 (i + m) v0 = prvN ds s.2.1 (i + m + (j - i)) v0 := by
    intro m
    rw [show i + m + (j - i) = j + m by omega, prvN_add, prvN_add, h3]
  have small : ∀ m, ∃ m', m' ≤ p.toNat ∧ prvN ds s.2.1 m v0 = prvN ds s.2.1 m' v0 := by
    intro m
    induction m using Nat.strongRecOn with
    | ind m ih =>
      by_cases hm : m ≤ p.toNat
      · exact ⟨m, hm, rfl⟩
      · obtain ⟨m', a, b⟩ := ih (m - (j - i)) (by omega)
        refine ⟨m', a, ?_⟩
        rw [← b]
        have := per (m - (j - i) - i)
        rw [show i + (m - (j - i) - i) = m - (j - i) by omega, show m - (j - i) + (j - i) = m by omega] at this
        exact this.symm
  refine ⟨j - i, ⟨by omega, by omega, ?_, fun m => ?_, (key _ (Nat.le_refl _)).1⟩⟩
  · rw [← prvN_add]
    have := per (p.toNat - i)
    rw [show i + (p.toNat - i) = p.toNat by omega] at this
    exact this.symm
  · rw [← prvN_add]
    obtain ⟨m', a, b⟩ := small (p.toNat + m)
    rw [b]
    exact ex m' a
/-- the ring, deed by deed from behind -/
def back (ds : List Deed) (l : List (Option Int)) (here : Int) : Nat → Int → List Int → List Int
  | 0, _, found => found
  | n + 1, v, found => match gO l v with
    | none => found
    | some e => if src ds e = here then e :: found else back ds l here n (src ds e) (e :: found)
def wsum (sm : List Int) (row : List Int) : Int := (row.map (wt sm)).sum
theorem wsum_cons (sm : List Int) (e : Int) (row : List Int) : wsum sm (e :: row) = wt sm e + wsum sm row := by
  unfold wsum; rw [List.map_cons, List.sum_cons]
/-- a row from a place to a place, of deeds of ns -/
def Row (ds : List Deed) (ns : List Int) (a b : Int) (row : List Int) : Prop := (∀ e ∈ row, e ∈ ns) ∧ ∃ l, goneL ds a row = some l ∧ (a :: l).getLast? = some b
theorem Row.nil {ds : List Deed} {ns : List Int} {a : Int} : Row ds ns a a [] := ⟨(fun _ h => by cases h), [], rfl, rfl⟩
theorem Row.cons {ds : List Deed} {ns : List Int} {e b : Int} {row : List Int} (he : e ∈ ns) (h0 : 0 ≤ e ∧ e < ds.length) (h : Row ds ns (dst ds e) b row) : Row ds ns (src ds e) b (e :: row) := by
  obtain ⟨h1, l, h2, h3⟩ := h
  refine ⟨fun x hx => ?_, dst ds e :: l, ?_, ?_⟩
  · rcases List.mem_cons.mp hx with rfl | hx
    · exact he
    · exact h1 x hx
  · rw [goneL_some (here := src ds e) (step_at h0.1 h0.2 rfl)]
    show Option.map _ (goneL ds (dst ds e) row) = _
    rw [h2]; rfl
  · rw [List.getLast?_cons_cons]; exact h3
theorem back_spec {p : Int} {ds : List Deed} {sm ns : List Int} {s : RSt} {k : Nat} {t tau : Int → Nat} {clock : Nat} {here : Int} (I : RInv p ds sm ns k ns [] s t tau clock) (hin : ∀ e ∈ ns, 0 ≤ e ∧ e < ds.length)
    (hall : ∀ e ∈ ns, (0 ≤ src ds e ∧ src ds e < p) ∧ (0 ≤ dst ds e ∧ dst ds e < p)) : ∀ (n : Nat) (v : Int) (found : List Int), (0 ≤ v ∧ v < p) → (∃ c, 1 ≤ c ∧ c ≤ n ∧ prvN ds s.2.1 c v = here ∧ ∀ m, ∃ e, gO s.2.1 (prvN ds s.2.1 m v) = some e) →
    Row ds ns v here found → gI s.1 here ≤ gI s.1 v + wsum sm found → (if found = [] then v = here else gI s.1 here < gI s.1 v + wsum sm found ∨ tau v < tau here) →
      Row ds ns here here (back ds s.2.1 here n v found) ∧ 0 < wsum sm (back ds s.2.1 here n v found) ∧ back ds s.2.1 here n v found ≠ []
  | 0, v, found, hv, ⟨c, c1, c2, _⟩, _, _, _ => by omega
  | n + 1, v, found, hv, ⟨c, c1, c2, c3, c4⟩, hr, hle, hst => by
    obtain ⟨e, he⟩ := c4 0
    rw [prvN] at he
    obtain ⟨q1, q2, q3, q4, q5⟩ := I.b v hv.1 hv.2 e he
    have hpr : prv ds s.2.1 v = src ds e := by unfold prv; rw [he]
    have hrow : Row ds ns (src ds e) here (e :: found) := Row.cons q1 (hin e q1) (by rw [q2]; exact hr)
    have hsum : gI s.1 here ≤ gI s.1 (src ds e) + wsum sm (e :: found) := by rw [wsum_cons]; omega
    have hst2 : gI s.1 here < gI s.1 (src ds e) + wsum sm (e :: found) ∨ tau (src ds e) < tau here := by
      rw [wsum_cons]
      by_cases hts : tau v ≤ tau (src ds e)
      · left; have := q5 hts; omega
      · split at hst
        · rename_i z; rw [hst] at hts; right; omega
        · rcases hst with z | z
          · left; omega
          · right; omega
    unfold back
    rw [he]
    simp only
    by_cases hh : src ds e = here
    · rw [if_pos hh]
      rw [hh] at hrow hsum hst2
      refine ⟨hrow, ?_, by simp⟩
      rcases hst2 with z | z
      · omega
      · omega
    · rw [if_neg hh]
      refine back_spec I hin hall n (src ds e) (e :: found) (hall e q1).1 ⟨c - 1, ?_, by omega, ?_, fun m => ?_⟩ hrow hsum (by rw [if_neg (by simp)]; exact hst2)
      · have : c ≠ 1 := fun z => by rw [z] at c3; exact hh (by rw [← hpr]; exact c3)
        omega
      · rw [show c = (c - 1) + 1 by omega] at c3
        rw [prvN, hpr] at c3
        exact c3
      · have := c4 (m + 1)
        rw [prvN, hpr] at this
        exact this
/-- the ring of a gain, or none -/
def ringM (p : Int) (ds : List Deed) (sm ns : List Int) : List Int := match (rEnd p ds sm ns).2.2 with
  | none => []
  | some v => back ds (rEnd p ds sm ns).2.1 (prvN ds (rEnd p ds sm ns).2.1 p.toNat v) p.toNat (prvN ds (rEnd p ds sm ns).2.1 p.toNat v) []
theorem ringM_spec {p : Int} {ds : List Deed} {sm ns : List Int} (hp : 1 ≤ p) (hin : ∀ e ∈ ns, 0 ≤ e ∧ e < ds.length) (hall : ∀ e ∈ ns, (0 ≤ src ds e ∧ src ds e < p) ∧ (0 ≤ dst ds e ∧ dst ds e < p)) :
    (ringM p ds sm ns = [] ∧ ∃ pot : Int → Int, ∀ e ∈ ns, pot (src ds e) + wt sm e ≤ pot (dst ds e)) ∨ (ringM p ds sm ns ≠ [] ∧ 0 < wsum sm (ringM p ds sm ns) ∧ ∃ here, (0 ≤ here ∧ here < p) ∧ Row ds ns here here (ringM p ds sm ns)) := by
  unfold ringM
  cases h : (rEnd p ds sm ns).2.2 with
  | none => exact .inl ⟨rfl, gI (rEnd p ds sm ns).1, ring_none hp hall h⟩
  | some v =>
    right
    obtain ⟨_, hv, c, L⟩ := ring_loop hp hall h
    obtain ⟨t, tau, clock, I⟩ := rEnd_inv (sm := sm) hp hall
    obtain ⟨a, b, d⟩ := back_spec I hin hall p.toNat _ [] L.inR ⟨c, L.pos, by have := L.le; omega, L.back, fun m => by obtain ⟨e, he, _⟩ := L.some m; exact ⟨e, he⟩⟩ .nil (by simp [wsum]) (by simp)
    exact ⟨d, b, _, L.inR, a⟩

/-! the greatest machine: six hundred deeds -/
def tH (k : List Int) : Int := reduceHash (Builtin.Tuple.tupleHashOf (k.map hashInt))
theorem tH_eq (P : Program) (w : World) : thash P w = tH := rfl
def bigL (n : Nat) : List (List Int) := (List.range n).map fun (k : Nat) => [(k : Int) / 8, (k : Int) % 8, 0, 0]
def bitsOk : List Nat → Nat → Bool
  | [], _ => true
  | x :: xs, b => !b.testBit x && bitsOk xs (b ||| (1 <<< x))
theorem bits_ok : ∀ (l : List Nat) (b : Nat), bitsOk l b = true → l.Nodup ∧ ∀ x ∈ l, b.testBit x = false
  | [], _, _ => ⟨.nil, fun x h => absurd h (by simp)⟩
  | x :: l, b, h => by
    unfold bitsOk at h
    rw [Bool.and_eq_true, Bool.not_eq_true'] at h
    obtain ⟨h1, h2⟩ := h
    obtain ⟨n, q⟩ := bits_ok l _ h2
    have q2 : ∀ y ∈ l, b.testBit y = false ∧ x ≠ y := fun y hy => by
      have z := q y hy
      rw [Nat.testBit_or, Bool.or_eq_false_iff, Nat.one_shiftLeft, Nat.testBit_two_pow, decide_eq_false_iff_not] at z
      exact z
    refine ⟨List.nodup_cons.mpr ⟨fun hx => (q2 x hx).2 rfl, n⟩, fun y hy => ?_⟩
    rcases List.mem_cons.mp hy with rfl | hy
    · exact h1
    · exact (q2 y hy).1
theorem big_bits : bitsOk ((bigL 600).map fun k => (tH k % (2 ^ 18 : Int)).toNat) 0 = true := by decide +kernel
theorem big_differ (P : Program) (w : World) : ((bigL 600).map (thash P w)).Nodup := by
  rw [tH_eq]
  have q := (bits_ok _ _ big_bits).1
  have e : (bigL 600).map (fun k => (tH k % (2 ^ 18 : Int)).toNat) = ((bigL 600).map tH).map fun h => (h % (2 ^ 18 : Int)).toNat := by rw [List.map_map]; rfl
  rw [e] at q
  exact nodup_of_map q

/-! the law's own look at a machine: rising is being sorted -/
theorem eqD_lst {α : Type} [DecidableEq α] {f : α → D} (hf : ∀ x y, eqD (f x) (f y) = decide (x = y)) : ∀ (xs ys : List α), eqD (.lst (xs.map f)) (.lst (ys.map f)) = decide (xs = ys)
  | [], [] => rfl
  | [], _ :: _ => rfl
  | _ :: _, [] => rfl
  | x :: xs, y :: ys => by
    have ih := eqD_lst hf xs ys
    show (eqD (f x) (f y) && eqD (.lst (xs.map f)) (.lst (ys.map f))) = _
    rw [ih, hf, Bool.eq_iff_iff]
    simp
theorem eqD_ints (xs ys : List Int) : eqD (.lst (xs.map .int)) (.lst (ys.map .int)) = decide (xs = ys) := eqD_lst (fun _ _ => rfl) xs ys
theorem bd_of {p kn : Int} {d : Deed} (hp : p ≤ 200) (hk : kn ≤ 8) (h : deedOk p kn d = true) : BdD d := by
  unfold deedOk at h
  simp only [Bool.and_eq_true, decide_eq_true_eq] at h
  intro m hm
  simp only [dl, List.mem_cons, List.not_mem_nil, or_false] at hm
  rcases hm with rfl | rfl | rfl | rfl <;> omega
theorem dsort_id : ∀ {ds : List Deed}, ds.Pairwise (fun a b => cd a < cd b) → dsort ds = ds
  | [], _ => rfl
  | [d], _ => rfl
  | d :: x :: xs, h => by
    rw [List.pairwise_cons] at h
    show dins d (dsort (x :: xs)) = _
    rw [dsort_id h.2]
    unfold dins
    rw [if_pos (h.1 x List.mem_cons_self)]
theorem look_rise {p kn : Int} : ∀ (ds : List Deed) (prev : Option Deed), (∀ d ∈ ds, BdD d) → look p kn prev ds = true → ds.Pairwise (fun a b => cd a < cd b) ∧ ∀ c, prev = some c → BdD c → ∀ d ∈ ds, cd c < cd d
  | [], _, _, _ => ⟨.nil, fun _ _ _ d h => by cases h⟩
  | d :: ds, prev, hb, h => by
    unfold look at h
    rw [Bool.and_eq_true, Bool.and_eq_true] at h
    obtain ⟨⟨_, h2⟩, h3⟩ := h
    obtain ⟨i1, i2⟩ := look_rise ds (some d) (fun x hx => hb x (List.mem_cons_of_mem _ hx)) h3
    have j := i2 d rfl (hb d List.mem_cons_self)
    refine ⟨List.pairwise_cons.mpr ⟨j, i1⟩, fun c e hc x hx => ?_⟩
    subst e
    have q := (dlt_cd hc (hb d List.mem_cons_self)).mp h2
    rcases List.mem_cons.mp hx with rfl | hx
    · exact q
    · have := j x hx; omega
theorem look_dsort {p kn : Int} {ds : List Deed} (hp : p ≤ 200) (hk : kn ≤ 8) (h : ds.all (deedOk p kn) = true) : look p kn none ds = decide (ds = dsort ds) := by
  have ho : ∀ d ∈ ds, deedOk p kn d = true := fun d hd => List.all_eq_true.mp h d hd
  have hb : ∀ d ∈ ds, BdD d := fun d hd => bd_of hp hk (ho d hd)
  by_cases e : ds = dsort ds
  · rw [decide_eq_true e]
    refine look_of ds none (fun d hd => ⟨hb d hd, ho d hd⟩) ?_ (fun c z => by cases z)
    rw [e]; exact dsort_rise ds
  · rw [decide_eq_false e]
    rw [Bool.eq_false_iff]
    intro z
    exact e (dsort_id (look_rise ds none hb z).1).symm
theorem look_all {p kn : Int} {ds : List Deed} (h : ds.all (deedOk p kn) = false) : look p kn none ds = false := by
  rw [Bool.eq_false_iff]
  intro z
  have := look_mem ds none z
  rw [List.all_eq_false] at h
  obtain ⟨d, hd, hn⟩ := h
  exact hn (this d hd)
def bigD (n : Nat) : List Deed := (List.range n).map fun (k : Nat) => ((k : Int) / 8, (k : Int) % 8, 0, 0)
theorem bigD_len (n : Nat) : (bigD n).length = n := by simp [bigD]
theorem bigD_dl (n : Nat) : (bigD n).map dl = bigL n := by unfold bigD bigL; rw [List.map_map]; rfl
theorem bigD_bd : ∀ d ∈ bigD 600, BdD d := fun d hd => by
  obtain ⟨k, hk, rfl⟩ := List.mem_map.mp hd
  have := List.mem_range.mp hk
  intro m hm
  simp only [dl, List.mem_cons, List.not_mem_nil, or_false] at hm
  rcases hm with rfl | rfl | rfl | rfl <;> omega
theorem bigD_ok : ∀ d ∈ bigD 600, deedOk 200 8 d = true := fun d hd => by
  obtain ⟨k, hk, rfl⟩ := List.mem_map.mp hd
  have := List.mem_range.mp hk
  unfold deedOk
  simp only [Bool.and_eq_true, decide_eq_true_eq]
  refine ⟨⟨⟨⟨?_, ?_⟩, ?_, ?_⟩, ?_, ?_⟩, ?_, ?_⟩ <;> first | omega | exact of_decide_eq_true rfl
theorem bigD_rise (n : Nat) : (bigD n).Pairwise (fun a b => cd a < cd b) := by
  unfold bigD
  rw [List.pairwise_map]
  refine List.pairwise_lt_range.imp fun {a b} h => ?_
  show TS.code 1024 [_, _, _, _] < TS.code 1024 [_, _, _, _]
  simp only [TS.code, List.length_cons, List.length_nil]
  omega
theorem bigD_good : goodM 200 8 (bigD 600) = true := by
  unfold goodM
  rw [look_of _ none (fun d hd => ⟨bigD_bd d hd, bigD_ok d hd⟩) (bigD_rise 600) (fun c e => by cases e), bigD_len]
  rfl
theorem bigD_bad : goodM 200 8 (bigD 601) = false := by
  unfold goodM
  rw [bigD_len]
  rfl

/-! how the law spoils a machine -/
def dSet (d : Deed) : Nat → Int → Deed
  | 0, v => (v, d.2)
  | 1, v => (d.1, v, d.2.2)
  | 2, v => (d.1, d.2.1, v, d.2.2.2)
  | _, v => (d.1, d.2.1, d.2.2.1, v)
theorem dSet_dl (d : Deed) : ∀ (k : Nat) (v : Int), k < 4 → (dl d).set k v = dl (dSet d k v)
  | 0, _, _ => rfl
  | 1, _, _ => rfl
  | 2, _, _ => rfl
  | 3, _, _ => rfl
  | k + 4, _, h => by omega
def spV (p kn way spot : Int) : Int := if way = 0 then -1 else if way = 1 then [p, kn, p, 1001].getD spot.toNat 0 else [p - 1, kn - 1, 0, 1000].getD spot.toNat 0
def spoiltM (p kn : Int) (ds : List Deed) (n : Int) : Int × Int × List Deed :=
  if n % 8 < 3 ∧ ds ≠ [] then (p, kn, ds.take (n / 8 % ds.length).toNat ++ [dSet (dAt ds (n / 8 % ds.length)) (n / 8 / 64 % 4).toNat (spV p kn (n % 8) (n / 8 / 64 % 4))] ++ ds.drop (n / 8 % ds.length + 1).toNat)
  else if n % 8 = 3 then (p, kn, ds.reverse)
  else if n % 8 = 4 then (p, kn, ds ++ ds.drop (ds.length - 1))
  else if n % 8 = 5 then (([0, 200, 201, -1] : List Int).getD (n / 8 % 4).toNat 0, ([0, 8, 9, 1] : List Int).getD (n / 8 / 4 % 4).toNat 0, [])
  else if n % 8 = 6 then (200, 8, bigD (600 + n / 8 % 2).toNat)
  else (p, kn, ds)
theorem spoilt_len {p kn : Int} {ds : List Deed} {n : Int} (h : ds.length ≤ 40) : (spoiltM p kn ds n).2.2.length ≤ 601 ∧ ((spoiltM p kn ds n).2.2.length < 64 ∨ 600 < (spoiltM p kn ds n).2.2.length ∨ (spoiltM p kn ds n).2.2 = bigD 600) := by
  unfold spoiltM
  split
  · have : (ds.take (n / 8 % ds.length).toNat ++ [dSet (dAt ds (n / 8 % ds.length)) (n / 8 / 64 % 4).toNat (spV p kn (n % 8) (n / 8 / 64 % 4))] ++ ds.drop (n / 8 % ds.length + 1).toNat).length ≤ 41 := by
      rw [List.length_append, List.length_append, List.length_take, List.length_drop, List.length_singleton]; omega
    exact ⟨Nat.le_trans this (by decide), .inl (Nat.lt_of_le_of_lt this (by decide))⟩
  · split
    · exact ⟨by show (ds.reverse).length ≤ _; rw [List.length_reverse]; omega, .inl (by show (ds.reverse).length < _; rw [List.length_reverse]; omega)⟩
    · split
      · have : (ds ++ ds.drop (ds.length - 1)).length ≤ 41 := by rw [List.length_append, List.length_drop]; omega
        exact ⟨Nat.le_trans this (by decide), .inl (Nat.lt_of_le_of_lt this (by decide))⟩
      · split
        · exact ⟨Nat.zero_le _, .inl (show 0 < 64 by decide)⟩
        · split
          · have : n / 8 % 2 = 0 ∨ n / 8 % 2 = 1 := by omega
            rcases this with e | e
            · rw [e]; exact ⟨by show (bigD 600).length ≤ _; rw [bigD_len]; decide, .inr (.inr rfl)⟩
            · rw [e]; exact ⟨by show (bigD 601).length ≤ _; rw [bigD_len]; decide, .inr (.inl (by show _ < (bigD 601).length; rw [bigD_len]; decide))⟩
          · exact ⟨by show ds.length ≤ _; omega, .inl (by show ds.length < _; omega)⟩

abbrev s_look_machine : Stmt := top 12
abbrev N_look_machine : List Str := ["machine", "places", "kinds", "deeds", "k", "one", "kind", "other", "cost"]
abbrev P_look_machine : List Str := ["machine"]
theorem sc_look_machine : FnScope N_look_machine P_look_machine (defScope s_look_machine) := ⟨rfl, rfl, rfl, by decide +kernel, rfl, by decide +kernel, by decide +kernel⟩

/-- None, or an error of the class at cM -/
def F_look_machine (cM : Addr) : Fs := fun args r => ∃ (p kn : Int) (ds : List Deed), args = [eMach p kn ds] ∧ r = if goodM p kn ds then .ok .non else .er cM
theorem df_look_machine {P : Program} {w : World} {K : Fg} {mg : Str → Option Value} {base : Heap} {cM : Addr} (T : Tx K mg) (U : Dn K mg "look_machine" s_look_machine P_look_machine) (EM : EC K mg "BadMachine" cM)
    (c_MOST_PLACES : ∃ t, mg "MOST_PLACES" = some (.int 200 t)) (c_MOST_DEEDS : ∃ t, mg "MOST_DEEDS" = some (.int 600 t)) (c_MOST_KINDS : ∃ t, mg "MOST_KINDS" = some (.int 8 t)) (c_MOST_COST : ∃ t, mg "MOST_COST" = some (.int 1000 t)) :
    Df P w K mg base "look_machine" 1 (F_look_machine cM) :=
  df_of 0 U sc_look_machine (fun _ _ ⟨_, _, _, h, _⟩ => by rw [h]; rfl) fun f cdv A outer s H E args r hr tk hp hF => by
    obtain ⟨p, kn, ds, rfl, rfl⟩ := hF
    have nd := sc_look_machine.nd
    have hu := hr.units
    have hsz : ds.length ≤ 600 ∨ 600 < ds.length := by omega
    refine XF.mk (if goodM p kn ds then .nx [.fz (eMach p kn ds), .fz (.int p), .fz (.int kn), .fz (.lst (ds.map eDeed)), .no, .no, .no, .no, .no] else .er cM) ?_ (by split <;> rfl)
    refine xss_cons (xs_asg (xv_var 0) (xg_tup rfl (xgs_cons (xg_name 1 nd) (xgs_cons (xg_name 2 nd) (xgs_cons (xg_name 3 nd) xgs_nil))))) ?_
    refine xss_if ((xw_or (xt_not (xt_chain (xv_int).br ((xv_var 1)).br ((xv_glob c_MOST_PLACES)).br)) (fun hk => (xw_or (xt_not (xt_chain (xv_int).br ((xv_var 2)).br ((xv_glob c_MOST_KINDS)).br)) (fun hk => (xw_and1 (xt_gt ((xv_len T.len ((xv_var 3)).br)).br ((xv_glob c_MOST_DEEDS)).br))))))).t (fun hk ht => ?_) fun hk ht => ?_
    · have e : goodM p kn ds = false := by
        unfold goodM
        simp only [cmpI, List.length_map] at hk
        rw [Bool.eq_false_iff]
        intro q
        simp only [Bool.and_eq_true, Bool.or_eq_true, Bool.not_eq_true', decide_eq_true_eq, Bool.and_eq_false_iff, decide_eq_false_iff_not] at hk q
        omega
      rw [e, if_neg Bool.false_ne_true]
      exact xss_yesS ht (xss_raise rfl tk EM)
    · refine xss_no0 ht ?_
      simp only [cmpI, List.length_map, Bool.or_eq_false_iff, Bool.not_eq_false', Bool.and_eq_true, decide_eq_true_eq, decide_eq_false_iff_not] at hk
      have eg : goodM p kn ds = look p kn none ds := by
        unfold goodM
        rw [decide_eq_true hk.1.1, decide_eq_true hk.1.2, decide_eq_true hk.2.1.1, decide_eq_true hk.2.1.2, decide_eq_true (show ds.length ≤ 600 by omega)]
        rfl
      rw [eg]
      refine xss_one (xs_for hp rfl (xi_range T.range (xv_len T.len ((xv_var 3)).br) (by omega) (by simp only [List.length_map]; omega)) ?_)
      rw [Int.toNat_natCast, List.length_map, rngD_F]
      -- from the i-th deed on
      suffices h : ∀ (m i : Nat), i + m = ds.length → ∀ prev, prev = (if i = 0 then none else ds[i - 1]?) → Fr _ _ _ _ (rngF i m) [.fz (eMach p kn ds), .fz (.int p), .fz (.int kn), .fz (.lst (ds.map eDeed)), .no, .no, .no, .no, .no]
          (if look p kn prev (ds.drop i) then .nx [.fz (eMach p kn ds), .fz (.int p), .fz (.int kn), .fz (.lst (ds.map eDeed)), .no, .no, .no, .no, .no] else .er cM) by
        exact h ds.length 0 (by omega) none rfl
      intro m
      induction m with
      | zero =>
        intro i hi prev hprev
        rw [rngF_0, List.drop_of_length_le (by omega)]
        exact .nil
      | succ m ih =>
        intro i hi prev hprev
        have hlt : i < ds.length := by omega
        rw [rngF_succ, List.drop_eq_getElem_cons hlt]
        have hix : ixD (.lst (ds.map eDeed)) (i : Int) = some (eDeed ds[i]) := ix_map (by rw [atI_ge (by omega) (by omega)]; simp)
        have hl : look p kn prev (ds[i] :: ds.drop (i + 1)) = ((deedOk p kn ds[i] && prevOk prev ds[i]) && look p kn (some ds[i]) (ds.drop (i + 1))) := rfl
        rw [hl]
        refine Fr.chk (deedOk p kn ds[i] && prevOk prev ds[i]) (xg_name 4 nd) (a := [.fz (eMach p kn ds), .fz (.int p), .fz (.int kn), .fz (.lst (ds.map eDeed)), .fz (.int i), .fz (.int ds[i].1), .fz (.int ds[i].2.1), .fz (.int ds[i].2.2.1), .fz (.int ds[i].2.2.2)]) (o1 := .er cM) ?_ (Le.fg [4, 5, 6, 7, 8] rfl) rfl
          (fun hc => ?_) (fun hc => ?_)
        · refine xss_cons (xs_asg (xv_ix ((xv_var 3)).br ((xv_var 4)).br (hix)) (xg_tup rfl (xgs_cons (xg_name 5 nd) (xgs_cons (xg_name 6 nd) (xgs_cons (xg_name 7 nd) (xgs_cons (xg_name 8 nd) xgs_nil)))))) ?_
          refine xss_if ((xw_or (xt_not (xt_chain (xv_int).br ((xv_var 5)).br ((xv_var 1)).br)) (fun hk => (xw_or (xt_not (xt_chain (xv_int).br ((xv_var 7)).br ((xv_var 1)).br)) (fun hk => (xw_or (xt_not (xt_chain (xv_int).br ((xv_var 6)).br ((xv_var 2)).br)) (fun hk => (xw_and1 (xt_not (xt_chain (xv_int).br ((xv_var 8)).br ((xv_glob c_MOST_COST)).br)))))))))).t (fun hk ht => ?_) fun hk ht => ?_
          · have e : deedOk p kn ds[i] = false := by
              unfold deedOk
              simp only [cmpI] at hk
              rw [Bool.eq_false_iff]
              intro q
              simp only [Bool.and_eq_true, Bool.or_eq_true, Bool.not_eq_true', decide_eq_true_eq, Bool.and_eq_false_iff, decide_eq_false_iff_not] at hk q
              omega
            rw [e, Bool.false_and, if_neg Bool.false_ne_true]
            exact xss_yesS ht (xss_raise rfl tk EM)
          · have e : deedOk p kn ds[i] = true := by
              unfold deedOk
              simp only [cmpI, Bool.or_eq_false_iff, Bool.not_eq_false', Bool.and_eq_true, decide_eq_true_eq] at hk
              simp only [Bool.and_eq_true, decide_eq_true_eq]
              omega
            rw [e, Bool.true_and]
            refine xss_no0 ht ?_
            by_cases h0 : i = 0
            · subst h0
              rw [hprev, if_pos rfl, show prevOk none ds[0] = true from rfl, if_pos rfl]
              exact xss_no0 ((xw_and (l := false) (xt_gt ((xv_var 4)).br (xv_int).br) (fun hk => absurd hk (by simp))).t.is (by simp)) xss_nil
            · rw [if_neg h0, List.getElem?_eq_getElem (by omega)] at hprev
              subst hprev
              have hix' : ixD (.lst (ds.map eDeed)) ((i : Int) - 1) = some (eDeed ds[i - 1]) := ix_map (by rw [atI_ge (by omega) (by omega)]; congr 2; omega)
              refine xss_if (XT.is ((xw_and (xt_gt ((xv_var 4)).br (xv_int).br) (fun _ => xw_and1 (xt_not (xt_ltT hu ((xv_ix ((xv_var 3)).br ((xv_sub ((xv_var 4)).br (xv_int).br)).br (hix'))).br ((xv_ix ((xv_var 3)).br ((xv_var 4)).br (hix))).br (rfl) (rfl))))).t) (show _ = !(dlt ds[i - 1] ds[i]) by rw [decide_eq_true (by omega)]; rfl)) (fun hk ht => ?_) fun hk ht => ?_
              · have e : prevOk (some ds[i - 1]) ds[i] = false := by simpa [prevOk] using hk
                rw [e, if_neg Bool.false_ne_true]
                exact xss_yesS ht (xss_raise rfl tk EM)
              · have e : prevOk (some ds[i - 1]) ds[i] = true := by simpa [prevOk] using hk
                rw [e, if_pos rfl]
                exact xss_no0 ht xss_nil
        · rw [hc, Bool.true_and]
          refine ih (i + 1) (by omega) (some ds[i]) ?_
          rw [if_neg (by omega)]
          simp [hlt]
        · rw [hc]; rfl

abbrev s_gone : Stmt := top 13
abbrev N_gone : List Str := ["machine", "row", "found", "number"]
abbrev P_gone : List Str := ["machine", "row"]
theorem sc_gone : FnScope N_gone P_gone (defScope s_gone) := ⟨rfl, rfl, rfl, by decide +kernel, rfl, by decide +kernel, by decide +kernel⟩

def goneR (cM cR : Addr) (p kn : Int) (ds : List Deed) (row : List Int) : Res := if goodM p kn ds then (match goneL ds 0 row with | some l => .ok (.lst ((0 :: l).map .int)) | none => .er cR) else .er cM
def F_gone (cM cR : Addr) : Fs := fun args r => ∃ (p kn : Int) (ds : List Deed) (row : List Int), args = [eMach p kn ds, .lst (row.map .int)] ∧ row.length ≤ 1000 ∧ r = goneR cM cR p kn ds row
theorem df_gone {P : Program} {w : World} {K : Fg} {mg : Str → Option Value} {base : Heap} {cM cR : Addr} (T : Tx K mg) (U : Dn K mg "gone" s_gone P_gone) (ER : EC K mg "BadRow" cR) (D_look_machine : Df P w K mg base "look_machine" 1 (F_look_machine cM)) :
    Df P w K mg base "gone" 2 (F_gone cM cR) :=
  df_of 1 U sc_gone (fun _ _ ⟨_, _, _, _, h, _⟩ => by rw [h]; rfl) fun f cdv A outer s H E args r hr tk hp hF => by
    obtain ⟨p, kn, ds, row, rfl, hlen, rfl⟩ := hF
    have nd := sc_gone.nd
    unfold goneR
    cases hg : goodM p kn ds with
    | false =>
      rw [if_neg Bool.false_ne_true]
      exact XF.er (xss_stop (xs_exprR (xr_call D_look_machine hr tk (xa_cons (xv_var 0) xa_nil) ⟨p, kn, ds, rfl, by rw [hg]; rfl⟩))).er
    | true =>
      rw [if_pos rfl]
      refine XF.mk (match goneL ds 0 row with | some l => .rt (.lst ((0 :: l).map .int)) | none => .er cR) ?_ (by split <;> rfl)
      refine xss_cons (xs_expr (xv_call D_look_machine (hr.mono (by decide)) tk (xa_cons (xv_var 0) xa_nil) (⟨p, kn, ds, rfl, by rw [hg]; rfl⟩))) ?_
      refine xss_cons (xs_own 2 nd (xl_lst (xa_cons xv_int xa_nil))) ?_
      refine xss_then (o1 := match goneL ds 0 row with | some l => .nx [.fz (eMach p kn ds), .fz (.lst (row.map .int)), .ow ((0 :: l).map .int), .no] | none => .er cR) (xs_for hp rfl (xi_list (xv_var 1)) ?_) ?_ ?_
      · suffices loop : ∀ (row2 : List Int) (acc : List Int) (here : Int), acc.getLast? = some here → acc.length + row2.length ≤ 2000 → Fr _ _ _ _ (row2.map .int) [.fz (eMach p kn ds), .fz (.lst (row.map .int)), .ow (acc.map .int), .no]
            (match goneL ds here row2 with | some l => .nx [.fz (eMach p kn ds), .fz (.lst (row.map .int)), .ow ((acc ++ l).map .int), .no] | none => .er cR) by
          exact loop row [0] 0 rfl (by simp; omega)
        intro row2
        induction row2 with
        | nil => intro acc here _ _; rw [show goneL ds here [] = some [] from rfl]; simp only [List.append_nil]; exact .nil
        | cons n row2 ih =>
          intro acc here hl hsz
          have hix := ix_lastM (f := D.int) hl
          simp only [List.length_cons] at hsz
          refine Fr.chk (step ds here n).isSome (xg_name 3 nd) (a := [.fz (eMach p kn ds), .fz (.lst (row.map .int)), .ow ((acc ++ [(dAt ds n).2.2.1]).map .int), .fz (.int n)]) (o1 := .er cR) ?_ (Le.fg [3] rfl) rfl (fun hc => ?_) (fun hc => ?_)
          · refine xss_if (XT.is ((xw_or (xt_not (xt_chain (xv_int).br ((xv_var 3)).br ((xv_len T.len ((xv_ix ((xv_var 0)).br (xv_int).br (by rfl))).br)).br)) (fun hk => (xw_and1 (xt_neI ((xv_ix ((xv_ix ((xv_ix ((xv_var 0)).br (xv_int).br (by rfl))).br ((xv_var 3)).br (ix_deedC hk))).br (xv_int).br (by rfl))).br ((xv_ix (xb_own 2) ((xv_neg (xv_int).br)).br (hix))).br))))).t (show _ = !(step ds here n).isSome by
              unfold step
              rw [List.length_map]
              by_cases q : 0 ≤ n ∧ n < ds.length ∧ (dAt ds n).1 = here
              · rw [if_pos q]; simp [cmpI, q]
              · rw [if_neg q]
                by_cases q0 : 0 ≤ n <;> by_cases q1 : n < ds.length <;> simp [cmpI, q0, q1]
                exact fun z => q ⟨q0, q1, z⟩)) (fun hk ht => ?_) fun hk ht => ?_
            · have e : (step ds here n).isSome = false := by simpa using hk
              rw [e, if_neg Bool.false_ne_true]
              exact xss_yesS ht (xss_raise rfl tk ER)
            · have e : (step ds here n).isSome = true := by simpa using hk
              rw [e, if_pos rfl]
              refine xss_no0 ht (xss_one ?_)
              have hin : 0 ≤ n ∧ n < ds.length := by
                unfold step at e
                split at e
                · omega
                · cases e
              refine XS.is (xs_append 2 (xv_ix ((xv_ix ((xv_ix ((xv_var 0)).br (xv_int).br (by rfl))).br ((xv_var 3)).br (ix_deed hin.1 hin.2))).br (xv_int).br (by rfl)) (by rfl) (by simp; omega)) ?_
              simp
          · obtain ⟨h2, hs⟩ := Option.isSome_iff_exists.mp hc
            have e2 := step_to hs
            have q := ih (acc ++ [(dAt ds n).2.2.1]) (dAt ds n).2.2.1 (by simp) (by simp; omega)
            rw [goneL_some hs, e2]
            cases e3 : goneL ds (dAt ds n).2.2.1 row2 with
            | none => rw [e3] at q; exact q
            | some l => rw [e3] at q; simp only [List.append_assoc] at q; exact q
          · have hs : step ds here n = none := by cases e : step ds here n <;> simp_all
            rw [goneL_none hs]
            rfl
      · intro ds1 h1
        cases e : goneL ds 0 row with
        | none => rw [e] at h1; cases h1
        | some l =>
          rw [e] at h1
          cases h1
          exact XSs.freeze 2 (xss_ret (xv_var 2))
      · intro h1
        cases e : goneL ds 0 row with
        | none => rfl
        | some l => rw [e] at h1; cases h1

abbrev s_cost_of : Stmt := top 14
abbrev N_cost_of : List Str := ["machine", "row", "number"]
abbrev P_cost_of : List Str := ["machine", "row"]
theorem sc_cost_of : FnScope N_cost_of P_cost_of (defScope s_cost_of) := ⟨rfl, rfl, rfl, by decide +kernel, rfl, by decide +kernel, by decide +kernel⟩

def costR (cM cR : Addr) (p kn : Int) (ds : List Deed) (row : List Int) : Res := if goodM p kn ds then (match goneL ds 0 row with | some _ => .ok (.int (costL ds row)) | none => .er cR) else .er cM
def F_cost_of (cM cR : Addr) : Fs := fun args r => ∃ (p kn : Int) (ds : List Deed) (row : List Int), args = [eMach p kn ds, .lst (row.map .int)] ∧ row.length ≤ 1000 ∧ r = costR cM cR p kn ds row
theorem df_cost_of {P : Program} {w : World} {K : Fg} {mg : Str → Option Value} {base : Heap} {cM cR : Addr} (T : Tx K mg) (U : Dn K mg "cost_of" s_cost_of P_cost_of) (D_gone : Df P w K mg base "gone" 2 (F_gone cM cR)) :
    Df P w K mg base "cost_of" 3 (F_cost_of cM cR) :=
  df_of 2 U sc_cost_of (fun _ _ ⟨_, _, _, _, h, _⟩ => by rw [h]; rfl) fun f cdv A outer s H E args r hr tk hp hF => by
    obtain ⟨p, kn, ds, row, rfl, hlen, rfl⟩ := hF
    have nd := sc_cost_of.nd
    have call : ∀ r, r = goneR cM cR p kn ds row → F_gone cM cR [eMach p kn ds, .lst (row.map .int)] r := fun r h => ⟨p, kn, ds, row, rfl, hlen, h⟩
    unfold costR
    cases hg : goodM p kn ds with
    | false =>
      rw [if_neg Bool.false_ne_true]
      exact XF.er (xss_stop (xs_exprR (xr_call D_gone hr tk (xa_cons (xv_var 0) (xa_cons (xv_var 1) xa_nil)) (call _ (by unfold goneR; rw [hg]; rfl))))).er
    | true =>
      rw [if_pos rfl]
      cases e : goneL ds 0 row with
      | none => exact XF.er (xss_stop (xs_exprR (xr_call D_gone hr tk (xa_cons (xv_var 0) (xa_cons (xv_var 1) xa_nil)) (call _ (by unfold goneR; rw [hg, e]; rfl))))).er
      | some l =>
        refine XF.rt (xss_cons (xs_expr (xv_call D_gone (hr.mono (by decide)) tk (xa_cons (xv_var 0) (xa_cons (xv_var 1) xa_nil)) (call _ (by unfold goneR; rw [hg, e]; rfl)))) ?_)
        have hin := goneL_in row 0 l e
        exact xss_ret (xv_sum rfl T.sum ((xl_lc [("number", 2)] rfl nd (xi_list (xv_var 1)) (blkOk_by (own := [("number", 2)]) (N := N_cost_of) (sc := defScope s_cost_of) (by decide +kernel)) (lc_map (g := fun n => D.int (dAt ds n).2.2.2) row fun x hx => ⟨_, (fun _ _ _ _ _ => (xgw_name 2 nd)), (fun _ _ _ _ _ => (xv_ix ((xv_ix ((xv_ix ((xv_var 0)).br (xv_int).br (by rfl))).br ((xv_var 2)).br (ix_deed (hin x hx).1 (hin x hx).2))).br (xv_int).br (by rfl)))⟩) (by simp; omega))).br (show _ = D.lst ((row.map fun n => (dAt ds n).2.2.2).map D.int) by rw [List.map_map]; rfl))

abbrev s_reached : Stmt := top 15
abbrev N_reached : List Str := ["machine", "found", "left", "here", "one", "kind", "other", "cost"]
abbrev P_reached : List Str := ["machine"]
theorem sc_reached : FnScope N_reached P_reached (defScope s_reached) := ⟨rfl, rfl, rfl, by decide +kernel, rfl, by decide +kernel, by decide +kernel⟩

theorem and_not {a : Int} {b : Int} {c : Bool} (h : ¬ (a = b ∧ c = false)) : (decide (a = b) && !c) = false := by
  by_cases z : a = b
  · cases c
    · exact absurd ⟨z, rfl⟩ h
    · simp
  · simp [z]
theorem and_yes {a : Int} {b : Int} {c : Bool} (h : a = b ∧ c = false) : (decide (a = b) && !c) = true := by
  rw [h.1, h.2]; simp
noncomputable def reachR (cM : Addr) (p kn : Int) (ds : List Deed) : Res := if goodM p kn ds then .ok (.lst ((rB p ds).map .bl)) else .er cM
def F_reached (cM : Addr) : Fs := fun args r => ∃ (p kn : Int) (ds : List Deed), args = [eMach p kn ds] ∧ r = reachR cM p kn ds
theorem df_reached {P : Program} {w : World} {K : Fg} {mg : Str → Option Value} {base : Heap} {cM : Addr} (T : Tx K mg) (U : Dn K mg "reached" s_reached P_reached) (D_look_machine : Df P w K mg base "look_machine" 1 (F_look_machine cM)) :
    Df P w K mg base "reached" 2 (F_reached cM) :=
  df_of 1 U sc_reached (fun _ _ ⟨_, _, _, h, _⟩ => by rw [h]; rfl) fun f cdv A outer s H E args r hr tk hp hF => by
    obtain ⟨p, kn, ds, rfl, rfl⟩ := hF
    have nd := sc_reached.nd
    unfold reachR
    cases hg : goodM p kn ds with
    | false =>
      rw [if_neg Bool.false_ne_true]
      exact XF.er (xss_stop (xs_exprR (xr_call D_look_machine hr tk (xa_cons (xv_var 0) xa_nil) ⟨p, kn, ds, rfl, by rw [hg]; rfl⟩))).er
    | true =>
      rw [if_pos rfl]
      obtain ⟨p1, _, hl, g⟩ := goodM_d hg
      refine XF.rt (xss_cons (xs_expr (xv_call D_look_machine (hr.mono (by decide)) tk (xa_cons (xv_var 0) xa_nil) (⟨p, kn, ds, rfl, by rw [hg]; rfl⟩))) ?_)
      refine xss_cons (xs_own 1 nd (xl_rep ((xl_lst (xa_cons xv_bl xa_nil))).br ((xv_ix ((xv_var 0)).br (xv_int).br (by rfl))).br (by omega) (by omega) (by simp; omega))) ?_
      have e0 : (List.replicate p.toNat [D.bl false]).flatten = (List.replicate p.toNat false).map D.bl := by
        rw [List.map_replicate]
        induction p.toNat with
        | zero => rfl
        | succ n ih => rw [List.replicate_succ, List.flatten_cons, ih, List.replicate_succ]; rfl
      rw [e0]
      refine xss_cons (xs_setix 1 xv_bl xv_int rfl (ixN_ge (by decide) (by simp; omega))) ?_
      rw [show ((List.replicate p.toNat false).map D.bl).set (0 : Int).toNat (.bl true) = ((List.replicate p.toNat false).set 0 true).map D.bl by rw [List.map_set]; rfl]
      refine xss_cons (xs_own 2 nd (xl_lst (xa_cons xv_int xa_nil))) ?_
      refine xss_whileX (Q := fun d1 => d1 = [.fz (eMach p kn ds), .ow ((rB p ds).map .bl), .ow [], .no, .no, .no, .no, .no]) hp ?_ ?_
      · suffices loop : ∀ (k : Nat) (f : List Bool) (l : List Int), msr (f, l) ≤ k → msr (f, l) ≤ 500 → DInv p ds (fun _ => False) (f, l) → ∃ n, Wh _ _ _ _ n [.fz (eMach p kn ds), .ow (f.map .bl), .ow (l.map .int), .no, .no, .no, .no, .no] (.nx [.fz (eMach p kn ds), .ow ((rB p ds).map .bl), .ow [], .no, .no, .no, .no, .no]) by
          obtain ⟨n, hw⟩ := loop _ _ [0] (Nat.le_refl _) (by have := List.count_le_length (a := false) (l := (List.replicate p.toNat false).set 0 true); rw [List.length_set, List.length_replicate] at this; unfold msr; simp only [List.length_singleton]; omega) (start_inv p1.1)
          exact ⟨n, _, rfl, hw⟩
        intro k
        induction k with
        | zero =>
          intro f l hk h5 I
          have hl0 : l = [] := List.length_eq_zero_iff.mp (by unfold msr at hk; simp only at hk; omega)
          subst hl0
          rw [end_inv I]
          exact ⟨0, .stop (XT.is (xt_truth (xb_own 2)) (rfl))⟩
        | succ k ih =>
          intro f l hk h5 I
          rcases List.eq_nil_or_concat l with rfl | ⟨l, here, rfl⟩
          · rw [end_inv I]
            exact ⟨0, .stop (XT.is (xt_truth (xb_own 2)) (rfl))⟩
          · rw [List.concat_eq_append] at hk h5 I ⊢
            have hm := turn_msr (ds := ds) (f := f) (l := l) (here := here)
            have I2 := turn_inv (fun d hd => (g d hd).2.1) I
            obtain ⟨n, hw⟩ := ih (dfsAll ds here (f, l)).1 (dfsAll ds here (f, l)).2 (show msr (dfsAll ds here (f, l)) ≤ _ by omega) (show msr (dfsAll ds here (f, l)) ≤ _ by omega) I2
            refine ⟨n + 1, .step (o' := .nx [.fz (eMach p kn ds), .ow ((dfsAll ds here (f, l)).1.map .bl), .ow ((dfsAll ds here (f, l)).2.map .int), .fz (.int here), .no, .no, .no, .no]) (XT.is (xt_truth (xb_own 2)) (by rw [List.map_append]; cases l <;> rfl)) (xss_cons (xs_pop (ev := .int here) 2 3 nd (by decide) rfl (by rw [List.map_append]; simp)) (xss_one (xs_for hp rfl (xi_list (xv_ix ((xv_var 0)).br (xv_int).br (by rfl))) ?_))) rfl (Le.fg [3] rfl) hw⟩
            rw [List.map_append, List.map_singleton, List.dropLast_concat]
            have hr : Reach ds here := I.ok _ (I.lf here (List.mem_append_right _ (List.mem_singleton_self _))).2
            have I0 : DInv p ds (fun _ => True) (f, l) := ⟨I.len, I.ok, fun v hv => I.lf v (List.mem_append_left _ hv), fun _ _ _ => .inr (.inr trivial), I.z⟩
            have h6 : msr (f, l) ≤ 500 := by
              unfold msr at h5 ⊢
              simp only [List.length_append, List.length_singleton] at h5 ⊢
              omega
            clear hw ih hm I2 hk I h5
            suffices inner : ∀ (xs : List Deed) (st : List Bool × List Int), (∀ d ∈ xs, d ∈ ds) → DInv p ds (fun _ => True) st → msr st ≤ 500 → Fr _ _ _ _ (xs.map eDeed) [.fz (eMach p kn ds), .ow (st.1.map .bl), .ow (st.2.map .int), .fz (.int here), .no, .no, .no, .no] (.nx [.fz (eMach p kn ds), .ow ((dfsAll xs here st).1.map .bl), .ow ((dfsAll xs here st).2.map .int), .fz (.int here), .no, .no, .no, .no]) by
              exact inner ds (f, l) (fun d h => h) I0 h6
            intro xs
            induction xs with
            | nil => intro st _ _ _; exact .nil
            | cons d xs ihx =>
              intro st hmem I hm
              have hd := hmem d List.mem_cons_self
              have hb := (g d hd).2.1
              have I2 := (dfs_inv hd hb hr I).1
              have q := ihx (dfs here st d) (fun c hc => hmem c (List.mem_cons_of_mem _ hc)) I2 (Nat.le_trans (dfs_msr here st d) hm)
              have hlen := I.len
              have hix : ixD (.lst (st.1.map .bl)) d.2.2.1 = some (.bl (st.1.getD d.2.2.1.toNat true)) := ix_map (atI_d _ hb.1 (by omega))
              obtain ⟨f, l⟩ := st
              have hlen2 : (f.length : Int) = p := hlen
              by_cases hc : d.1 = here ∧ f.getD d.2.2.1.toNat true = false
              · have e : dfs here (f, l) d = (f.set d.2.2.1.toNat true, l ++ [d.2.2.1]) := by unfold dfs; rw [if_pos hc]
                have hl : l.length ≤ 500 := by unfold msr at hm; simp only at hm; omega
                rw [show dfsAll (d :: xs) here (f, l) = dfsAll xs here (dfs here (f, l) d) from rfl]
                rw [e] at q ⊢
                rw [List.map_set, List.map_append] at q
                exact .step (xg_tup rfl (xgs_cons (xg_name 4 nd) (xgs_cons (xg_name 5 nd) (xgs_cons (xg_name 6 nd) (xgs_cons (xg_name 7 nd) xgs_nil))))) (xss_yes (XT.is ((xw_and (xt_eqI ((xv_var 4)).br ((xv_var 3)).br) (fun hk => (xw_and1 (xt_not (xt_val (xv_ix (xb_own 1) ((xv_var 6)).br (hix)))))))).t (and_yes hc)) (xss_cons (xs_setix 1 xv_bl (xv_var 6) rfl (ixN_ge hb.1 (by simp; omega))) (xss_one (xs_append 2 (xv_var 6) (by rfl) (by rw [List.length_map]; omega)))) xss_nil) rfl (Le.fg [4, 5, 6, 7] rfl) q
              · have e : dfs here (f, l) d = (f, l) := by unfold dfs; rw [if_neg hc]
                rw [show dfsAll (d :: xs) here (f, l) = dfsAll xs here (dfs here (f, l) d) from rfl]
                rw [e] at q ⊢
                exact .step (xg_tup rfl (xgs_cons (xg_name 4 nd) (xgs_cons (xg_name 5 nd) (xgs_cons (xg_name 6 nd) (xgs_cons (xg_name 7 nd) xgs_nil))))) (xss_no0 (XT.is ((xw_and (xt_eqI ((xv_var 4)).br ((xv_var 3)).br) (fun hk => (xw_and1 (xt_not (xt_val (xv_ix (xb_own 1) ((xv_var 6)).br (hix)))))))).t (and_not hc)) xss_nil) rfl (Le.fg [4, 5, 6, 7] rfl) q
      · rintro d1 rfl
        exact XSs.freeze 1 (xss_ret (xv_var 1))

abbrev s_law_cell : Stmt := top 17
abbrev N_law_cell : List Str := ["_law_script", "_law_k"]
abbrev P_law_cell : List Str := ["_law_script", "_law_k"]
theorem sc_law_cell : FnScope N_law_cell P_law_cell (defScope s_law_cell) := ⟨rfl, rfl, rfl, by decide +kernel, rfl, by decide +kernel, by decide +kernel⟩

def F_law_cell : Fs := fun args r => ∃ (s : List Int) (k : Int), args = [.scr s, .int k] ∧ r = .ok (.int (cell s k))
theorem df_law_cell {P : Program} {w : World} {K : Fg} {mg : Str → Option Value} {base : Heap} (T : Tx K mg) (U : Dn K mg "_law_cell" s_law_cell P_law_cell) : Df P w K mg base "_law_cell" 1 F_law_cell :=
  df_of 0 U sc_law_cell (fun _ _ ⟨_, _, h, _⟩ => by rw [h]; rfl) fun f cdv A outer s H E args r hr tk hp hF => by
    obtain ⟨xs, k, rfl, rfl⟩ := hF
    refine XF.rt ?_
    cases xs with
    | nil =>
      refine xss_cons (xs_no (xt_truth ((xv_var 0)).br) xss_nil) (xss_one ?_)
      exact xs_ret xv_int
    | cons x xs =>
      refine xss_stop (xs_yes (xt_truth ((xv_var 0)).br) (xss_one ?_))
      refine xs_ret (xv_ix ((xv_var 0)).br ((xv_mod ((xv_var 1)).br ((xv_len T.len ((xv_var 0)).br)).br (by first | omega | decide | (simp only [List.length_cons]; omega)))).br (?_))
      show (atI (x :: xs) _).map _ = _
      have h0 : (0 : Int) < ((x :: xs).length : Int) := by simp only [List.length_cons]; omega
      rw [atI_d 0 (Int.emod_nonneg _ (by omega)) (Int.emod_lt_of_pos _ h0)]
      rfl

abbrev s_law_mix : Stmt := top 18
abbrev N_law_mix : List Str := ["_law_script", "_law_k", "_law_number"]
abbrev P_law_mix : List Str := ["_law_script", "_law_k"]
theorem sc_law_mix : FnScope N_law_mix P_law_mix (defScope s_law_mix) := ⟨rfl, rfl, rfl, by decide +kernel, rfl, by decide +kernel, by decide +kernel⟩

def F_law_mix : Fs := fun args r => ∃ (s : List Int) (k : Int), args = [.scr s, .int k] ∧ r = .ok (.int (mix s k))
theorem df_law_mix {P : Program} {w : World} {K : Fg} {mg : Str → Option Value} {base : Heap} (T : Tx K mg) (U : Dn K mg "_law_mix" s_law_mix P_law_mix) (D__law_cell : Df P w K mg base "_law_cell" 1 F_law_cell) : Df P w K mg base "_law_mix" 2 F_law_mix :=
  df_of 1 U sc_law_mix (fun _ _ ⟨_, _, h, _⟩ => by rw [h]; rfl) fun f cdv A outer s H E args r hr tk hp hF => by
    obtain ⟨xs, k, rfl, rfl⟩ := hF
    have nd := sc_law_mix.nd
    unfold mix
    refine XF.rt ?_
    refine xss_cons (xs_set 2 nd (xv_mod ((xv_add ((xv_call D__law_cell (hr.mono (by decide)) tk (xa_cons (xv_var 0) (xa_cons (xv_var 1) xa_nil)) (by exact ⟨_, _, rfl, rfl⟩))).br ((xv_mul (xv_int).br ((xv_add ((xv_var 1)).br (xv_int).br)).br (by first | exact Or.inl ⟨by omega, by omega⟩ | exact Or.inr ⟨by omega, by omega⟩))).br)).br (xv_int).br (by first | omega | decide | (simp only [List.length_cons]; omega)))) ?_
    refine xss_cons (xs_set 2 nd (xv_mod ((xv_mul ((xv_var 2)).br (xv_int).br (by first | exact Or.inl ⟨by omega, by omega⟩ | exact Or.inr ⟨by omega, by omega⟩))).br (xv_int).br (by first | omega | decide | (simp only [List.length_cons]; omega)))) ?_
    exact xss_one (xs_ret (xv_mod ((xv_add ((xv_mul ((xv_div ((xv_var 2)).br (xv_int).br (by first | exact ⟨by omega, by omega⟩ | exact ⟨by decide, by decide⟩))).br (xv_int).br (by first | exact Or.inl ⟨by omega, by omega⟩ | exact Or.inr ⟨by omega, by omega⟩))).br ((xv_var 2)).br)).br (xv_int).br (by first | omega | decide | (simp only [List.length_cons]; omega))))

abbrev s_law_machine : Stmt := top 19
abbrev N_law_machine : List Str := ["_law_script", "_law_k", "_law_most", "_law_places", "_law_kinds", "_law_deeds", "_law_j", "_law_number", "_law_cost"]
abbrev P_law_machine : List Str := ["_law_script", "_law_k", "_law_most"]
theorem sc_law_machine : FnScope N_law_machine P_law_machine (defScope s_law_machine) := ⟨rfl, rfl, rfl, by decide +kernel, rfl, by decide +kernel, by decide +kernel⟩

def F_law_machine : Fs := fun args r => ∃ (s : List Int) (k most : Int), args = [.scr s, .int k, .int most] ∧ 1 ≤ most ∧ most ≤ 7 ∧ r = .ok (eMach (mPl s k most) (mKn s k) (mDs s k most))
theorem df_law_machine {P : Program} {w : World} {K : Fg} {mg : Str → Option Value} {base : Heap} (T : Tx K mg) (U : Dn K mg "_law_machine" s_law_machine P_law_machine) (D__law_mix : Df P w K mg base "_law_mix" 2 F_law_mix) :
    Df P w K mg base "_law_machine" 3 F_law_machine :=
  df_of 2 U sc_law_machine (fun _ _ ⟨_, _, _, h, _⟩ => by rw [h]; rfl) fun f cdv A outer s H E args r hr tk hp hF => by
    obtain ⟨xs, k, most, rfl, hm1, hm7, rfl⟩ := hF
    have nd := sc_law_machine.nd
    have hu := hr.units
    obtain ⟨p1, p2⟩ := mPl_bd (s := xs) (k := k) hm1
    obtain ⟨k1, k2⟩ := mKn_bd xs k
    refine XF.rt ?_
    refine xss_cons (xs_set 3 nd (xv_add (xv_int).br ((xv_mod ((xv_call D__law_mix (hr.mono (by decide)) tk (xa_cons (xv_var 0) (xa_cons (xv_var 1) xa_nil)) (by exact ⟨_, _, rfl, rfl⟩))).br ((xv_var 2)).br (by first | omega | decide | (simp only [List.length_cons]; omega)))).br)) ?_
    refine xss_cons (xs_set 4 nd (xv_add (xv_int).br ((xv_mod ((xv_call D__law_mix (hr.mono (by decide)) tk (xa_cons (xv_var 0) (xa_cons (xv_add ((xv_var 1)).br (xv_int).br) xa_nil)) (by exact ⟨_, _, rfl, rfl⟩))).br (xv_int).br (by first | omega | decide | (simp only [List.length_cons]; omega)))).br)) ?_
    refine xss_cons (xs_own 5 nd (xl_lst xa_nil)) ?_
    have hmod := Int.emod_nonneg (mix xs (k + 2)) (show 2 * most + 1 ≠ 0 by omega)
    have hmod2 := Int.emod_lt_of_pos (mix xs (k + 2)) (show 0 < 2 * most + 1 by omega)
    refine xss_then (o1 := .nx [.fz (.scr xs), .fz (.int k), .fz (.int most), .fz (.int (mPl xs k most)), .fz (.int (mKn xs k)), .ow ((mRaw xs k most).map eDeed), .no, .no, .no]) (xs_for hp rfl (xi_range T.range (xv_mod ((xv_call D__law_mix (hr.mono (by decide)) tk (xa_cons (xv_var 0) (xa_cons (xv_add ((xv_var 1)).br (xv_int).br) xa_nil)) (by exact ⟨_, _, rfl, rfl⟩))).br ((xv_add ((xv_mul (xv_int).br ((xv_var 2)).br (by first | exact Or.inl ⟨by omega, by omega⟩ | exact Or.inr ⟨by omega, by omega⟩))).br (xv_int).br)).br (by first | omega | decide | (simp only [List.length_cons]; omega))) (by omega) (by omega)) ?_) ?_ (by intro h; cases h)
    · rw [rngD_F]
      suffices loop : ∀ (m i : Nat), i + m = mMany xs k most → Fr _ _ _ _ (rngF i m) [.fz (.scr xs), .fz (.int k), .fz (.int most), .fz (.int (mPl xs k most)), .fz (.int (mKn xs k)), .ow (((List.range i).map fun (j : Nat) => mDeed xs k most j).map eDeed), .no, .no, .no]
          (.nx [.fz (.scr xs), .fz (.int k), .fz (.int most), .fz (.int (mPl xs k most)), .fz (.int (mKn xs k)), .ow ((mRaw xs k most).map eDeed), .no, .no, .no]) by
        exact loop (mMany xs k most) 0 (by omega)
      intro m
      induction m with
      | zero => intro i hi; have e : i = mMany xs k most := by omega
                subst e; exact .nil
      | succ m ih =>
        intro i hi
        have hi2 : (i : Int) < 2 * most := by have := mMany_bd (s := xs) (k := k) hm1; omega
        have h8 := Int.emod_nonneg (mix xs (k + 3 + i) / 4096) (show (8 : Int) ≠ 0 by omega)
        have h9 := Int.emod_lt_of_pos (mix xs (k + 3 + i) / 4096) (show (0 : Int) < 8 by omega)
        have hcst : ixD (.lst (([0, 1, 2, 3, 5, 9, 1, 0] : List Int).map D.int)) (mix xs (k + 3 + i) / 4096 % 8) = some (.int (mCost (mix xs (k + 3 + i)))) := ix_map (atI_d 0 h8 (by simpa using h9))
        rw [rngF_succ]
        refine .step (xg_name 6 nd) (xss_cons (xs_set 7 nd (xv_call D__law_mix (hr.mono (by decide)) tk (xa_cons (xv_var 0) (xa_cons (xv_add ((xv_add ((xv_var 1)).br (xv_int).br)).br ((xv_var 6)).br) xa_nil)) (by exact ⟨_, _, rfl, rfl⟩))) (xss_cons (xs_set 8 nd (xv_ix ((xl_lst (xa_cons xv_int (xa_cons xv_int (xa_cons xv_int (xa_cons xv_int (xa_cons xv_int (xa_cons xv_int (xa_cons xv_int (xa_cons xv_int xa_nil)))))))))).br ((xv_mod ((xv_div ((xv_var 7)).br (xv_int).br (by first | exact ⟨by omega, by omega⟩ | exact ⟨by decide, by decide⟩))).br (xv_int).br (by first | omega | decide | (simp only [List.length_cons]; omega)))).br (hcst)))
          (xss_one (xs_append 5 (xv_tup (xa_cons (xv_mod ((xv_var 7)).br ((xv_var 3)).br (by first | omega | decide | (simp only [List.length_cons]; omega))) (xa_cons (xv_mod ((xv_div ((xv_var 7)).br (xv_int).br (by first | exact ⟨by omega, by omega⟩ | exact ⟨by decide, by decide⟩))).br ((xv_var 4)).br (by first | omega | decide | (simp only [List.length_cons]; omega))) (xa_cons (xv_mod ((xv_div ((xv_var 7)).br (xv_int).br (by first | exact ⟨by omega, by omega⟩ | exact ⟨by decide, by decide⟩))).br ((xv_var 3)).br (by first | omega | decide | (simp only [List.length_cons]; omega))) (xa_cons (xv_var 8) xa_nil))))) (by rfl) (by simp; omega))))) rfl (Le.fg [6, 7, 8] rfl) ?_
        have q := ih (i + 1) (by omega)
        rw [List.range_succ, List.map_append, List.map_append] at q
        exact q
    · intro ds1 h1
      cases h1
      have hrd := mRaw_bd (s := xs) (k := k) hm1 (by omega)
      have hbd := mDs_bd (s := xs) (k := k) hm1 (by omega)
      have hlen : (mRaw xs k most).length = mMany xs k most := by simp [mRaw]
      have hmany := mMany_bd (s := xs) (k := k) hm1
      have e1 : (mRaw xs k most).map eDeed = ((mRaw xs k most).map dl).map eT := by rw [List.map_map]; rfl
      have e2 : (mDs xs k most).map eDeed = ((mDs xs k most).map dl).map eT := by rw [List.map_map]; rfl
      refine xss_ret (xv_tup (xa_cons (xv_var 3) (xa_cons (xv_var 4) (xa_cons ((XL.is (xl_sortset (xs := (mRaw xs k most).map dl) (ys := (mDs xs k most).map dl) 4 1024 rfl hu T.sorted T.set (xb_own 5) (congrArg D.lst e1) (by rw [List.length_map]; omega) (by decide) ?_ ?_ ?_) e2.symm).v) xa_nil))))
      · intro x hx
        obtain ⟨d, hd, rfl⟩ := List.mem_map.mp hx
        exact ⟨rfl, (hrd d hd).1⟩
      · rw [List.pairwise_map]; exact mDs_rise xs k most
      · intro x
        rw [List.mem_map, List.mem_map]
        constructor
        · rintro ⟨d, hd, rfl⟩; exact ⟨d, (mDs_mem hm1 (by omega) d).mp hd, rfl⟩
        · rintro ⟨d, hd, rfl⟩; exact ⟨d, (mDs_mem hm1 (by omega) d).mpr hd, rfl⟩

abbrev s_law_row : Stmt := top 20
abbrev N_law_row : List Str := ["_law_script", "_law_k", "_law_machine_here", "_law_most", "_law_found", "_law_here", "_law_j", "_law_some", "_law_number"]
abbrev P_law_row : List Str := ["_law_script", "_law_k", "_law_machine_here", "_law_most"]
theorem sc_law_row : FnScope N_law_row P_law_row (defScope s_law_row) := ⟨rfl, rfl, rfl, by decide +kernel, rfl, by decide +kernel, by decide +kernel⟩

def F_law_row : Fs := fun args r => ∃ (s : List Int) (k p kn : Int) (ds : List Deed) (most : Int), args = [.scr s, .int k, eMach p kn ds, .int most] ∧ 0 ≤ most ∧ most ≤ 100 ∧ ds.length ≤ 1000 ∧ r = .ok (.lst ((mRow s k ds most).map .int))
theorem df_law_row {P : Program} {w : World} {K : Fg} {mg : Str → Option Value} {base : Heap} (T : Tx K mg) (U : Dn K mg "_law_row" s_law_row P_law_row) (D__law_mix : Df P w K mg base "_law_mix" 2 F_law_mix) :
    Df P w K mg base "_law_row" 3 F_law_row :=
  df_of 2 U sc_law_row (fun _ _ ⟨_, _, _, _, _, _, h, _⟩ => by rw [h]; rfl) fun f cdv A outer s H E args r hr tk hp hF => by
    obtain ⟨xs, k, p, kn, ds, most, rfl, hm0, hm1, hds, rfl⟩ := hF
    have nd := sc_law_row.nd
    have hmod := Int.emod_nonneg (mix xs k) (show most + 1 ≠ 0 by omega)
    have hmod2 := Int.emod_lt_of_pos (mix xs k) (show 0 < most + 1 by omega)
    refine XF.rt ?_
    refine xss_cons (xs_own 4 nd (xl_lst xa_nil)) (xss_cons (xs_set 5 nd xv_int) ?_)
    refine xss_then (o1 := .nx [.fz (.scr xs), .fz (.int k), .fz (eMach p kn ds), .fz (.int most), .ow ((mRow xs k ds most).map .int), .fz (.int (rowSt xs k ds (mix xs k % (most + 1)).toNat).2), .no, .no, .no]) (xs_for hp rfl (xi_range T.range (xv_mod ((xv_call D__law_mix (hr.mono (by decide)) tk (xa_cons (xv_var 0) (xa_cons (xv_var 1) xa_nil)) (by exact ⟨_, _, rfl, rfl⟩))).br ((xv_add ((xv_var 3)).br (xv_int).br)).br (by first | omega | decide | (simp only [List.length_cons]; omega))) (by omega) (by omega)) ?_)
      (fun ds1 h1 => by cases h1; exact XSs.freeze 4 (xss_ret (xv_var 4))) (by intro h; cases h)
    rw [rngD_F]
    suffices loop : ∀ (m i : Nat), i + m = (mix xs k % (most + 1)).toNat → Fr _ _ _ _ (rngF i m) [.fz (.scr xs), .fz (.int k), .fz (eMach p kn ds), .fz (.int most), .ow ((rowSt xs k ds i).1.map .int), .fz (.int (rowSt xs k ds i).2), .no, .no, .no]
        (.nx [.fz (.scr xs), .fz (.int k), .fz (eMach p kn ds), .fz (.int most), .ow ((mRow xs k ds most).map .int), .fz (.int (rowSt xs k ds (mix xs k % (most + 1)).toNat).2), .no, .no, .no]) by
      exact loop _ 0 (by omega)
    intro m
    induction m with
    | zero =>
      intro i hi
      have e : i = (mix xs k % (most + 1)).toNat := by omega
      subst e
      exact .nil
    | succ m ih =>
      intro i hi
      obtain ⟨l, g1, g2, g3⟩ := rowSt_good xs k ds i
      have q := ih (i + 1) (by omega)
      rw [rowSt_succ] at q
      unfold rowStep at q
      rw [rngF_succ]
      have hlen : (ds.map eDeed).length = ds.length := List.length_map _
      have hsz : ds.length < 2 ^ 62 := by omega
      have hsome : ((List.range (((ds.map eDeed).length : Nat) : Int).toNat).filter fun (n : Nat) => decide ((dAt ds (n : Int)).1 = (rowSt xs k ds i).2)).map (fun (n : Nat) => D.int n) = (mSome ds (rowSt xs k ds i).2).map fun (n : Nat) => D.int n := by
        rw [hlen, Int.toNat_natCast]; rfl
      cases e : (mSome ds (rowSt xs k ds i).2).isEmpty with
      | true =>
        rw [e, if_pos rfl] at q
        exact .step (xg_name 6 nd) (xss_cons (xs_lc 7 [("_law_number", 8)] rfl nd (xi_range T.range (xv_len T.len ((xv_ix ((xv_var 2)).br (xv_int).br (by rfl))).br) (by omega) (by rw [hlen]; omega)) (blkOk_by (own := [("_law_number", 8)]) (N := N_law_row) (sc := defScope s_law_row) (by decide +kernel)) ((lc_filter (p := fun (n : Nat) => decide ((dAt ds (n : Int)).1 = (rowSt xs k ds i).2)) (f := fun (n : Nat) => D.int n) (g := fun (n : Nat) => D.int n) (List.range _) fun x hx => ⟨_, (fun _ _ _ _ _ => (xgw_name 8 nd)), (fun _ _ _ _ _ => (xts_one (xt_eqI ((xv_ix ((xv_ix ((xv_ix ((xv_var 2)).br (xv_int).br (by rfl))).br ((xv_var 8)).br (ix_deed (by omega) (by have := List.mem_range.mp hx; omega)))).br (xv_int).br (by rfl))).br ((xv_var 5)).br))), fun _ => (fun _ _ _ _ _ => (xv_var 8))⟩).is hsome) (by rw [rngD_F, rngF_len]; omega)) (xss_no0 (xt_truth (xb_own 7) (truD_map (by rw [e]; rfl))) xss_nil)) rfl (Le.fg [6, 7, 8] rfl) q
      | false =>
        rw [e, if_neg Bool.false_ne_true] at q
        obtain ⟨n, hn, e1, e2⟩ := mPick_mem (s := xs) (k := k) (j := i) e
        obtain ⟨n1, n2⟩ := mSome_spec hn
        have h1 := Int.emod_nonneg (mix xs (k + 1 + i)) (show ((mSome ds (rowSt xs k ds i).2).length : Int) ≠ 0 by rw [List.isEmpty_eq_false_iff] at e; have := List.length_pos_iff.mpr e; omega)
        have h0 : 0 < (mSome ds (rowSt xs k ds i).2).length := by rw [List.isEmpty_eq_false_iff] at e; exact List.length_pos_iff.mpr e
        have h2 := Int.emod_lt_of_pos (mix xs (k + 1 + i)) (show (0 : Int) < ((mSome ds (rowSt xs k ds i).2).length : Int) by omega)
        have hix : ixD (.lst ((mSome ds (rowSt xs k ds i).2).map fun (n : Nat) => D.int n)) (mix xs (k + 1 + i) % (((mSome ds (rowSt xs k ds i).2).map fun (n : Nat) => D.int n).length : Nat)) = some (D.int (mPick xs k ds (rowSt xs k ds i).2 i)) := by
          rw [List.length_map, e1]
          refine ix_map (f := fun (n : Nat) => D.int n) ?_
          rw [atI_ge h1 h2, ← List.getElem?_eq_getElem]
          exact e2
        have hl2 := ix_lastM (f := D.int) (xs := (rowSt xs k ds i).1 ++ [mPick xs k ds (rowSt xs k ds i).2 i]) List.getLast?_concat
        have hd := ix_deed (ds := ds) (n := mPick xs k ds (rowSt xs k ds i).2 i) (by omega) (by omega)
        rw [List.map_append] at hl2 q
        exact .step (xg_name 6 nd) (xss_cons (xs_lc 7 [("_law_number", 8)] rfl nd (xi_range T.range (xv_len T.len ((xv_ix ((xv_var 2)).br (xv_int).br (by rfl))).br) (by omega) (by rw [hlen]; omega)) (blkOk_by (own := [("_law_number", 8)]) (N := N_law_row) (sc := defScope s_law_row) (by decide +kernel)) ((lc_filter (p := fun (n : Nat) => decide ((dAt ds (n : Int)).1 = (rowSt xs k ds i).2)) (f := fun (n : Nat) => D.int n) (g := fun (n : Nat) => D.int n) (List.range _) fun x hx => ⟨_, (fun _ _ _ _ _ => (xgw_name 8 nd)), (fun _ _ _ _ _ => (xts_one (xt_eqI ((xv_ix ((xv_ix ((xv_ix ((xv_var 2)).br (xv_int).br (by rfl))).br ((xv_var 8)).br (ix_deed (by omega) (by have := List.mem_range.mp hx; omega)))).br (xv_int).br (by rfl))).br ((xv_var 5)).br))), fun _ => (fun _ _ _ _ _ => (xv_var 8))⟩).is hsome) (by rw [rngD_F, rngF_len]; omega)) (xss_yes (xt_truth (xb_own 7) (truD_map (by rw [e]; rfl)))
          (xss_cons (xs_append 4 (xv_ix (xb_own 7) ((xv_mod ((xv_call D__law_mix (hr.mono (by decide)) tk (xa_cons (xv_var 0) (xa_cons (xv_add ((xv_add ((xv_var 1)).br (xv_int).br)).br ((xv_var 6)).br) xa_nil)) (by exact ⟨_, _, rfl, rfl⟩))).br ((xv_len T.len (xb_own 7))).br (by rw [List.length_map]; omega))).br (hix)) (by rfl) (by rw [List.length_map]; omega))
            (xss_one (xs_set 5 nd (xv_ix ((xv_ix ((xv_ix ((xv_var 2)).br (xv_int).br (by rfl))).br ((xv_ix (xb_own 4) ((xv_neg (xv_int).br)).br (hl2))).br (hd))).br (xv_int).br (by rfl))))) xss_nil)) rfl (Le.fg [6, 7, 8] rfl) q

abbrev s_law_refusal : Stmt := top 22
abbrev N_law_refusal : List Str := ["_law_kept", "_law_kinds"]
abbrev P_law_refusal : List Str := ["_law_kept"]
theorem sc_law_refusal : FnScope N_law_refusal P_law_refusal (defScope s_law_refusal) := ⟨rfl, rfl, rfl, by decide +kernel, rfl, by decide +kernel, by decide +kernel⟩

def nmR : Fin 5 → Str
  | 0 => "machine"
  | 1 => "row"
  | 2 => "prices"
  | 3 => "model"
  | 4 => "form"
def kindsR (i : Fin 5) : List D := [.bl (decide (i = 0)), .bl (decide (i = 1)), .bl (decide (i = 2)), .bl (decide (i = 3)), .bl (decide (i = 4))]
theorem kindsR_count : ∀ i : Fin 5, (kindsR i).countP (fun z => eqF z (.bl true)) = 1 := by decide
theorem kindsR_at : ∀ i : Fin 5, (kindsR i)[i.val]? = some (.bl true) := fun i => match i with | 0 => rfl | 1 => rfl | 2 => rfl | 3 => rfl | 4 => rfl
theorem kindsR_no (i : Fin 5) (m : Nat) (z : D) (h : m < i.val) (e : (kindsR i)[m]? = some z) : eqF z (.bl true) = false := by
  have k : ∀ (i : Fin 5) (m : Fin 5), m.val < i.val → ∀ z ∈ (kindsR i)[m.val]?, eqF z (.bl true) = false := by
    intro i m
    match i, m with
    | 0, m => intro h; omega
    | 1, 0 => intro _ z hz; cases hz; rfl
    | 2, 0 => intro _ z hz; cases hz; rfl
    | 2, 1 => intro _ z hz; cases hz; rfl
    | 3, 0 => intro _ z hz; cases hz; rfl
    | 3, 1 => intro _ z hz; cases hz; rfl
    | 3, 2 => intro _ z hz; cases hz; rfl
    | 4, 0 => intro _ z hz; cases hz; rfl
    | 4, 1 => intro _ z hz; cases hz; rfl
    | 4, 2 => intro _ z hz; cases hz; rfl
    | 4, 3 => intro _ z hz; cases hz; rfl
    | 1, 1 | 1, 2 | 1, 3 | 1, 4 | 2, 2 | 2, 3 | 2, 4 | 3, 3 | 3, 4 | 4, 4 => intro h; exact absurd h (by decide)
  exact k i ⟨m, by omega⟩ h z e
def F_law_refusal (cls : Fin 5 → Addr) : Fs := fun args r => ∃ i : Fin 5, args = [.exc (cls i)] ∧ r = .ok (.str (nmR i))
theorem df_law_refusal {P : Program} {w : World} {K : Fg} {mg : Str → Option Value} {base : Heap} {cE : Addr} {cls : Fin 5 → Addr} (T : Tx K mg) (E5 : E5 K mg cE cls) (U : Dn K mg "_law_refusal" s_law_refusal P_law_refusal) : Df P w K mg base "_law_refusal" 1 (F_law_refusal cls) :=
  df_of 0 U sc_law_refusal (fun _ _ ⟨_, h, _⟩ => by rw [h]; rfl) fun f cdv A outer s H E args r hr tk hp hF => by
    obtain ⟨i, rfl, rfl⟩ := hF
    have nd := sc_law_refusal.nd
    refine XF.rt ?_
    refine xss_no0 (XT.is (xt_isN ((xv_var 0)).br) (rfl)) ?_
    refine xss_cons (xs_own 1 nd (xl_lst (xa_cons (xv_isX T.isinstance (E5.ei i) (E5.ei 0) (E5.sub i 0) (E5.ec 0).g ((xv_var 0)).br) (xa_cons (xv_isX T.isinstance (E5.ei i) (E5.ei 1) (E5.sub i 1) (E5.ec 1).g ((xv_var 0)).br) (xa_cons (xv_isX T.isinstance (E5.ei i) (E5.ei 2) (E5.sub i 2) (E5.ec 2).g ((xv_var 0)).br) xa_nil))))) ?_
    refine xss_cons (xs_own 1 nd (xl_cat (xb_own 1) ((xl_lst (xa_cons (xv_isX T.isinstance (E5.ei i) (E5.ei 3) (E5.sub i 3) (E5.ec 3).g ((xv_var 0)).br) (xa_cons (xv_isX T.isinstance (E5.ei i) (E5.ei 4) (E5.sub i 4) (E5.ec 4).g ((xv_var 0)).br) xa_nil)))).br (by simp))) ?_
    have hc := kindsR_count i
    have hfl : (kindsR i).all flatD = true := rfl
    refine xss_no0 (XT.is ((xw_or (xt_neI ((xv_count (xs := kindsR i) (xb_own 1) (xv_bl).br rfl hfl)).br (xv_int).br) (fun hk => (xw_and1 (xt_not (xt_val (xv_isVE T.isinstance E5.ve (E5.ei i) ((xv_var 0)).br))))))).t (by rw [hc]; rfl)) ?_
    have hix : ixD (.lst [.str "machine", .str "row", .str "prices", .str "model", .str "form"]) (i.val : Int) = some (.str (nmR i)) := match i with | 0 => rfl | 1 => rfl | 2 => rfl | 3 => rfl | 4 => rfl
    exact xss_ret (xv_ix ((xl_lst (xa_cons xv_str (xa_cons xv_str (xa_cons xv_str (xa_cons xv_str (xa_cons xv_str xa_nil))))))).br ((xv_index (xs := kindsR i) (xb_own 1) (xv_bl).br rfl hfl (kindsR_at i) rfl (kindsR_no i))).br (hix))

/-! the law's own walk -/
theorem inF_ints {a : Int} : ∀ {xs : List Int}, inF (.int a) (xs.map .int) = decide (a ∈ xs)
  | [] => rfl
  | x :: xs => by
    show (eqF (.int x) (.int a) || inF (.int a) (xs.map .int)) = _
    rw [inF_ints, eqF_int, Bool.eq_iff_iff]
    simp only [Bool.or_eq_true, decide_eq_true_eq, List.mem_cons]
    constructor
    · rintro (h | h)
      · exact .inl h.symm
      · exact .inr h
    · rintro (h | h)
      · exact .inl h.symm
      · exact .inr h
theorem flat_ints : ∀ (xs : List Int), (xs.map D.int).all flatD = true
  | [] => rfl
  | x :: xs => flat_ints xs
def lrEdge (v : Int) (fd : List Int) (d : Deed) : List Int := if d.1 = v ∧ d.2.2.1 ∉ fd then fd ++ [d.2.2.1] else fd
def lrAll (v : Int) (ds : List Deed) (fd : List Int) : List Int := ds.foldl (lrEdge v) fd
def lrGo (ds : List Deed) : Nat → Nat → List Int → List Int
  | 0, _, fd => fd
  | n + 1, k, fd => if k < fd.length then lrGo ds n (k + 1) (lrAll (fd.getD k 0) ds fd) else fd
def lrM (p : Int) (ds : List Deed) : List Int := lrGo ds (p.toNat + 1) 0 [0]
structure LInv (p : Int) (ds : List Deed) (cl : Int → Prop) (fd : List Int) : Prop where
  nd : fd.Nodup
  ok : ∀ x ∈ fd, (0 ≤ x ∧ x < p) ∧ Reach ds x
  z : (0 : Int) ∈ fd
  c : ∀ d ∈ ds, d.1 ∈ fd → cl d.1 ∨ d.2.2.1 ∈ fd
theorem lrEdge_inv {p : Int} {ds : List Deed} {v : Int} {cl : Int → Prop} {fd : List Int} {d : Deed} (hd : d ∈ ds) (hb : 0 ≤ d.2.2.1 ∧ d.2.2.1 < p) (hv : v ∈ fd) (ncl : ∀ x, x ∉ fd → cl x) (I : LInv p ds cl fd) :
    LInv p ds cl (lrEdge v fd d) ∧ (∃ r, lrEdge v fd d = fd ++ r) ∧ (d.1 = v → d.2.2.1 ∈ lrEdge v fd d) := by
  unfold lrEdge
  split
  · rename_i h
    refine ⟨⟨?_, fun x hx => ?_, List.mem_append_left _ I.z, fun c hc hx => ?_⟩, ⟨_, rfl⟩, fun _ => List.mem_append_right _ (List.mem_singleton_self _)⟩
    · rw [List.nodup_append]
      refine ⟨I.nd, by simp, fun a ha b hb e => ?_⟩
      rw [List.mem_singleton] at hb
      exact h.2 (by rw [← hb, ← e]; exact ha)
    · rcases List.mem_append.mp hx with hx | hx
      · exact I.ok x hx
      · rw [List.mem_singleton] at hx
        rw [hx]
        exact ⟨hb, .go hd (by rw [h.1]; exact (I.ok v hv).2)⟩
    · by_cases q : c.1 ∈ fd
      · rcases I.c c hc q with w | w
        · exact .inl w
        · exact .inr (List.mem_append_left _ w)
      · exact .inl (ncl _ q)
  · rename_i h
    refine ⟨I, ⟨[], by rw [List.append_nil]⟩, fun e => ?_⟩
    apply Classical.byContradiction
    intro q
    exact h ⟨e, q⟩
theorem lrAll_inv {p : Int} {ds : List Deed} {v : Int} {cl : Int → Prop} (hb : ∀ d ∈ ds, 0 ≤ d.2.2.1 ∧ d.2.2.1 < p) : ∀ (l : List Deed) (fd : List Int), (∀ d ∈ l, d ∈ ds) → v ∈ fd → (∀ x, x ∉ fd → cl x) → LInv p ds cl fd →
    LInv p ds cl (lrAll v l fd) ∧ (∃ r, lrAll v l fd = fd ++ r) ∧ (∀ d ∈ l, d.1 = v → d.2.2.1 ∈ lrAll v l fd)
  | [], fd, _, _, _, I => ⟨I, ⟨[], by unfold lrAll; simp⟩, fun d h => by cases h⟩
  | d :: l, fd, hl, hv, hn, I => by
    obtain ⟨I1, ⟨r1, e1⟩, m1⟩ := lrEdge_inv (hl d List.mem_cons_self) (hb d (hl d List.mem_cons_self)) hv hn I
    obtain ⟨I2, ⟨r2, e2⟩, m2⟩ := lrAll_inv hb l (lrEdge v fd d) (fun c hc => hl c (List.mem_cons_of_mem _ hc)) (by rw [e1]; exact List.mem_append_left _ hv) (fun x hx => hn x fun q => hx (by rw [e1]; exact List.mem_append_left _ q)) I1
    refine ⟨I2, ⟨r1 ++ r2, ?_⟩, fun c hc e => ?_⟩
    · show lrAll v l (lrEdge v fd d) = _
      rw [e2, e1, List.append_assoc]
    · rcases List.mem_cons.mp hc with rfl | hc
      · show _ ∈ lrAll v l (lrEdge v fd c)
        rw [e2]
        exact List.mem_append_left _ (m1 e)
      · exact m2 c hc e
/-- behind k turns: what stands ahead of k is closed -/
abbrev LK (p : Int) (ds : List Deed) (k : Nat) (fd : List Int) : Prop := LInv p ds (fun x => x ∉ fd.take k) fd ∧ k ≤ fd.length
theorem lr_len {p : Int} {ds : List Deed} {cl : Int → Prop} {fd : List Int} (I : LInv p ds cl fd) : (fd.length : Int) ≤ p := by
  apply Classical.byContradiction
  intro hc
  have hp : 0 < p := by have := (I.ok 0 I.z).1; omega
  obtain ⟨i, j, h1, h2, h3⟩ := pigeon p.toNat (fun i => fd.getD i 0) (fun i hi => by
    have hl : i < fd.length := by omega
    have hm : fd.getD i 0 ∈ fd := by
      rw [List.getD_eq_getElem?_getD, List.getElem?_eq_getElem hl]
      exact List.getElem_mem _
    have := (I.ok _ hm).1
    omega)
  have li : i < fd.length := by omega
  have lj : j < fd.length := by omega
  rw [List.getD_eq_getElem?_getD, List.getD_eq_getElem?_getD, List.getElem?_eq_getElem li, List.getElem?_eq_getElem lj] at h3
  have nd := I.nd
  rw [List.nodup_iff_pairwise_ne, List.pairwise_iff_getElem] at nd
  exact nd i j li lj h1 (by simpa using h3)
theorem lr_turn {p : Int} {ds : List Deed} {k : Nat} {fd : List Int} (hb : ∀ d ∈ ds, 0 ≤ d.2.2.1 ∧ d.2.2.1 < p) (h : k < fd.length) (I : LK p ds k fd) : LK p ds (k + 1) (lrAll (fd.getD k 0) ds fd) ∧ ∃ r, lrAll (fd.getD k 0) ds fd = fd ++ r := by
  have e0 : fd.getD k 0 = fd[k] := by rw [List.getD_eq_getElem?_getD, List.getElem?_eq_getElem h]; rfl
  rw [e0]
  have hv : fd[k] ∈ fd := List.getElem_mem h
  obtain ⟨I1, ⟨r, e⟩, m⟩ := lrAll_inv (v := fd[k]) hb ds fd (fun _ h => h) hv (fun x hx => fun q => hx (List.mem_of_mem_take q)) I.1
  refine ⟨⟨⟨I1.nd, I1.ok, I1.z, fun d hd hx => ?_⟩, by rw [e, List.length_append]; omega⟩, r, e⟩
  by_cases q : d.1 = fd[k]
  · exact .inr (m d hd q)
  · rcases I1.c d hd hx with w | w
    · left
      intro z
      rw [e, List.take_append_of_le_length (by omega), List.take_succ_eq_append_getElem h, List.mem_append, List.mem_singleton] at z
      rcases z with z | z
      · exact w z
      · exact q z
    · exact .inr w
theorem lr_start {p : Int} {ds : List Deed} (hp : 1 ≤ p) : LK p ds 0 [0] := ⟨⟨by simp, fun x hx => by rw [List.mem_singleton] at hx; subst hx; exact ⟨⟨by decide, by omega⟩, .zero⟩, by simp, fun d hd hx => .inl (by simp)⟩, by simp⟩
theorem lrGo_inv {p : Int} {ds : List Deed} (hb : ∀ d ∈ ds, 0 ≤ d.2.2.1 ∧ d.2.2.1 < p) : ∀ (n k : Nat) (fd : List Int), LK p ds k fd → p.toNat < n + k → LInv p ds (fun _ => False) (lrGo ds n k fd)
  | 0, k, fd, I, h => by have := lr_len I.1; have := I.2; omega
  | n + 1, k, fd, I, h => by
    unfold lrGo
    split
    · rename_i hk
      exact lrGo_inv hb n (k + 1) _ (lr_turn hb hk I).1 (by omega)
    · rename_i hk
      have e : k = fd.length := by have := I.2; omega
      subst e
      refine ⟨I.1.nd, I.1.ok, I.1.z, fun d hd hx => ?_⟩
      rcases I.1.c d hd hx with w | w
      · rw [List.take_length] at w; exact absurd hx w
      · exact .inr w
theorem lrM_mem {p : Int} {ds : List Deed} (hp : 1 ≤ p) (hb : ∀ d ∈ ds, 0 ≤ d.2.2.1 ∧ d.2.2.1 < p) (x : Int) : x ∈ lrM p ds ↔ Reach ds x := by
  have I := lrGo_inv hb (p.toNat + 1) 0 [0] (lr_start hp) (by omega)
  constructor
  · exact fun h => (I.ok x h).2
  · intro h
    induction h with
    | zero => exact I.z
    | go hd _ ih =>
      rcases I.c _ hd ih with w | w
      · exact w.elim
      · exact w
theorem lrM_dec {p : Int} {ds : List Deed} (hp : 1 ≤ p) (hb : ∀ d ∈ ds, 0 ≤ d.2.2.1 ∧ d.2.2.1 < p) (x : Int) : decide (x ∈ lrM p ds) = isR ds x := by
  refine isR_of ?_
  rw [decide_eq_true_eq]
  exact lrM_mem hp hb x
theorem lrM_len {p : Int} {ds : List Deed} (hp : 1 ≤ p) (hb : ∀ d ∈ ds, 0 ≤ d.2.2.1 ∧ d.2.2.1 < p) : ((lrM p ds).length : Int) ≤ p := lr_len (lrGo_inv hb (p.toNat + 1) 0 [0] (lr_start hp) (by omega))

abbrev s_law_reached : Stmt := top 21
abbrev N_law_reached : List Str := ["_law_machine_here", "_law_found", "_law_at", "_law_one", "_law_kind", "_law_other", "_law_cost"]
abbrev P_law_reached : List Str := ["_law_machine_here"]
theorem sc_law_reached : FnScope N_law_reached P_law_reached (defScope s_law_reached) := ⟨rfl, rfl, rfl, by decide +kernel, rfl, by decide +kernel, by decide +kernel⟩

def F_law_reached : Fs := fun args r => ∃ (p kn : Int) (ds : List Deed), args = [eMach p kn ds] ∧ goodM p kn ds = true ∧ r = .ok (.lst ((lrM p ds).map .int))
theorem df_law_reached {P : Program} {w : World} {K : Fg} {mg : Str → Option Value} {base : Heap} (T : Tx K mg) (U : Dn K mg "_law_reached" s_law_reached P_law_reached) : Df P w K mg base "_law_reached" 1 F_law_reached :=
  df_of 0 U sc_law_reached (fun _ _ ⟨_, _, _, h, _⟩ => by rw [h]; rfl) fun f cdv A outer s H E args r hr tk hp hF => by
    obtain ⟨p, kn, ds, rfl, hg, rfl⟩ := hF
    have nd := sc_law_reached.nd
    obtain ⟨p1, _, hl, g⟩ := goodM_d hg
    have hb : ∀ d ∈ ds, 0 ≤ d.2.2.1 ∧ d.2.2.1 < p := fun d hd => (g d hd).2.1
    refine XF.rt (xss_cons (xs_own 1 nd (xl_lst (xa_cons xv_int xa_nil))) (xss_cons (xs_set 2 nd xv_int) ?_))
    refine xss_whileX (Q := fun d1 => ∃ k, d1 = [.fz (eMach p kn ds), .ow ((lrM p ds).map .int), .fz (.int k), .no, .no, .no, .no]) hp ?_ ?_
    · suffices loop : ∀ (n k : Nat) (fd : List Int), LK p ds k fd → p.toNat < n + k → ∃ (m : Nat) (k' : Int), Wh _ _ _ _ m [.fz (eMach p kn ds), .ow (fd.map .int), .fz (.int k), .no, .no, .no, .no] (.nx [.fz (eMach p kn ds), .ow ((lrGo ds n k fd).map .int), .fz (.int k'), .no, .no, .no, .no]) by
        obtain ⟨m, k', hw⟩ := loop (p.toNat + 1) 0 [0] (lr_start p1.1) (by omega)
        exact ⟨m, _, ⟨k', rfl⟩, hw⟩
      intro n
      induction n with
      | zero => intro k fd I h; have := lr_len I.1; have := I.2; omega
      | succ n ih =>
        intro k fd I h
        by_cases hk : k < fd.length
        · have e : lrGo ds (n + 1) k fd = lrGo ds n (k + 1) (lrAll (fd.getD k 0) ds fd) := by simp only [lrGo, if_pos hk]
          rw [e]
          obtain ⟨I2, r, er⟩ := lr_turn hb hk I
          obtain ⟨m, k', hw⟩ := ih (k + 1) _ I2 (by omega)
          rw [show ((k + 1 : Nat) : Int) = (k : Int) + 1 by omega] at hw
          have hix : ∀ r : List Int, ixD (.lst ((fd ++ r).map .int)) (k : Int) = some (.int (fd.getD k 0)) := fun r => by
            have := ix_map (f := D.int) (atI_d (xs := fd ++ r) (i := ((k : Nat) : Int)) 0 (by omega) (by simp; omega))
            rw [this, Int.toNat_natCast, List.getD_eq_getElem?_getD, List.getD_eq_getElem?_getD, List.getElem?_append_left hk]
          refine ⟨m + 1, k', .step (o' := .nx [.fz (eMach p kn ds), .ow ((lrAll (fd.getD k 0) ds fd).map .int), .fz (.int ((k : Int) + 1)), .no, .no, .no, .no]) (XT.is (xt_lt ((xv_var 2)).br ((xv_len T.len (xb_own 1))).br) (by rw [List.length_map]; exact decide_eq_true (by omega))) (xss_cons (ds1 := [.fz (eMach p kn ds), .ow ((lrAll (fd.getD k 0) ds fd).map .int), .fz (.int (k : Int)), .no, .no, .no, .no]) (xs_for hp rfl (xi_list (xv_ix ((xv_var 0)).br (xv_int).br (by rfl))) ?_) (xss_one (xs_set 2 nd (xv_add ((xv_var 2)).br (xv_int).br)))) rfl .refl hw⟩
          suffices inner : ∀ (l : List Deed) (f2 : List Int), (∀ d ∈ l, d ∈ ds) → (∃ r, f2 = fd ++ r) → LInv p ds (fun x => x ∉ fd.take k) f2 → Fr _ _ _ _ (l.map eDeed) [.fz (eMach p kn ds), .ow (f2.map .int), .fz (.int (k : Int)), .no, .no, .no, .no] (.nx [.fz (eMach p kn ds), .ow ((lrAll (fd.getD k 0) l f2).map .int), .fz (.int (k : Int)), .no, .no, .no, .no]) by
            exact inner ds fd (fun _ h => h) ⟨[], by rw [List.append_nil]⟩ I.1
          intro l
          induction l with
          | nil => intro f2 _ _ _; exact .nil
          | cons d l ihl =>
            intro f2 hd ⟨r2, e2⟩ I3
            have hv : fd.getD k 0 ∈ f2 := by
              rw [e2, List.getD_eq_getElem?_getD, List.getElem?_eq_getElem hk]
              exact List.mem_append_left _ (List.getElem_mem hk)
            obtain ⟨I4, ⟨r4, e4⟩, _⟩ := lrEdge_inv (cl := fun x => x ∉ fd.take k) (v := fd.getD k 0) (hd d List.mem_cons_self) (hb d (hd d List.mem_cons_self)) hv (fun x hx (q : x ∈ fd.take k) => hx (by rw [e2]; exact List.mem_append_left _ (List.mem_of_mem_take q))) I3
            have q := ihl (lrEdge (fd.getD k 0) f2 d) (fun c hc => hd c (List.mem_cons_of_mem _ hc)) ⟨r2 ++ r4, by rw [e4, e2, List.append_assoc]⟩ I4
            have hix2 : ixD (.lst (f2.map .int)) (k : Int) = some (.int (fd.getD k 0)) := by rw [e2]; exact hix r2
            have hl2 := lr_len I3
            rw [show lrAll (fd.getD k 0) (d :: l) f2 = lrAll (fd.getD k 0) l (lrEdge (fd.getD k 0) f2 d) from rfl]
            by_cases hc : d.1 = fd.getD k 0 ∧ d.2.2.1 ∉ f2
            · have el : lrEdge (fd.getD k 0) f2 d = f2 ++ [d.2.2.1] := if_pos hc
              rw [el] at q ⊢
              rw [List.map_append] at q
              exact .step (xg_tup rfl (xgs_cons (xg_name 3 nd) (xgs_cons (xg_name 4 nd) (xgs_cons (xg_name 5 nd) (xgs_cons (xg_name 6 nd) xgs_nil))))) (xss_one (xs_yes (XT.is ((xw_and (xt_eqI ((xv_var 3)).br ((xv_ix (xb_own 1) ((xv_var 2)).br (hix2))).br) (fun hk => (xw_and1 (xt_nin ((xv_var 5)).br (xb_own 1) (Or.inl rfl) (rfl) (flat_ints _)))))).t (by rw [inF_ints, decide_eq_true hc.1, decide_eq_false hc.2]; rfl)) (xss_one (xs_append 1 (xv_var 5) (by rfl) (by rw [List.length_map]; omega))))) rfl (Le.fg [3, 4, 5, 6] rfl) q
            · have el : lrEdge (fd.getD k 0) f2 d = f2 := if_neg hc
              rw [el] at q ⊢
              exact .step (xg_tup rfl (xgs_cons (xg_name 3 nd) (xgs_cons (xg_name 4 nd) (xgs_cons (xg_name 5 nd) (xgs_cons (xg_name 6 nd) xgs_nil))))) (xss_one (xs_no (XT.is ((xw_and (xt_eqI ((xv_var 3)).br ((xv_ix (xb_own 1) ((xv_var 2)).br (hix2))).br) (fun hk => (xw_and1 (xt_nin ((xv_var 5)).br (xb_own 1) (Or.inl rfl) (rfl) (flat_ints _)))))).t (by rw [inF_ints, Bool.eq_false_iff]; intro z; simp only [Bool.and_eq_true, decide_eq_true_eq, Bool.not_eq_true', decide_eq_false_iff_not] at z; exact hc z)) xss_nil)) rfl (Le.fg [3, 4, 5, 6] rfl) q
        · have e : lrGo ds (n + 1) k fd = fd := by simp only [lrGo, if_neg hk]
          rw [e]
          exact ⟨0, k, .stop (XT.is (xt_lt ((xv_var 2)).br ((xv_len T.len (xb_own 1))).br) (by rw [List.length_map]; exact decide_eq_false (by omega)))⟩
    · rintro d1 ⟨k, rfl⟩
      exact XSs.freeze 1 (xss_ret (xv_var 1))

abbrev s_law_good : Stmt := top 23
abbrev N_law_good : List Str := ["_law_machine_here", "_law_places", "_law_kinds", "_law_deeds", "_law_one", "_law_kind", "_law_other", "_law_cost"]
abbrev P_law_good : List Str := ["_law_machine_here"]
theorem sc_law_good : FnScope N_law_good P_law_good (defScope s_law_good) := ⟨rfl, rfl, rfl, by decide +kernel, rfl, by decide +kernel, by decide +kernel⟩

def F_law_good : Fs := fun args r => ∃ (p kn : Int) (ds : List Deed), args = [eMach p kn ds] ∧ (ds.length < 64 ∨ 600 < ds.length ∨ ds = bigD 600) ∧ r = .ok (.bl (goodM p kn ds))
theorem df_law_good {P : Program} {w : World} {K : Fg} {mg : Str → Option Value} {base : Heap} (T : Tx K mg) (U : Dn K mg "_law_good" s_law_good P_law_good) : Df P w K mg base "_law_good" 1 F_law_good :=
  df_of 0 U sc_law_good (fun _ _ ⟨_, _, _, h, _⟩ => by rw [h]; rfl) fun f cdv A outer s H E args r hr tk hp hF => by
    obtain ⟨p, kn, ds, rfl, hsz, rfl⟩ := hF
    have nd := sc_law_good.nd
    have hu := hr.units
    have h2 : ds.length ≤ 600 ∨ 600 < ds.length := by omega
    refine XF.rt (xss_cons (xs_asg (xv_var 0) (xg_tup rfl (xgs_cons (xg_name 1 nd) (xgs_cons (xg_name 2 nd) (xgs_cons (xg_name 3 nd) xgs_nil))))) ?_)
    refine xss_if ((xw_or (xt_not (xt_chain (xv_int).br ((xv_var 1)).br (xv_int).br)) (fun hk => (xw_or (xt_not (xt_chain (xv_int).br ((xv_var 2)).br (xv_int).br)) (fun hk => (xw_and1 (xt_gt ((xv_len T.len ((xv_var 3)).br)).br (xv_int).br))))))).t (fun hk ht => ?_) fun hk ht => ?_
    · have e : goodM p kn ds = false := by
        unfold goodM
        simp only [cmpI, List.length_map] at hk
        rw [Bool.eq_false_iff]
        intro q
        simp only [Bool.and_eq_true, Bool.or_eq_true, Bool.not_eq_true', decide_eq_true_eq, Bool.and_eq_false_iff, decide_eq_false_iff_not] at hk q
        omega
      rw [e]
      exact xss_yesS ht (xss_ret xv_bl)
    · refine xss_no0 ht ?_
      simp only [cmpI, List.length_map, Bool.or_eq_false_iff, Bool.not_eq_false', Bool.and_eq_true, decide_eq_true_eq, decide_eq_false_iff_not] at hk
      have hp2 : p ≤ 200 := hk.1.2
      have hk2 : kn ≤ 8 := hk.2.1.2
      have hds : ds.length ≤ 600 := by omega
      have eg : goodM p kn ds = look p kn none ds := by
        unfold goodM
        rw [decide_eq_true hk.1.1, decide_eq_true hk.1.2, decide_eq_true hk.2.1.1, decide_eq_true hk.2.1.2, decide_eq_true hds]
        rfl
      rw [eg]
      refine xss_then (o1 := if ds.all (deedOk p kn) then .nx [.fz (eMach p kn ds), .fz (.int p), .fz (.int kn), .fz (.lst (ds.map eDeed)), .no, .no, .no, .no] else .rt (.bl false)) (xs_for hp rfl (xi_list (xv_var 3)) ?_) (fun ds1 h1 => ?_) (fun h => ?_)
      · suffices loop : ∀ xs : List Deed, Fr _ _ _ _ (xs.map eDeed) [.fz (eMach p kn ds), .fz (.int p), .fz (.int kn), .fz (.lst (ds.map eDeed)), .no, .no, .no, .no]
            (if xs.all (deedOk p kn) then .nx [.fz (eMach p kn ds), .fz (.int p), .fz (.int kn), .fz (.lst (ds.map eDeed)), .no, .no, .no, .no] else .rt (.bl false)) by exact loop ds
        intro xs
        induction xs with
        | nil => exact .nil
        | cons d xs ih =>
          rw [List.all_cons]
          refine Fr.chk (deedOk p kn d) (xg_tup rfl (xgs_cons (xg_name 4 nd) (xgs_cons (xg_name 5 nd) (xgs_cons (xg_name 6 nd) (xgs_cons (xg_name 7 nd) xgs_nil))))) (a := [.fz (eMach p kn ds), .fz (.int p), .fz (.int kn), .fz (.lst (ds.map eDeed)), .fz (.int d.1), .fz (.int d.2.1), .fz (.int d.2.2.1), .fz (.int d.2.2.2)]) (o1 := .rt (.bl false)) ?_ (Le.fg [4, 5, 6, 7] rfl) rfl
            (fun hc => ?_) (fun hc => ?_)
          · refine xss_if ((xw_or (xt_lt ((xv_min4 rfl T.min ((xv_var 4)).br ((xv_var 5)).br ((xv_var 6)).br ((xv_var 7)).br)).br (xv_int).br) (fun hk => (xw_or (xt_ge ((xv_max rfl T.max ((xv_var 4)).br ((xv_var 6)).br)).br ((xv_var 1)).br) (fun hk => (xw_or (xt_ge ((xv_var 5)).br ((xv_var 2)).br) (fun hk => (xw_and1 (xt_gt ((xv_var 7)).br (xv_int).br))))))))).t (fun hk ht => ?_) fun hk ht => ?_
            · have e : deedOk p kn d = false := by
                unfold deedOk
                rw [Bool.eq_false_iff]
                intro q
                simp only [Bool.and_eq_true, Bool.or_eq_true, decide_eq_true_eq] at hk q
                omega
              rw [e, if_neg Bool.false_ne_true]
              exact xss_yesS ht (xss_ret xv_bl)
            · have e : deedOk p kn d = true := by
                unfold deedOk
                simp only [Bool.or_eq_false_iff, decide_eq_false_iff_not] at hk
                simp only [Bool.and_eq_true, decide_eq_true_eq]
                omega
              rw [e, if_pos rfl]
              exact xss_no0 ht xss_nil
          · rw [hc, Bool.true_and]; exact ih
          · rw [hc, Bool.false_and, if_neg Bool.false_ne_true]; rfl
      · have hall : ds.all (deedOk p kn) = true := by
          cases z : ds.all (deedOk p kn) with
          | true => rfl
          | false => rw [z, if_neg Bool.false_ne_true] at h1; cases h1
        rw [hall, if_pos rfl] at h1
        rw [look_dsort hp2 hk2 hall]
        cases h1
        have ho : ∀ d ∈ ds, deedOk p kn d = true := fun d hd => List.all_eq_true.mp hall d hd
        have hb : ∀ d ∈ ds, BdD d := fun d hd => bd_of hp2 hk2 (ho d hd)
        have e1 : ds.map eDeed = (ds.map dl).map eT := by rw [List.map_map]; rfl
        have e2 : (dsort ds).map eDeed = ((dsort ds).map dl).map eT := by rw [List.map_map]; rfl
        have eq : eqD (.lst (ds.map eDeed)) (.lst ((dsort ds).map eDeed)) = decide (ds = dsort ds) := eqD_lst eqD_deed ds (dsort ds)
        have ok : ∀ xs : List Deed, okE (.lst (xs.map eDeed)) = true := fun xs => (okN_deeds xs).e
        have hbx : ∀ x ∈ ds.map dl, x.length = 4 ∧ TS.Bd 1024 x := fun x hx => by
          obtain ⟨d, hd, rfl⟩ := List.mem_map.mp hx
          exact ⟨rfl, hb d hd⟩
        rcases hsz with hz | hz | hz
        · have hy : ((dsort ds).map dl).Pairwise fun a b => TS.code 1024 a < TS.code 1024 b := by rw [List.pairwise_map]; exact dsort_rise ds
          have hm : ∀ x, x ∈ (dsort ds).map dl ↔ x ∈ ds.map dl := fun x => by
            rw [List.mem_map, List.mem_map]
            constructor
            · rintro ⟨d, hd, rfl⟩; exact ⟨d, (dsort_mem hb d).mp hd, rfl⟩
            · rintro ⟨d, hd, rfl⟩; exact ⟨d, (dsort_mem hb d).mpr hd, rfl⟩
          exact xss_ret (XV.is (xv_eq hu ((xv_var 3)).br ((XL.is (xl_sortset (xs := ds.map dl) (ys := (dsort ds).map dl) 4 1024 rfl hu T.sorted T.set ((xv_var 3)).br (congrArg D.lst e1) (by rw [List.length_map]; exact hz) (by decide) hbx hy hm) e2.symm)).br (ok _) (ok _)) (congrArg D.bl eq))
        · omega
        · have hid : dsort ds = ds := dsort_id (by rw [hz]; exact bigD_rise 600)
          have df : ((ds.map dl).map (thash P w)).Nodup := by rw [hz, bigD_dl]; exact big_differ P w
          have hy : ((dsort ds).map dl).Pairwise fun a b => TS.code 1024 a ≤ TS.code 1024 b := by rw [List.pairwise_map]; exact (dsort_rise ds).imp fun h => Int.le_of_lt h
          have hpm : ((dsort ds).map dl).Perm (ds.map dl) := by rw [hid]
          exact xss_ret (XV.is (xv_eq hu ((xv_var 3)).br ((XL.is (xl_sortsetD (xs := ds.map dl) (ys := (dsort ds).map dl) 4 1024 rfl hu T.sorted T.set ((xv_var 3)).br (congrArg D.lst e1) (by rw [List.length_map]; omega) df (by decide) hbx hy hpm) e2.symm)).br (ok _) (ok _)) (congrArg D.bl eq))
      · cases z : ds.all (deedOk p kn) with
        | true => rw [z, if_pos rfl] at h; cases h
        | false => rw [if_neg Bool.false_ne_true, look_all z]

abbrev s_law_spoilt : Stmt := top 24
abbrev N_law_spoilt : List Str := ["_law_machine_here", "_law_number", "_law_places", "_law_kinds", "_law_deeds", "_law_way", "_law_some", "_law_at", "_law_deed", "_law_spot", "_law_many", "_law_k"]
abbrev P_law_spoilt : List Str := ["_law_machine_here", "_law_number"]
theorem sc_law_spoilt : FnScope N_law_spoilt P_law_spoilt (defScope s_law_spoilt) := ⟨rfl, rfl, rfl, by decide +kernel, rfl, by decide +kernel, by decide +kernel⟩

def F_law_spoilt : Fs := fun args r => ∃ (p kn : Int) (ds : List Deed) (n : Int), args = [eMach p kn ds, .int n] ∧ ds.length ≤ 40 ∧ 0 ≤ n ∧ n < 2 ^ 64 ∧ r = .ok (eMach (spoiltM p kn ds n).1 (spoiltM p kn ds n).2.1 (spoiltM p kn ds n).2.2)
theorem ix4 {a b c d : Int} {k : Int} (h0 : 0 ≤ k) (h4 : k < 4) : ixD (.lst [.int a, .int b, .int c, .int d]) k = some (.int ([a, b, c, d].getD k.toNat 0)) := by
  have : k = 0 ∨ k = 1 ∨ k = 2 ∨ k = 3 := by omega
  rcases this with e | e | e | e <;> rw [e] <;> rfl
theorem ix3 {p kn way spot a b : Int} (h0 : 0 ≤ way) (h3 : way < 3) (ha : a = [p, kn, p, 1001].getD spot.toNat 0) (hb : b = [p - 1, kn - 1, 0, 1000].getD spot.toNat 0) : ixD (.lst [.int (-1), .int a, .int b]) way = some (.int (spV p kn way spot)) := by
  have : way = 0 ∨ way = 1 ∨ way = 2 := by omega
  unfold spV
  rcases this with e | e | e <;> rw [e]
  · rfl
  · rw [ha]; rfl
  · rw [hb]; rfl
theorem df_law_spoilt {P : Program} {w : World} {K : Fg} {mg : Str → Option Value} {base : Heap} (T : Tx K mg) (U : Dn K mg "_law_spoilt" s_law_spoilt P_law_spoilt) : Df P w K mg base "_law_spoilt" 1 F_law_spoilt :=
  df_of 0 U sc_law_spoilt (fun _ _ ⟨_, _, _, _, h, _⟩ => by rw [h]; rfl) fun f cdv A outer s H E args r hr tk hp hF => by
    obtain ⟨p, kn, ds, n, rfl, hlen, hn0, hn1, rfl⟩ := hF
    have nd := sc_law_spoilt.nd
    have hu := hr.units
    have w0 := Int.emod_nonneg n (show (8 : Int) ≠ 0 by decide)
    refine XF.rt (xss_cons (xs_asg (xv_var 0) (xg_tup rfl (xgs_cons (xg_name 2 nd) (xgs_cons (xg_name 3 nd) (xgs_cons (xg_name 4 nd) xgs_nil))))) (xss_cons (xs_set 5 nd (xv_mod ((xv_var 1)).br (xv_int).br (by first | omega | decide | (simp only [List.length_cons]; omega)))) (xss_cons (xs_set 6 nd (xv_div ((xv_var 1)).br (xv_int).br (by first | exact ⟨by omega, by omega⟩ | exact ⟨by decide, by decide⟩))) ?_)))
    by_cases h1 : n % 8 < 3 ∧ ds ≠ []
    · have e : spoiltM p kn ds n = (p, kn, ds.take (n / 8 % ds.length).toNat ++ [dSet (dAt ds (n / 8 % ds.length)) (n / 8 / 64 % 4).toNat (spV p kn (n % 8) (n / 8 / 64 % 4))] ++ ds.drop (n / 8 % ds.length + 1).toNat) := by unfold spoiltM; rw [if_pos h1]
      rw [e]
      obtain ⟨h1, hne⟩ := h1
      have hpos : 0 < ds.length := List.length_pos_iff.mpr hne
      have a0 := Int.emod_nonneg (n / 8) (show (ds.length : Int) ≠ 0 by omega)
      have a1 := Int.emod_lt_of_pos (n / 8) (show (0 : Int) < ds.length by omega)
      have s0 := Int.emod_nonneg (n / 8 / 64) (show (4 : Int) ≠ 0 by decide)
      have s1 := Int.emod_lt_of_pos (n / 8 / 64) (show (0 : Int) < 4 by decide)
      have hat : (n / 8) % ((ds.map eDeed).length : Int) = n / 8 % ds.length := by rw [List.length_map]
      refine xss_stop (xs_yes (XT.is ((xw_and (xt_lt ((xv_var 5)).br (xv_int).br) (fun hk => (xw_and1 (xt_truth ((xv_var 4)).br))))).t (by rw [decide_eq_true h1]; cases ds with | nil => exact absurd rfl hne | cons _ _ => rfl)) ?_)
      refine xss_cons (xs_set 7 nd (XV.is (xv_mod ((xv_var 6)).br ((xv_len T.len ((xv_var 4)).br)).br (by rw [List.length_map]; omega)) (congrArg D.int hat))) ?_
      generalize hA : n / 8 % (ds.length : Int) = at_ at *
      generalize hS : n / 8 / 64 % 4 = sp at *
      have hd : ixD (.lst (ds.map eDeed)) at_ = some (eDeed (dAt ds at_)) := ix_deed a0 a1
      have hsp : n / 8 / 64 % 4 = sp := hS
      have i1 : ixD (.lst [.int p, .int kn, .int p, .int 1001]) sp = some (.int ([p, kn, p, 1001].getD sp.toNat 0)) := ix4 s0 s1
      have i2 : ixD (.lst [.int (p - 1), .int (kn - 1), .int 0, .int 1000]) sp = some (.int ([p - 1, kn - 1, 0, 1000].getD sp.toNat 0)) := ix4 s0 s1
      have i3 : ixD (.lst [.int (-1), .int ([p, kn, p, 1001].getD sp.toNat 0), .int ([p - 1, kn - 1, 0, 1000].getD sp.toNat 0)]) (n % 8) = some (.int (spV p kn (n % 8) sp)) := ix3 w0 h1 rfl rfl
      refine xss_cons (xs_own 8 nd (xl_list T.list ((xv_ix ((xv_var 4)).br ((xv_var 7)).br (hd))).br)) ?_
      refine xss_cons (xs_set 9 nd (XV.is (xv_mod ((xv_div ((xv_var 6)).br (xv_int).br (by first | exact ⟨by omega, by omega⟩ | exact ⟨by decide, by decide⟩))).br (xv_int).br (by first | omega | decide | (simp only [List.length_cons]; omega))) (congrArg D.int hS))) ?_
      refine xss_cons (xs_setix 8 (xv_ix ((xl_lst (xa_cons (xv_neg (xv_int).br) (xa_cons (xv_ix ((xl_lst (xa_cons (xv_var 2) (xa_cons (xv_var 3) (xa_cons (xv_var 2) (xa_cons xv_int xa_nil)))))).br ((xv_var 9)).br (i1)) (xa_cons (xv_ix ((xl_lst (xa_cons (xv_sub ((xv_var 2)).br (xv_int).br) (xa_cons (xv_sub ((xv_var 3)).br (xv_int).br) (xa_cons xv_int (xa_cons xv_int xa_nil)))))).br ((xv_var 9)).br (i2)) xa_nil))))).br ((xv_var 5)).br (i3)) (xv_var 9) rfl (by exact ixN_ge s0 s1)) ?_
      have ed : ((dl (dAt ds at_)).map D.int).set sp.toNat (.int (spV p kn (n % 8) sp)) = (dl (dSet (dAt ds at_) sp.toNat (spV p kn (n % 8) sp))).map D.int := by
        rw [← List.map_set, dSet_dl _ _ _ (by omega)]
      have eL : cutD (ds.map eDeed) none (some at_) ++ [.tup (((dl (dAt ds at_)).map D.int).set sp.toNat (.int (spV p kn (n % 8) sp)))] ++ cutD (ds.map eDeed) (some (at_ + 1)) none = (ds.take at_.toNat ++ [dSet (dAt ds at_) sp.toNat (spV p kn (n % 8) sp)] ++ ds.drop (at_ + 1).toNat).map eDeed := by
        rw [cutD_to _ a0, cutD_from _ (by omega), ed, List.map_append, List.map_append, List.map_take, List.map_drop]
        rfl
      have z1 : (cutD (ds.map eDeed) none (some at_)).length + [D.tup (((dl (dAt ds at_)).map D.int).set sp.toNat (.int (spV p kn (n % 8) sp)))].length ≤ 100000 := by
        rw [cutD_to _ a0, List.length_take, List.length_map, List.length_singleton]; omega
      have z2 : (cutD (ds.map eDeed) none (some at_) ++ [D.tup (((dl (dAt ds at_)).map D.int).set sp.toNat (.int (spV p kn (n % 8) sp)))]).length + (cutD (ds.map eDeed) (some (at_ + 1)) none).length ≤ 100000 := by
        rw [List.length_append, cutD_to _ a0, cutD_from _ (by omega), List.length_take, List.length_drop, List.length_map, List.length_singleton]; omega
      exact xss_ret (xv_tup (xa_cons (xv_var 2) (xa_cons (xv_var 3) (xa_cons ((XL.is (xl_cat ((xl_cat ((xl_sl ((xv_var 4)).br xp_none (xp_some (xv_var 7)))).br ((xl_lst (xa_cons (xv_tuple T.tuple (xb_own 8)) xa_nil))).br (z1))).br ((xl_sl ((xv_var 4)).br (xp_some (xv_add ((xv_var 7)).br (xv_int).br)) xp_none)).br (z2)) (eL))).v xa_nil))))
    · have t1 : (decide (n % 8 < 3) && !(ds.map eDeed).isEmpty) = false := by
        by_cases z : n % 8 < 3
        · have : ds = [] := Decidable.byContradiction fun q => h1 ⟨z, q⟩
          rw [this]; simp
        · simp [z]
      refine xss_no0 (XT.is ((xw_and (xt_lt ((xv_var 5)).br (xv_int).br) (fun hk => (xw_and1 (xt_truth ((xv_var 4)).br))))).t (t1)) ?_
      by_cases h3 : n % 8 = 3
      · have e : spoiltM p kn ds n = (p, kn, ds.reverse) := by unfold spoiltM; rw [if_neg h1, if_pos h3]
        rw [e]
        exact xss_stop (xs_yes (XT.is (xt_eqI ((xv_var 5)).br (xv_int).br) (decide_eq_true h3)) (xss_ret (xv_tup (xa_cons (xv_var 2) (xa_cons (xv_var 3) (xa_cons ((XL.is (xl_rev ((xv_var 4)).br) ((List.map_reverse ..).symm))).v xa_nil))))))
      refine xss_no0 (XT.is (xt_eqI ((xv_var 5)).br (xv_int).br) (decide_eq_false h3)) ?_
      by_cases h4 : n % 8 = 4
      · have e : spoiltM p kn ds n = (p, kn, ds ++ ds.drop (ds.length - 1)) := by unfold spoiltM; rw [if_neg h1, if_neg h3, if_pos h4]
        have eL : ds.map eDeed ++ cutD (ds.map eDeed) (some (-1)) none = (ds ++ ds.drop (ds.length - 1)).map eDeed := by rw [cutD_last, List.length_map, List.map_append, List.map_drop]
        have z1 : (ds.map eDeed).length + (cutD (ds.map eDeed) (some (-1)) none).length ≤ 100000 := by rw [cutD_last, List.length_drop, List.length_map]; omega
        rw [e]
        exact xss_stop (xs_yes (XT.is (xt_eqI ((xv_var 5)).br (xv_int).br) (decide_eq_true h4)) (xss_ret (xv_tup (xa_cons (xv_var 2) (xa_cons (xv_var 3) (xa_cons ((XL.is (xl_cat ((xv_var 4)).br ((xl_sl ((xv_var 4)).br (xp_some (xv_neg (xv_int).br)) xp_none)).br (z1)) (eL))).v xa_nil))))))
      refine xss_no0 (XT.is (xt_eqI ((xv_var 5)).br (xv_int).br) (decide_eq_false h4)) ?_
      by_cases h5 : n % 8 = 5
      · have e : spoiltM p kn ds n = (([0, 200, 201, -1] : List Int).getD (n / 8 % 4).toNat 0, ([0, 8, 9, 1] : List Int).getD (n / 8 / 4 % 4).toNat 0, []) := by unfold spoiltM; rw [if_neg h1, if_neg h3, if_neg h4, if_pos h5]
        rw [e]
        have i1 : ixD (.lst [.int 0, .int 200, .int 201, .int (-1)]) (n / 8 % 4) = some (.int (([0, 200, 201, -1] : List Int).getD (n / 8 % 4).toNat 0)) := ix4 (by omega) (by omega)
        have i2 : ixD (.lst [.int 0, .int 8, .int 9, .int 1]) (n / 8 / 4 % 4) = some (.int (([0, 8, 9, 1] : List Int).getD (n / 8 / 4 % 4).toNat 0)) := ix4 (by omega) (by omega)
        exact xss_stop (xs_yes (XT.is (xt_eqI ((xv_var 5)).br (xv_int).br) (decide_eq_true h5)) (xss_ret (xv_tup (xa_cons (xv_ix ((xl_lst (xa_cons xv_int (xa_cons xv_int (xa_cons xv_int (xa_cons (xv_neg (xv_int).br) xa_nil)))))).br ((xv_mod ((xv_var 6)).br (xv_int).br (by first | omega | decide | (simp only [List.length_cons]; omega)))).br (i1)) (xa_cons (xv_ix ((xl_lst (xa_cons xv_int (xa_cons xv_int (xa_cons xv_int (xa_cons xv_int xa_nil)))))).br ((xv_mod ((xv_div ((xv_var 6)).br (xv_int).br (by first | exact ⟨by omega, by omega⟩ | exact ⟨by decide, by decide⟩))).br (xv_int).br (by first | omega | decide | (simp only [List.length_cons]; omega)))).br (i2)) (xa_cons ((xl_lst xa_nil)).v xa_nil))))))
      refine xss_no0 (XT.is (xt_eqI ((xv_var 5)).br (xv_int).br) (decide_eq_false h5)) ?_
      by_cases h6 : n % 8 = 6
      · have e : spoiltM p kn ds n = (200, 8, bigD (600 + n / 8 % 2).toNat) := by unfold spoiltM; rw [if_neg h1, if_neg h3, if_neg h4, if_neg h5, if_pos h6]
        rw [e]
        have eL : (List.range (600 + n / 8 % 2).toNat).map (fun (k : Nat) => D.tup [.int ((k : Int) / 8), .int ((k : Int) % 8), .int 0, .int 0]) = (bigD (600 + n / 8 % 2).toNat).map eDeed := by unfold bigD; rw [List.map_map]; rfl
        refine xss_stop (xs_yes (XT.is (xt_eqI ((xv_var 5)).br (xv_int).br) (decide_eq_true h6)) (xss_cons (xs_set 10 nd (xv_add (xv_int).br ((xv_mod ((xv_var 6)).br (xv_int).br (by first | omega | decide | (simp only [List.length_cons]; omega)))).br)) ?_))
        have m0 : 0 ≤ 600 + n / 8 % 2 ∧ 600 + n / 8 % 2 ≤ 601 := by omega
        generalize 600 + n / 8 % 2 = many at *
        exact xss_ret (xv_tup (xa_cons xv_int (xa_cons xv_int (xa_cons ((xl_lc [("_law_k", 11)] rfl nd (xi_range T.range (xv_var 10) (by omega) (by omega)) (blkOk_by (own := [("_law_k", 11)]) (N := N_law_spoilt) (sc := defScope s_law_spoilt) (by decide +kernel)) ((lc_map (f := fun (n : Nat) => D.int n) (g := fun (k : Nat) => D.tup [.int ((k : Int) / 8), .int ((k : Int) % 8), .int 0, .int 0]) (List.range _) fun x hx => ⟨_, (fun _ _ _ _ _ => (xgw_name 11 nd)), (fun _ _ _ _ _ => (xv_tup (xa_cons (xv_div ((xv_var 11)).br (xv_int).br (by first | exact ⟨by omega, by omega⟩ | exact ⟨by decide, by decide⟩)) (xa_cons (xv_mod ((xv_var 11)).br (xv_int).br (by first | omega | decide | (simp only [List.length_cons]; omega))) (xa_cons xv_int (xa_cons xv_int xa_nil))))))⟩).is eL) (by rw [rngD_F, rngF_len]; omega))).v xa_nil))))
      · have e : spoiltM p kn ds n = (p, kn, ds) := by unfold spoiltM; rw [if_neg h1, if_neg h3, if_neg h4, if_neg h5, if_neg h6]
        rw [e]
        exact xss_no0 (XT.is (xt_eqI ((xv_var 5)).br (xv_int).br) (decide_eq_false h6)) (xss_ret (xv_var 0))

abbrev s_law_told : Stmt := top 25
abbrev N_law_told : List Str := ["_law_way", "_law_machine_here", "_law_row_here", "_law_kept", "_law_found", "e"]
abbrev P_law_told : List Str := ["_law_way", "_law_machine_here", "_law_row_here"]
theorem sc_law_told : FnScope N_law_told P_law_told (defScope s_law_told) := ⟨rfl, rfl, rfl, by decide +kernel, rfl, by decide +kernel, by decide +kernel⟩

noncomputable def callR01 (cls : Fin 5 → Addr) (wy p kn : Int) (ds : List Deed) (row : List Int) : Res := if wy = 0 then (if goodM p kn ds then .ok .non else .er (cls 0)) else if wy = 1 then goneR (cls 0) (cls 1) p kn ds row else if wy = 2 then costR (cls 0) (cls 1) p kn ds row else (if goodM p kn ds then .ok (.lst ((rB p ds).map .bl)) else .er (cls 0))
def F_law_told01 (cls : Fin 5 → Addr) : Fs := fun args r => ∃ (wy p kn : Int) (ds : List Deed) (row : List Int), args = [.int wy, eMach p kn ds, .lst (row.map .int)] ∧ row.length ≤ 1000 ∧
  ((∃ d, callR01 cls wy p kn ds row = .ok d ∧ r = .ok d) ∨ ∃ i, callR01 cls wy p kn ds row = .er (cls i) ∧ r = .ok (.str (nmR i)))
theorem df_law_told01 {P : Program} {w : World} {K : Fg} {mg : Str → Option Value} {base : Heap} {cE : Addr} {cls : Fin 5 → Addr} (T : Tx K mg) (E5 : E5 K mg cE cls) (U : Dn K mg "_law_told" s_law_told P_law_told) (D_look_machine : Df P w K mg base "look_machine" 1 (F_look_machine (cls 0))) (D_gone : Df P w K mg base "gone" 2 (F_gone (cls 0) (cls 1)))
    (D_cost_of : Df P w K mg base "cost_of" 3 (F_cost_of (cls 0) (cls 1))) (D_reached : Df P w K mg base "reached" 2 (F_reached (cls 0))) (D__law_refusal : Df P w K mg base "_law_refusal" 1 (F_law_refusal cls)) : Df P w K mg base "_law_told" 4 (F_law_told01 cls) :=
  df_of 3 U sc_law_told (fun _ _ ⟨_, _, _, _, _, h, _⟩ => by rw [h]; rfl) fun f cdv A outer s H E args r hr tk hp hF => by
    obtain ⟨wy, p, kn, ds, row, rfl, hrow, hres⟩ := hF
    have nd := sc_law_told.nd
    unfold callR01 at hres
    have c0 : wy = 0 → ∀ R, R = callR01 cls wy p kn ds row → F_look_machine (cls 0) [eMach p kn ds] R := fun h R hR => ⟨p, kn, ds, rfl, by rw [hR]; unfold callR01; rw [if_pos h]⟩
    have c1 : ¬ wy = 0 → wy = 1 → ∀ R, R = callR01 cls wy p kn ds row → F_gone (cls 0) (cls 1) [eMach p kn ds, .lst (row.map .int)] R := fun h0 h R hR => ⟨p, kn, ds, row, rfl, hrow, by rw [hR]; unfold callR01; rw [if_neg h0, if_pos h]⟩
    have c2 : ¬ wy = 0 → ¬ wy = 1 → wy = 2 → ∀ R, R = callR01 cls wy p kn ds row → F_cost_of (cls 0) (cls 1) [eMach p kn ds, .lst (row.map .int)] R := fun h0 h1 h R hR => ⟨p, kn, ds, row, rfl, hrow, by rw [hR]; unfold callR01; rw [if_neg h0, if_neg h1, if_pos h]⟩
    have c3 : ¬ wy = 0 → ¬ wy = 1 → ¬ wy = 2 → ∀ R, R = callR01 cls wy p kn ds row → F_reached (cls 0) [eMach p kn ds] R := fun h0 h1 h R hR => ⟨p, kn, ds, rfl, by rw [hR]; unfold callR01; rw [if_neg h0, if_neg h1, if_neg h]; rfl⟩
    rcases hres with ⟨d, hd, rfl⟩ | ⟨i, hd, rfl⟩
    · have hd' : Res.ok d = callR01 cls wy p kn ds row := hd.symm
      refine XF.rt (xss_cons (xs_set 3 nd xv_non) (xss_cons (xs_set 4 nd xv_non) (xss_cons (xs_try0 (ds1 := [.fz (.int wy), .fz (eMach p kn ds), .fz (.lst (row.map .int)), .fz .non, .fz d, .no]) (i := 5) (k := 3) rfl rfl rfl nd rfl rfl rfl rfl (E5.ep.names rfl) (fun V pn xe tk hp => ?_)) ?_)))
      · by_cases h0 : wy = 0
        · exact xss_one (xs_yes (XT.is (xt_eqI ((xv_var 0)).br (xv_int).br) (decide_eq_true h0)) (xss_one (xs_set 4 nd (xv_call D_look_machine (hr.mono (by decide)) tk (xa_cons (xv_var 1) xa_nil) (c0 h0 _ hd')))))
        · refine xss_one (xs_no (XT.is (xt_eqI ((xv_var 0)).br (xv_int).br) (decide_eq_false h0)) (xss_one ?_))
          by_cases h1 : wy = 1
          · exact xs_yes (XT.is (xt_eqI ((xv_var 0)).br (xv_int).br) (decide_eq_true h1)) (xss_one (xs_set 4 nd (xv_call D_gone (hr.mono (by decide)) tk (xa_cons (xv_var 1) (xa_cons (xv_var 2) xa_nil)) (c1 h0 h1 _ hd'))))
          · refine xs_no (XT.is (xt_eqI ((xv_var 0)).br (xv_int).br) (decide_eq_false h1)) (xss_one (xs_set 4 nd (xv_if (xt_eqI ((xv_var 0)).br (xv_int).br) (fun hk => ?_) (fun hk => ?_))))
            · exact (xv_call D_cost_of (hr.mono (by decide)) tk (xa_cons (xv_var 1) (xa_cons (xv_var 2) xa_nil)) (c2 h0 h1 (of_decide_eq_true hk) _ hd'))
            · exact (xv_call D_reached (hr.mono (by decide)) tk (xa_cons (xv_var 1) xa_nil) (c3 h0 h1 (of_decide_eq_false hk) _ hd'))
      · exact xss_ret (xv_if (XT.is (xt_isN ((xv_var 3)).br) (rfl)) (fun _ => (xv_var 4)) (fun h => by cases h))
    · have hd' : Res.er (cls i) = callR01 cls wy p kn ds row := hd.symm
      refine XF.rt (xss_cons (xs_set 3 nd xv_non) (xss_cons (xs_set 4 nd xv_non) (xss_cons (xs_try (C := cls i) (i := 5) (k := 3) rfl rfl rfl nd rfl rfl rfl rfl (E5.ep.names rfl) (E5.ep.exm (E5.par i)) (fun V pn xe tk hp => ?_)) ?_)))
      · by_cases h0 : wy = 0
        · exact xss_stop (xs_yes (XT.is (xt_eqI ((xv_var 0)).br (xv_int).br) (decide_eq_true h0)) (xss_stop (xs_setR (i := 4) nd (xr_call D_look_machine (hr.mono (by decide)) tk (xa_cons (xv_var 1) xa_nil) (c0 h0 _ hd')))))
        · refine xss_stop (xs_no (XT.is (xt_eqI ((xv_var 0)).br (xv_int).br) (decide_eq_false h0)) (xss_stop ?_))
          by_cases h1 : wy = 1
          · exact xs_yes (XT.is (xt_eqI ((xv_var 0)).br (xv_int).br) (decide_eq_true h1)) (xss_stop (xs_setR (i := 4) nd (xr_call D_gone (hr.mono (by decide)) tk (xa_cons (xv_var 1) (xa_cons (xv_var 2) xa_nil)) (c1 h0 h1 _ hd'))))
          · refine xs_no (XT.is (xt_eqI ((xv_var 0)).br (xv_int).br) (decide_eq_false h1)) (xss_stop (xs_setR (i := 4) nd (xr_if (xt_eqI ((xv_var 0)).br (xv_int).br) (fun hk => ?_) (fun hk => ?_))))
            · exact xr_call D_cost_of (hr.mono (by decide)) tk (xa_cons (xv_var 1) (xa_cons (xv_var 2) xa_nil)) (c2 h0 h1 (of_decide_eq_true hk) _ hd')
            · exact xr_call D_reached (hr.mono (by decide)) tk (xa_cons (xv_var 1) xa_nil) (c3 h0 h1 (of_decide_eq_false hk) _ hd')
      · exact xss_ret (xv_if (XT.is (xt_isN ((xv_var 3)).br) (rfl)) (fun h => by cases h) (fun _ => (xv_call D__law_refusal (hr.mono (by decide)) tk (xa_cons (xv_var 3) xa_nil) (⟨i, rfl, rfl⟩))))

/-! what the law finds due of a row -/
def dueGo (ds : List Deed) : List Int → Int → List Int → Option (List Int) × Int
  | l, c, [] => (some l, c)
  | l, c, n :: r => if 0 ≤ n ∧ n < ds.length ∧ (dAt ds n).1 = l.getLastD 0 then dueGo ds (l ++ [(dAt ds n).2.2.1]) (c + (dAt ds n).2.2.2) r else (none, c)
theorem dueGo_some {ds : List Deed} : ∀ (row l : List Int) (c : Int) (l2 : List Int), goneL ds (l.getLastD 0) row = some l2 → dueGo ds l c row = (some (l ++ l2), c + costL ds row)
  | [], l, c, l2, h => by
    cases h
    simp [dueGo, costL]
  | n :: r, l, c, l2, h => by
    obtain ⟨q, l3, h3, rfl⟩ := goneL_cons h
    unfold dueGo
    rw [if_pos q, dueGo_some r (l ++ [(dAt ds n).2.2.1]) _ l3 (by rw [List.getLastD_concat]; exact h3), costL_cons, List.append_assoc, Int.add_assoc]
    rfl
theorem dueGo_none {ds : List Deed} : ∀ (row l : List Int) (c : Int), goneL ds (l.getLastD 0) row = none → (dueGo ds l c row).1 = none
  | [], l, c, h => by cases h
  | n :: r, l, c, h => by
    unfold dueGo
    split
    · rename_i q
      rw [goneL_some (step_at q.1 q.2.1 q.2.2)] at h
      refine dueGo_none r _ _ ?_
      rw [List.getLastD_concat]
      cases e : goneL ds (dAt ds n).2.2.1 r with
      | none => rfl
      | some x => rw [e] at h; cases h
    · rfl
def eDue : Option (List Int) → Lay.It
  | some l => .ow (l.map .int)
  | none => .fz (.str "row")
theorem ix_lastI {l : List Int} (h : l ≠ []) : ixD (.lst (l.map .int)) (-1) = some (.int (l.getLastD 0)) := by
  refine ix_lastM (f := D.int) (x := l.getLastD 0) ?_
  rw [List.getLast?_eq_some_getLast h]
  cases l with
  | nil => exact absurd rfl h
  | cons a l => rw [List.getLastD_eq_getLast?, List.getLast?_eq_some_getLast h]; rfl
theorem dueGo_yes {ds : List Deed} {l r : List Int} {c n : Int} (q : 0 ≤ n ∧ n < ds.length ∧ (dAt ds n).1 = l.getLastD 0) : dueGo ds l c (n :: r) = dueGo ds (l ++ [(dAt ds n).2.2.1]) (c + (dAt ds n).2.2.2) r := by
  conv => lhs; unfold dueGo
  rw [if_pos q]
theorem dueGo_no {ds : List Deed} {l r : List Int} {c n : Int} (q : ¬ (0 ≤ n ∧ n < ds.length ∧ (dAt ds n).1 = l.getLastD 0)) : dueGo ds l c (n :: r) = (none, c) := by
  conv => lhs; unfold dueGo
  rw [if_neg q]

abbrev s_law : Stmt := top 26
abbrev N_law : List Str := ["_law_script", "_law_machine_here", "_law_bad", "_law_handed", "_law_way", "_law_row_here", "_law_number", "_law_at", "_law_due", "_law_cost", "_law_one", "_law_some", "_law_found", "_law_place"]
abbrev P_law : List Str := ["_law_script"]
theorem sc_law : FnScope N_law P_law (defScope s_law) := ⟨rfl, rfl, rfl, by decide +kernel, rfl, by decide +kernel, by decide +kernel⟩

abbrev stK (ns : List Int) (m bad : D) (row number at_ due cost one some_ found place : Lay.It) : List Lay.It := [.fz (.scr ns), .fz m, .fz bad, .fz bad, .no, row, number, at_, due, cost, one, some_, found, place]
theorem okS_row : okE (.str "row") = true := by decide +kernel
theorem ok4M : okE (.lst [.str "machine", .str "machine", .str "machine", .str "machine"]) = true := by decide +kernel
theorem eq4 (s : Str) (h : okE (.lst [.str s, .str s, .str s, .str s]) = true) : eqD (.lst ((List.range (4 : Int).toNat).map fun (_ : Nat) => D.str s)) (.lst (List.replicate (4 : Int).toNat [D.str s]).flatten) = true := eqD_refl (A := .lst [.str s, .str s, .str s, .str s]) h
theorem allTrue : ∀ {α : Type} (l : List α), ((l.map fun _ => true).all id) = true
  | _, [] => rfl
  | α, _ :: l => allTrue l
theorem okN_bools (bs : List Bool) : okN 1 (.lst (bs.map .bl)) := okN_lst (n := 0) fun x hx => by
  obtain ⟨i, _, rfl⟩ := List.mem_map.mp hx
  exact okN_bl
theorem ok_law {P : Program} {w : World} {K : Fg} {mg : Str → Option Value} {base : Heap} {f : Addr} {fd : FuncData} {cls : Fin 5 → Addr} (T : Tx K mg) (U : Fun K "law" "law" s_law f fd)
    (D__law_mix : Df P w K mg base "_law_mix" 2 F_law_mix) (D__law_machine : Df P w K mg base "_law_machine" 3 F_law_machine) (D__law_row : Df P w K mg base "_law_row" 3 F_law_row) (D__law_reached : Df P w K mg base "_law_reached" 1 F_law_reached)
    (D__law_good : Df P w K mg base "_law_good" 1 F_law_good) (D__law_spoilt : Df P w K mg base "_law_spoilt" 1 F_law_spoilt) (D__law_told : Df P w K mg base "_law_told" 4 (F_law_told01 cls)) (D_reached : Df P w K mg base "reached" 2 (F_reached (cls 0))) : FnOk P w K mg base (L2.CX P w) 9 f fd P_law (spF K F_law) :=
  fnl_of 8 U sc_law (fun _ _ ⟨_, h, _⟩ => by rw [h]; rfl) fun cdv A outer s H E args r hr tk hp hF => by
    obtain ⟨ns, rfl, hlen, rfl⟩ := hF
    have nd := sc_law.nd
    have hu := hr.units
    have p1 := mPl_bd (s := ns) (k := 0) (most := 7) (by decide)
    have k1 := mKn_bd ns 0
    have l1 := mDs_len (s := ns) (k := 0) (most := 7) (by decide)
    have hg := mDs_good (s := ns) (k := 0) (most := 7) (by decide) (by decide)
    obtain ⟨w8, r8, z8⟩ := mRow_good ns 40 (mDs ns 0 7) 8 (by decide)
    refine XF.rt ?_
    refine xss_cons (xs_set 1 nd (xv_call D__law_machine (hr.mono (by decide)) tk (xa_cons (xv_var 0) (xa_cons xv_int (xa_cons xv_int xa_nil))) (⟨_, _, _, rfl, by decide, by decide, rfl⟩))) ?_
    have hrow8 : F_law_row [.scr ns, .int 40, eMach (mPl ns 0 7) (mKn ns 0) (mDs ns 0 7), .int 8] (.ok (.lst ((mRow ns 40 (mDs ns 0 7) 8).map .int))) := ⟨_, _, _, _, _, _, rfl, by decide, by decide, by omega, rfl⟩
    generalize mRow ns 40 (mDs ns 0 7) 8 = row8 at *
    generalize mDs ns 0 7 = ds at *
    generalize mPl ns 0 7 = p at *
    generalize mKn ns 0 = kn at *
    have n30 := mix_nonneg ns 30
    have n30' := mix_lt ns 30
    have hSp : F_law_spoilt [eMach p kn ds, .int (mix ns 30)] (.ok (eMach (spoiltM p kn ds (mix ns 30)).1 (spoiltM p kn ds (mix ns 30)).2.1 (spoiltM p kn ds (mix ns 30)).2.2)) := ⟨p, kn, ds, mix ns 30, rfl, by omega, n30, by omega, rfl⟩
    refine xss_cons (xs_set 2 nd (xv_call D__law_spoilt (hr.mono (by decide)) tk (xa_cons (xv_var 1) (xa_cons (xv_call D__law_mix (hr.mono (by decide)) tk (xa_cons (xv_var 0) (xa_cons xv_int xa_nil)) (by exact ⟨_, _, rfl, rfl⟩)) xa_nil)) (hSp))) ?_
    obtain ⟨b1, b2⟩ := spoilt_len (p := p) (kn := kn) (ds := ds) (n := mix ns 30) (by omega)
    clear hSp n30 n30'
    generalize (spoiltM p kn ds (mix ns 30)).2.2 = dsB at *
    generalize (spoiltM p kn ds (mix ns 30)).2.1 = knB at *
    generalize (spoiltM p kn ds (mix ns 30)).1 = pB at *
    refine xss_cons (xs_set 3 nd (xv_tup (xa_cons (xv_ix ((xv_var 2)).br (xv_int).br (by rfl)) (xa_cons (xv_ix ((xv_var 2)).br (xv_int).br (by rfl)) (xa_cons ((xl_list T.list ((xv_ix ((xv_var 2)).br (xv_int).br (by rfl))).br)).v xa_nil))))) ?_
    have hGd : F_law_good [eMach pB knB dsB] (.ok (.bl (goodM pB knB dsB))) := ⟨pB, knB, dsB, rfl, b2, rfl⟩
    refine xss_cons (ds1 := stK ns (eMach p kn ds) (eMach pB knB dsB) .no .no .no .no .no .no .no .no .no) ?_ ?_
    · cases hb : goodM pB knB dsB with
      | false =>
        have hTm : ∀ x : Nat, x ∈ List.range (4 : Int).toNat → F_law_told01 cls [.int (x : Int), eMach pB knB dsB, .lst [.int (-1)]] (.ok (.str "machine")) := fun x hx => by
          refine ⟨x, pB, knB, dsB, [-1], rfl, by decide, .inr ⟨0, ?_, rfl⟩⟩
          unfold callR01 goneR costR
          rw [hb]
          simp
        rw [hb] at hGd
        exact xs_yes (XT.is (xt_not (xt_val (xv_call D__law_good (hr.mono (by decide)) tk (xa_cons (xv_var 2) xa_nil) (hGd)))) (rfl)) (xss_one (xs_no (XT.is (xt_ne hu ((xl_lc [("_law_way", 4)] rfl nd (xi_range T.range xv_int (by decide) (by decide)) (blkOk_by (own := [("_law_way", 4)]) (N := N_law) (sc := defScope s_law) (by decide +kernel)) (lc_map (f := fun (n : Nat) => D.int n) (g := fun (_ : Nat) => D.str "machine") (List.range _) fun x hx => ⟨_, (fun _ _ _ _ _ => (xgw_name 4 nd)), (fun _ _ _ _ _ => (xv_call D__law_told (hr.mono (by decide)) takes0 (xa_cons (xv_var 4) (xa_cons (xv_var 3) (xa_cons (XL.v (xl_lst (xa_cons (xv_neg (xv_int).br) xa_nil))) xa_nil))) (hTm x hx)))⟩) (by decide))).br ((xl_rep ((xl_lst (xa_cons xv_str xa_nil))).br (xv_int).br (by decide) (by decide) (by simp))).br (ok4M) (ok4M)) (by rw [eq4 _ ok4M]; rfl)) xss_nil))
      | true =>
        have hT0 : F_law_told01 cls [.int 0, eMach pB knB dsB, .lst []] (.ok .non) := ⟨0, pB, knB, dsB, [], rfl, by decide, .inl ⟨_, by unfold callR01; rw [if_pos rfl, hb, if_pos rfl], rfl⟩⟩
        have okB := (okN_deeds dsB).e
        rw [hb] at hGd
        exact xs_no (XT.is (xt_not (xt_val (xv_call D__law_good (hr.mono (by decide)) tk (xa_cons (xv_var 2) xa_nil) (hGd)))) (rfl)) (xss_one (xs_no (XT.is ((xw_or (xt_notN ((xv_call D__law_told (hr.mono (by decide)) tk (xa_cons xv_int (xa_cons (xv_var 3) (xa_cons ((xl_lst xa_nil)).v xa_nil))) (hT0))).br) (fun hk => (xw_and1 (xt_ne hu ((xv_ix ((xv_var 3)).br (xv_int).br (by rfl))).br ((xv_ix ((xv_var 2)).br (xv_int).br (by rfl))).br (okB) (okB)))))).t (by rw [eqD_refl okB]; rfl)) xss_nil))
    clear hGd b1 b2
    generalize eMach pB knB dsB = bad at *
    refine xss_cons (xs_set 5 nd (xv_call D__law_row (hr.mono (by decide)) tk (xa_cons (xv_var 0) (xa_cons xv_int (xa_cons (xv_var 1) (xa_cons xv_int xa_nil)))) (hrow8))) ?_
    refine xss_cons (xs_set 6 nd (xv_call D__law_mix (hr.mono (by decide)) tk (xa_cons (xv_var 0) (xa_cons xv_int xa_nil)) (by exact ⟨_, _, rfl, rfl⟩))) ?_
    have hnb := mix_nonneg ns 50
    generalize mix ns 50 = nb at *
    refine xss_cons (xs_set 7 nd (xv_mod ((xv_div ((xv_var 6)).br (xv_int).br (by first | exact ⟨by omega, by omega⟩ | exact ⟨by decide, by decide⟩))).br ((xv_add ((xv_len T.len ((xv_var 5)).br)).br (xv_int).br)).br (by omega))) ?_
    have a0 : 0 ≤ nb / 8 % (((row8.map D.int).length : Nat) + 1 : Int) := Int.emod_nonneg _ (by omega)
    generalize nb / 8 % (((row8.map D.int).length : Nat) + 1 : Int) = at_ at *
    suffices rest : ∀ row : List Int, row.length ≤ 900 → XSs _ _ _ (stK ns (eMach p kn ds) bad (.fz (.lst (row.map .int))) (.fz (.int nb)) (.fz (.int at_)) .no .no .no .no .no .no) (.rt (.bl true)) by
      by_cases h : nb % 3 = 0
      · have hx : ∃ v : Int, ixD (.lst [.int (-1), .int ((ds.map eDeed).length : Nat), .int 0, .int 1]) (nb / 64 % 4) = some (.int v) := ⟨_, ix4 (by omega) (by omega)⟩
        obtain ⟨v, hv⟩ := hx
        have z1 : (cutD (row8.map D.int) none (some at_)).length + [D.int v].length ≤ 100000 := by
          rw [cutD_to _ a0, List.length_take, List.length_map, List.length_singleton]; omega
        have z2 : (cutD (row8.map D.int) none (some at_) ++ [D.int v]).length + (cutD (row8.map D.int) (some at_) none).length ≤ 100000 := by
          rw [List.length_append, cutD_to _ a0, cutD_from _ a0, List.length_take, List.length_drop, List.length_map, List.length_singleton]; omega
        have eL : cutD (row8.map D.int) none (some at_) ++ [D.int v] ++ cutD (row8.map D.int) (some at_) none = (row8.take at_.toNat ++ [v] ++ row8.drop at_.toNat).map .int := by
          rw [cutD_to _ a0, cutD_from _ a0, List.map_append, List.map_append, List.map_take, List.map_drop]
          rfl
        have q := rest (row8.take at_.toNat ++ [v] ++ row8.drop at_.toNat) (by rw [List.length_append, List.length_append, List.length_take, List.length_drop, List.length_singleton]; omega)
        refine xss_yes (XT.is (xt_eqI ((xv_mod ((xv_var 6)).br (xv_int).br (by first | omega | decide | (simp only [List.length_cons]; omega)))).br (xv_int).br) (decide_eq_true h)) (xss_one (xs_own 5 nd (XL.is (xl_cat ((xl_cat ((xl_sl ((xv_var 5)).br xp_none (xp_some (xv_var 7)))).br ((xl_lst (xa_cons (xv_ix ((xl_lst (xa_cons (xv_neg (xv_int).br) (xa_cons (xv_len T.len ((xv_ix ((xv_var 1)).br (xv_int).br (by rfl))).br) (xa_cons xv_int (xa_cons xv_int xa_nil)))))).br ((xv_mod ((xv_div ((xv_var 6)).br (xv_int).br (by first | exact ⟨by omega, by omega⟩ | exact ⟨by decide, by decide⟩))).br (xv_int).br (by first | omega | decide | (simp only [List.length_cons]; omega)))).br (hv)) xa_nil))).br (z1))).br ((xl_sl ((xv_var 5)).br (xp_some (xv_var 7)) xp_none)).br (z2)) (eL)))) (XSs.freeze 5 q)
      · exact xss_no0 (XT.is (xt_eqI ((xv_mod ((xv_var 6)).br (xv_int).br (by first | omega | decide | (simp only [List.length_cons]; omega)))).br (xv_int).br) (decide_eq_false h)) (rest row8 (by omega))
    clear hrow8 r8 z8 w8 row8
    intro row hrow
    refine xss_cons (xs_own 8 nd (xl_lst (xa_cons xv_int xa_nil))) (xss_cons (xs_set 9 nd xv_int) ?_)
    refine xss_cons (ds1 := stK ns (eMach p kn ds) bad (.fz (.lst (row.map .int))) (.fz (.int nb)) (.fz (.int at_)) (eDue (dueGo ds [0] 0 row).1) (.fz (.int (dueGo ds [0] 0 row).2)) .no .no .no .no) (xs_for hp rfl (xi_list (xv_var 5)) ?_) ?_
    · suffices loop : ∀ (r l : List Int) (c : Int), l ≠ [] → l.length + r.length ≤ 1000 → Fr _ _ _ _ (r.map .int) (stK ns (eMach p kn ds) bad (.fz (.lst (row.map .int))) (.fz (.int nb)) (.fz (.int at_)) (.ow (l.map .int)) (.fz (.int c)) .no .no .no .no)
          (.nx (stK ns (eMach p kn ds) bad (.fz (.lst (row.map .int))) (.fz (.int nb)) (.fz (.int at_)) (eDue (dueGo ds l c r).1) (.fz (.int (dueGo ds l c r).2)) .no .no .no .no)) by
        exact loop row [0] 0 (by simp) (by simp; omega)
      suffices loopR : ∀ (r : List Int) (c : Int), Fr _ _ _ _ (r.map .int) (stK ns (eMach p kn ds) bad (.fz (.lst (row.map .int))) (.fz (.int nb)) (.fz (.int at_)) (.fz (.str "row")) (.fz (.int c)) .no .no .no .no)
          (.nx (stK ns (eMach p kn ds) bad (.fz (.lst (row.map .int))) (.fz (.int nb)) (.fz (.int at_)) (.fz (.str "row")) (.fz (.int c)) .no .no .no .no)) by
        intro r
        induction r with
        | nil => intro l c _ _; exact .nil
        | cons n r ih =>
          intro l c hl hz
          have hlast := ix_lastI hl
          have okl := (okN_ints l).e
          have hno : eqD (.lst (l.map .int)) (.str "row") = false := rfl
          rw [List.length_cons] at hz
          by_cases q : 0 ≤ n ∧ n < ds.length ∧ (dAt ds n).1 = l.getLastD 0
          · have e := dueGo_yes (c := c) (r := r) q
            rw [e]
            have hix := ix_deed q.1 q.2.1
            have j := ih (l ++ [(dAt ds n).2.2.1]) (c + (dAt ds n).2.2.2) (by simp) (by rw [List.length_append, List.length_singleton]; omega)
            rw [List.map_append] at j
            refine .step (xg_name 10 nd) (xss_one (xs_no (XT.is ((xw_or (xt_eq hu (xb_own 8) (xv_str).br (okl) (okS_row)) (fun hk => (xw_or (xt_not (xt_chain (xv_int).br ((xv_var 10)).br ((xv_len T.len ((xv_ix ((xv_var 1)).br (xv_int).br (by rfl))).br)).br)) (fun hk => (xw_and1 (xt_neI ((xv_ix ((xv_ix ((xv_ix ((xv_var 1)).br (xv_int).br (by rfl))).br ((xv_var 10)).br (hix))).br (xv_int).br (by rfl))).br ((xv_ix (xb_own 8) ((xv_neg (xv_int).br)).br (hlast))).br))))))).t (by rw [hno, List.length_map]; simp [cmpI, q]))
              (xss_cons (xs_append 8 (xv_ix ((xv_ix ((xv_ix ((xv_var 1)).br (xv_int).br (by rfl))).br ((xv_var 10)).br (hix))).br (xv_int).br (by rfl)) (by rfl) (by rw [List.length_map]; omega)) (xss_one (xs_set 9 nd (xv_add ((xv_var 9)).br ((xv_ix ((xv_ix ((xv_ix ((xv_var 1)).br (xv_int).br (by rfl))).br ((xv_var 10)).br (hix))).br (xv_int).br (by rfl))).br)))))) rfl (Le.fg [10] rfl) j
          · have e := dueGo_no (c := c) (r := r) q
            rw [e]
            refine .step (o' := .nx (stK ns (eMach p kn ds) bad (.fz (.lst (row.map .int))) (.fz (.int nb)) (.fz (.int at_)) (.fz (.str "row")) (.fz (.int c)) (.fz (.int n)) .no .no .no)) (xg_name 10 nd) ?_ rfl (Le.fg [10] rfl) (loopR r c)
            refine xss_one (xs_yes (XT.is ((xw_or (xt_eq hu (xb_own 8) (xv_str).br (okl) (okS_row)) (fun hk => (xw_or (xt_not (xt_chain (xv_int).br ((xv_var 10)).br ((xv_len T.len ((xv_ix ((xv_var 1)).br (xv_int).br (by rfl))).br)).br)) (fun hk => (xw_and1 (xt_neI ((xv_ix ((xv_ix ((xv_ix ((xv_var 1)).br (xv_int).br (by rfl))).br ((xv_var 10)).br (ix_deedC hk))).br (xv_int).br (by rfl))).br ((xv_ix (xb_own 8) ((xv_neg (xv_int).br)).br (hlast))).br))))))).t ?_) (xss_one (xs_set 8 nd xv_str)))
            rw [hno, List.length_map]
            simp only [cmpI, Bool.false_or, Bool.or_eq_true, Bool.not_eq_true', Bool.and_eq_false_iff, decide_eq_false_iff_not]
            omega
      intro r
      induction r with
      | nil => intro c; exact .nil
      | cons n r ih =>
        intro c
        refine .step (xg_name 10 nd) (xss_one (xs_yes ((xw_or (l := true) (xt_eq hu ((xv_var 8)).br (xv_str).br (okS_row) (okS_row)) (fun hk => absurd hk (by rw [eqD_refl okS_row]; simp))).t.is (by rw [eqD_refl okS_row]; rfl)) (xss_one (xs_set 8 nd xv_str)))) rfl (Le.fg [10] rfl) (ih c)
    suffices last : ∀ due, XSs _ _ _ (stK ns (eMach p kn ds) bad (.fz (.lst (row.map .int))) (.fz (.int nb)) (.fz (.int at_)) due (.fz (.int (dueGo ds [0] 0 row).2)) .no .no .no .no) (.rt (.bl true)) by
      cases hgn : goneL ds 0 row with
      | some l2 =>
        have e := dueGo_some row [0] 0 l2 hgn
        have h1 : F_law_told01 cls [.int 1, eMach p kn ds, .lst (row.map .int)] (.ok (.lst ((0 :: l2).map .int))) := ⟨1, p, kn, ds, row, rfl, by omega, .inl ⟨_, by unfold callR01 goneR; rw [if_neg (by decide), if_pos rfl, hg, if_pos rfl, hgn], rfl⟩⟩
        have h2 : F_law_told01 cls [.int 2, eMach p kn ds, .lst (row.map .int)] (.ok (.int (costL ds row))) := ⟨2, p, kn, ds, row, rfl, by omega, .inl ⟨_, by unfold callR01 costR; rw [if_neg (by decide), if_neg (by decide), if_pos rfl, hg, if_pos rfl, hgn], rfl⟩⟩
        have okl := (okN_ints (0 :: l2)).e
        have hno : eqD (.lst ((0 :: l2).map .int)) (.str "row") = false := rfl
        have la := last (.ow ((0 :: l2).map .int))
        rw [e] at la ⊢
        rw [Int.zero_add] at la ⊢
        refine xss_no0 (XT.is (xw_or (xt_ne hu ((xv_call D__law_told (hr.mono (by decide)) tk (xa_cons xv_int (xa_cons (xv_var 1) (xa_cons ((xl_list T.list ((xv_var 5)).br)).v xa_nil))) (h1))).br (xb_own 8) (okl) (okl)) (fun hk => xw_and1 (XT.is (xt_ne hu (xv_call D__law_told (hr.mono (by decide)) tk (xa_cons xv_int (xa_cons (xv_var 1) (xa_cons (xv_var 5) xa_nil))) (h2)).br (xv_if (XT.is (xt_eq hu (xb_own 8) (xv_str).br (okl) (okS_row)) (hno)) (fun h => by cases h) (fun _ => (xv_var 9))).br rfl rfl) (show _ = false by rw [eqD_refl rfl]; rfl)))).t (by rw [eqD_refl okl]; rfl)) la
      | none =>
        have e := dueGo_none row [0] 0 hgn
        have h1 : F_law_told01 cls [.int 1, eMach p kn ds, .lst (row.map .int)] (.ok (.str "row")) := ⟨1, p, kn, ds, row, rfl, by omega, .inr ⟨1, by unfold callR01 goneR; rw [if_neg (by decide), if_pos rfl, hg, if_pos rfl, hgn], rfl⟩⟩
        have h2 : F_law_told01 cls [.int 2, eMach p kn ds, .lst (row.map .int)] (.ok (.str "row")) := ⟨2, p, kn, ds, row, rfl, by omega, .inr ⟨1, by unfold callR01 costR; rw [if_neg (by decide), if_neg (by decide), if_pos rfl, hg, if_pos rfl, hgn], rfl⟩⟩
        have la := last (.fz (.str "row"))
        rw [e]
        refine xss_no0 (XT.is (xw_or (xt_ne hu ((xv_call D__law_told (hr.mono (by decide)) tk (xa_cons xv_int (xa_cons (xv_var 1) (xa_cons ((xl_list T.list ((xv_var 5)).br)).v xa_nil))) (h1))).br ((xv_var 8)).br (okS_row) (okS_row)) (fun hk => xw_and1 (XT.is (xt_ne hu (xv_call D__law_told (hr.mono (by decide)) tk (xa_cons xv_int (xa_cons (xv_var 1) (xa_cons (xv_var 5) xa_nil))) (h2)).br (xv_if (XT.is (xt_eq hu ((xv_var 8)).br (xv_str).br (okS_row) (okS_row)) (eqD_refl okS_row)) (fun _ => xv_str) (fun h => by cases h)).br okS_row okS_row) (show _ = false by rw [eqD_refl okS_row]; rfl)))).t (by rw [eqD_refl okS_row]; rfl)) la
    intro due
    obtain ⟨gp, gk, gl, gd⟩ := goodM_d hg
    have gb : ∀ d ∈ ds, 0 ≤ d.2.2.1 ∧ d.2.2.1 < p := fun d hd => (gd d hd).2.1
    have hLR : F_law_reached [eMach p kn ds] (.ok (.lst ((lrM p ds).map .int))) := ⟨p, kn, ds, rfl, hg, rfl⟩
    have hR : F_reached (cls 0) [eMach p kn ds] (.ok (.lst ((rB p ds).map .bl))) := ⟨p, kn, ds, rfl, by unfold reachR; rw [hg, if_pos rfl]⟩
    have okR := (okN_bools (rB p ds)).e
    have eI : (List.range p.toNat).map (fun (x : Nat) => D.bl (inF (.int (x : Int)) ((lrM p ds).map .int))) = (rB p ds).map .bl := by
      unfold rB
      rw [List.map_map]
      refine List.map_congr_left fun x hx => ?_
      rw [inF_ints, lrM_dec gp.1 gb]
      rfl
    have eT : (rB p ds).map (fun _ => D.bl true) = ((rB p ds).map fun _ => true).map .bl := by rw [List.map_map]; rfl
    have hzp : (rB p ds).length ≤ 100000 := by rw [rB_len]; omega
    refine xss_cons (xs_set 11 nd (xv_call D__law_reached (hr.mono (by decide)) tk (xa_cons (xv_var 1) xa_nil) (hLR))) (xss_cons (xs_set 12 nd (xv_call D_reached (hr.mono (by decide)) tk (xa_cons (xv_var 1) xa_nil) (hR))) ?_)
    exact xss_ret (XV.is (xv_and (xv_eq hu ((xv_var 12)).br ((xl_lc [("_law_place", 13)] rfl nd (xi_range T.range (xv_ix ((xv_var 1)).br (xv_int).br (rfl)) (by omega) (by omega)) (blkOk_by (own := [("_law_place", 13)]) (N := N_law) (sc := defScope s_law) (by decide +kernel)) ((lc_map (f := fun (n : Nat) => D.int n) (g := fun (x : Nat) => D.bl (inF (.int (x : Int)) ((lrM p ds).map .int))) (List.range _) fun x hx => ⟨_, (fun _ _ _ _ _ => (xgw_name 13 nd)), (fun _ _ _ _ _ => (xv_in ((xv_var 13)).br ((xv_var 11)).br (Or.inl rfl) (rfl) (flat_ints _)))⟩).is eI) (by rw [rngD_F, rngF_len]; omega))).br (okR) (okR)) (fun hk => xv_one (xv_all rfl T.all ((xl_lc [("_law_one", 10)] rfl nd (xi_list (xv_var 12)) (blkOk_by (own := [("_law_one", 10)]) (N := N_law) (sc := defScope s_law) (by decide +kernel)) ((lc_map (f := D.bl) (g := fun (_ : Bool) => D.bl true) (rB p ds) fun x hx => ⟨_, (fun _ _ _ _ _ => (xgw_name 10 nd)), (fun _ _ _ _ _ => (xv_isT (k := true) T.isinstance T.bool boot_bool ((xv_var 10)).br rfl (by decide +kernel)))⟩).is eT) (by rw [List.length_map]; exact hzp))).br (rfl)))) (by rw [eqD_refl okR, allTrue]; rfl))

theorem all_mk {P : Program} {w : World} {K : Fg} {mg : Str → Option Value} {fa : Addr} {cE : Addr} {cls : Fin 5 → Addr} 
    (TX : Tx K mg ∧ mg "ValueError" = none)
    (c_MOST_PLACES : ∃ t, mg "MOST_PLACES" = some (.int 200 t))
    (c_MOST_DEEDS : ∃ t, mg "MOST_DEEDS" = some (.int 600 t))
    (c_MOST_KINDS : ∃ t, mg "MOST_KINDS" = some (.int 8 t))
    (c_MOST_COST : ∃ t, mg "MOST_COST" = some (.int 1000 t))
    (E5 : E5 K mg cE cls)
    (U_look_machine : Dn K mg "look_machine" s_look_machine P_look_machine)
    (U_gone : Dn K mg "gone" s_gone P_gone)
    (U_cost_of : Dn K mg "cost_of" s_cost_of P_cost_of)
    (U_reached : Dn K mg "reached" s_reached P_reached)
    (U__law_cell : Dn K mg "_law_cell" s_law_cell P_law_cell)
    (U__law_mix : Dn K mg "_law_mix" s_law_mix P_law_mix)
    (U__law_machine : Dn K mg "_law_machine" s_law_machine P_law_machine)
    (U__law_row : Dn K mg "_law_row" s_law_row P_law_row)
    (U__law_reached : Dn K mg "_law_reached" s_law_reached P_law_reached)
    (U__law_refusal : Dn K mg "_law_refusal" s_law_refusal P_law_refusal)
    (U__law_good : Dn K mg "_law_good" s_law_good P_law_good)
    (U__law_spoilt : Dn K mg "_law_spoilt" s_law_spoilt P_law_spoilt)
    (U__law_told : Dn K mg "_law_told" s_law_told P_law_told)
    (L : Dl K s_law fa) :
    ∃ fd : FuncData, (∀ (s : Shared) (v : Value), BindsTo s fd ⟨[v], []⟩ [("_law_script", v)]) ∧ ∀ base : Heap, K.In base → base.Ns mainGlobals mg → FnOk P w K mg base (L2.CX P w) 9 fa fd P_law (spF K F_law) := by
  obtain ⟨fd, UL, hb⟩ := L.ex
  obtain ⟨T, hVE⟩ := TX
  refine ⟨fd, hb, fun base _ _ => ?_⟩
  have D_look_machine := df_look_machine (P := P) (w := w) (base := base) T U_look_machine (E5.ec 0) c_MOST_PLACES c_MOST_DEEDS c_MOST_KINDS c_MOST_COST
  have D_gone := df_gone T U_gone (E5.ec 1) D_look_machine
  have D_cost_of := df_cost_of T U_cost_of D_gone
  have D_reached := df_reached T U_reached D_look_machine
  have D__law_cell := df_law_cell (P := P) (w := w) (base := base) T U__law_cell
  have D__law_mix := df_law_mix T U__law_mix D__law_cell
  have D__law_machine := df_law_machine T U__law_machine D__law_mix
  have D__law_row := df_law_row T U__law_row D__law_mix
  have D__law_reached := df_law_reached (P := P) (w := w) (base := base) T U__law_reached
  have D__law_refusal := df_law_refusal (P := P) (w := w) (base := base) T E5 U__law_refusal
  have D__law_good := df_law_good (P := P) (w := w) (base := base) T U__law_good
  have D__law_spoilt := df_law_spoilt (P := P) (w := w) (base := base) T U__law_spoilt
  have D__law_told := df_law_told01 T E5 U__law_told D_look_machine D_gone D_cost_of D_reached D__law_refusal
  exact ok_law T UL D__law_mix D__law_machine D__law_row D__law_reached D__law_good D__law_spoilt D__law_told D_reached

end Prog
open PySem PySem.W PyProof.Rows
theorem PySem.Challenge.cw_pursehall_k01_machines_holds : PySem.Challenge.rw_pursehall_k01_machines.Holds := by
  w_on; o_law; k_head; (case hw => w_witness2)
  k_fill
  refine Lay.walk_F (l := PySem.Challenge.rw_pursehall_k01_machines) 9 rfl rfl ⟨rfl, by decide, by decide⟩ (fun w h Y => PySem.W.kIn_of Y) ?F
  case F =>
    intro w mg fa h KX G hmg
    open Lay in
    refine' Prog.all_mk ?TX ?c_MOST_PLACES ?c_MOST_DEEDS ?c_MOST_KINDS ?c_MOST_COST ?E5 ?U_look_machine ?U_gone ?U_cost_of ?U_reached ?U__law_cell ?U__law_mix ?U__law_machine ?U__law_row ?U__law_reached ?U__law_refusal ?U__law_good ?U__law_spoilt ?U__law_told ?L
    open Lay in
    (case TX => refine' tx_mk KX G ?yz0 ?yz1 ?yz2 ?yz3 ?yz4 ?yz5 ?yz6 ?yz7 ?yz8 ?yz9 ?yz10 ?yz11 ?yz12 ?yz13 ?yz14 ?yz15; (case yz0 => k_is); (case yz1 => k_is); (case yz2 => k_is); (case yz3 => k_is); (case yz4 => k_is); (case yz5 => k_is); (case yz6 => k_is); (case yz7 => k_is); (case yz8 => k_is); (case yz9 => k_is); (case yz10 => k_is); (case yz11 => k_is); (case yz12 => k_is); (case yz13 => k_is); (case yz14 => k_is); (case yz15 => k_is))
    open Lay in
    (case c_MOST_PLACES => refine' c_mk KX G ?ya; (case ya => k_is))
    open Lay in
    (case c_MOST_DEEDS => refine' c_mk KX G ?ya; (case ya => k_is))
    open Lay in
    (case c_MOST_KINDS => refine' c_mk KX G ?ya; (case ya => k_is))
    open Lay in
    (case c_MOST_COST => refine' c_mk KX G ?ya; (case ya => k_is))
    open Lay in
    (case E5 => refine' e5_mk ?yep ?yve ?yec0 ?yec1 ?yec2 ?yec3 ?yec4 ?yei0 ?yei1 ?yei2 ?yei3 ?yei4 ?ys01 ?ys02 ?ys03 ?ys04 ?ys10 ?ys12 ?ys13 ?ys14 ?ys20 ?ys21 ?ys23 ?ys24 ?ys30 ?ys31 ?ys32 ?ys34 ?ys40 ?ys41 ?ys42 ?ys43 ?yp0 ?yp1 ?yp2 ?yp3 ?yp4; (case yep => refine' ep_mk KX G ?ya ?yhd ?yb ?yt; (case ya => k_is); (case yhd => k_is); (case yb => k_is); (case yt => k_is)); (case yve => refine' PySem.W.mg_none_of KX G ?ya; (case ya => k_is)); (case yec0 => refine' ec_mk KX G ?ya ?yq ?ykp ?yb ?yt; (case ya => k_is); (case yq => k_exc); (case ykp => k_is); (case yb => k_is); (case yt => k_is)); (case yec1 => refine' ec_mk KX G ?ya ?yq ?ykp ?yb ?yt; (case ya => k_is); (case yq => k_exc); (case ykp => k_is); (case yb => k_is); (case yt => k_is)); (case yec2 => refine' ec_mk KX G ?ya ?yq ?ykp ?yb ?yt; (case ya => k_is); (case yq => k_exc); (case ykp => k_is); (case yb => k_is); (case yt => k_is)); (case yec3 => refine' ec_mk KX G ?ya ?yq ?ykp ?yb ?yt; (case ya => k_is); (case yq => k_exc); (case ykp => k_is); (case yb => k_is); (case yt => k_is)); (case yec4 => refine' ec_mk KX G ?ya ?yq ?ykp ?yb ?yt; (case ya => k_is); (case yq => k_exc); (case ykp => k_is); (case yb => k_is); (case yt => k_is)); (case yei0 => refine' ei_mk ?yt ?yi ?ys ?yv ?yhg ?yhk ?yhs ?yhd ?yha ?yhn ?yht ?yhm; (case yt => first | k_is | rfl); (case yi => first | k_is | rfl); (case ys => first | k_is | rfl); (case yv => first | k_is | rfl); (case yhg => first | k_is | rfl); (case yhk => first | k_is | rfl); (case yhs => first | k_is | rfl); (case yhd => first | k_is | rfl); (case yha => first | k_is | rfl); (case yhn => first | k_is | rfl); (case yht => first | k_is | rfl); (case yhm => first | k_is | rfl)); (case yei1 => refine' ei_mk ?yt ?yi ?ys ?yv ?yhg ?yhk ?yhs ?yhd ?yha ?yhn ?yht ?yhm; (case yt => first | k_is | rfl); (case yi => first | k_is | rfl); (case ys => first | k_is | rfl); (case yv => first | k_is | rfl); (case yhg => first | k_is | rfl); (case yhk => first | k_is | rfl); (case yhs => first | k_is | rfl); (case yhd => first | k_is | rfl); (case yha => first | k_is | rfl); (case yhn => first | k_is | rfl); (case yht => first | k_is | rfl); (case yhm => first | k_is | rfl)); (case yei2 => refine' ei_mk ?yt ?yi ?ys ?yv ?yhg ?yhk ?yhs ?yhd ?yha ?yhn ?yht ?yhm; (case yt => first | k_is | rfl); (case yi => first | k_is | rfl); (case ys => first | k_is | rfl); (case yv => first | k_is | rfl); (case yhg => first | k_is | rfl); (case yhk => first | k_is | rfl); (case yhs => first | k_is | rfl); (case yhd => first | k_is | rfl); (case yha => first | k_is | rfl); (case yhn => first | k_is | rfl); (case yht => first | k_is | rfl); (case yhm => first | k_is | rfl)); (case yei3 => refine' ei_mk ?yt ?yi ?ys ?yv ?yhg ?yhk ?yhs ?yhd ?yha ?yhn ?yht ?yhm; (case yt => first | k_is | rfl); (case yi => first | k_is | rfl); (case ys => first | k_is | rfl); (case yv => first | k_is | rfl); (case yhg => first | k_is | rfl); (case yhk => first | k_is | rfl); (case yhs => first | k_is | rfl); (case yhd => first | k_is | rfl); (case yha => first | k_is | rfl); (case yhn => first | k_is | rfl); (case yht => first | k_is | rfl); (case yhm => first | k_is | rfl)); (case yei4 => refine' ei_mk ?yt ?yi ?ys ?yv ?yhg ?yhk ?yhs ?yhd ?yha ?yhn ?yht ?yhm; (case yt => first | k_is | rfl); (case yi => first | k_is | rfl); (case ys => first | k_is | rfl); (case yv => first | k_is | rfl); (case yhg => first | k_is | rfl); (case yhk => first | k_is | rfl); (case yhs => first | k_is | rfl); (case yhd => first | k_is | rfl); (case yha => first | k_is | rfl); (case yhn => first | k_is | rfl); (case yht => first | k_is | rfl); (case yhm => first | k_is | rfl)); (case ys01 => first | k_is | rfl); (case ys02 => first | k_is | rfl); (case ys03 => first | k_is | rfl); (case ys04 => first | k_is | rfl); (case ys10 => first | k_is | rfl); (case ys12 => first | k_is | rfl); (case ys13 => first | k_is | rfl); (case ys14 => first | k_is | rfl); (case ys20 => first | k_is | rfl); (case ys21 => first | k_is | rfl); (case ys23 => first | k_is | rfl); (case ys24 => first | k_is | rfl); (case ys30 => first | k_is | rfl); (case ys31 => first | k_is | rfl); (case ys32 => first | k_is | rfl); (case ys34 => first | k_is | rfl); (case ys40 => first | k_is | rfl); (case ys41 => first | k_is | rfl); (case ys42 => first | k_is | rfl); (case ys43 => first | k_is | rfl); (case yp0 => first | k_is | rfl); (case yp1 => first | k_is | rfl); (case yp2 => first | k_is | rfl); (case yp3 => first | k_is | rfl); (case yp4 => first | k_is | rfl))
    open Lay in
    (case U_look_machine => refine' dn_mk KX G ?ya ?yl ?yc ?yk (fun _ _ _ _ _ _ us hl => match us, hl with | [_], _ => rfl); (case ya => k_is); (case yl => k_is); (case yc => k_is); (case yk => k_is))
    open Lay in
    (case U_gone => refine' dn_mk KX G ?ya ?yl ?yc ?yk (fun _ _ _ _ _ _ us hl => match us, hl with | [_, _], _ => rfl); (case ya => k_is); (case yl => k_is); (case yc => k_is); (case yk => k_is))
    open Lay in
    (case U_cost_of => refine' dn_mk KX G ?ya ?yl ?yc ?yk (fun _ _ _ _ _ _ us hl => match us, hl with | [_, _], _ => rfl); (case ya => k_is); (case yl => k_is); (case yc => k_is); (case yk => k_is))
    open Lay in
    (case U_reached => refine' dn_mk KX G ?ya ?yl ?yc ?yk (fun _ _ _ _ _ _ us hl => match us, hl with | [_], _ => rfl); (case ya => k_is); (case yl => k_is); (case yc => k_is); (case yk => k_is))
    open Lay in
    (case U__law_cell => refine' dn_mk KX G ?ya ?yl ?yc ?yk (fun _ _ _ _ _ _ us hl => match us, hl with | [_, _], _ => rfl); (case ya => k_is); (case yl => k_is); (case yc => k_is); (case yk => k_is))
    open Lay in
    (case U__law_mix => refine' dn_mk KX G ?ya ?yl ?yc ?yk (fun _ _ _ _ _ _ us hl => match us, hl with | [_, _], _ => rfl); (case ya => k_is); (case yl => k_is); (case yc => k_is); (case yk => k_is))
    open Lay in
    (case U__law_machine => refine' dn_mk KX G ?ya ?yl ?yc ?yk (fun _ _ _ _ _ _ us hl => match us, hl with | [_, _, _], _ => rfl); (case ya => k_is); (case yl => k_is); (case yc => k_is); (case yk => k_is))
    open Lay in
    (case U__law_row => refine' dn_mk KX G ?ya ?yl ?yc ?yk (fun _ _ _ _ _ _ us hl => match us, hl with | [_, _, _, _], _ => rfl); (case ya => k_is); (case yl => k_is); (case yc => k_is); (case yk => k_is))
    open Lay in
    (case U__law_reached => refine' dn_mk KX G ?ya ?yl ?yc ?yk (fun _ _ _ _ _ _ us hl => match us, hl with | [_], _ => rfl); (case ya => k_is); (case yl => k_is); (case yc => k_is); (case yk => k_is))
    open Lay in
    (case U__law_refusal => refine' dn_mk KX G ?ya ?yl ?yc ?yk (fun _ _ _ _ _ _ us hl => match us, hl with | [_], _ => rfl); (case ya => k_is); (case yl => k_is); (case yc => k_is); (case yk => k_is))
    open Lay in
    (case U__law_good => refine' dn_mk KX G ?ya ?yl ?yc ?yk (fun _ _ _ _ _ _ us hl => match us, hl with | [_], _ => rfl); (case ya => k_is); (case yl => k_is); (case yc => k_is); (case yk => k_is))
    open Lay in
    (case U__law_spoilt => refine' dn_mk KX G ?ya ?yl ?yc ?yk (fun _ _ _ _ _ _ us hl => match us, hl with | [_, _], _ => rfl); (case ya => k_is); (case yl => k_is); (case yc => k_is); (case yk => k_is))
    open Lay in
    (case U__law_told => refine' dn_mk KX G ?ya ?yl ?yc ?yk (fun _ _ _ _ _ _ us hl => match us, hl with | [_, _, _], _ => rfl); (case ya => k_is); (case yl => k_is); (case yc => k_is); (case yk => k_is))
    open Lay in
    (case L => refine' dl_mk KX G hmg ?ya ?yl ?yc ?yk (fun _ _ _ _ _ _ _ => rfl); (case ya => k_is); (case yl => k_is); (case yc => k_is); (case yk => k_is))
