import PyProof.Rows.All
import Wide.All
import OpenK.AllK
import Wide.FinOn
import PyProof.EqAt
import PyProof.EqKinds
import PyProof.TupleCall
import HandS.ForMost
import HandS.ForExc
import HandS.IsInst
import HandS.TupAny
import HandS.TupMul
import HandS.Wide
import HandS.More
import HandS.Flow
import HandS.Deep
import HandS.TupSets
import HandS.ExcIs
import HandS.SetFor
import HandS.SortRule
import HandS.Style
import HandS.DeepEq
import HandS.Strs
import PySem.Challenge.RW_pursehall_k31_whole_known_purses
set_option Elab.async false
set_option autoImplicit false
set_option linter.all false
set_option maxRecDepth 100000
set_option maxHeartbeats 4000000
/-! Lay1: data-level judgements over the hand layer: what stands in the slots, what an expression gives. -/
namespace Lay
open PySem L2
abbrev Fg := PySem.W.Frag

/-! ### growth -/
structure Gr (S H S' H' : Hp) : Prop where
  s : Same S S'
  h : Same H H'
  sh : Same S' H'
  old : ∀ a, H a ≠ none → S' a = S a
theorem Gr.refl {S H : Hp} (h : Same S H) : Gr S H S H := ⟨Same.refl _, Same.refl _, h, fun _ _ => rfl⟩
theorem nn_of {H : Hp} {a : Addr} {o : HO} (h : H a = some o) : H a ≠ none := by rw [h]; exact fun z => by cases z
theorem some_nn {H : Hp} {a : Addr} (h : H a ≠ none) : ∃ o, H a = some o := by
  cases e : H a with
  | none => exact absurd e h
  | some o => exact ⟨o, rfl⟩
theorem Same.nn {H H' : Hp} (k : Same H H') {a : Addr} (h : H a ≠ none) : H' a ≠ none := by
  obtain ⟨o, e⟩ := some_nn h
  rw [k _ _ e]; exact fun z => by cases z
theorem Gr.trans {S H S1 H1 S2 H2 : Hp} (a : Gr S H S1 H1) (b : Gr S1 H1 S2 H2) : Gr S H S2 H2 :=
  ⟨a.s.trans b.s, a.h.trans b.h, b.sh, fun x hx => (b.old x (Same.nn a.h hx)).trans (a.old x hx)⟩
theorem same_new {H : Hp} {p : Addr} {o : HO} (hp : H p = none) : Same H (upd H p o) := fun b u e => by
  rw [upd_ne (ne_of_none e hp)]; exact e
/-- a new object, frozen -/
theorem Gr.new {S H : Hp} {p : Addr} {o : HO} (h : Same S H) (hp : H p = none) : Gr S H (upd S p o) (upd H p o) := by
  have hs : S p = none := h.free hp
  refine ⟨same_new hs, same_new hp, fun b u e => ?_, fun b hb => ?_⟩
  · by_cases z : b = p
    · subst z; rw [upd_same] at e ⊢; exact e
    · rw [upd_ne z] at e ⊢; exact h _ _ e
  · have z : b ≠ p := fun z => hb (by rw [z]; exact hp)
    rw [upd_ne z]
/-- a new object, not frozen -/
theorem Gr.newH {S H : Hp} {p : Addr} {o : HO} (h : Same S H) (hp : H p = none) : Gr S H S (upd H p o) :=
  ⟨Same.refl _, same_new hp, h.trans (same_new hp), fun _ _ => rfl⟩
/-- an object that is new since H becomes frozen as it stands -/
theorem Gr.freeze {S H S' H' : Hp} {p : Addr} {o : HO} (g : Gr S H S' H') (hp : H p = none) (e : H' p = some o) (hs : S' p = none) : Gr S H (upd S' p o) H' := by
  refine ⟨fun b u q => ?_, g.h, fun b u q => ?_, fun b hb => ?_⟩
  · rw [upd_ne (fun z => by subst z; rw [g.s _ _ q] at hs; cases hs)]; exact g.s _ _ q
  · by_cases z : b = p
    · subst z; rw [upd_same] at q; cases q; exact e
    · rw [upd_ne z] at q; exact g.sh _ _ q
  · have z : b ≠ p := fun z => hb (by rw [z]; exact hp)
    rw [upd_ne z]; exact g.old b hb

theorem same_rd {S S' : Hp} (k : Same S S') {a : Addr} {u : HO} (h : Rd S a u) : Rd S' a u := by
  rcases h with h | ⟨o, h⟩
  · exact .inl (k _ _ h)
  · exact .inr ⟨o, k _ _ h⟩
theorem same_l {K : Fg} {S S' : Hp} (k : Same S S') {a : Addr} {xs : List V} (h : SqL K S a xs) : SqL K S' a xs := by
  rcases h with h | h
  · exact .inl (same_rd k h)
  · exact .inr h
theorem same_t {K : Fg} {S S' : Hp} (k : Same S S') {a : Addr} {xs : List V} (h : SqT K S a xs) : SqT K S' a xs := by
  rcases h with h | h
  · exact .inl (same_rd k h)
  · exact .inr h
/-- a caught exception of the class at c -/
def ExT (c a : Addr) : HO := .ext fun h => ∃ (oe : Obj) (vs : Array Value), h.get? a = some oe ∧ Zc (.ref c) none oe ∧ oe.data = .fields vs
/-- data: what a value is, told without the heap. scr: the law's script; exc: a caught exception of the class at c; ins: an instance that changes no more -/
inductive D where
  | non
  | bl (b : Bool)
  | int (i : Int)
  | str (x : Str)
  | lst (ds : List D)
  | tup (ds : List D)
  | scr (ns : List Int)
  | exc (c : Addr)
  | ins (C : Addr) (fs : List (Str × D))
mutual
inductive Rp (K : Fg) (S : Hp) : V → D → Prop where
  | non : Rp K S .non .non
  | bl (b : Bool) : Rp K S (.bl b) (.bl b)
  | int (i : Int) : Rp K S (.int i) (.int i)
  | str (x : Str) : Rp K S (.str x) (.str x)
  | lst {a : Addr} {xs : List V} {ds : List D} : S a = some (.lst xs) → RpA K S xs ds → Rp K S (.ref a) (.lst ds)
  | tup {a : Addr} {xs : List V} {ds : List D} : S a = some (.tup xs) → RpA K S xs ds → Rp K S (.ref a) (.tup ds)
  | scr {a : Addr} {ns : List Int} : SqL K S a (ns.map V.int) → Rp K S (.ref a) (.scr ns)
  | exc {a c : Addr} : S a = some (ExT c a) → Rp K S (.ref a) (.exc c)
  | ins {a C dx : Addr} {fv : List (Str × V)} {fs : List (Str × D)} : S a = some (.ins C dx fv) → RpF K S fv fs → Rp K S (.ref a) (.ins C fs)
inductive RpA (K : Fg) (S : Hp) : List V → List D → Prop where
  | nil : RpA K S [] []
  | cons {v : V} {d : D} {vs : List V} {ds : List D} : Rp K S v d → RpA K S vs ds → RpA K S (v :: vs) (d :: ds)
inductive RpF (K : Fg) (S : Hp) : List (Str × V) → List (Str × D) → Prop where
  | nil : RpF K S [] []
  | cons {n : Str} {v : V} {d : D} {vs : List (Str × V)} {ds : List (Str × D)} : Rp K S v d → RpF K S vs ds → RpF K S ((n, v) :: vs) ((n, d) :: ds)
end
mutual
theorem dp_same {K : Fg} {S S' : Hp} (k : Same S S') : ∀ {v : V} {d : D}, Rp K S v d → Rp K S' v d
  | _, _, .non => .non
  | _, _, .bl b => .bl b
  | _, _, .int i => .int i
  | _, _, .str x => .str x
  | _, _, .lst h a => .lst (k _ _ h) (da_same k a)
  | _, _, .tup h a => .tup (k _ _ h) (da_same k a)
  | _, _, .scr h => .scr (same_l k h)
  | _, _, .exc h => .exc (k _ _ h)
  | _, _, .ins h a => .ins (k _ _ h) (df_same k a)
theorem da_same {K : Fg} {S S' : Hp} (k : Same S S') : ∀ {vs : List V} {ds : List D}, RpA K S vs ds → RpA K S' vs ds
  | _, _, .nil => .nil
  | _, _, .cons h a => .cons (dp_same k h) (da_same k a)
theorem df_same {K : Fg} {S S' : Hp} (k : Same S S') : ∀ {vs : List (Str × V)} {ds : List (Str × D)}, RpF K S vs ds → RpF K S' vs ds
  | _, _, .nil => .nil
  | _, _, .cons h a => .cons (dp_same k h) (df_same k a)
end
theorem da_len {K : Fg} {S : Hp} : ∀ {vs : List V} {ds : List D}, RpA K S vs ds → vs.length = ds.length
  | _, _, .nil => rfl
  | _, _, .cons _ a => by simp only [List.length_cons, da_len a]
theorem da_get {K : Fg} {S : Hp} : ∀ {vs : List V} {ds : List D} {i : Nat} {d : D}, RpA K S vs ds → ds[i]? = some d → ∃ v, vs[i]? = some v ∧ Rp K S v d
  | _, _, _, _, .nil, e => by simp at e
  | _, _, 0, _, .cons h _, e => by simp at e; subst e; exact ⟨_, rfl, h⟩
  | _, _, i + 1, _, .cons _ a, e => by
    obtain ⟨v, h1, h2⟩ := da_get (i := i) a (by simpa using e)
    exact ⟨v, by simpa using h1, h2⟩
theorem da_get' {K : Fg} {S : Hp} {vs : List V} {ds : List D} {i : Nat} {v : V} (h : RpA K S vs ds) (e : vs[i]? = some v) : ∃ d, ds[i]? = some d ∧ Rp K S v d := by
  have hi : i < ds.length := by rw [← da_len h]; exact (List.getElem?_eq_some_iff.mp e).1
  obtain ⟨v', e', h'⟩ := da_get h (List.getElem?_eq_getElem hi)
  rw [e] at e'; cases e'
  exact ⟨_, List.getElem?_eq_getElem hi, h'⟩
theorem da_append {K : Fg} {S : Hp} : ∀ {vs ws : List V} {ds es : List D}, RpA K S vs ds → RpA K S ws es → RpA K S (vs ++ ws) (ds ++ es)
  | _, _, _, _, .nil, b => b
  | _, _, _, _, .cons h a, b => .cons h (da_append a b)
theorem da_one {K : Fg} {S : Hp} {v : V} {d : D} (h : Rp K S v d) : RpA K S [v] [d] := .cons h .nil
theorem da_set {K : Fg} {S : Hp} : ∀ {vs : List V} {ds : List D} {v : V} {d : D} (i : Nat), RpA K S vs ds → Rp K S v d → RpA K S (vs.set i v) (ds.set i d)
  | _, _, _, _, _, .nil, _ => .nil
  | _, _, _, _, 0, .cons _ a, h => .cons h a
  | _, _, _, _, i + 1, .cons q a, h => .cons q (da_set i a h)
theorem da_take {K : Fg} {S : Hp} : ∀ {vs : List V} {ds : List D} (n : Nat), RpA K S vs ds → RpA K S (vs.take n) (ds.take n)
  | _, _, 0, _ => by simp; exact .nil
  | _, _, _ + 1, .nil => .nil
  | _, _, n + 1, .cons h a => .cons h (da_take n a)
theorem da_drop {K : Fg} {S : Hp} : ∀ {vs : List V} {ds : List D} (n : Nat), RpA K S vs ds → RpA K S (vs.drop n) (ds.drop n)
  | _, _, 0, h => h
  | _, _, _ + 1, .nil => .nil
  | _, _, n + 1, .cons _ a => da_drop n a
theorem da_reverse {K : Fg} {S : Hp} : ∀ {vs : List V} {ds : List D}, RpA K S vs ds → RpA K S vs.reverse ds.reverse
  | _, _, .nil => .nil
  | _, _, .cons h a => by rw [List.reverse_cons, List.reverse_cons]; exact da_append (da_reverse a) (da_one h)
theorem da_dropLast {K : Fg} {S : Hp} {vs : List V} {ds : List D} (h : RpA K S vs ds) : RpA K S vs.dropLast ds.dropLast := by
  rw [List.dropLast_eq_take, List.dropLast_eq_take, da_len h]; exact da_take _ h
theorem da_insert {K : Fg} {S : Hp} {vs : List V} {ds : List D} {v : V} {d : D} (h : RpA K S vs ds) (q : Rp K S v d) : RpA K S (v :: vs) (d :: ds) := .cons q h
/-- flat lists -/
theorem da_ints {K : Fg} {S : Hp} : ∀ {vs : List V} {ns : List Int}, RpA K S vs (ns.map .int) → vs = ns.map V.int
  | _, [], h => by cases h; rfl
  | _, n :: ns, h => by
    cases h with
    | cons h a => cases h; rw [da_ints a]; rfl
theorem ints_da {K : Fg} {S : Hp} : ∀ (ns : List Int), RpA K S (ns.map V.int) (ns.map .int)
  | [] => .nil
  | n :: ns => .cons (.int n) (ints_da ns)
theorem da_bools {K : Fg} {S : Hp} : ∀ {vs : List V} {ns : List Bool}, RpA K S vs (ns.map .bl) → vs = ns.map V.bl
  | _, [], h => by cases h; rfl
  | _, n :: ns, h => by
    cases h with
    | cons h a => cases h; rw [da_bools a]; rfl
theorem bools_da {K : Fg} {S : Hp} : ∀ (ns : List Bool), RpA K S (ns.map V.bl) (ns.map .bl)
  | [] => .nil
  | n :: ns => .cons (.bl n) (bools_da ns)

/-! ### what stands in the slots -/
inductive FI where
  | fz (d : D)
  /-- an own list; oa: its address, where it is known -/
  | ow (oa : Option Addr) (ds : List D)
inductive It where
  /-- nothing known -/
  | no
  /-- data that will not change -/
  | fz (d : D)
  /-- a list of the frame's own -/
  | ow (ds : List D)
  /-- a dict of the frame's own, keys whole numbers -/
  | dk (kvs : List (Int × D))
  /-- an instance of the frame's own -/
  | ob (C : Addr) (oa : Option Addr) (fs : List (Str × FI))
  /-- a list of the frame's own, of lists of the frame's own -/
  | ll (xss : List (List D))
inductive LlR (K : Fg) (S H : Hp) : List (List D) → List V → List Addr → Prop where
  | nil : LlR K S H [] [] []
  | cons {xs : List D} {xss : List (List D)} {p : Addr} {ws vs : List V} {as : List Addr} : H p = some (.lst ws) → RpA K S ws xs → LlR K S H xss vs as → LlR K S H (xs :: xss) (.ref p :: vs) (p :: as)
inductive FIR (K : Fg) (S H : Hp) : FI → V → List Addr → Prop where
  | fz {d : D} {v : V} : Rp K S v d → FIR K S H (.fz d) v []
  | ow {oa : Option Addr} {ds : List D} {p : Addr} {vs : List V} : (∀ a, oa = some a → p = a) → H p = some (.lst vs) → RpA K S vs ds → FIR K S H (.ow oa ds) (.ref p) [p]
inductive FsR (K : Fg) (S H : Hp) : List (Str × FI) → List (Str × V) → List Addr → Prop where
  | nil : FsR K S H [] [] []
  | cons {n : Str} {f : FI} {v : V} {as bs : List Addr} {fs : List (Str × FI)} {vs : List (Str × V)} : FIR K S H f v as → FsR K S H fs vs bs → FsR K S H ((n, f) :: fs) ((n, v) :: vs) (as ++ bs)
inductive DkR (K : Fg) (S : Hp) : List (Int × D) → List (Key × V) → Prop where
  | nil : DkR K S [] []
  | cons {n : Int} {d : D} {v : V} {fs : List (Int × D)} {vs : List (Key × V)} : Rp K S v d → DkR K S fs vs → DkR K S ((n, d) :: fs) ((Sum.inl n, v) :: vs)
inductive ItR (K : Fg) (S H : Hp) : It → Option V → List Addr → Prop where
  | no (v : Option V) : ItR K S H .no v []
  | fz {d : D} {v : V} : Rp K S v d → ItR K S H (.fz d) (some v) []
  | ow {ds : List D} {p : Addr} {vs : List V} : H p = some (.lst vs) → RpA K S vs ds → ItR K S H (.ow ds) (some (.ref p)) [p]
  | dk {ds : List (Int × D)} {p : Addr} {kvs : List (Key × V)} : H p = some (.dK kvs) → DkR K S ds kvs → ItR K S H (.dk ds) (some (.ref p)) [p]
  | ob {C dx p : Addr} {oa : Option Addr} {fs : List (Str × FI)} {fv : List (Str × V)} {as : List Addr} : (∀ a, oa = some a → p = a) → H p = some (.ins C dx fv) → FsR K S H fs fv as → ItR K S H (.ob C oa fs) (some (.ref p)) (p :: as)
  | ll {p : Addr} {xss : List (List D)} {vs : List V} {as : List Addr} : H p = some (.lst vs) → LlR K S H xss vs as → ItR K S H (.ll xss) (some (.ref p)) (p :: as)

/-- the objects at as are as they were, what was frozen is -/
theorem fir_keep {K : Fg} {S H S' H' : Hp} (k : Same S S') : ∀ {f : FI} {v : V} {as : List Addr}, FIR K S H f v as → (∀ a ∈ as, H' a = H a) → FIR K S' H' f v as
  | _, _, _, .fz h, _ => .fz (dp_same k h)
  | _, _, _, .ow z h a, q => .ow z ((q _ (by simp)).trans h) (da_same k a)
theorem fsr_keep {K : Fg} {S H S' H' : Hp} (k : Same S S') : ∀ {f : List (Str × FI)} {v : List (Str × V)} {as : List Addr}, FsR K S H f v as → (∀ a ∈ as, H' a = H a) → FsR K S' H' f v as
  | _, _, _, .nil, _ => .nil
  | _, _, _, .cons h t, q => .cons (fir_keep k h fun a ha => q a (List.mem_append_left _ ha)) (fsr_keep k t fun a ha => q a (List.mem_append_right _ ha))
theorem dkr_keep {K : Fg} {S S' : Hp} (k : Same S S') : ∀ {f : List (Int × D)} {v : List (Key × V)}, DkR K S f v → DkR K S' f v
  | _, _, .nil => .nil
  | _, _, .cons h t => .cons (dp_same k h) (dkr_keep k t)
theorem llr_keep {K : Fg} {S H S' H' : Hp} (k : Same S S') : ∀ {f : List (List D)} {v : List V} {as : List Addr}, LlR K S H f v as → (∀ a ∈ as, H' a = H a) → LlR K S' H' f v as
  | _, _, _, .nil, _ => .nil
  | _, _, _, .cons h r t, q => .cons ((q _ List.mem_cons_self).trans h) (da_same k r) (llr_keep k t fun a ha => q a (List.mem_cons_of_mem _ ha))
theorem llr_owned {K : Fg} {S H : Hp} : ∀ {f : List (List D)} {v : List V} {as : List Addr}, LlR K S H f v as → ∀ a ∈ as, H a ≠ none
  | _, _, _, .nil, a, ha => by cases ha
  | _, _, _, .cons h _ t, a, ha => (List.mem_cons.mp ha).elim (fun e => e ▸ nn_of h) (llr_owned t a)
theorem it_keep {K : Fg} {S H S' H' : Hp} (k : Same S S') : ∀ {it : It} {v : Option V} {as : List Addr}, ItR K S H it v as → (∀ a ∈ as, H' a = H a) → ItR K S' H' it v as
  | _, _, _, .no v, _ => .no v
  | _, _, _, .fz h, _ => .fz (dp_same k h)
  | _, _, _, .ow h a, q => .ow ((q _ (by simp)).trans h) (da_same k a)
  | _, _, _, .dk h a, q => .dk ((q _ (by simp)).trans h) (dkr_keep k a)
  | _, _, _, .ob z h a, q => .ob z ((q _ (by simp)).trans h) (fsr_keep k a fun b hb => q b (List.mem_cons_of_mem _ hb))
  | _, _, _, .ll h a, q => .ll ((q _ (by simp)).trans h) (llr_keep k a fun b hb => q b (List.mem_cons_of_mem _ hb))
theorem fir_owned {K : Fg} {S H : Hp} : ∀ {f : FI} {v : V} {as : List Addr}, FIR K S H f v as → ∀ a ∈ as, H a ≠ none
  | _, _, _, .fz _, a, ha => by cases ha
  | _, _, _, .ow _ h _, a, ha => by
    rcases List.mem_singleton.mp ha with rfl
    exact nn_of h
theorem fsr_owned {K : Fg} {S H : Hp} : ∀ {f : List (Str × FI)} {v : List (Str × V)} {as : List Addr}, FsR K S H f v as → ∀ a ∈ as, H a ≠ none
  | _, _, _, .nil, a, ha => by cases ha
  | _, _, _, .cons h t, a, ha => (List.mem_append.mp ha).elim (fir_owned h a) (fsr_owned t a)
theorem it_owned {K : Fg} {S H : Hp} : ∀ {it : It} {v : Option V} {as : List Addr}, ItR K S H it v as → ∀ a ∈ as, H a ≠ none
  | _, _, _, .no _, a, ha => by cases ha
  | _, _, _, .fz _, a, ha => by cases ha
  | _, _, _, .ow h _, a, ha => by
    rcases List.mem_singleton.mp ha with rfl
    exact nn_of h
  | _, _, _, .dk h _, a, ha => by
    rcases List.mem_singleton.mp ha with rfl
    exact nn_of h
  | _, _, _, .ob _ h t, a, ha => (List.mem_cons.mp ha).elim (fun e => e ▸ nn_of h) (fsr_owned t a)
  | _, _, _, .ll h t, a, ha => (List.mem_cons.mp ha).elim (fun e => e ▸ nn_of h) (llr_owned t a)

/-- the slots σ hold ds, owning A; G: what must stay as it is, S0: what was frozen at the def's entry -/
structure EnvA (K : Fg) (G S0 S H : Hp) (σ : St) (ds : List It) (A : Nat → List Addr) : Prop where
  sh : Same S H
  gh : Same G H
  s0 : Same S0 S
  gs : ∀ a, G a ≠ none → S a = S0 a
  len : σ.length = ds.length
  it : ∀ i it, ds[i]? = some it → ItR K S H it (σ[i]?.join) (A i)
  nd : ∀ i, (A i).Nodup
  dj : ∀ i j a, a ∈ A i → a ∈ A j → i = j
  fr : ∀ i a, a ∈ A i → i < ds.length ∧ S a = none ∧ G a = none
def Env (K : Fg) (G S0 S H : Hp) (σ : St) (ds : List It) : Prop := ∃ A, EnvA K G S0 S H σ ds A

section
variable {K : Fg} {G S0 S H S' H' : Hp} {σ : St} {ds : List It} {A : Nat → List Addr}
theorem EnvA.own (e : EnvA K G S0 S H σ ds A) {i : Nat} {a : Addr} (ha : a ∈ A i) : H a ≠ none := by
  obtain ⟨hi, _⟩ := e.fr i a ha
  exact it_owned (e.it i _ (List.getElem?_eq_getElem hi)) a ha
theorem keep_of (k : Same H H') {a : Addr} (ha : H a ≠ none) : H' a = H a := by
  obtain ⟨o, q⟩ := some_nn ha
  rw [q]; exact k _ _ q
/-- all that stood stands -/
theorem EnvA.grow (e : EnvA K G S0 S H σ ds A) (g : Gr S H S' H') : EnvA K G S0 S' H' σ ds A :=
  ⟨g.sh, e.gh.trans g.h, e.s0.trans g.s, fun a ha => (g.old a (Same.nn e.gh ha)).trans (e.gs a ha), e.len, fun i it hi => it_keep g.s (e.it i it hi) fun a ha => keep_of g.h (e.own ha), e.nd, e.dj,
    fun i a ha => ⟨(e.fr i a ha).1, by rw [g.old a (e.own ha)]; exact (e.fr i a ha).2.1, (e.fr i a ha).2.2⟩⟩
theorem Env.grow (e : Env K G S0 S H σ ds) (g : Gr S H S' H') : Env K G S0 S' H' σ ds := let ⟨A, e⟩ := e; ⟨A, e.grow g⟩
theorem Env.sh (e : Env K G S0 S H σ ds) : Same S H := let ⟨_, e⟩ := e; e.sh
theorem Env.gh (e : Env K G S0 S H σ ds) : Same G H := let ⟨_, e⟩ := e; e.gh
theorem Env.s0 (e : Env K G S0 S H σ ds) : Same S0 S := let ⟨_, e⟩ := e; e.s0
theorem Env.gs (e : Env K G S0 S H σ ds) : ∀ a, G a ≠ none → S a = S0 a := let ⟨_, e⟩ := e; e.gs
theorem Env.len (e : Env K G S0 S H σ ds) : σ.length = ds.length := let ⟨_, e⟩ := e; e.len
theorem Env.gr (e : Env K G S0 S H σ ds) : Gr S H S H := Gr.refl e.sh
theorem join_some {o : Option (Option V)} {v : V} (h : o.join = some v) : o = some (some v) := by
  cases o with
  | none => cases h
  | some o => cases o with
    | none => cases h
    | some w => cases h; rfl
theorem itr_fz {o : Option V} {d : D} {as : List Addr} (q : ItR K S H (.fz d) o as) : ∃ v, o = some v ∧ Rp K S v d := by
  cases q with
  | fz q => exact ⟨_, rfl, q⟩
theorem itr_ow {o : Option V} {xs : List D} {as : List Addr} (q : ItR K S H (.ow xs) o as) : ∃ p vs, o = some (.ref p) ∧ as = [p] ∧ H p = some (.lst vs) ∧ RpA K S vs xs := by
  cases q with
  | ow q q2 => exact ⟨_, _, rfl, rfl, q, q2⟩
theorem itr_dk {o : Option V} {xs : List (Int × D)} {as : List Addr} (q : ItR K S H (.dk xs) o as) : ∃ p vs, o = some (.ref p) ∧ as = [p] ∧ H p = some (.dK vs) ∧ DkR K S xs vs := by
  cases q with
  | dk q q2 => exact ⟨_, _, rfl, rfl, q, q2⟩
theorem itr_ob {o : Option V} {C : Addr} {oa : Option Addr} {fs : List (Str × FI)} {as : List Addr} (q : ItR K S H (.ob C oa fs) o as) : ∃ p dx fv bs, o = some (.ref p) ∧ as = p :: bs ∧ (∀ a, oa = some a → p = a) ∧ H p = some (.ins C dx fv) ∧ FsR K S H fs fv bs := by
  cases q with
  | ob z q q2 => exact ⟨_, _, _, _, rfl, rfl, z, q, q2⟩
theorem Env.fz (e : Env K G S0 S H σ ds) {i : Nat} {d : D} (h : ds[i]? = some (.fz d)) : ∃ v, σ[i]? = some (some v) ∧ Rp K S v d := by
  obtain ⟨A, e⟩ := e
  obtain ⟨v, hv, r⟩ := itr_fz (e.it i _ h)
  exact ⟨v, join_some hv, r⟩
theorem EnvA.ow (e : EnvA K G S0 S H σ ds A) {i : Nat} {xs : List D} (h : ds[i]? = some (.ow xs)) : ∃ p vs, σ[i]? = some (some (.ref p)) ∧ A i = [p] ∧ H p = some (.lst vs) ∧ S p = none ∧ G p = none ∧ RpA K S vs xs := by
  obtain ⟨p, vs, hv, ha, hp, da⟩ := itr_ow (e.it i _ h)
  obtain ⟨_, z1, z2⟩ := e.fr i p (by rw [ha]; exact List.mem_cons_self)
  exact ⟨p, vs, join_some hv, ha, hp, z1, z2, da⟩
theorem Env.ow (e : Env K G S0 S H σ ds) {i : Nat} {xs : List D} (h : ds[i]? = some (.ow xs)) : ∃ p vs, σ[i]? = some (some (.ref p)) ∧ H p = some (.lst vs) ∧ S p = none ∧ G p = none ∧ RpA K S vs xs := by
  obtain ⟨A, e⟩ := e
  obtain ⟨p, vs, h1, _, h2⟩ := e.ow h
  exact ⟨p, vs, h1, h2⟩
theorem EnvA.dk (e : EnvA K G S0 S H σ ds A) {i : Nat} {xs : List (Int × D)} (h : ds[i]? = some (.dk xs)) : ∃ p vs, σ[i]? = some (some (.ref p)) ∧ A i = [p] ∧ H p = some (.dK vs) ∧ S p = none ∧ G p = none ∧ DkR K S xs vs := by
  obtain ⟨p, vs, hv, ha, hp, da⟩ := itr_dk (e.it i _ h)
  obtain ⟨_, z1, z2⟩ := e.fr i p (by rw [ha]; exact List.mem_cons_self)
  exact ⟨p, vs, join_some hv, ha, hp, z1, z2, da⟩
theorem Env.dk (e : Env K G S0 S H σ ds) {i : Nat} {xs : List (Int × D)} (h : ds[i]? = some (.dk xs)) : ∃ p vs, σ[i]? = some (some (.ref p)) ∧ H p = some (.dK vs) ∧ S p = none ∧ G p = none ∧ DkR K S xs vs := by
  obtain ⟨A, e⟩ := e
  obtain ⟨p, vs, h1, _, h2⟩ := e.dk h
  exact ⟨p, vs, h1, h2⟩

/-- the owned addresses of one slot change -/
def setA (A : Nat → List Addr) (i : Nat) (as : List Addr) : Nat → List Addr := fun j => if j = i then as else A j
theorem setA_same {A : Nat → List Addr} {i : Nat} {as : List Addr} : setA A i as i = as := if_pos rfl
theorem setA_ne {A : Nat → List Addr} {i j : Nat} {as : List Addr} (h : j ≠ i) : setA A i as j = A j := if_neg h
/-- the general store: slot i, and the objects of slot i, may change -/
theorem EnvA.put (e : EnvA K G S0 S H σ ds A) (i : Nat) {it : It} {v : Option V} {as : List Addr} (hS : Same S S') (sh' : Same S' H') (gh' : Same G H') (gs' : ∀ a, G a ≠ none → S' a = S0 a)
    (r : ItR K S' H' it v as) (nd : as.Nodup) (hk : ∀ j a, j ≠ i → a ∈ A j → H' a = H a ∧ S' a = none) (fresh : ∀ a ∈ as, S' a = none ∧ G a = none ∧ ∀ j, j ≠ i → a ∉ A j) :
    EnvA K G S0 S' H' (σ.set i v) (ds.set i it) (setA A i (if i < ds.length then as else [])) := by
  refine ⟨sh', gh', e.s0.trans hS, gs', by simp [e.len], fun j it' hj => ?_, fun j => ?_, fun j k a ha hb => ?_, fun j a ha => ?_⟩
  · by_cases z : j = i
    · subst z
      have hi : j < ds.length := by simpa using (List.getElem?_eq_some_iff.mp hj).1
      rw [setA_same, if_pos hi]
      rw [List.getElem?_set_self hi] at hj
      cases hj
      rw [List.getElem?_set_self (by rw [e.len]; exact hi)]
      exact r
    · rw [setA_ne z]
      rw [List.getElem?_set_ne (Ne.symm z)] at hj ⊢
      exact it_keep hS (e.it j it' hj) fun a ha => (hk j a z ha).1
  · by_cases z : j = i
    · subst z; rw [setA_same]; split
      · exact nd
      · exact .nil
    · rw [setA_ne z]; exact e.nd j
  · by_cases zj : j = i
    · by_cases zk : k = i
      · rw [zj, zk]
      · subst zj
        rw [setA_same] at ha
        rw [setA_ne zk] at hb
        split at ha
        · exact absurd hb ((fresh a ha).2.2 k zk)
        · cases ha
    · by_cases zk : k = i
      · subst zk
        rw [setA_ne zj] at ha
        rw [setA_same] at hb
        split at hb
        · exact absurd ha ((fresh a hb).2.2 j zj)
        · cases hb
      · rw [setA_ne zj] at ha
        rw [setA_ne zk] at hb
        exact e.dj j k a ha hb
  · rw [List.length_set]
    by_cases zj : j = i
    · subst zj
      rw [setA_same] at ha
      split at ha
      · obtain ⟨f1, f2, _⟩ := fresh a ha
        exact ⟨by assumption, f1, f2⟩
      · cases ha
    · rw [setA_ne zj] at ha
      exact ⟨(e.fr j a ha).1, (hk j a zj ha).2, (e.fr j a ha).2.2⟩
theorem Env.put0 (e : Env K G S0 S H σ ds) (i : Nat) {it : It} {v : Option V} (r : ItR K S H it v []) : Env K G S0 S H (σ.set i v) (ds.set i it) :=
  let ⟨_, e⟩ := e; ⟨_, e.put i (Same.refl _) e.sh e.gh e.gs r .nil (fun j a _ ha => ⟨rfl, (e.fr j a ha).2.1⟩) fun a ha => by cases ha⟩
theorem Env.putD (e : Env K G S0 S H σ ds) (i : Nat) {d : D} {v : V} (r : Rp K S v d) : Env K G S0 S H (σ.set i (some v)) (ds.set i (.fz d)) := e.put0 i (.fz r)
theorem Env.put_no (e : Env K G S0 S H σ ds) (i : Nat) (v : Option V) : Env K G S0 S H (σ.set i v) (ds.set i .no) := e.put0 i (.no v)
/-- what is new since an earlier state, at one address -/
theorem Env.put1 (e : Env K G S0 S H σ ds) (g : Gr S H S' H') (i : Nat) {it : It} {p : Addr} (hp : H p = none) (hs : S' p = none) (r : ItR K S' H' it (some (.ref p)) [p]) : Env K G S0 S' H' (σ.set i (some (.ref p))) (ds.set i it) := by
  obtain ⟨A, e⟩ := e
  have e' := e.grow g
  refine ⟨_, e'.put i (Same.refl _) e'.sh e'.gh e'.gs r (by simp) (fun j a _ ha => ⟨rfl, (e'.fr j a ha).2.1⟩) fun a ha => ?_⟩
  rcases List.mem_singleton.mp ha with rfl
  exact ⟨hs, e.gh.free hp, fun j _ hj => e.own hj hp⟩
theorem Env.putL (e : Env K G S0 S H σ ds) (g : Gr S H S' H') (i : Nat) {xs : List D} {p : Addr} {vs : List V} (hp : H p = none) (h : H' p = some (.lst vs)) (hs : S' p = none) (r : RpA K S' vs xs) : Env K G S0 S' H' (σ.set i (some (.ref p))) (ds.set i (.ow xs)) :=
  e.put1 g i hp hs (.ow h r)
theorem set_get {α : Type} {l : List α} {i : Nat} {x : α} (h : l[i]? = some x) : l.set i x = l := by
  apply List.ext_getElem?
  intro j
  rw [List.getElem?_set]
  split
  · rename_i z; subst z
    split
    · exact h.symm
    · rename_i hn
      rw [List.getElem?_eq_none (by omega)]
  · rfl
/-- an owned list is frozen -/
theorem Env.freeze (e : Env K G S0 S H σ ds) {i : Nat} {xs : List D} (h : ds[i]? = some (.ow xs)) : ∃ S', Same S S' ∧ Env K G S0 S' H σ (ds.set i (.fz (.lst xs))) := by
  obtain ⟨A, e⟩ := e
  obtain ⟨p, vs, hv, ha, hp, sp, gp, da⟩ := e.ow h
  have k : Same S (upd S p (.lst vs)) := same_new sp
  have hne : ∀ j a, j ≠ i → a ∈ A j → a ≠ p := fun j a z hj q => z (e.dj j i a hj (by rw [ha, q]; exact List.mem_cons_self))
  have q := e.put (S' := upd S p (.lst vs)) (H' := H) i (it := .fz (.lst xs)) (v := some (.ref p)) k (fun b u q => by
      by_cases z : b = p
      · subst z; rw [upd_same] at q; cases q; exact hp
      · rw [upd_ne z] at q; exact e.sh _ _ q) e.gh (fun a ha => by rw [upd_ne (fun z => ha (by rw [z]; exact gp))]; exact e.gs a ha) (.fz (.lst upd_same (da_same k da))) .nil
    (fun j a z hj => ⟨rfl, by rw [upd_ne (hne j a z hj)]; exact (e.fr j a hj).2.1⟩) fun a ha => by cases ha
  rw [set_get hv] at q
  exact ⟨_, k, _, q⟩
/-- the owned list changes -/
theorem Env.mut (e : Env K G S0 S H σ ds) {i : Nat} {xs ys : List D} {p : Addr} {ws : List V} (h : ds[i]? = some (.ow xs)) (hv : σ[i]? = some (some (.ref p))) (r : RpA K S ws ys) : Env K G S0 S (upd H p (.lst ws)) σ (ds.set i (.ow ys)) := by
  obtain ⟨A, e⟩ := e
  obtain ⟨p', vs, hv', ha, hp, sp, gp, da⟩ := e.ow h
  rw [hv] at hv'; cases hv'
  have hne : ∀ j a, j ≠ i → a ∈ A j → a ≠ p := fun j a z hj q => z (e.dj j i a hj (by rw [ha, q]; exact List.mem_cons_self))
  have q := e.put (S' := S) (H' := upd H p (.lst ws)) i (it := .ow ys) (v := some (.ref p)) (Same.refl _) (fun b u q => by
      rw [upd_ne (fun z => by subst z; rw [sp] at q; cases q)]; exact e.sh _ _ q) (fun b u q => by rw [upd_ne (fun z => by subst z; rw [gp] at q; cases q)]; exact e.gh _ _ q) e.gs (.ow upd_same r) (by simp)
    (fun j a z hj => ⟨upd_ne (hne j a z hj), (e.fr j a hj).2.1⟩) fun a ha' => by
      rcases List.mem_singleton.mp ha' with rfl
      exact ⟨sp, gp, fun j z hj => hne j _ z hj rfl⟩
  rw [set_get hv] at q
  exact ⟨_, q⟩
/-- the owned dict changes -/
theorem Env.mutK (e : Env K G S0 S H σ ds) {i : Nat} {xs ys : List (Int × D)} {p : Addr} {ws : List (Key × V)} (h : ds[i]? = some (.dk xs)) (hv : σ[i]? = some (some (.ref p))) (r : DkR K S ys ws) : Env K G S0 S (upd H p (.dK ws)) σ (ds.set i (.dk ys)) := by
  obtain ⟨A, e⟩ := e
  obtain ⟨p', vs, hv', ha, hp, sp, gp, da⟩ := e.dk h
  rw [hv] at hv'; cases hv'
  have hne : ∀ j a, j ≠ i → a ∈ A j → a ≠ p := fun j a z hj q => z (e.dj j i a hj (by rw [ha, q]; exact List.mem_cons_self))
  have q := e.put (S' := S) (H' := upd H p (.dK ws)) i (it := .dk ys) (v := some (.ref p)) (Same.refl _) (fun b u q => by
      rw [upd_ne (fun z => by subst z; rw [sp] at q; cases q)]; exact e.sh _ _ q) (fun b u q => by rw [upd_ne (fun z => by subst z; rw [gp] at q; cases q)]; exact e.gh _ _ q) e.gs (.dk upd_same r) (by simp)
    (fun j a z hj => ⟨upd_ne (hne j a z hj), (e.fr j a hj).2.1⟩) fun a ha' => by
      rcases List.mem_singleton.mp ha' with rfl
      exact ⟨sp, gp, fun j z hj => hne j _ z hj rfl⟩
  rw [set_get hv] at q
  exact ⟨_, q⟩
end
end Lay
/-! Lay2: what an expression gives. -/
namespace Lay
open PySem L2
section
variable {X : Cx} {e a b c : Expr} {ds : List It} {pos : Pos}
/-! ### the weakest readings -/
def wE (X : Cx) (e : Expr) : TE := fun σ H Q => ∀ pins s, Inv X pins σ H s → wpAny (model X.prog X.w) X.A (eval e X.env) (EP X pins σ Q) X.xe s
theorem pe_w : PE X e (wE X e) := ⟨fun pins s _ _ _ I h => h pins s I⟩
def wT (X : Cx) (e : Expr) : TT := fun σ H Q => ∀ pins s, Inv X pins σ H s → wpAny (model X.prog X.w) X.A (isTrue e X.env (eval e X.env)) (TP X pins σ Q) X.xe s
theorem pt_w : PT X e (wT X e) := ⟨fun pins s _ _ _ I h => h pins s I⟩
def wW (X : Cx) (e : Expr) : TT := fun σ H Q => ∀ whole pins s, Inv X pins σ H s → wpAny (model X.prog X.w) X.A (isTrue e X.env whole) (TP X pins σ Q) X.xe s
theorem pw_w : PW X e (wW X e) := ⟨fun whole pins s _ _ _ I h => h whole pins s I⟩
def wA (X : Cx) (es : List Expr) : TA := fun σ H Q => ∀ pos pins s, Inv X pins σ H s → wpAny (model X.prog X.w) X.A (spliced (backTo pos (starEach es X.env))) (AP X pins σ Q) X.xe s
theorem pa_w {es : List Expr} : PA X es (wA X es) := ⟨fun pos pins s _ _ _ I h => h pos pins s I⟩

/-- to be read: frozen, or a list of the frame's own -/
def Rb (K : Fg) (S H : Hp) (v : V) (d : D) : Prop := Rp K S v d ∨ ∃ p vs xs, v = .ref p ∧ d = .lst xs ∧ H p = some (.lst vs) ∧ RpA K S vs xs
theorem Rb.gr {K : Fg} {S H S' H' : Hp} {v : V} {d : D} (h : Rb K S H v d) (g : Gr S H S' H') : Rb K S' H' v d := by
  rcases h with h | ⟨p, vs, xs, rfl, rfl, h, r⟩
  · exact .inl (dp_same g.s h)
  · exact .inr ⟨p, vs, xs, rfl, rfl, g.h _ _ h, da_same g.s r⟩
theorem Rb.int {K : Fg} {S H : Hp} {v : V} {i : Int} (h : Rb K S H v (.int i)) : v = .int i := by
  rcases h with h | ⟨p, vs, xs, rfl, z, _⟩
  · cases h; rfl
  · cases z
theorem Rb.bl {K : Fg} {S H : Hp} {v : V} {i : Bool} (h : Rb K S H v (.bl i)) : v = .bl i := by
  rcases h with h | ⟨p, vs, xs, rfl, z, _⟩
  · cases h; rfl
  · cases z
theorem Rb.str {K : Fg} {S H : Hp} {v : V} {i : Str} (h : Rb K S H v (.str i)) : v = .str i := by
  rcases h with h | ⟨p, vs, xs, rfl, z, _⟩
  · cases h; rfl
  · cases z
theorem Rb.non {K : Fg} {S H : Hp} {v : V} (h : Rb K S H v .non) : v = .non := by
  rcases h with h | ⟨p, vs, xs, rfl, z, _⟩
  · cases h; rfl
  · cases z
theorem Rb.lst {K : Fg} {S H : Hp} {v : V} {xs : List D} (h : Rb K S H v (.lst xs)) (k : Same S H) : ∃ p vs, v = .ref p ∧ H p = some (.lst vs) ∧ RpA K S vs xs := by
  rcases h with h | ⟨p, vs, xs, rfl, z, h1, h2⟩
  · cases h with
    | lst h a => exact ⟨_, _, rfl, k _ _ h, a⟩
  · cases z; exact ⟨p, vs, rfl, h1, h2⟩
theorem Rb.tup {K : Fg} {S H : Hp} {v : V} {xs : List D} (h : Rb K S H v (.tup xs)) : ∃ p vs, v = .ref p ∧ S p = some (.tup vs) ∧ RpA K S vs xs := by
  rcases h with h | ⟨p, vs, xs, rfl, z, _⟩
  · cases h with
    | tup h a => exact ⟨_, _, rfl, h, a⟩
  · cases z
theorem Rb.scr {K : Fg} {S H : Hp} {v : V} {ns : List Int} (h : Rb K S H v (.scr ns)) (k : Same S H) : ∃ p, v = .ref p ∧ SqL K H p (ns.map V.int) := by
  rcases h with h | ⟨p, vs, xs, rfl, z, _⟩
  · cases h with
    | scr h => exact ⟨_, rfl, same_l k h⟩
  · cases z
theorem sq_of {K : Fg} {H : Hp} {p : Addr} {vs : List V} (h : H p = some (.lst vs)) : SqL K H p vs := .inl (.inl h)
theorem st_of {K : Fg} {H : Hp} {p : Addr} {vs : List V} (h : H p = some (.tup vs)) : SqT K H p vs := .inl (.inl h)

/-! ### the judgements -/
/-- gives the data d, which stays as it is -/
structure XV (X : Cx) (e : Expr) (ds : List It) (d : D) : Prop where
  mk ::
  run : ∀ G S0 S H σ, Env X.K G S0 S H σ ds → ∀ Q : VK, (∀ v S' H', Gr S H S' H' → Rp X.K S' v d → Q v H') → wE X e σ H Q
instance {X : Cx} {e : Expr} {ds : List It} {d : D} : CoeFun (XV X e ds d) (fun _ => ∀ G S0 S H σ, Env X.K G S0 S H σ ds → ∀ Q : VK, (∀ v S' H', Gr S H S' H' → Rp X.K S' v d → Q v H') → wE X e σ H Q) := ⟨XV.run⟩
/-- gives d, to be read at once -/
structure XB (X : Cx) (e : Expr) (ds : List It) (d : D) : Prop where
  mk ::
  run : ∀ G S0 S H σ, Env X.K G S0 S H σ ds → ∀ Q : VK, (∀ v S' H', Gr S H S' H' → Rb X.K S' H' v d → Q v H') → wE X e σ H Q
instance {X : Cx} {e : Expr} {ds : List It} {d : D} : CoeFun (XB X e ds d) (fun _ => ∀ G S0 S H σ, Env X.K G S0 S H σ ds → ∀ Q : VK, (∀ v S' H', Gr S H S' H' → Rb X.K S' H' v d → Q v H') → wE X e σ H Q) := ⟨XB.run⟩
/-- gives a new list -/
structure XL (X : Cx) (e : Expr) (ds : List It) (xs : List D) : Prop where
  mk ::
  run : ∀ G S0 S H σ, Env X.K G S0 S H σ ds → ∀ Q : VK, (∀ p vs S' H', Gr S H S' H' → H p = none → S' p = none → H' p = some (.lst vs) → RpA X.K S' vs xs → Q (.ref p) H') → wE X e σ H Q
instance {X : Cx} {e : Expr} {ds : List It} {xs : List D} : CoeFun (XL X e ds xs) (fun _ => ∀ G S0 S H σ, Env X.K G S0 S H σ ds → ∀ Q : VK, (∀ p vs S' H', Gr S H S' H' → H p = none → S' p = none → H' p = some (.lst vs) → RpA X.K S' vs xs → Q (.ref p) H') → wE X e σ H Q) := ⟨XL.run⟩
/-- raises an exception of the class at c -/
structure XR (X : Cx) (W : WX) (e : Expr) (ds : List It) (c : Addr) : Prop where
  mk ::
  run : ∀ G S0 S H σ, Env X.K G S0 S H σ ds → (∀ S' H', Gr S H S' H' → W (.ref c) none σ H') → ∀ Q, wE X e σ H Q
instance {X : Cx} {W : WX} {e : Expr} {ds : List It} {c : Addr} : CoeFun (XR X W e ds c) (fun _ => ∀ G S0 S H σ, Env X.K G S0 S H σ ds → (∀ S' H', Gr S H S' H' → W (.ref c) none σ H') → ∀ Q, wE X e σ H Q) := ⟨XR.run⟩
structure XT (X : Cx) (e : Expr) (ds : List It) (k : Bool) : Prop where
  mk ::
  run : ∀ G S0 S H σ, Env X.K G S0 S H σ ds → ∀ Q : Bool → Hp → Prop, (∀ S' H', Gr S H S' H' → Q k H') → wT X e σ H Q
instance {X : Cx} {e : Expr} {ds : List It} {k : Bool} : CoeFun (XT X e ds k) (fun _ => ∀ G S0 S H σ, Env X.K G S0 S H σ ds → ∀ Q : Bool → Hp → Prop, (∀ S' H', Gr S H S' H' → Q k H') → wT X e σ H Q) := ⟨XT.run⟩
structure XW (X : Cx) (e : Expr) (ds : List It) (k : Bool) : Prop where
  mk ::
  run : ∀ G S0 S H σ, Env X.K G S0 S H σ ds → ∀ Q : Bool → Hp → Prop, (∀ S' H', Gr S H S' H' → Q k H') → wW X e σ H Q
instance {X : Cx} {e : Expr} {ds : List It} {k : Bool} : CoeFun (XW X e ds k) (fun _ => ∀ G S0 S H σ, Env X.K G S0 S H σ ds → ∀ Q : Bool → Hp → Prop, (∀ S' H', Gr S H S' H' → Q k H') → wW X e σ H Q) := ⟨XW.run⟩
structure XA (X : Cx) (es : List Expr) (ds : List It) (ys : List D) : Prop where
  mk ::
  run : ∀ G S0 S H σ, Env X.K G S0 S H σ ds → ∀ Q : List V → Hp → Prop, (∀ vs S' H', Gr S H S' H' → RpA X.K S' vs ys → Q vs H') → wA X es σ H Q
instance {X : Cx} {es : List Expr} {ds : List It} {ys : List D} : CoeFun (XA X es ds ys) (fun _ => ∀ G S0 S H σ, Env X.K G S0 S H σ ds → ∀ Q : List V → Hp → Prop, (∀ vs S' H', Gr S H S' H' → RpA X.K S' vs ys → Q vs H') → wA X es σ H Q) := ⟨XA.run⟩
/-- arguments that are read at once -/
inductive RbA (K : Fg) (S H : Hp) : List V → List D → Prop where
  | nil : RbA K S H [] []
  | cons {v : V} {d : D} {vs : List V} {ds : List D} : Rb K S H v d → RbA K S H vs ds → RbA K S H (v :: vs) (d :: ds)
theorem RbA.gr {K : Fg} {S H S' H' : Hp} (g : Gr S H S' H') : ∀ {vs : List V} {ds : List D}, RbA K S H vs ds → RbA K S' H' vs ds
  | _, _, .nil => .nil
  | _, _, .cons h t => .cons (h.gr g) (t.gr g)
structure XAB (X : Cx) (es : List Expr) (ds : List It) (ys : List D) : Prop where
  mk ::
  run : ∀ G S0 S H σ, Env X.K G S0 S H σ ds → ∀ Q : List V → Hp → Prop, (∀ vs S' H', Gr S H S' H' → RbA X.K S' H' vs ys → Q vs H') → wA X es σ H Q
instance {X : Cx} {es : List Expr} {ds : List It} {ys : List D} : CoeFun (XAB X es ds ys) (fun _ => ∀ G S0 S H σ, Env X.K G S0 S H σ ds → ∀ Q : List V → Hp → Prop, (∀ vs S' H', Gr S H S' H' → RbA X.K S' H' vs ys → Q vs H') → wA X es σ H Q) := ⟨XAB.run⟩

theorem XV.br {d : D} (h : XV X e ds d) : XB X e ds d := .mk fun G S0 S H σ E Q q => h G S0 S H σ E Q fun v S' H' g r => q v S' H' g (.inl r)
theorem XL.br {xs : List D} (h : XL X e ds xs) : XB X e ds (.lst xs) := .mk fun G S0 S H σ E Q q => h G S0 S H σ E Q fun p vs S' H' g _ _ r a => q _ S' H' g (.inr ⟨p, vs, xs, rfl, rfl, r, a⟩)
theorem XL.v {xs : List D} (h : XL X e ds xs) : XV X e ds (.lst xs) := .mk fun G S0 S H σ E Q q => h G S0 S H σ E Q fun p vs S' H' g hp sp r a =>
  q _ _ H' (g.freeze hp r sp) (.lst upd_same (da_same (same_new sp) a))

theorem we_of {te : TE} (h : PE X e te) {σ : St} {H : Hp} {Q : VK} (q : te σ H Q) : wE X e σ H Q := fun pins s I => h.run pins s σ H Q I q
theorem wt_of {te : TT} (h : PT X e te) {σ : St} {H : Hp} {Q : Bool → Hp → Prop} (q : te σ H Q) : wT X e σ H Q := fun pins s I => h.run pins s σ H Q I q
theorem ww_of {te : TT} (h : PW X e te) {σ : St} {H : Hp} {Q : Bool → Hp → Prop} (q : te σ H Q) : wW X e σ H Q := fun whole pins s I => h.run whole pins s σ H Q I q
theorem wa_of {es : List Expr} {te : TA} (h : PA X es te) {σ : St} {H : Hp} {Q : List V → Hp → Prop} (q : te σ H Q) : wA X es σ H Q := fun pos pins s I => h.run pos pins s σ H Q I q

/-! ### names and constants -/
theorem xv_var (i : Nat) {x : Str} {d : D} (hd : ds[i]? = some (.fz d) := by rfl) (hN : X.N[i]? = some x := by rfl) (hv : Vis X.env.scope x := by first | exact Or.inl rfl | exact Or.inr (Or.inl rfl) | exact Or.inr (Or.inr rfl)) (h1 : (x == ("__debug__" : Str)) = false := by decide)
    (h2 : (x == ("__classdict__" : Str)) = false := by decide) : XV X (.Name x pos) ds d := .mk fun G S0 S H σ E Q q => by
  obtain ⟨v, hv', r⟩ := E.fz hd
  exact we_of (pe_var (i := i) hN hv h1 h2) ⟨v, hv', q v S H E.gr r⟩
theorem xb_own (i : Nat) {x : Str} {xs : List D} (hd : ds[i]? = some (.ow xs) := by rfl) (hN : X.N[i]? = some x := by rfl) (hv : Vis X.env.scope x := by first | exact Or.inl rfl | exact Or.inr (Or.inl rfl) | exact Or.inr (Or.inr rfl)) (h1 : (x == ("__debug__" : Str)) = false := by decide)
    (h2 : (x == ("__classdict__" : Str)) = false := by decide) : XB X (.Name x pos) ds (.lst xs) := .mk fun G S0 S H σ E Q q => by
  obtain ⟨p, vs, hv', hp, _, _, r⟩ := E.ow hd
  exact we_of (pe_var (i := i) hN hv h1 h2) ⟨.ref p, hv', q _ S H E.gr (.inr ⟨p, vs, xs, rfl, rfl, hp, r⟩)⟩
theorem xv_int {i : Int} {j} : XV X (.Constant (.int i) j pos) ds (.int i) := .mk fun G S0 S H σ E Q q => we_of pe_int (q _ S H E.gr (.int i))
theorem xv_bl {k : Bool} {j} : XV X (.Constant (.bool k) j pos) ds (.bl k) := .mk fun G S0 S H σ E Q q => we_of pe_bl (q _ S H E.gr (.bl k))
theorem xv_non {j} : XV X (.Constant .none j pos) ds .non := .mk fun G S0 S H σ E Q q => we_of pe_non (q _ S H E.gr .non)
theorem xv_str {x : Str} {j} : XV X (.Constant (.str x) j pos) ds (.str x) := .mk fun G S0 S H σ E Q q => we_of pe_str (q _ S H E.gr (.str x))
/-- a module's whole number -/
theorem xv_glob {x : Str} {i : Int} (hm : ∃ t, X.mg x = some (.int i t)) (hg : Gl X x := by rfl) (hd : (x == ("__debug__" : Str)) = false := by decide) : XV X (.Name x pos) ds (.int i) := .mk fun G S0 S H σ E Q q => by
  obtain ⟨t, hm⟩ := hm
  exact we_of (pe_glob (v := .int i) hg hm ⟨t, rfl⟩ hd) (q _ S H E.gr (.int i))

/-! ### two operands -/
theorem two {A B : D} (ha : XB X a ds A) (hb : XB X b ds B) {G S0 S H : Hp} {σ : St} (E : Env X.K G S0 S H σ ds) {R : V → V → Hp → Prop}
    (q : ∀ x y S' H', Gr S H S' H' → Rb X.K S' H' x A → Rb X.K S' H' y B → R x y H') : wE X a σ H fun x H1 => wE X b σ H1 fun y H2 => R x y H2 :=
  ha G S0 S H σ E _ fun x S1 H1 g1 r1 => hb G S0 S1 H1 σ (E.grow g1) _ fun y S2 H2 g2 r2 => q x y S2 H2 (g1.trans g2) (r1.gr g2) r2
theorem xv_bin {op : Operator} {r : R2} {A B d : D} (ho : OpR X (binaryOp op) r) (ha : XB X a ds A) (hb : XB X b ds B)
    (hr : ∀ (S H : Hp) x y (Q : VK), Same S H → Rb X.K S H x A → Rb X.K S H y B → (∀ v S' H', Gr S H S' H' → Rp X.K S' v d → Q v H') → r x y H Q) : XV X (.BinOp a op b pos) ds d := .mk fun G S0 S H σ E Q q =>
  we_of (pe_op ho pe_w pe_w) (two ha hb E fun x y S' H' g r1 r2 => hr S' H' x y Q g.sh r1 r2 fun v S2 H2 g2 r => q v S2 H2 (g.trans g2) r)
theorem xl_bin {op : Operator} {r : R2} {A B : D} {xs : List D} (ho : OpR X (binaryOp op) r) (ha : XB X a ds A) (hb : XB X b ds B)
    (hr : ∀ (S H : Hp) x y (Q : VK), Same S H → Rb X.K S H x A → Rb X.K S H y B → (∀ p vs S' H', Gr S H S' H' → H p = none → S' p = none → H' p = some (.lst vs) → RpA X.K S' vs xs → Q (.ref p) H') → r x y H Q) : XL X (.BinOp a op b pos) ds xs := .mk fun G S0 S H σ E Q q =>
  we_of (pe_op ho pe_w pe_w) (two ha hb E fun x y S' H' g r1 r2 => hr S' H' x y Q g.sh r1 r2 fun p vs S2 H2 g2 h1 h2 h3 h4 => q p vs S2 H2 (g.trans g2) (g.h.free h1) h2 h3 h4)
theorem xv_cmp {op : CmpOp} {r : R2} {A B : D} {k : Bool} (ho : OpR X (compareOp op) r) (ha : XB X a ds A) (hb : XB X b ds B) (hm : behindInMarks op b = false)
    (hr : ∀ (S H : Hp) x y (Q : VK), Same S H → Rb X.K S H x A → Rb X.K S H y B → Q (.bl k) H → r x y H Q) : XV X (.Compare a [op] [b] pos) ds (.bl k) := .mk fun G S0 S H σ E Q q =>
  we_of (pe_cmpR ho pe_w pe_w hm) (two ha hb E fun x y S' H' g r1 r2 => hr S' H' x y Q g.sh r1 r2 (q _ S' H' g (.bl k)))
theorem xt_cmp {op : CmpOp} {r : R2} {A B : D} {k : Bool} (ho : OpR X (compareOp op) r) (ha : XB X a ds A) (hb : XB X b ds B) (hm : behindInMarks op b = false)
    (hr : ∀ (S H : Hp) x y (Q : VK), Same S H → Rb X.K S H x A → Rb X.K S H y B → Q (.bl k) H → r x y H Q) : XT X (.Compare a [op] [b] pos) ds k := .mk fun G S0 S H σ E Q q =>
  wt_of (pt_cmpR ho pe_w pe_w hm) (two ha hb E fun x y S' H' g r1 r2 => hr S' H' x y _ g.sh r1 r2 ⟨k, rfl, q S' H' g⟩)

/-! ### arithmetic -/
theorem same_gr {S H : Hp} (h : Same S H) : Gr S H S H := Gr.refl h
variable {i j : Int}
theorem xv_add (ha : XB X a ds (.int i)) (hb : XB X b ds (.int j)) : XV X (.BinOp a .Add b pos) ds (.int (i + j)) :=
  xv_bin op_add ha hb fun S H x y Q k r1 r2 q => ⟨i, j, r1.int, r2.int, q _ S H (.refl k) (.int _)⟩
theorem xv_sub (ha : XB X a ds (.int i)) (hb : XB X b ds (.int j)) : XV X (.BinOp a .Sub b pos) ds (.int (i - j)) :=
  xv_bin op_sub ha hb fun S H x y Q k r1 r2 q => ⟨i, j, r1.int, r2.int, q _ S H (.refl k) (.int _)⟩
theorem xv_mul (ha : XB X a ds (.int i)) (hb : XB X b ds (.int j)) (hc : CMul i j) : XV X (.BinOp a .Mult b pos) ds (.int (i * j)) :=
  xv_bin op_mul ha hb fun S H x y Q k r1 r2 q => ⟨i, j, r1.int, r2.int, hc, q _ S H (.refl k) (.int _)⟩
/-- a positive divisor -/
theorem xv_mod (ha : XB X a ds (.int i)) (hb : XB X b ds (.int j)) (hc : 0 < j) : XV X (.BinOp a .Mod b pos) ds (.int (i % j)) :=
  xv_bin op_mod ha hb fun S H x y Q k r1 r2 q => ⟨i, j, r1.int, r2.int, hc, q _ S H (.refl k) (.int _)⟩
theorem xv_div (ha : XB X a ds (.int i)) (hb : XB X b ds (.int j)) (hc : CDiv i j) : XV X (.BinOp a .FloorDiv b pos) ds (.int (i / j)) :=
  xv_bin op_fdiv ha hb fun S H x y Q k r1 r2 q => ⟨i, j, r1.int, r2.int, hc, q _ S H (.refl k) (.int _)⟩
theorem xv_neg (ha : XB X a ds (.int i)) : XV X (.UnaryOp .USub a pos) ds (.int (-i)) := .mk fun G S0 S H σ E Q q =>
  we_of (pe_un un_neg pe_w) (ha G S0 S H σ E _ fun x S' H' g r => ⟨i, r.int, q _ S' H' g (.int _)⟩)

/-! ### lists and tuples by operators -/
theorem sz (n : Nat) (h : n ≤ 100000) : n ≤ sizeLine := Nat.le_trans h (by decide)
theorem szlt (n : Nat) (h : n < 100000) : n < sizeLine := Nat.lt_of_lt_of_le h (by decide)
theorem xl_cat {xs ys : List D} (ha : XB X a ds (.lst xs)) (hb : XB X b ds (.lst ys)) (hz : xs.length + ys.length ≤ 100000) : XL X (.BinOp a .Add b pos) ds (xs ++ ys) :=
  xl_bin op_cat ha hb fun S H x y Q k r1 r2 q => by
    obtain ⟨p, vs, rfl, hp, ra⟩ := r1.lst k
    obtain ⟨p', vs', rfl, hp', rb⟩ := r2.lst k
    exact ⟨p, p', vs, vs', rfl, rfl, hp, hp', sz _ (by rw [da_len ra, da_len rb]; exact hz), fun n hn => q n (vs ++ vs') S _ (Gr.newH k hn) hn (k.free hn) upd_same (da_append ra rb)⟩
theorem da_rep {K : Fg} {S : Hp} {vs : List V} {xs : List D} (r : RpA K S vs xs) : ∀ n : Nat, RpA K S (List.replicate n vs).flatten (List.replicate n xs).flatten
  | 0 => .nil
  | n + 1 => by rw [List.replicate_succ, List.replicate_succ, List.flatten_cons, List.flatten_cons]; exact da_append r (da_rep r n)

/-! ### comparisons of whole numbers -/
theorem xv_lt (ha : XB X a ds (.int i)) (hb : XB X b ds (.int j)) : XV X (.Compare a [.Lt] [b] pos) ds (.bl (decide (i < j))) := xv_cmp op_lt ha hb (nomark _) fun S H x y Q k r1 r2 q => ⟨i, j, r1.int, r2.int, q⟩
theorem xv_le (ha : XB X a ds (.int i)) (hb : XB X b ds (.int j)) : XV X (.Compare a [.LtE] [b] pos) ds (.bl (decide (i ≤ j))) := xv_cmp op_le ha hb (nomark _) fun S H x y Q k r1 r2 q => ⟨i, j, r1.int, r2.int, q⟩
theorem xv_gt (ha : XB X a ds (.int i)) (hb : XB X b ds (.int j)) : XV X (.Compare a [.Gt] [b] pos) ds (.bl (decide (j < i))) := xv_cmp op_gt ha hb (nomark _) fun S H x y Q k r1 r2 q => ⟨i, j, r1.int, r2.int, q⟩
theorem xv_ge (ha : XB X a ds (.int i)) (hb : XB X b ds (.int j)) : XV X (.Compare a [.GtE] [b] pos) ds (.bl (decide (j ≤ i))) := xv_cmp op_ge ha hb (nomark _) fun S H x y Q k r1 r2 q => ⟨i, j, r1.int, r2.int, q⟩
theorem xt_lt (ha : XB X a ds (.int i)) (hb : XB X b ds (.int j)) : XT X (.Compare a [.Lt] [b] pos) ds (decide (i < j)) := xt_cmp op_lt ha hb (nomark _) fun S H x y Q k r1 r2 q => ⟨i, j, r1.int, r2.int, q⟩
theorem xt_le (ha : XB X a ds (.int i)) (hb : XB X b ds (.int j)) : XT X (.Compare a [.LtE] [b] pos) ds (decide (i ≤ j)) := xt_cmp op_le ha hb (nomark _) fun S H x y Q k r1 r2 q => ⟨i, j, r1.int, r2.int, q⟩
theorem xt_gt (ha : XB X a ds (.int i)) (hb : XB X b ds (.int j)) : XT X (.Compare a [.Gt] [b] pos) ds (decide (j < i)) := xt_cmp op_gt ha hb (nomark _) fun S H x y Q k r1 r2 q => ⟨i, j, r1.int, r2.int, q⟩
theorem xt_ge (ha : XB X a ds (.int i)) (hb : XB X b ds (.int j)) : XT X (.Compare a [.GtE] [b] pos) ds (decide (j ≤ i)) := xt_cmp op_ge ha hb (nomark _) fun S H x y Q k r1 r2 q => ⟨i, j, r1.int, r2.int, q⟩
/-- a chain of two -/
def cmpI : CmpOp → Int → Int → Bool
  | .Lt, i, j => decide (i < j)
  | .LtE, i, j => decide (i ≤ j)
  | .Gt, i, j => decide (j < i)
  | .GtE, i, j => decide (j ≤ i)
  | _, _, _ => false
def ordOp : CmpOp → Bool
  | .Lt => true
  | .LtE => true
  | .Gt => true
  | .GtE => true
  | _ => false
theorem op_ord {op : CmpOp} (h : ordOp op = true) : OpR X (compareOp op) (rI0 fun i j => .bl (cmpI op i j)) := by
  cases op <;> first | exact op_lt | exact op_le | exact op_gt | exact op_ge | cases h
theorem chain {l : Int} {op op' : CmpOp} (ha : XB X a ds (.int i)) (hb : XB X b ds (.int j)) (hc : XB X c ds (.int l)) {G S0 S H : Hp} {σ : St} (E : Env X.K G S0 S H σ ds) {Q : VK}
    (q : ∀ S' H', Gr S H S' H' → Q (.bl (cmpI op i j && cmpI op' j l)) H') : tChain (rI0 fun i j => .bl (cmpI op i j)) (rI0 fun i j => .bl (cmpI op' i j)) (wE X a) (wE X b) (wE X c) σ H Q :=
  two ha hb E fun x y S' H' g r1 r2 => ⟨i, j, r1.int, r2.int, cmpI op i j, rfl, by
    cases e : cmpI op i j with
    | false =>
      rw [if_neg Bool.false_ne_true]
      rw [e] at q
      exact q S' H' g
    | true =>
      rw [if_pos rfl]
      rw [e] at q
      exact hc G S0 S' H' σ (E.grow g) _ fun z S2 H2 g2 r3 => ⟨j, l, r2.int, r3.int, q S2 H2 (g.trans g2)⟩⟩
theorem xv_chain {l : Int} {op op' : CmpOp} (ha : XB X a ds (.int i)) (hb : XB X b ds (.int j)) (hc : XB X c ds (.int l)) (h1 : ordOp op = true := by rfl) (h2 : ordOp op' = true := by rfl) (hm : lastMarks [op, op'] [b, c] = false := by with_unfolding_all rfl) :
    XV X (.Compare a [op, op'] [b, c] pos) ds (.bl (cmpI op i j && cmpI op' j l)) := .mk fun G S0 S H σ E Q q =>
  we_of (pe_chain (op_ord h1) (op_ord h2) pe_w pe_w pe_w hm) (chain ha hb hc E fun S' H' g => q _ S' H' g (.bl _))
theorem xt_chain {l : Int} {op op' : CmpOp} (ha : XB X a ds (.int i)) (hb : XB X b ds (.int j)) (hc : XB X c ds (.int l)) (h1 : ordOp op = true := by rfl) (h2 : ordOp op' = true := by rfl) (hm : lastMarks [op, op'] [b, c] = false := by with_unfolding_all rfl) :
    XT X (.Compare a [op, op'] [b, c] pos) ds (cmpI op i j && cmpI op' j l) := .mk fun G S0 S H σ E Q q =>
  wt_of (pt_chain (op_ord h1) (op_ord h2) pe_w pe_w pe_w hm) (chain ha hb hc E fun S' H' g => ⟨_, rfl, q S' H' g⟩)

/-! ### tests -/
theorem xt_val {k : Bool} (h : XV X e ds (.bl k)) (he : ∀ whole, isTrue e X.env whole = (do let v ← whole; standAt e.pos; holding [v] (truthy v)) := by intro _; rfl) : XT X e ds k := .mk fun G S0 S H σ E Q q =>
  wt_of (pt_val pe_w he) (h G S0 S H σ E _ fun v S' H' g r => by cases r; exact ⟨k, rfl, q S' H' g⟩)
/-- the truth of data -/
def truD : D → Option Bool
  | .non => some false
  | .bl b => some b
  | .int i => some (i != 0)
  | .lst xs => some (!xs.isEmpty)
  | .tup xs => some (!xs.isEmpty)
  | .scr xs => some (!xs.isEmpty)
  | _ => none
theorem da_empty {K : Fg} {S : Hp} {vs : List V} {xs : List D} (h : RpA K S vs xs) : vs.isEmpty = xs.isEmpty := by cases h <;> rfl
theorem xt_truth {A : D} {k : Bool} (h : XB X e ds A) (hk : truD A = some k := by rfl) (he : ∀ whole, isTrue e X.env whole = (do let v ← whole; standAt e.pos; holding [v] (truthy v)) := by intro _; rfl) : XT X e ds k := .mk fun G S0 S H σ E Q q =>
  wt_of (pt_truth pe_w he) (h G S0 S H σ E _ fun v S' H' g r => by
    refine ⟨k, ?_, q S' H' g⟩
    cases A with
    | non => cases hk; rw [r.non]; rfl
    | bl b => cases hk; rw [r.bl]; rfl
    | int b => cases hk; rw [r.int]; rfl
    | str b => cases hk
    | exc b => cases hk
    | ins b => cases hk
    | lst xs =>
      obtain ⟨p, vs, rfl, hp, ra⟩ := r.lst g.sh
      cases hk
      exact .inl ⟨vs, sq_of hp, by rw [da_empty ra]⟩
    | tup xs =>
      obtain ⟨p, vs, rfl, hp, ra⟩ := r.tup
      cases hk
      exact .inr (.inl ⟨vs, st_of (g.sh _ _ hp), by rw [da_empty ra]⟩)
    | scr xs =>
      obtain ⟨p, rfl, hp⟩ := r.scr g.sh
      cases hk
      exact .inl ⟨_, hp, by cases xs <;> rfl⟩)
theorem XW.t {k : Bool} (h : XW X e ds k) : XT X e ds k := .mk fun G S0 S H σ E Q q => wt_of pw_w.pt (h G S0 S H σ E Q q)
section
variable {rest : List Expr} {k l : Bool}
theorem xw_and1 {op} (h : XT X a ds k) (ho : op = .And ∨ op = .Or := by first | exact Or.inl rfl | exact Or.inr rfl) : XW X (.BoolOp op [a] pos) ds k := .mk fun G S0 S H σ E Q q => by
  rcases ho with rfl | rfl
  · exact ww_of (pw_and1 pt_w) (h G S0 S H σ E Q q)
  · exact ww_of (pw_or1 pt_w) (h G S0 S H σ E Q q)
/-- the right part is asked only if the left is true -/
theorem xw_and (ha : XT X a ds k) (hb : k = true → XW X (.BoolOp .And (b :: rest) pos) ds l) : XW X (.BoolOp .And (a :: b :: rest) pos) ds (k && l) := .mk fun G S0 S H σ E Q q =>
  ww_of (pw_and pt_w pw_w) (ha G S0 S H σ E _ fun S' H' g => by
    cases k with
    | false => rw [if_neg Bool.false_ne_true]; exact q S' H' g
    | true => rw [if_pos rfl]; exact hb rfl G S0 S' H' σ (E.grow g) _ fun S2 H2 g2 => q S2 H2 (g.trans g2))
theorem xw_or (ha : XT X a ds k) (hb : k = false → XW X (.BoolOp .Or (b :: rest) pos) ds l) : XW X (.BoolOp .Or (a :: b :: rest) pos) ds (k || l) := .mk fun G S0 S H σ E Q q =>
  ww_of (pw_or pt_w pw_w) (ha G S0 S H σ E _ fun S' H' g => by
    cases k with
    | true => rw [if_pos rfl]; exact q S' H' g
    | false => rw [if_neg Bool.false_ne_true]; exact hb rfl G S0 S' H' σ (E.grow g) _ fun S2 H2 g2 => q S2 H2 (g.trans g2))
theorem xt_not (h : XT X a ds k) : XT X (.UnaryOp .Not a pos) ds (!k) := .mk fun G S0 S H σ E Q q => wt_of (pt_not pt_w) (h G S0 S H σ E _ q)
theorem xv_not (h : XV X a ds (.bl k)) : XV X (.UnaryOp .Not a pos) ds (.bl (!k)) := .mk fun G S0 S H σ E Q q => we_of (pe_not pe_w) (h G S0 S H σ E _ fun v S' H' g r => by cases r; exact ⟨k, rfl, q _ S' H' g (.bl _)⟩)
theorem xv_one {op} {d : D} (h : XV X a ds d) : XV X (.BoolOp op [a] pos) ds d := .mk fun G S0 S H σ E Q q => we_of (pe_one pe_w) (h G S0 S H σ E _ q)
theorem xv_and (ha : XV X a ds (.bl k)) (hb : k = true → XV X (.BoolOp .And (b :: rest) pos) ds (.bl l)) : XV X (.BoolOp .And (a :: b :: rest) pos) ds (.bl (k && l)) := .mk fun G S0 S H σ E Q q =>
  we_of (pe_and pe_w pe_w) (ha G S0 S H σ E _ fun v S' H' g r => by
    cases r
    refine ⟨k, rfl, ?_⟩
    cases k with
    | false => rw [if_neg Bool.false_ne_true]; exact q _ S' H' g (.bl _)
    | true => rw [if_pos rfl]; exact hb rfl G S0 S' H' σ (E.grow g) _ fun v S2 H2 g2 r => q v S2 H2 (g.trans g2) r)
theorem xv_or (ha : XV X a ds (.bl k)) (hb : k = false → XV X (.BoolOp .Or (b :: rest) pos) ds (.bl l)) : XV X (.BoolOp .Or (a :: b :: rest) pos) ds (.bl (k || l)) := .mk fun G S0 S H σ E Q q =>
  we_of (pe_or pe_w pe_w) (ha G S0 S H σ E _ fun v S' H' g r => by
    cases r
    refine ⟨k, rfl, ?_⟩
    cases k with
    | true => rw [if_pos rfl]; exact q _ S' H' g (.bl _)
    | false => rw [if_neg Bool.false_ne_true]; exact hb rfl G S0 S' H' σ (E.grow g) _ fun v S2 H2 g2 r => q v S2 H2 (g.trans g2) r)
theorem xv_if {d : D} (hc : XT X c ds k) (ha : k = true → XV X a ds d) (hb : k = false → XV X b ds d) : XV X (.IfExp c a b pos) ds d := .mk fun G S0 S H σ E Q q =>
  we_of (pe_ifExp pt_w pe_w pe_w) (hc G S0 S H σ E _ fun S' H' g => by
    cases k with
    | true => rw [if_pos rfl]; exact ha rfl G S0 S' H' σ (E.grow g) _ fun v S2 H2 g2 r => q v S2 H2 (g.trans g2) r
    | false => rw [if_neg Bool.false_ne_true]; exact hb rfl G S0 S' H' σ (E.grow g) _ fun v S2 H2 g2 r => q v S2 H2 (g.trans g2) r)
end
theorem XV.is {d d' : D} (h : XV X e ds d) (q : d = d') : XV X e ds d' := q ▸ h
theorem XB.is {d d' : D} (h : XB X e ds d) (q : d = d') : XB X e ds d' := q ▸ h
theorem XL.is {d d' : List D} (h : XL X e ds d) (q : d = d') : XL X e ds d' := q ▸ h
theorem XT.is {k k' : Bool} (h : XT X e ds k) (q : k = k') : XT X e ds k' := q ▸ h
theorem XW.is {k k' : Bool} (h : XW X e ds k) (q : k = k') : XW X e ds k' := q ▸ h
end
end Lay
/-! Lay3: equality, subscripts, displays, built-ins. -/
namespace Lay
open PySem L2
/-! ### data as the model's data -/
mutual
def py : D → PyData
  | .non => .none
  | .bl b => .bool b
  | .int i => .int i
  | .str x => .str x
  | .lst ds => .list (pyAll ds)
  | .tup ds => .tuple (pyAll ds)
  | .scr _ => .none
  | .exc _ => .none
  | .ins _ _ => .none
def pyAll : List D → List PyData
  | [] => []
  | d :: ds => py d :: pyAll ds
end
mutual
def plain : D → Bool
  | .non => true
  | .bl _ => true
  | .int _ => true
  | .str _ => true
  | .lst ds => plainAll ds
  | .tup ds => plainAll ds
  | .scr _ => false
  | .exc _ => false
  | .ins _ _ => false
def plainAll : List D → Bool
  | [] => true
  | d :: ds => plain d && plainAll ds
end
mutual
theorem rp_dp {K : Fg} {S H : Hp} (k : Same S H) : ∀ (d : D) (v : V), Rp K S v d → plain d = true → Dp K H v (py d)
  | .non, _, .non, _ => .non
  | .bl b, _, .bl _, _ => .bl b
  | .int b, _, .int _, _ => .int b
  | .str b, _, .str _, _ => .str b
  | .lst ds, _, .lst h a, p => .lst (sq_of (k _ _ h)) (rpa_dp k ds _ a p)
  | .tup ds, _, .tup h a, p => .tup (st_of (k _ _ h)) (rpa_dp k ds _ a p)
  | .scr ds, _, _, p => by cases p
  | .exc ds, _, _, p => by cases p
  | .ins _ ds, _, _, p => by cases p
theorem rpa_dp {K : Fg} {S H : Hp} (k : Same S H) : ∀ (ds : List D) (vs : List V), RpA K S vs ds → plainAll ds = true → DpAll K H vs (pyAll ds)
  | [], _, .nil, _ => .nil
  | d :: ds, _, .cons h a, p => by
    have p' : (plain d && plainAll ds) = true := p
    rw [Bool.and_eq_true] at p'
    exact .cons (rp_dp k d _ h p'.1) (rpa_dp k ds _ a p'.2)
end
theorem rb_dp {K : Fg} {S H : Hp} (k : Same S H) {d : D} {v : V} (h : Rb K S H v d) (p : plain d = true) : Dp K H v (py d) := by
  rcases h with h | ⟨q, vs, xs, rfl, rfl, h1, h2⟩
  · exact rp_dp k d v h p
  · exact .lst (sq_of h1) (rpa_dp k xs vs h2 p)
/-- == of data -/
def eqD (A B : D) : Bool := PyData.eqv (py A) (py B)
/-- may be compared -/
def okE (A : D) : Bool := plain A && SeqAt.shaped (py A)
theorem okE_int {i : Int} : okE (.int i) = true := rfl
theorem okE_bl {i : Bool} : okE (.bl i) = true := rfl
theorem okE_non : okE .non = true := rfl
theorem eqD_int {i j : Int} : eqD (.int i) (.int j) = decide (i = j) := rfl
theorem okE_l {A : D} (h : okE A = true) : plain A = true := (Bool.and_eq_true_iff.mp h).1
theorem okE_r {A : D} (h : okE A = true) : SeqAt.shaped (py A) = true := (Bool.and_eq_true_iff.mp h).2

/-! ### arguments without stars, read off the text alone -/
def isStar : Expr → Bool
  | .Starred _ _ => true
  | _ => false
theorem se {e : Expr} {es : List Expr} {env : PySem.Env} (h : isStar e = false) : starEach (e :: es) env = (false, eval e env) :: starEach es env := by
  cases e <;> first | rfl | cases h
theorem spl {env : PySem.Env} {pos : Pos} : ∀ {es : List Expr}, es.all (fun e => !isStar e) = true → (backTo pos (starEach es env)).any (·.1) = false
  | [], _ => rfl
  | e :: es, h => by
    rw [List.all_cons, Bool.and_eq_true, Bool.not_eq_true'] at h
    rw [se h.1]
    have ih := spl (env := env) (pos := pos) h.2
    unfold backTo at ih ⊢
    rw [List.map_cons, List.any_cons, ih]
    rfl
theorem sfew {env : PySem.Env} {pos : Pos} : ∀ {es : List Expr}, es.all (fun e => !isStar e) = true → es.length < 30 → ((backTo pos (starEach es env)).all (fun x => !x.1) && (backToKw pos (keywordEach [] env)).all (fun x => x.1.isSome) && decide (es.length + ([] : List Keyword).length + (if ([] : List Keyword).isEmpty then 0 else 1) < 30)) = true := fun {es} h hl => by
  have k : ∀ {es : List Expr}, es.all (fun e => !isStar e) = true → (backTo pos (starEach es env)).all (fun x => !x.1) = true := by
    intro es
    induction es with
    | nil => intro _; rfl
    | cons e es ih =>
      intro h
      rw [List.all_cons, Bool.and_eq_true, Bool.not_eq_true'] at h
      rw [se h.1]
      have q := ih h.2
      unfold backTo at q ⊢
      rw [List.map_cons, List.all_cons, q]
      rfl
  rw [k h, decide_eq_true (by simpa using hl)]
  rfl

section
variable {X : Cx} {e a b c : Expr} {ds : List It} {pos : Pos} {A B : D} {i j : Int}
theorem xv_eq (hu : X.A.units + 64 < cLine) (ha : XB X a ds A) (hb : XB X b ds B) (h1 : okE A = true) (h2 : okE B = true) : XV X (.Compare a [.Eq] [b] pos) ds (.bl (eqD A B)) :=
  xv_cmp (op_eqD hu) ha hb (nomark _) fun S H x y Q k r1 r2 q => ⟨_, _, rb_dp k r1 (okE_l h1), rb_dp k r2 (okE_l h2), okE_r h1, okE_r h2, q⟩
theorem xt_eq (hu : X.A.units + 64 < cLine) (ha : XB X a ds A) (hb : XB X b ds B) (h1 : okE A = true) (h2 : okE B = true) : XT X (.Compare a [.Eq] [b] pos) ds (eqD A B) :=
  xt_cmp (op_eqD hu) ha hb (nomark _) fun S H x y Q k r1 r2 q => ⟨_, _, rb_dp k r1 (okE_l h1), rb_dp k r2 (okE_l h2), okE_r h1, okE_r h2, q⟩
theorem xv_ne (hu : X.A.units + 64 < cLine) (ha : XB X a ds A) (hb : XB X b ds B) (h1 : okE A = true) (h2 : okE B = true) : XV X (.Compare a [.NotEq] [b] pos) ds (.bl (!eqD A B)) :=
  xv_cmp (op_neD hu) ha hb (nomark _) fun S H x y Q k r1 r2 q => ⟨_, _, rb_dp k r1 (okE_l h1), rb_dp k r2 (okE_l h2), okE_r h1, okE_r h2, q⟩
theorem xt_ne (hu : X.A.units + 64 < cLine) (ha : XB X a ds A) (hb : XB X b ds B) (h1 : okE A = true) (h2 : okE B = true) : XT X (.Compare a [.NotEq] [b] pos) ds (!eqD A B) :=
  xt_cmp (op_neD hu) ha hb (nomark _) fun S H x y Q k r1 r2 q => ⟨_, _, rb_dp k r1 (okE_l h1), rb_dp k r2 (okE_l h2), okE_r h1, okE_r h2, q⟩
/-- of whole numbers, no room asked -/
theorem xv_eqI (ha : XB X a ds (.int i)) (hb : XB X b ds (.int j)) : XV X (.Compare a [.Eq] [b] pos) ds (.bl (decide (i = j))) :=
  xv_cmp op_eq ha hb (nomark _) fun S H x y Q k r1 r2 q => by rw [r1.int, r2.int]; exact ⟨rfl, by simpa using q⟩
theorem xt_eqI (ha : XB X a ds (.int i)) (hb : XB X b ds (.int j)) : XT X (.Compare a [.Eq] [b] pos) ds (decide (i = j)) :=
  xt_cmp op_eq ha hb (nomark _) fun S H x y Q k r1 r2 q => by rw [r1.int, r2.int]; exact ⟨rfl, by simpa using q⟩
theorem xv_neI (ha : XB X a ds (.int i)) (hb : XB X b ds (.int j)) : XV X (.Compare a [.NotEq] [b] pos) ds (.bl (!decide (i = j))) :=
  xv_cmp op_ne ha hb (nomark _) fun S H x y Q k r1 r2 q => by rw [r1.int, r2.int]; exact ⟨rfl, by simpa using q⟩
theorem xt_neI (ha : XB X a ds (.int i)) (hb : XB X b ds (.int j)) : XT X (.Compare a [.NotEq] [b] pos) ds (!decide (i = j)) :=
  xt_cmp op_ne ha hb (nomark _) fun S H x y Q k r1 r2 q => by rw [r1.int, r2.int]; exact ⟨rfl, by simpa using q⟩
/-- is None -/
def isNon : D → Bool
  | .non => true
  | _ => false
theorem rb_isNon {K : Fg} {S H : Hp} {v : V} {d : D} (h : Rb K S H v d) : decide (v = .non) = isNon d := by
  rcases h with h | ⟨p, vs, xs, rfl, rfl, _⟩
  · cases h <;> simp [isNon]
  · simp [isNon]
theorem xv_isN {j} {p2} (ha : XB X a ds A) : XV X (.Compare a [.Is] [.Constant .none j p2] pos) ds (.bl (isNon A)) :=
  xv_cmp (B := .non) op_isN ha xv_non.br (nomark _) fun S H x y Q k r1 r2 q => ⟨r2.non, by rw [rb_isNon r1]; exact q⟩
theorem xt_isN {j} {p2} (ha : XB X a ds A) : XT X (.Compare a [.Is] [.Constant .none j p2] pos) ds (isNon A) :=
  xt_cmp (B := .non) op_isN ha xv_non.br (nomark _) fun S H x y Q k r1 r2 q => ⟨r2.non, by rw [rb_isNon r1]; exact q⟩
theorem xt_notN {j} {p2} (ha : XB X a ds A) : XT X (.Compare a [.IsNot] [.Constant .none j p2] pos) ds (!isNon A) :=
  xt_cmp (B := .non) op_notN ha xv_non.br (nomark _) fun S H x y Q k r1 r2 q => ⟨r2.non, by rw [rb_isNon r1]; exact q⟩
theorem xv_notN {j} {p2} (ha : XB X a ds A) : XV X (.Compare a [.IsNot] [.Constant .none j p2] pos) ds (.bl (!isNon A)) :=
  xv_cmp (B := .non) op_notN ha xv_non.br (nomark _) fun S H x y Q k r1 r2 q => ⟨r2.non, by rw [rb_isNon r1]; exact q⟩
/-- in a list -/
def inD (A : D) (xs : List D) : Bool := xs.any fun x => eqD x A
theorem pyAll_map (xs : List D) : pyAll xs = xs.map py := by
  induction xs with
  | nil => rfl
  | cons x xs ih => simp only [pyAll, List.map_cons, ih]
theorem rb_seq {K : Fg} {S H : Hp} {v : V} {A : D} {ys : List D} (k : Same S H) (h : Rb K S H v A) (e : A = .lst ys ∨ A = .tup ys) : ∃ p vs, v = .ref p ∧ (SqL K H p vs ∨ SqT K H p vs) ∧ RpA K S vs ys := by
  rcases e with rfl | rfl
  · obtain ⟨p, vs, rfl, h1, h2⟩ := h.lst k
    exact ⟨p, vs, rfl, .inl (sq_of h1), h2⟩
  · obtain ⟨p, vs, rfl, h1, h2⟩ := h.tup
    exact ⟨p, vs, rfl, .inr (st_of (k _ _ h1)), h2⟩

/-! ### subscripts -/
def ixD : D → Int → Option D
  | .lst xs, i => atI xs i
  | .tup xs, i => atI xs i
  | .scr ns, i => (atI ns i).map .int
  | _, _ => none
theorem da_atI {K : Fg} {S : Hp} {vs : List V} {xs : List D} {i : Int} {d : D} (h : RpA K S vs xs) (e : atI xs i = some d) : ∃ v, atI vs i = some v ∧ Rp K S v d := by
  unfold atI at e ⊢
  rw [da_len h]
  cases q : ixN xs.length i with
  | none => rw [q] at e; cases e
  | some j => rw [q] at e; exact da_get h e
theorem xv_ix {d : D} (ha : XB X a ds A) (hb : XB X b ds (.int i)) (h : ixD A i = some d) (hs : PlainIx b := by exact fun _ _ => rfl) : XV X (.Subscript a b pos) ds d := .mk fun G S0 S H σ E Q q =>
  we_of (pe_ix ix_seq pe_w pe_w hs) (two ha hb E fun x y S' H' g r1 r2 => by
    cases A with
    | lst xs =>
      obtain ⟨p, vs, rfl, hp, ra⟩ := r1.lst g.sh
      obtain ⟨v, hv, rv⟩ := da_atI ra h
      exact .inl ⟨p, vs, i, v, rfl, r2.int, sq_of hp, hv, q v S' H' g rv⟩
    | tup xs =>
      obtain ⟨p, vs, rfl, hp, ra⟩ := r1.tup
      obtain ⟨v, hv, rv⟩ := da_atI ra h
      exact .inr (.inl ⟨p, vs, i, v, rfl, r2.int, st_of (g.sh _ _ hp), hv, q v S' H' g rv⟩)
    | scr ns =>
      obtain ⟨p, rfl, hp⟩ := r1.scr g.sh
      have h : (atI ns i).map D.int = some d := h
      cases z : atI ns i with
      | none => rw [z] at h; cases h
      | some n =>
        rw [z] at h
        cases h
        refine .inl ⟨p, _, i, .int n, rfl, r2.int, hp, ?_, q _ S' H' g (.int n)⟩
        unfold atI at z ⊢
        rw [List.length_map]
        cases w : ixN ns.length i with
        | none => rw [w] at z; cases z
        | some j =>
          rw [w] at z
          have z' : ns[j]? = some n := z
          show (ns.map V.int)[j]? = some (V.int n)
          rw [List.getElem?_map, z']
          rfl
    | _ => cases h)

/-! ### displays, arguments -/
theorem xa_nil : XA X [] ds [] := .mk fun G S0 S H σ E Q q => wa_of pa_nil (q [] S H E.gr .nil)
theorem xa_cons {es : List Expr} {d : D} {ys : List D} (ha : XV X e ds d) (hr : XA X es ds ys) (hs : starEach (e :: es) X.env = (false, eval e X.env) :: starEach es X.env := by exact se rfl) : XA X (e :: es) ds (d :: ys) := .mk fun G S0 S H σ E Q q =>
  wa_of (pa_cons pe_w pa_w hs) (ha G S0 S H σ E _ fun v S1 H1 g1 r1 => hr G S0 S1 H1 σ (E.grow g1) _ fun vs S2 H2 g2 r2 => q _ S2 H2 (g1.trans g2) (.cons (dp_same g2.s r1) r2))
theorem xab_nil : XAB X [] ds [] := .mk fun G S0 S H σ E Q q => wa_of pa_nil (q [] S H E.gr .nil)
theorem xab_cons {es : List Expr} {d : D} {ys : List D} (ha : XB X e ds d) (hr : XAB X es ds ys) (hs : starEach (e :: es) X.env = (false, eval e X.env) :: starEach es X.env := by exact se rfl) : XAB X (e :: es) ds (d :: ys) := .mk fun G S0 S H σ E Q q =>
  wa_of (pa_cons pe_w pa_w hs) (ha G S0 S H σ E _ fun v S1 H1 g1 r1 => hr G S0 S1 H1 σ (E.grow g1) _ fun vs S2 H2 g2 r2 => q _ S2 H2 (g1.trans g2) (.cons (r1.gr g2) r2))
theorem xl_lst {es : List Expr} {ys : List D} (ha : XA X es ds ys) (hz : ys.length ≤ 100000 := by first | exact Nat.le_of_ble_eq_true rfl | simp) : XL X (.List es pos) ds ys := .mk fun G S0 S H σ E Q q =>
  we_of (pe_lst pa_w) (ha G S0 S H σ E _ fun vs S' H' g r => ⟨sz _ (by rw [da_len r]; exact hz), fun p hp => q p vs S' _ (g.trans (Gr.newH g.sh hp)) (g.h.free hp) (g.sh.free hp) upd_same r⟩)
theorem xv_tup {es : List Expr} {ys : List D} {x1} (ha : XA X es ds ys) (hz : ys.length ≤ 100000 := by first | exact Nat.le_of_ble_eq_true rfl | simp) : XV X (.Tuple es x1 pos) ds (.tup ys) := .mk fun G S0 S H σ E Q q =>
  we_of (pe_tup pa_w) (ha G S0 S H σ E _ fun vs S' H' g r => ⟨sz _ (by rw [da_len r]; exact hz), fun p hp => q _ _ _ (g.trans (Gr.new g.sh hp)) (.tup upd_same (da_same (same_new (g.sh.free hp)) r))⟩)
theorem xl_rep {xs : List D} (ha : XB X a ds (.lst xs)) (hb : XB X b ds (.int j)) (h1 : -(2 ^ 63) ≤ j) (h2 : j < 2 ^ 63) (hz : xs.length * j.toNat ≤ 100000) : XL X (.BinOp a .Mult b pos) ds (List.replicate j.toNat xs).flatten :=
  xl_bin op_rep ha hb fun S H x y Q k r1 r2 q => by
    obtain ⟨p, vs, rfl, hp, ra⟩ := r1.lst k
    exact ⟨p, j, vs, rfl, r2.int, hp, h1, h2, sz _ (by rw [da_len ra]; exact hz), fun n hn => q n _ S _ (Gr.newH k hn) hn (k.free hn) upd_same (da_rep ra _)⟩

/-! ### built-ins -/
section
variable {id T : String} {r : List V → Hp → VK → Prop} {x : Str} {es : List Expr} {p : Pos} {ys : List D} {d : D}
theorem xv_callB (hc : CallR X (.builtin id) r) (hm : X.mg x = none) (hv : bootBuiltins x = some (.builtin id)) (ha : XAB X (e :: es) ds ys)
    (hr : ∀ (S H : Hp) vs (Q : VK), Same S H → RbA X.K S H vs ys → (∀ v S' H', Gr S H S' H' → Rp X.K S' v d → Q v H') → r vs H Q) (hg : Gl X x) (hn : x ≠ "__name__" := by decide) (hdb : (x == ("__debug__" : Str)) = false := by decide)
    (he : starEach (e :: es) X.env = (false, eval e X.env) :: starEach es X.env := by exact se rfl) (hpl : (backTo pos (starEach es X.env)).any (·.1) = false := by exact spl rfl) : XV X (.Call (.Name x p) (e :: es) [] pos) ds d := .mk fun G S0 S H σ E Q q =>
  we_of (pe_callB hc hg hm hv pa_w hn hdb he hpl) (ha G S0 S H σ E _ fun vs S' H' g rr => hr S' H' vs Q g.sh rr fun v S2 H2 g2 r2 => q v S2 H2 (g.trans g2) r2)
theorem xv_callTy (hc : CallR X (.type T) r) (hm : X.mg x = none) (hv : bootBuiltins x = some (.type T)) (ha : XAB X (e :: es) ds ys)
    (hr : ∀ (S H : Hp) vs (Q : VK), Same S H → RbA X.K S H vs ys → (∀ v S' H', Gr S H S' H' → Rp X.K S' v d → Q v H') → r vs H Q) (hg : Gl X x) (hn : x ≠ "__name__" := by decide) (hdb : (x == ("__debug__" : Str)) = false := by decide)
    (he : starEach (e :: es) X.env = (false, eval e X.env) :: starEach es X.env := by exact se rfl) (hpl : (backTo pos (starEach es X.env)).any (·.1) = false := by exact spl rfl) : XV X (.Call (.Name x p) (e :: es) [] pos) ds d := .mk fun G S0 S H σ E Q q =>
  we_of (pe_callTy hc hg hm hv pa_w hn hdb he hpl) (ha G S0 S H σ E _ fun vs S' H' g rr => hr S' H' vs Q g.sh rr fun v S2 H2 g2 r2 => q v S2 H2 (g.trans g2) r2)
theorem xl_callB {xs : List D} (hc : CallR X (.builtin id) r) (hm : X.mg x = none) (hv : bootBuiltins x = some (.builtin id)) (ha : XAB X (e :: es) ds ys)
    (hr : ∀ (S H : Hp) vs (Q : VK), Same S H → RbA X.K S H vs ys → (∀ p vs S' H', Gr S H S' H' → H p = none → S' p = none → H' p = some (.lst vs) → RpA X.K S' vs xs → Q (.ref p) H') → r vs H Q) (hg : Gl X x) (hn : x ≠ "__name__" := by decide) (hdb : (x == ("__debug__" : Str)) = false := by decide)
    (he : starEach (e :: es) X.env = (false, eval e X.env) :: starEach es X.env := by exact se rfl) (hpl : (backTo pos (starEach es X.env)).any (·.1) = false := by exact spl rfl) : XL X (.Call (.Name x p) (e :: es) [] pos) ds xs := .mk fun G S0 S H σ E Q q =>
  we_of (pe_callB hc hg hm hv pa_w hn hdb he hpl) (ha G S0 S H σ E _ fun vs S' H' g rr => hr S' H' vs Q g.sh rr fun p ws S2 H2 g2 h1 h2 h3 h4 => q p ws S2 H2 (g.trans g2) (g.h.free h1) h2 h3 h4)
theorem xl_callTy {xs : List D} (hc : CallR X (.type T) r) (hm : X.mg x = none) (hv : bootBuiltins x = some (.type T)) (ha : XAB X (e :: es) ds ys)
    (hr : ∀ (S H : Hp) vs (Q : VK), Same S H → RbA X.K S H vs ys → (∀ p vs S' H', Gr S H S' H' → H p = none → S' p = none → H' p = some (.lst vs) → RpA X.K S' vs xs → Q (.ref p) H') → r vs H Q) (hg : Gl X x) (hn : x ≠ "__name__" := by decide) (hdb : (x == ("__debug__" : Str)) = false := by decide)
    (he : starEach (e :: es) X.env = (false, eval e X.env) :: starEach es X.env := by exact se rfl) (hpl : (backTo pos (starEach es X.env)).any (·.1) = false := by exact spl rfl) : XL X (.Call (.Name x p) (e :: es) [] pos) ds xs := .mk fun G S0 S H σ E Q q =>
  we_of (pe_callTy hc hg hm hv pa_w hn hdb he hpl) (ha G S0 S H σ E _ fun vs S' H' g rr => hr S' H' vs Q g.sh rr fun p ws S2 H2 g2 h1 h2 h3 h4 => q p ws S2 H2 (g.trans g2) (g.h.free h1) h2 h3 h4)
end
theorem rba1 {K : Fg} {S H : Hp} {vs : List V} {d : D} (h : RbA K S H vs [d]) : ∃ v, vs = [v] ∧ Rb K S H v d := by
  cases h with
  | cons h t => cases t; exact ⟨_, rfl, h⟩
theorem rba2 {K : Fg} {S H : Hp} {vs : List V} {d d' : D} (h : RbA K S H vs [d, d']) : ∃ v w, vs = [v, w] ∧ Rb K S H v d ∧ Rb K S H w d' := by
  cases h with
  | cons h t =>
    obtain ⟨w, rfl, q⟩ := rba1 t
    exact ⟨_, w, rfl, h, q⟩
/-- how many -/
def lenD : D → Option Nat
  | .lst xs => some xs.length
  | .tup xs => some xs.length
  | .scr xs => some xs.length
  | _ => none
theorem boot_abs : bootBuiltins ("abs" : Str) = some (.builtin "abs") := by decide +kernel
theorem boot_max : bootBuiltins ("max" : Str) = some (.builtin "max") := by decide +kernel
theorem boot_min : bootBuiltins ("min" : Str) = some (.builtin "min") := by decide +kernel
theorem boot_int : bootBuiltins ("int" : Str) = some (.type "int") := by decide +kernel
theorem boot_list : bootBuiltins ("list" : Str) = some (.type "list") := by decide +kernel
theorem boot_tuple : bootBuiltins ("tuple" : Str) = some (.type "tuple") := by decide +kernel
theorem boot_sum' : bootBuiltins ("sum" : Str) = some (.builtin "sum") := by decide +kernel
theorem boot_any' : bootBuiltins ("any" : Str) = some (.builtin "any") := by decide +kernel
theorem boot_all' : bootBuiltins ("all" : Str) = some (.builtin "all") := by decide +kernel
theorem xv_len {p : Pos} {n : Nat} (hm : X.mg "len" = none) (ha : XB X e ds A) (hn : lenD A = some n := by rfl) (hg : Gl X "len" := by rfl) (hs : starEach [e] X.env = (false, eval e X.env) :: starEach [] X.env := by exact se rfl) (hpl : (backTo pos (starEach [] X.env)).any (·.1) = false := by exact spl rfl) :
    XV X (.Call (.Name "len" p) [e] [] pos) ds (.int n) :=
  xv_callB call_len_seq hm PySem.boot_len (xab_cons ha xab_nil hs) (fun S H vs Q k r q => by
    obtain ⟨v, rfl, r1⟩ := rba1 r
    cases A with
    | lst xs =>
      cases hn
      obtain ⟨p, vs, rfl, h1, h2⟩ := r1.lst k
      exact ⟨p, vs, rfl, .inl (sq_of h1), by rw [da_len h2]; exact q _ S H (.refl k) (.int _)⟩
    | tup xs =>
      cases hn
      obtain ⟨p, vs, rfl, h1, h2⟩ := r1.tup
      exact ⟨p, vs, rfl, .inr (st_of (k _ _ h1)), by rw [da_len h2]; exact q _ S H (.refl k) (.int _)⟩
    | scr xs =>
      cases hn
      obtain ⟨p, rfl, h1⟩ := r1.scr k
      exact ⟨p, _, rfl, .inl h1, by rw [List.length_map]; exact q _ S H (.refl k) (.int _)⟩
    | _ => cases hn) hg (he := hs) (hpl := hpl)
theorem xv_abs {p : Pos} (hm : X.mg "abs" = none) (ha : XB X e ds (.int i)) (hg : Gl X "abs" := by rfl) (hs : starEach [e] X.env = (false, eval e X.env) :: starEach [] X.env := by exact se rfl) (hpl : (backTo pos (starEach [] X.env)).any (·.1) = false := by exact spl rfl) :
    XV X (.Call (.Name "abs" p) [e] [] pos) ds (.int (i.natAbs : Int)) :=
  xv_callB call_abs hm boot_abs (xab_cons ha xab_nil hs) (fun S H vs Q k r q => by
    obtain ⟨v, rfl, r1⟩ := rba1 r
    rw [r1.int]
    refine ⟨i, rfl, ?_⟩
    have e : (if i < 0 then -i else i) = (i.natAbs : Int) := by split <;> omega
    rw [e]
    exact q _ S H (.refl k) (.int _)) hg (he := hs) (hpl := hpl)
theorem xv_max {p : Pos} (hc : X.calm = true) (hm : X.mg "max" = none) (ha : XB X a ds (.int i)) (hb : XB X b ds (.int j)) (hg : Gl X "max" := by rfl) (hs : starEach [a, b] X.env = (false, eval a X.env) :: starEach [b] X.env := by exact se rfl) (hs' : starEach [b] X.env = (false, eval b X.env) :: starEach [] X.env := by exact se rfl) (hpl : (backTo pos (starEach [b] X.env)).any (·.1) = false := by exact spl rfl) :
    XV X (.Call (.Name "max" p) [a, b] [] pos) ds (.int (max i j)) :=
  xv_callB (call_max2 hc) hm boot_max (xab_cons ha (xab_cons hb xab_nil hs') hs) (fun S H vs Q k r q => by
    obtain ⟨v, w, rfl, r1, r2⟩ := rba2 r
    rw [r1.int, r2.int]
    refine ⟨i, j, rfl, ?_⟩
    have e : (if j > i then j else i) = max i j := by split <;> omega
    rw [e]
    exact q _ S H (.refl k) (.int _)) hg (he := hs) (hpl := hpl)
theorem xv_int1 {p : Pos} {k : Bool} (hm : X.mg "int" = none) (ha : XB X e ds (.bl k)) (hg : Gl X "int" := by rfl) (hs : starEach [e] X.env = (false, eval e X.env) :: starEach [] X.env := by exact se rfl) (hpl : (backTo pos (starEach [] X.env)).any (·.1) = false := by exact spl rfl) :
    XV X (.Call (.Name "int" p) [e] [] pos) ds (.int (if k then 1 else 0)) :=
  xv_callTy call_int1 hm boot_int (xab_cons ha xab_nil hs) (fun S H vs Q kk r q => by
    obtain ⟨v, rfl, r1⟩ := rba1 r
    rw [r1.bl]
    exact .inr ⟨k, rfl, q _ S H (.refl kk) (.int _)⟩) hg (he := hs) (hpl := hpl)
theorem xl_list {p : Pos} {xs : List D} (hm : X.mg "list" = none) (ha : XB X e ds A) (hA : A = .lst xs ∨ A = .tup xs := by first | exact Or.inl rfl | exact Or.inr rfl) (hg : Gl X "list" := by rfl) (hs : starEach [e] X.env = (false, eval e X.env) :: starEach [] X.env := by exact se rfl) (hpl : (backTo pos (starEach [] X.env)).any (·.1) = false := by exact spl rfl) :
    XL X (.Call (.Name "list" p) [e] [] pos) ds xs :=
  xl_callTy call_list_of hm boot_list (xab_cons ha xab_nil hs) (fun S H vs Q k r q => by
    obtain ⟨v, rfl, r1⟩ := rba1 r
    obtain ⟨p, vs, rfl, h1, h2⟩ := rb_seq k r1 hA
    exact ⟨p, vs, rfl, h1, fun l hl => q l vs S _ (Gr.newH k hl) hl (k.free hl) upd_same h2⟩) hg (he := hs) (hpl := hpl)
theorem xv_tuple {p : Pos} {xs : List D} (hm : X.mg "tuple" = none) (ha : XB X e ds (.lst xs)) (hg : Gl X "tuple" := by rfl) (hs : starEach [e] X.env = (false, eval e X.env) :: starEach [] X.env := by exact se rfl) (hpl : (backTo pos (starEach [] X.env)).any (·.1) = false := by exact spl rfl) :
    XV X (.Call (.Name "tuple" p) [e] [] pos) ds (.tup xs) :=
  xv_callTy call_tuple_of hm boot_tuple (xab_cons ha xab_nil hs) (fun S H vs Q k r q => by
    obtain ⟨v, rfl, r1⟩ := rba1 r
    obtain ⟨p, vs, rfl, h1, h2⟩ := r1.lst k
    exact ⟨p, vs, rfl, .inl ⟨sq_of h1, fun l hl => q _ _ _ (Gr.new k hl) (.tup upd_same (da_same (same_new (k.free hl)) h2))⟩⟩) hg (he := hs) (hpl := hpl)
end
end Lay
/-! Lay4: what a statement does. -/
namespace Lay
open PySem L2
/-- how a statement ends -/
inductive Ou where
  | nx (ds : List It)
  | bk (ds : List It)
  | ct (ds : List It)
  /-- a value is handed back -/
  | rt (d : D)
  /-- .. and slot 0 holds this -/
  | rs (d : D) (it : It)
  /-- an exception of the class at c -/
  | er (c : Addr)
  /-- .. the slots as they are -/
  | es (c : Addr) (ds : List It)
structure Fnl (G S0 S H : Hp) : Prop where
  sh : Same S H
  gh : Same G H
  s0 : Same S0 S
  gs : ∀ a, G a ≠ none → S a = S0 a
theorem Env.fin {K : Fg} {G S0 S H : Hp} {σ : St} {ds : List It} (e : Env K G S0 S H σ ds) : Fnl G S0 S H := ⟨e.sh, e.gh, e.s0, e.gs⟩
def PostS (K : Fg) (W : WX) (G S0 : Hp) (Z : Ends) : Ou → Prop
  | .nx ds => ∀ σ S H, Env K G S0 S H σ ds → Z.nx σ H
  | .bk ds => ∀ σ S H, Env K G S0 S H σ ds → Z.bk σ H
  | .ct ds => ∀ σ S H, Env K G S0 S H σ ds → Z.ct σ H
  | .rt d => ∀ v S H, Fnl G S0 S H → Rp K S v d → Z.rt v H
  | .rs d it => ∀ v σ S H ds, Env K G S0 S H σ (it :: ds) → Rp K S v d → Z.rt v H
  | .er c => ∀ σ S H, Fnl G S0 S H → W (.ref c) none σ H
  | .es c ds => ∀ σ S H, Env K G S0 S H σ ds → W (.ref c) none σ H
/-- ds' tells less -/
structure Le (ds ds' : List It) : Prop where
  mk ::
  run : ∀ (K : Fg) (G S0 S H : Hp) (σ : St), Env K G S0 S H σ ds → Env K G S0 S H σ ds'
instance {ds ds' : List It} : CoeFun (Le ds ds') (fun _ => ∀ (K : Fg) (G S0 S H : Hp) (σ : St), Env K G S0 S H σ ds → Env K G S0 S H σ ds') := ⟨Le.run⟩
theorem Le.refl {ds : List It} : Le ds ds := .mk fun _ _ _ _ _ _ e => e
theorem Le.trans {a b c : List It} (h : Le a b) (q : Le b c) : Le a c := .mk fun _ _ _ _ _ _ e => q _ _ _ _ _ _ (h _ _ _ _ _ _ e)
theorem Le.no {ds : List It} (i : Nat) : Le ds (ds.set i .no) := .mk fun K G S0 S H σ e => by
  have q := e.put_no i (σ[i]?.join)
  by_cases hi : i < σ.length
  · have z : σ[i]?.join = σ[i] := by rw [List.getElem?_eq_getElem hi]; rfl
    rw [z, List.set_getElem_self] at q
    exact q
  · rw [List.set_eq_of_length_le (by omega)] at q
    exact q
/-- the slots js are forgotten -/
def fg : List Nat → List It → List It
  | [], ds => ds
  | j :: js, ds => fg js (ds.set j .no)
theorem Le.fg {ds ds' : List It} (js : List Nat) (h : fg js ds = ds') : Le ds ds' := by
  subst h
  induction js generalizing ds with
  | nil => exact .refl
  | cons j js ih => exact (Le.no j).trans ih
theorem Le.eq {ds ds' : List It} (h : ds = ds') : Le ds ds' := h ▸ .refl

section
variable {X : Cx} {W : WX} {e a b c : Expr} {st : Stmt} {sts rest : List Stmt} {ds ds' ds1 : List It} {o : Ou} {pos : Pos} {d : D} {xs ys : List D}
def wS (X : Cx) (st : Stmt) : TS := fun Z σ H => ∀ pins s, Inv X pins σ H s → wpAny (model X.prog X.w) X.A (exec st X.env) (SP X pins Z) X.xe s
theorem ps_w : PS X st (wS X st) := ⟨fun pins s _ _ _ I h => h pins s I⟩
def wSs (X : Cx) (sts : List Stmt) : TS := fun Z σ H => ∀ pins s, Inv X pins σ H s → wpAny (model X.prog X.w) X.A (execs sts X.env) (SP X pins Z) X.xe s
theorem pss_w : PSs X sts (wSs X sts) := ⟨fun pins s _ _ _ I h => h pins s I⟩
def wG (X : Cx) (tg : Expr) : TG := fun v σ H Q => ∀ pins s u, Inv X pins σ H s → RelV v u → wpAny (model X.prog X.w) X.A (assign tg X.env u) (fun _ s' => ∃ σ' H', Inv X pins σ' H' s' ∧ Q σ' H') X.xe s
theorem pg_w {tg : Expr} : PG X tg (wG X tg) := ⟨fun pins s _ _ _ u _ I r h => h pins s u I r⟩
def wGs (X : Cx) (tgs : List Expr) : TGs := fun vs σ H Q => ∀ pins s us, Inv X pins σ H s → Vals vs us → wpAny (model X.prog X.w) X.A (assignInOrder ((assignEach tgs X.env).map (·.2)) us) (fun _ s' => ∃ σ' H', Inv X pins σ' H' s' ∧ Q σ' H') X.xe s
theorem pgs_w {tgs : List Expr} : PGs X tgs (wGs X tgs) := ⟨fun pins s _ _ _ us _ I r h => h pins s us I r⟩
theorem ws_of {t : TS} (h : PS X st t) {σ : St} {H : Hp} {Z : Ends} (q : t Z σ H) : wS X st Z σ H := fun pins s I => h.run pins s σ H Z I q
theorem wss_of {t : TS} (h : PSs X sts t) {σ : St} {H : Hp} {Z : Ends} (q : t Z σ H) : wSs X sts Z σ H := fun pins s I => h.run pins s σ H Z I q
theorem wg_of {tg : Expr} {t : TG} (h : PG X tg t) {v : V} {σ : St} {H : Hp} {Q : St → Hp → Prop} (q : t v σ H Q) : wG X tg v σ H Q := fun pins s u I r => h.run pins s σ H v u Q I r q
theorem wgs_of {tgs : List Expr} {t : TGs} (h : PGs X tgs t) {v : List V} {σ : St} {H : Hp} {Q : St → Hp → Prop} (q : t v σ H Q) : wGs X tgs v σ H Q := fun pins s u I r => h.run pins s σ H v u Q I r q

structure XS (X : Cx) (W : WX) (st : Stmt) (ds : List It) (o : Ou) : Prop where
  mk ::
  run : ∀ G S0 S H σ, Env X.K G S0 S H σ ds → ∀ Z, PostS X.K W G S0 Z o → wS X st Z σ H
instance {X : Cx} {W : WX} {st : Stmt} {ds : List It} {o : Ou} : CoeFun (XS X W st ds o) (fun _ => ∀ G S0 S H σ, Env X.K G S0 S H σ ds → ∀ Z, PostS X.K W G S0 Z o → wS X st Z σ H) := ⟨XS.run⟩
structure XSs (X : Cx) (W : WX) (sts : List Stmt) (ds : List It) (o : Ou) : Prop where
  mk ::
  run : ∀ G S0 S H σ, Env X.K G S0 S H σ ds → ∀ Z, PostS X.K W G S0 Z o → wSs X sts Z σ H
instance {X : Cx} {W : WX} {sts : List Stmt} {ds : List It} {o : Ou} : CoeFun (XSs X W sts ds o) (fun _ => ∀ G S0 S H σ, Env X.K G S0 S H σ ds → ∀ Z, PostS X.K W G S0 Z o → wSs X sts Z σ H) := ⟨XSs.run⟩
/-- a target gets d -/
structure XG (X : Cx) (tg : Expr) (d : D) (ds ds' : List It) : Prop where
  mk ::
  run : ∀ G S0 S H σ v, Env X.K G S0 S H σ ds → Rp X.K S v d → ∀ Q : St → Hp → Prop, (∀ σ', Env X.K G S0 S H σ' ds' → Q σ' H) → wG X tg v σ H Q
instance {X : Cx} {tg : Expr} {d : D} {ds ds' : List It} : CoeFun (XG X tg d ds ds') (fun _ => ∀ G S0 S H σ v, Env X.K G S0 S H σ ds → Rp X.K S v d → ∀ Q : St → Hp → Prop, (∀ σ', Env X.K G S0 S H σ' ds' → Q σ' H) → wG X tg v σ H Q) := ⟨XG.run⟩
structure XGs (X : Cx) (tgs : List Expr) (xs : List D) (ds ds' : List It) : Prop where
  mk ::
  run : ∀ G S0 S H σ vs, Env X.K G S0 S H σ ds → RpA X.K S vs xs → ∀ Q : St → Hp → Prop, (∀ σ', Env X.K G S0 S H σ' ds' → Q σ' H) → wGs X tgs vs σ H Q
instance {X : Cx} {tgs : List Expr} {xs : List D} {ds ds' : List It} : CoeFun (XGs X tgs xs ds ds') (fun _ => ∀ G S0 S H σ vs, Env X.K G S0 S H σ ds → RpA X.K S vs xs → ∀ Q : St → Hp → Prop, (∀ σ', Env X.K G S0 S H σ' ds' → Q σ' H) → wGs X tgs vs σ H Q) := ⟨XGs.run⟩

/-! ### blocks -/
def goesOn : Ou → Bool
  | .nx _ => true
  | _ => false
theorem xss_nil : XSs X W [] ds (.nx ds) := .mk fun G S0 S H σ E Z q => wss_of pss_nil (q σ S H E)
theorem xss_cons (h1 : XS X W st ds (.nx ds1)) (h2 : XSs X W rest ds1 o) : XSs X W (st :: rest) ds o := .mk fun G S0 S H σ E Z q =>
  wss_of (pss_cons ps_w pss_w) (h1 G S0 S H σ E _ fun σ' S' H' E' => h2 G S0 S' H' σ' E' Z q)
theorem xss_stop (h1 : XS X W st ds o) (ho : goesOn o = false := by rfl) : XSs X W (st :: rest) ds o := .mk fun G S0 S H σ E Z q =>
  wss_of (pss_cons ps_w pss_w) (h1 G S0 S H σ E _ (by cases o <;> first | exact q | cases ho))
theorem xss_one (h1 : XS X W st ds o) : XSs X W [st] ds o := .mk fun G S0 S H σ E Z q => wss_of (pss_one ps_w) (h1 G S0 S H σ E Z q)
theorem XSs.pre (h : XSs X W sts ds' o) (l : Le ds ds') : XSs X W sts ds o := .mk fun G S0 S H σ E Z q => h G S0 S H σ (l _ _ _ _ _ _ E) Z q
theorem XS.pre (h : XS X W st ds' o) (l : Le ds ds') : XS X W st ds o := .mk fun G S0 S H σ E Z q => h G S0 S H σ (l _ _ _ _ _ _ E) Z q
theorem XSs.le (h : XSs X W sts ds (.nx ds1)) (l : Le ds1 ds') : XSs X W sts ds (.nx ds') := .mk fun G S0 S H σ E Z q => h G S0 S H σ E Z fun σ' S' H' E' => q σ' S' H' (l _ _ _ _ _ _ E')
theorem XS.le (h : XS X W st ds (.nx ds1)) (l : Le ds1 ds') : XS X W st ds (.nx ds') := .mk fun G S0 S H σ E Z q => h G S0 S H σ E Z fun σ' S' H' E' => q σ' S' H' (l _ _ _ _ _ _ E')
theorem XSs.er {c : Addr} (h : XSs X W sts ds (.es c ds1)) : XSs X W sts ds (.er c) := .mk fun G S0 S H σ E Z q => h G S0 S H σ E Z fun σ' S' H' E' => q σ' S' H' E'.fin
theorem XS.er {c : Addr} (h : XS X W st ds (.es c ds1)) : XS X W st ds (.er c) := .mk fun G S0 S H σ E Z q => h G S0 S H σ E Z fun σ' S' H' E' => q σ' S' H' E'.fin
theorem XSs.is {o' : Ou} (h : XSs X W sts ds o) (e : o = o') : XSs X W sts ds o' := e ▸ h
theorem XS.is {o' : Ou} (h : XS X W st ds o) (e : o = o') : XS X W st ds o' := e ▸ h
/-- an owned list is frozen -/
theorem XSs.freeze (i : Nat) (h : XSs X W sts (ds.set i (.fz (.lst xs))) o) (hd : ds[i]? = some (.ow xs) := by rfl) : XSs X W sts ds o := .mk fun G S0 S H σ E Z q => by
  obtain ⟨S', k, E'⟩ := E.freeze hd
  exact h G S0 S' H σ E' Z q
theorem XV.gr (h : XV X e ds d) : XV X e ds d := h

/-! ### targets -/
theorem xg_name (i : Nat) {x : Str} {p : Pos} (hN : X.N.Nodup) (hi : X.N[i]? = some x := by rfl) (hx : Loc X.env.scope x := by first | exact Or.inl rfl | exact Or.inr rfl) (hf : X.fn x = true ∨ X.env.scope.names.lookup x = some .local := by first | exact .inl rfl | exact .inr rfl) :
    XG X (.Name x p) d ds (ds.set i (.fz d)) := .mk fun G S0 S H σ v E r Q q => wg_of (pg_name (i := i) hN hi hx hf) (q _ (E.putD i r))
theorem xgs_nil : XGs X [] [] ds ds := .mk fun G S0 S H σ vs E r Q q => by cases r; exact wgs_of pgs_nil ⟨rfl, q σ E⟩
theorem xgs_cons {tg : Expr} {tgs : List Expr} (h1 : XG X tg d ds ds1) (h2 : XGs X tgs xs ds1 ds') (hs : (assignEach (tg :: tgs) X.env).map (·.2) = assign tg X.env :: (assignEach tgs X.env).map (·.2) := by rfl) : XGs X (tg :: tgs) (d :: xs) ds ds' := .mk fun G S0 S H σ vs E r Q q => by
  cases r with
  | cons r rs => exact wgs_of (pgs_cons pg_w pgs_w hs) ⟨_, _, rfl, h1 G S0 S H σ _ E r _ fun σ' E' => h2 G S0 S H σ' _ E' rs Q q⟩
theorem xg_tup {tgs : List Expr} {k : Nat} {p : Pos} (hc : X.calm = true) (h : XGs X tgs xs ds ds') (hn : (assignEach tgs X.env).length = xs.length := by rfl) (hst : (assignEach tgs X.env).findIdx? (·.1) = none := by rfl) : XG X (.Tuple tgs k p) (.tup xs) ds ds' := .mk fun G S0 S H σ v E r Q q => by
  cases r with
  | tup h1 ra => exact wg_of (pg_tup (n := xs.length) hc pgs_w hn hst) ⟨_, _, rfl, st_of (E.sh _ _ h1), by rw [da_len ra], h G S0 S H σ _ E ra Q q⟩

/-! ### stores -/
theorem xs_set (i : Nat) {x : Str} {p : Pos} (hN : X.N.Nodup) (he : XV X e ds d) (hi : X.N[i]? = some x := by rfl) (hx : Loc X.env.scope x := by first | exact Or.inl rfl | exact Or.inr rfl) (hs : swapsWith e (some (.Name x p)) pos.line X.env = pure false := by rfl)
    (hf : X.fn x = true ∨ X.env.scope.names.lookup x = some .local := by first | exact .inl rfl | exact .inr rfl) : XS X W (.Assign [.Name x p] e pos) ds (.nx (ds.set i (.fz d))) := .mk fun G S0 S H σ E Z q =>
  ws_of (ps_set hN hi hx pe_w hs hf) (he G S0 S H σ E _ fun v S' H' g r => q _ S' H' ((E.grow g).putD i r))
theorem xs_own (i : Nat) {x : Str} {p : Pos} (hN : X.N.Nodup) (he : XL X e ds xs) (hi : X.N[i]? = some x := by rfl) (hx : Loc X.env.scope x := by first | exact Or.inl rfl | exact Or.inr rfl) (hs : swapsWith e (some (.Name x p)) pos.line X.env = pure false := by rfl)
    (hf : X.fn x = true ∨ X.env.scope.names.lookup x = some .local := by first | exact .inl rfl | exact .inr rfl) : XS X W (.Assign [.Name x p] e pos) ds (.nx (ds.set i (.ow xs))) := .mk fun G S0 S H σ E Z q =>
  ws_of (ps_set hN hi hx pe_w hs hf) (he G S0 S H σ E _ fun p vs S' H' g h1 h2 h3 h4 => q _ S' H' (E.putL g i h1 h3 h2 h4))
theorem xs_asg {tg : Expr} (he : XV X e ds d) (hg : XG X tg d ds ds') (hs : swapsWithSole [tg] e pos.line X.env = pure false := by rfl) (hw : swappedStores [tg] e X.env = pure none := by rfl)
    (h1 : (assignEach [tg] X.env).map (·.2) = [assign tg X.env] := by rfl) : XS X W (.Assign [tg] e pos) ds (.nx ds') := .mk fun G S0 S H σ E Z q =>
  ws_of (ps_asg pe_w pg_w hs hw h1) (he G S0 S H σ E _ fun v S' H' g r => hg G S0 S' H' σ v (E.grow g) r _ fun σ' E' => q σ' S' H' E')
theorem xs_asgR {tg : Expr} {c : Addr} (he : XR X W e ds c) (hs : swapsWithSole [tg] e pos.line X.env = pure false := by rfl) (hw : swappedStores [tg] e X.env = pure none := by rfl)
    (h1 : (assignEach [tg] X.env).map (·.2) = [assign tg X.env] := by rfl) : XS X W (.Assign [tg] e pos) ds (.es c ds) := .mk fun G S0 S H σ E Z q =>
  ws_of (ps_asg pe_w pg_w hs hw h1) (he G S0 S H σ E (fun S' H' g => q σ S' H' (E.grow g)) _)
theorem xs_setR {x : Str} {p : Pos} {i : Nat} {c : Addr} (hN : X.N.Nodup) (he : XR X W e ds c) (hi : X.N[i]? = some x := by rfl) (hx : Loc X.env.scope x := by first | exact Or.inl rfl | exact Or.inr rfl) (hs : swapsWith e (some (.Name x p)) pos.line X.env = pure false := by rfl)
    (hf : X.fn x = true ∨ X.env.scope.names.lookup x = some .local := by first | exact .inl rfl | exact .inr rfl) : XS X W (.Assign [.Name x p] e pos) ds (.es c ds) := .mk fun G S0 S H σ E Z q =>
  ws_of (ps_set hN hi hx pe_w hs hf) (he G S0 S H σ E (fun S' H' g => q σ S' H' (E.grow g)) _)
theorem xs_expr (he : XV X e ds d) (hs : swapsWith e none pos.line X.env = pure false := by rfl) : XS X W (.Expr e pos) ds (.nx ds) := .mk fun G S0 S H σ E Z q =>
  ws_of (ps_expr pe_w hs) (he G S0 S H σ E _ fun v S' H' g r => q σ S' H' (E.grow g))
theorem xs_exprR {c : Addr} (he : XR X W e ds c) (hs : swapsWith e none pos.line X.env = pure false := by rfl) : XS X W (.Expr e pos) ds (.es c ds) := .mk fun G S0 S H σ E Z q =>
  ws_of (ps_expr pe_w hs) (he G S0 S H σ E (fun S' H' g => q σ S' H' (E.grow g)) _)
theorem xs_ret (he : XV X e ds d) : XS X W (.Return (some e) pos) ds (.rt d) := .mk fun G S0 S H σ E Z q =>
  ws_of (ps_ret pe_w) (he G S0 S H σ E _ fun v S' H' g r => q v S' H' (E.grow g).fin r)
theorem xs_retS {it : It} (he : XV X e (it :: ds) d) : XS X W (.Return (some e) pos) (it :: ds) (.rs d it) := .mk fun G S0 S H σ E Z q =>
  ws_of (ps_ret pe_w) (he G S0 S H σ E _ fun v S' H' g r => q v σ S' H' ds (E.grow g) r)
theorem xs_retR {c : Addr} (he : XR X W e ds c) : XS X W (.Return (some e) pos) ds (.es c ds) := .mk fun G S0 S H σ E Z q =>
  ws_of (ps_ret pe_w) (he G S0 S H σ E (fun S' H' g => q σ S' H' (E.grow g)) _)
theorem xs_pass : XS X W (.Pass pos) ds (.nx ds) := .mk fun G S0 S H σ E Z q => ws_of ps_pass (q σ S H E)
theorem xs_if {A B : List Stmt} {k : Bool} (hc : XT X c ds k) (ha : k = true → XSs X W A ds o) (hb : k = false → XSs X W B ds o) : XS X W (.If c A B pos) ds o := .mk fun G S0 S H σ E Z q =>
  ws_of (ps_if pt_w pss_w pss_w) (hc G S0 S H σ E _ fun S' H' g => by
    cases k with
    | true => rw [if_pos rfl]; exact ha rfl G S0 S' H' σ (E.grow g) Z q
    | false => rw [if_neg Bool.false_ne_true]; exact hb rfl G S0 S' H' σ (E.grow g) Z q)
theorem xs_yes {A B : List Stmt} (hc : XT X c ds true) (ha : XSs X W A ds o) : XS X W (.If c A B pos) ds o := xs_if hc (fun _ => ha) fun z => by cases z
theorem xs_no {A B : List Stmt} (hc : XT X c ds false) (ha : XSs X W B ds o) : XS X W (.If c A B pos) ds o := xs_if hc (fun z => by cases z) fun _ => ha

/-! ### a list of the frame's own -/
theorem ty_list {K : Fg} {H : Hp} {p : Addr} {vs : List V} (h : H p = some (.lst vs)) : tyV K "list" (.ref p) H := .inl ⟨rfl, _, sq_of h⟩
section
variable {x : Str} {px pa : Pos}
theorem bm_own {r : V → List V → Hp → VK → Prop} {es : List Expr} {name : Str} {id : String} {ys : List D} (i : Nat) (slot : Slot "list" name id) (hty : typeOf (.builtin id) = pure (.type "method_descriptor")) (hm : MtR X id r) (ha : XA X (e :: es) ds ys)
    (hd : ds[i]? = some (.ow xs)) (hN : X.N[i]? = some x) (hv : Vis X.env.scope x) (h1 : (x == ("__debug__" : Str)) = false) (h2 : (x == ("__classdict__" : Str)) = false)
    (hbase : attributeBase (.Name x px) name X.env (eval (.Name x px) X.env) = eval (.Name x px) X.env)
    (hfew : ((backTo pos (starEach (e :: es) X.env)).all (fun x => !x.1) && (backToKw pos (keywordEach [] X.env)).all (fun x => x.1.isSome)
      && decide ((e :: es).length + ([] : List Keyword).length + (if ([] : List Keyword).isEmpty then 0 else 1) < 30)) = true)
    (hline : (pa.endLine == pos.line) = true) (hs : starEach (e :: es) X.env = (false, eval e X.env) :: starEach es X.env) (hplain : (backTo pos (starEach es X.env)).any (·.1) = false)
    {G S0 S H : Hp} {σ : St} (E : Env X.K G S0 S H σ ds) {Q : VK} (q : ∀ p vs ws S' H', Gr S H S' H' → σ[i]? = some (some (.ref p)) → H' p = some (.lst vs) → S' p = none → G p = none → RpA X.K S' vs xs → RpA X.K S' ws ys → r (.ref p) ws H' Q) :
    wE X (.Call (.Attribute (.Name x px) name pa) (e :: es) [] pos) σ H Q := by
  obtain ⟨p, vs, hv', hp, sp, gp, ra⟩ := E.ow hd
  refine we_of (pe_bm PySem.F.plainAttrs_list slot hty hm (pe_var (i := i) hN hv h1 h2) pa_w hbase hfew hline hs hplain) ⟨.ref p, hv', ty_list hp, ha G S0 S H σ E _ fun ws S' H' g rw => ?_⟩
  exact q p vs ws S' H' g hv' (g.h _ _ hp) (by rw [g.old p (nn_of hp)]; exact sp) gp (da_same g.s ra) rw
theorem xs_append (i : Nat) (he : XV X e ds d) (hd : ds[i]? = some (.ow xs) := by rfl) (hz : xs.length < 100000) (hN : X.N[i]? = some x := by rfl) (hv : Vis X.env.scope x := by first | exact Or.inl rfl | exact Or.inr (Or.inl rfl) | exact Or.inr (Or.inr rfl))
    (h1 : (x == ("__debug__" : Str)) = false := by decide) (h2 : (x == ("__classdict__" : Str)) = false := by decide) (hbase : attributeBase (.Name x px) "append" X.env (eval (.Name x px) X.env) = eval (.Name x px) X.env := by rfl)
    {pc : Pos} (hfew : ((backTo pc (starEach [e] X.env)).all (fun x => !x.1) && (backToKw pc (keywordEach [] X.env)).all (fun x => x.1.isSome) && decide (([e] : List Expr).length + ([] : List Keyword).length + (if ([] : List Keyword).isEmpty then 0 else 1) < 30)) = true := by exact sfew rfl (by decide))
    (hline : (pa.endLine == pc.line) = true := by rfl) (hs : starEach [e] X.env = (false, eval e X.env) :: starEach [] X.env := by exact se rfl) (hplain : (backTo pc (starEach [] X.env)).any (·.1) = false := by exact spl rfl)
    (hsw : swapsWith (.Call (.Attribute (.Name x px) "append" pa) [e] [] pc) none pos.line X.env = pure false := by rfl) :
    XS X W (.Expr (.Call (.Attribute (.Name x px) "append" pa) [e] [] pc) pos) ds (.nx (ds.set i (.ow (xs ++ [d])))) := .mk fun G S0 S H σ E Z q =>
  ws_of (ps_expr pe_w hsw) (bm_own i PySem.F.slot_list_append PySem.F.type_list_append (fun pins s σ H x xs v us Q I rx rv h => mt_append pins s σ H x xs v us Q I rx rv h) (xa_cons he xa_nil hs) hd hN hv h1 h2 hbase hfew hline hs hplain E fun p vs ws S' H' g hv' hp sp gp ra rb => by
    cases rb with
    | cons r rn =>
      cases rn
      exact ⟨p, vs, _, rfl, rfl, hp, szlt _ (by rw [da_len ra]; exact hz), q _ S' _ ((E.grow g).mut hd hv' (da_append ra (da_one r)))⟩)
end
end
end Lay
/-! Lay5: more stores; loops. -/
namespace Lay
open PySem L2
section
variable {X : Cx} {W : WX} {e a b c : Expr} {st : Stmt} {sts rest body : List Stmt} {ds ds' ds1 : List It} {o : Ou} {pos : Pos} {d : D} {xs ys : List D} {tg iter : Expr}
section
variable {x : Str} {px pa : Pos}
theorem xs_extend (i : Nat) (he : XL X e ds ys) (hd : ds[i]? = some (.ow xs) := by rfl) (hz : xs.length + ys.length ≤ 100000) (hN : X.N[i]? = some x := by rfl) (hv : Vis X.env.scope x := by first | exact Or.inl rfl | exact Or.inr (Or.inl rfl) | exact Or.inr (Or.inr rfl))
    (h1 : (x == ("__debug__" : Str)) = false := by decide) (h2 : (x == ("__classdict__" : Str)) = false := by decide) (hbase : attributeBase (.Name x px) "extend" X.env (eval (.Name x px) X.env) = eval (.Name x px) X.env := by rfl)
    {pc : Pos} (hfew : ((backTo pc (starEach [e] X.env)).all (fun x => !x.1) && (backToKw pc (keywordEach [] X.env)).all (fun x => x.1.isSome) && decide (([e] : List Expr).length + ([] : List Keyword).length + (if ([] : List Keyword).isEmpty then 0 else 1) < 30)) = true := by exact sfew rfl (by decide))
    (hline : (pa.endLine == pc.line) = true := by rfl) (hs : starEach [e] X.env = (false, eval e X.env) :: starEach [] X.env := by exact se rfl) (hplain : (backTo pc (starEach [] X.env)).any (·.1) = false := by exact spl rfl)
    (hsw : swapsWith (.Call (.Attribute (.Name x px) "extend" pa) [e] [] pc) none pos.line X.env = pure false := by rfl) :
    XS X W (.Expr (.Call (.Attribute (.Name x px) "extend" pa) [e] [] pc) pos) ds (.nx (ds.set i (.ow (xs ++ ys)))) := .mk fun G S0 S H σ E Z q =>
  ws_of (ps_expr pe_w hsw) (bm_own i PySem.F.slot_list_extend PySem.F.type_list_extend (fun pins s σ H x xs v us Q I rx rv h => mt_extend pins s σ H x xs v us Q I rx rv h) (xa_cons he.v xa_nil hs) hd hN hv h1 h2 hbase hfew hline hs hplain E fun p vs ws S' H' g hv' hp sp gp ra rb => by
    cases rb with
    | cons r rn =>
      cases rn
      cases r with
      | lst hq rq => exact ⟨p, _, vs, _, rfl, rfl, hp, g.sh _ _ hq, sz _ (by rw [da_len ra, da_len rq]; exact hz), q _ S' _ ((E.grow g).mut hd hv' (da_append ra rq))⟩)
theorem xs_insert0 (i : Nat) {j0} {p0 : Pos} (he : XV X e ds d) (hd : ds[i]? = some (.ow xs) := by rfl) (hz : xs.length < 100000) (hN : X.N[i]? = some x := by rfl) (hv : Vis X.env.scope x := by first | exact Or.inl rfl | exact Or.inr (Or.inl rfl) | exact Or.inr (Or.inr rfl))
    (h1 : (x == ("__debug__" : Str)) = false := by decide) (h2 : (x == ("__classdict__" : Str)) = false := by decide) (hbase : attributeBase (.Name x px) "insert" X.env (eval (.Name x px) X.env) = eval (.Name x px) X.env := by rfl)
    {pc : Pos} (hfew : ((backTo pc (starEach [.Constant (.int 0) j0 p0, e] X.env)).all (fun x => !x.1) && (backToKw pc (keywordEach [] X.env)).all (fun x => x.1.isSome) && decide (([.Constant (.int 0) j0 p0, e] : List Expr).length + ([] : List Keyword).length + (if ([] : List Keyword).isEmpty then 0 else 1) < 30)) = true := by exact sfew rfl (by decide))
    (hline : (pa.endLine == pc.line) = true := by rfl) (hs0 : starEach [.Constant (.int 0) j0 p0, e] X.env = (false, eval (.Constant (.int 0) j0 p0) X.env) :: starEach [e] X.env := by exact se rfl) (hs : starEach [e] X.env = (false, eval e X.env) :: starEach [] X.env := by exact se rfl) (hplain : (backTo pc (starEach [e] X.env)).any (·.1) = false := by exact spl rfl)
    (hsw : swapsWith (.Call (.Attribute (.Name x px) "insert" pa) [.Constant (.int 0) j0 p0, e] [] pc) none pos.line X.env = pure false := by rfl) :
    XS X W (.Expr (.Call (.Attribute (.Name x px) "insert" pa) [.Constant (.int 0) j0 p0, e] [] pc) pos) ds (.nx (ds.set i (.ow (d :: xs)))) := .mk fun G S0 S H σ E Z q =>
  ws_of (ps_expr pe_w hsw) (bm_own i PySem.F.slot_list_insert PySem.F.type_list_insert (fun pins s σ H x xs v us Q I rx rv h => mt_insert pins s σ H x xs v us Q I rx rv h) (xa_cons xv_int (xa_cons he xa_nil hs) hs0) hd hN hv h1 h2 hbase hfew hline hs0 hplain E fun p vs ws S' H' g hv' hp sp gp ra rb => by
    cases rb with
    | cons r rn =>
      cases r
      cases rn with
      | cons r rn =>
        cases rn
        exact ⟨p, vs, 0, _, rfl, rfl, hp, szlt _ (by rw [da_len ra]; exact hz), by decide, by decide, q _ S' _ ((E.grow g).mut hd hv' (.cons r ra))⟩)
/-- y = xs.pop() -/
theorem xs_pop (i k : Nat) {y : Str} {py : Pos} {ev : D} (hNd : X.N.Nodup) (hik : i ≠ k) (hd : ds[i]? = some (.ow xs) := by rfl) (hl : xs.getLast? = some ev) (hN : X.N[i]? = some x := by rfl) (hv : Vis X.env.scope x := by first | exact Or.inl rfl | exact Or.inr (Or.inl rfl) | exact Or.inr (Or.inr rfl))
    (h1 : (x == ("__debug__" : Str)) = false := by decide) (h2 : (x == ("__classdict__" : Str)) = false := by decide) (hbase : attributeBase (.Name x px) "pop" X.env (eval (.Name x px) X.env) = eval (.Name x px) X.env := by rfl)
    {pc : Pos} (hline : (pa.endLine == pc.line) = true := by rfl) (hi : X.N[k]? = some y := by rfl) (hx : Loc X.env.scope y := by first | exact Or.inl rfl | exact Or.inr rfl) (hs : swapsWith (.Call (.Attribute (.Name x px) "pop" pa) [] [] pc) (some (.Name y py)) pos.line X.env = pure false := by rfl)
    (hf : X.fn y = true ∨ X.env.scope.names.lookup y = some .local := by first | exact .inl rfl | exact .inr rfl) :
    XS X W (.Assign [.Name y py] (.Call (.Attribute (.Name x px) "pop" pa) [] [] pc) pos) ds (.nx ((ds.set i (.ow xs.dropLast)).set k (.fz ev))) := .mk fun G S0 S H σ E Z q => by
  obtain ⟨p, vs, hv', hp, sp, gp, ra⟩ := E.ow hd
  refine ws_of (ps_set hNd hi hx (pe_bm0 PySem.F.plainAttrs_list PySem.F.slot_list_pop PySem.F.type_list_pop (fun pins s σ H x xs v us Q I rx rv h => mt_pop pins s σ H x xs v us Q I rx rv h) (pe_var (i := i) hN hv h1 h2) hbase hline) hs hf) ⟨.ref p, hv', ty_list hp, ?_⟩
  rw [List.getLast?_eq_getElem?] at hl
  obtain ⟨w, hw, rw'⟩ := da_get ra hl
  rw [← da_len ra] at hw
  exact ⟨p, vs, w, rfl, rfl, hp, hw, q _ S _ ((E.mut hd hv' (da_dropLast ra)).putD k rw')⟩
end
/-- xs[k] = e -/
theorem xs_setix (i : Nat) {x : Str} {px : Pos} {k : Int} {j : Nat} (he : XV X e ds d) (hb : XV X b ds (.int k)) (hd : ds[i]? = some (.ow xs) := by rfl) (hj : ixN xs.length k = some j) (hN : X.N[i]? = some x := by rfl) (hv : Vis X.env.scope x := by first | exact Or.inl rfl | exact Or.inr (Or.inl rfl) | exact Or.inr (Or.inr rfl))
    (h1 : (x == ("__debug__" : Str)) = false := by decide) (h2 : (x == ("__classdict__" : Str)) = false := by decide) {pt : Pos}
    (ha : ∀ v, assign (.Subscript (.Name x px) b pt) X.env v = (do
      let ov ← holding [v] (eval (.Name x px) X.env)
      let iv ← holding [v, ov] (eval b X.env)
      standAt pt
      holding [v, ov, iv] (setItem ov iv v)
      release [v, ov, iv] []) := by intro _; rfl)
    (hs : swapsWithSole [.Subscript (.Name x px) b pt] e pos.line X.env = pure false := by rfl) (hw : swappedStores [.Subscript (.Name x px) b pt] e X.env = pure none := by rfl)
    (h3 : (assignEach [.Subscript (.Name x px) b pt] X.env).map (·.2) = [assign (.Subscript (.Name x px) b pt) X.env] := by rfl) :
    XS X W (.Assign [.Subscript (.Name x px) b pt] e pos) ds (.nx (ds.set i (.ow (xs.set j d)))) := .mk fun G S0 S H σ E Z q =>
  ws_of (ps_asg pe_w (pg_sub (pe_var (i := i) hN hv h1 h2) pe_w set_list ha) hs hw h3) (he G S0 S H σ E _ fun v S' H' g r => by
    have E' := E.grow g
    obtain ⟨p, vs, hv', hp, sp, gp, ra⟩ := E'.ow hd
    refine ⟨.ref p, hv', hb G S0 S' H' σ E' _ fun kv S2 H2 g2 rk => ?_⟩
    cases rk
    exact ⟨p, vs, k, j, rfl, rfl, g2.h _ _ hp, by rw [da_len ra]; exact hj, q _ S2 _ ((E'.grow g2).mut hd hv' (da_set j (da_same g2.s ra) (dp_same g2.s r)))⟩)

/-! ### what is walked -/
def Wk (K : Fg) (J : L2.It) (xs : List D) (S : Hp) : Prop := ∀ (i : Nat) (S2 H2 : Hp), Same S S2 → Same S2 H2 → (i < xs.length → J.go i H2 ∧ ∀ x H3, J.yld i H2 x H3 → H3 = H2 ∧ ∃ d, xs[i]? = some d ∧ Rp K S2 x d) ∧ (xs.length ≤ i → J.stop i H2)
def wI (X : Cx) (tg iter : Expr) : TI := fun σ H R => ∀ pins s, Inv X pins σ H s → wpAny (model X.prog X.w) X.A (eval iter X.env) (fun v s1 => wpAny (model X.prog X.w) X.A (pyIter v) (PIE X pins σ tg R) X.xe s1) X.xe s
theorem pi_w : PI X tg iter (wI X tg iter) := ⟨fun pins s _ _ _ I h => h pins s I⟩
theorem wi_of {wi : TI} (h : PI X tg iter wi) {σ : St} {H : Hp} {R : L2.It → Hp → Prop} (q : wi σ H R) : wI X tg iter σ H R := fun pins s I => h.run pins s σ H R I q
structure XI (X : Cx) (tg iter : Expr) (ds : List It) (xs : List D) : Prop where
  mk ::
  run : ∀ G S0 S H σ, Env X.K G S0 S H σ ds → ∀ R : L2.It → Hp → Prop, (∀ J S' H', Gr S H S' H' → Wk X.K J xs S' → R J H') → wI X tg iter σ H R
instance {X : Cx} {tg iter : Expr} {ds : List It} {xs : List D} : CoeFun (XI X tg iter ds xs) (fun _ => ∀ G S0 S H σ, Env X.K G S0 S H σ ds → ∀ R : L2.It → Hp → Prop, (∀ J S' H', Gr S H S' H' → Wk X.K J xs S' → R J H') → wI X tg iter σ H R) := ⟨XI.run⟩
theorem xi_list (ha : XV X iter ds (.lst xs)) : XI X tg iter ds xs := .mk fun G S0 S H σ E R q =>
  wi_of (pi_list pe_w) (ha G S0 S H σ E _ fun v S' H' g r => by
    cases r with
    | @lst a vs _ h ra =>
      refine ⟨a, rfl, ⟨vs, sq_of (g.sh _ _ h)⟩, q _ S' H' g fun i S2 H2 k1 k2 => ?_⟩
      have sq : SqL X.K H2 a vs := sq_of (k2 _ _ (k1 _ _ h))
      refine ⟨fun hi => ?_, fun hi => ⟨vs, sq, by rw [da_len ra]; exact hi⟩⟩
      obtain ⟨v, hv, rv⟩ := da_get ra (List.getElem?_eq_getElem hi)
      refine ⟨⟨vs, v, sq, hv⟩, fun x H3 hy => ?_⟩
      obtain ⟨e, hy⟩ := hy
      have z := hy vs sq
      rw [hv] at z
      cases z
      exact ⟨e, _, List.getElem?_eq_getElem hi, dp_same k1 rv⟩)
theorem xi_tup (ha : XV X iter ds (.tup xs)) : XI X tg iter ds xs := .mk fun G S0 S H σ E R q =>
  wi_of (pi_tup pe_w) (ha G S0 S H σ E _ fun v S' H' g r => by
    cases r with
    | @tup a vs _ h ra =>
      refine ⟨a, rfl, ⟨vs, st_of (g.sh _ _ h)⟩, q _ S' H' g fun i S2 H2 k1 k2 => ?_⟩
      have sq : SqT X.K H2 a vs := st_of (k2 _ _ (k1 _ _ h))
      refine ⟨fun hi => ?_, fun hi => ⟨vs, sq, by rw [da_len ra]; exact hi⟩⟩
      obtain ⟨v, hv, rv⟩ := da_get ra (List.getElem?_eq_getElem hi)
      refine ⟨⟨vs, v, sq, hv⟩, fun x H3 hy => ?_⟩
      obtain ⟨e, hy⟩ := hy
      have z := hy vs sq
      rw [hv] at z
      cases z
      exact ⟨e, _, List.getElem?_eq_getElem hi, dp_same k1 rv⟩)
/-- 0, 1, .. -/
def rngD (n : Nat) : List D := (List.range n).map fun (i : Nat) => D.int (i : Int)
theorem xi_range {p pr : Pos} {n : Int} (hm : X.mg "range" = none) (ha : XV X a ds (.int n)) (h1 : -(2 ^ 62) ≤ n) (h2 : n < 2 ^ 62) (hg : Gl X "range" := by rfl) (hs : starEach [a] X.env = [(false, eval a X.env)] := by exact se rfl) :
    XI X tg (.Call (.Name "range" p) [a] [] pr) ds (rngD n.toNat) := .mk fun G S0 S H σ E R q =>
  wi_of (pi_range1 hg hm (pa_cons pe_w pa_nil hs) hs) (ha G S0 S H σ E _ fun v S' H' g r => by
    cases r
    refine ⟨n, rfl, h1, h2, q _ S' H' g fun i S2 H2 k1 k2 => ?_⟩
    have len : (rngD n.toNat).length = n.toNat := by simp [rngD]
    rw [len]
    refine ⟨fun hi => ⟨hi, fun x H3 hy => ?_⟩, fun hi => hi⟩
    obtain ⟨e1, e2⟩ := hy
    subst e1 e2
    refine ⟨rfl, .int i, by simp [rngD, hi], ?_⟩
    rw [Int.zero_add]
    exact .int _)

/-! ### for -/
theorem Env.rebase {K : Fg} {G S0 S H : Hp} {σ : St} {ds : List It} (e : Env K G S0 S H σ ds) : Env K G S S H σ ds :=
  let ⟨A, e⟩ := e; ⟨A, e.sh, e.gh, Same.refl _, fun _ _ => rfl, e.len, e.it, e.nd, e.dj, e.fr⟩
theorem Env.base {K : Fg} {G S0 S1 S H : Hp} {σ : St} {ds : List It} (e : Env K G S1 S H σ ds) (k : Same S0 S1) (gs : ∀ a, G a ≠ none → S1 a = S0 a) : Env K G S0 S H σ ds :=
  let ⟨A, e⟩ := e; ⟨A, e.sh, e.gh, k.trans e.s0, fun a ha => (e.gs a ha).trans (gs a ha), e.len, e.it, e.nd, e.dj, e.fr⟩
theorem Fnl.base {G S0 S1 S H : Hp} (e : Fnl G S1 S H) (k : Same S0 S1) (gs : ∀ a, G a ≠ none → S1 a = S0 a) : Fnl G S0 S H := ⟨e.sh, e.gh, k.trans e.s0, fun a ha => (e.gs a ha).trans (gs a ha)⟩
theorem PostS.base {K : Fg} {W : WX} {G S0 S1 : Hp} {Z : Ends} {o : Ou} (q : PostS K W G S0 Z o) (k : Same S0 S1) (gs : ∀ a, G a ≠ none → S1 a = S0 a) : PostS K W G S1 Z o := by
  cases o with
  | nx ds => exact fun σ S H E => q σ S H (E.base k gs)
  | bk ds => exact fun σ S H E => q σ S H (E.base k gs)
  | ct ds => exact fun σ S H E => q σ S H (E.base k gs)
  | rt d => exact fun v S H E => q v S H (E.base k gs)
  | rs d it => exact fun v σ S H ds E => q v σ S H ds (E.base k gs)
  | er c => exact fun σ S H E => q σ S H (E.base k gs)
  | es c ds => exact fun σ S H E => q σ S H (E.base k gs)
def brk : Ou → Ou
  | .bk ds => .nx ds
  | o => o
def turns : Ou → Option (List It)
  | .nx ds => some ds
  | .ct ds => some ds
  | _ => none
inductive Fr (X : Cx) (W : WX) (tg : Expr) (body : List Stmt) : List D → List It → Ou → Prop where
  | nil {ds : List It} : Fr X W tg body [] ds (.nx ds)
  | step {d : D} {xs : List D} {ds ds1 a b : List It} {o o' : Ou} : XG X tg d ds ds1 → XSs X W body ds1 o' → turns o' = some a → Le a b → Fr X W tg body xs b o → Fr X W tg body (d :: xs) ds o
  | out {d : D} {xs : List D} {ds ds1 : List It} {o : Ou} : XG X tg d ds ds1 → XSs X W body ds1 o → turns o = none → Fr X W tg body (d :: xs) ds (brk o)
theorem xs_for (hp : PassesOwn (model X.prog X.w) X.A X.env X.xe) (hc : X.calm = true) (hi : XI X tg iter ds xs) (hf : Fr X W tg body xs ds o) (hs : ∀ x, foldedSetIterable iter X.env x = pure x := by intro _; rfl) :
    XS X W (.For tg iter body [] pos) ds o := .mk fun G S0 S H σ E Z q =>
  ws_of (ps_for hp hc pi_w pg_w pss_w hs) (hi G S0 S H σ E _ fun J S1 H1 g wk => by
    refine ⟨fun i m σ H => m = xs.length - i ∧ i ≤ xs.length ∧ ∃ S ds', Same S1 S ∧ Env X.K G S0 S H σ ds' ∧ Fr X W tg body (xs.drop i) ds' o, ⟨xs.length, by simp, Nat.zero_le _, S1, ds, Same.refl _, E.grow g, hf⟩, ?_⟩
    rintro i m σ2 H2 ⟨rfl, hi, S2, ds2, k, E2, F⟩
    obtain ⟨w1, w2⟩ := wk i S2 H2 k E2.sh
    by_cases hlt : i < xs.length
    · obtain ⟨go, y⟩ := w1 hlt
      rw [List.drop_eq_getElem_cons hlt] at F
      refine .inr ⟨go, fun σ' H' => ∃ S ds', Same S1 S ∧ Env X.K G S0 S H' σ' ds' ∧ Fr X W tg body (xs.drop (i + 1)) ds' o, fun σ' H' ⟨S', ds', h1, h2, h3⟩ => ⟨xs.length - (i + 1), by omega, rfl, hlt, S', ds', h1, h2, h3⟩, fun x H3 hy => ?_⟩
      obtain ⟨rfl, d, hd, r⟩ := y x H3 hy
      rw [List.getElem?_eq_getElem hlt] at hd
      have hd' := Option.some.inj hd
      subst hd'
      cases F with
      | @step _ _ _ ds3 a b _ o' hg hb ht hl F =>
        refine hg G S0 S2 _ σ2 x E2 r _ fun σ' E' => hb G S2 S2 _ σ' E'.rebase _ ?_
        -- the end of a turn: only later states
        cases o' with
        | nx z => cases ht; exact fun σ'' S'' H'' E'' => ⟨S'', b, k.trans E''.s0, hl _ _ _ _ _ _ (E''.base E2.s0 E2.gs), F⟩
        | ct z => cases ht; exact fun σ'' S'' H'' E'' => ⟨S'', b, k.trans E''.s0, hl _ _ _ _ _ _ (E''.base E2.s0 E2.gs), F⟩
        | _ => cases ht
      | out hg hb ht =>
        refine hg G S0 S2 _ σ2 x E2 r _ fun σ' E' => hb G S0 S2 _ σ' E' _ ?_
        rename_i o'
        cases o' with
        | nx z => cases ht
        | ct z => cases ht
        | _ => exact q
    · have e : i = xs.length := by omega
      subst e
      rw [List.drop_length] at F
      cases F
      exact .inl ⟨w2 (Nat.le_refl _), q σ2 S2 H2 E2⟩)
/-! ### while -/
inductive Wh (X : Cx) (W : WX) (c : Expr) (body : List Stmt) : Nat → List It → Ou → Prop where
  | stop {ds : List It} : XT X c ds false → Wh X W c body 0 ds (.nx ds)
  | out {ds : List It} {o : Ou} : XT X c ds true → XSs X W body ds o → turns o = none → Wh X W c body 0 ds (brk o)
  | step {n : Nat} {ds a b : List It} {o o' : Ou} : XT X c ds true → XSs X W body ds o' → turns o' = some a → Le a b → Wh X W c body n b o → Wh X W c body (n + 1) ds o
theorem xs_while {n : Nat} (hp : PassesOwn (model X.prog X.w) X.A X.env X.xe) (hw : Wh X W c body n ds o) : XS X W (.While c body [] pos) ds o := .mk fun G S0 S H σ E Z q =>
  ws_of (ps_while hp pt_w pss_w) ⟨fun m σ H => ∃ S ds', Env X.K G S0 S H σ ds' ∧ Wh X W c body m ds' o, ⟨n, S, ds, E, hw⟩, by
    rintro m σ1 H1 ⟨S1, ds1, E1, h⟩
    cases h with
    | stop hc =>
      refine hc G S0 S1 H1 σ1 E1 _ fun S' H' g => ?_
      rw [if_neg Bool.false_ne_true]
      exact q σ1 S' H' (E1.grow g)
    | @out _ o' hc hb ht =>
      refine hc G S0 S1 H1 σ1 E1 _ fun S' H' g => ?_
      rw [if_pos rfl]
      refine ⟨fun _ _ => False, fun _ _ z => z.elim, hb G S0 S' H' σ1 (E1.grow g) _ ?_⟩
      cases o' with
      | nx z => cases ht
      | ct z => cases ht
      | _ => exact q
    | @step n _ a b _ o' hc hb ht hl h =>
      refine hc G S0 S1 H1 σ1 E1 _ fun S' H' g => ?_
      rw [if_pos rfl]
      refine ⟨fun σ' H' => ∃ S ds', Env X.K G S0 S H' σ' ds' ∧ Wh X W c body n ds' o, fun σ' H' z => ⟨n, Nat.lt_succ_self n, z⟩, hb G S0 S' H' σ1 (E1.grow g) _ ?_⟩
      cases o' with
      | nx z => cases ht; exact fun σ'' S'' H'' E'' => ⟨S'', b, hl _ _ _ _ _ _ E'', h⟩
      | ct z => cases ht; exact fun σ'' S'' H'' E'' => ⟨S'', b, hl _ _ _ _ _ _ E'', h⟩
      | _ => cases ht⟩
end
end Lay
/-! Lay6: raise, try, defs and their calls. -/
namespace Lay
open PySem L2
/-! ### raise -/
/-- an error class of the program: X at C, below ValueError -/
structure EC (K : Fg) (mg : Str → Option Value) (x : Str) (C : Addr) : Prop where
  g : mg x = some (.ref C)
  q : PySem.W.excIn K C [.type "ValueError", .type "Exception", .type "BaseException", .type "object"] "ValueError.__new__" = true
  kp : PySem.W.keepIn K (.ref C) = true
  b : PySem.W.subIn K (.ref C) (.type "BaseException") = some true
  t : PySem.W.typeIn K (.ref C) = some (.type "type")
section
variable {X : Cx} {W : WX} {e a b c : Expr} {st : Stmt} {sts rest body : List Stmt} {ds ds' ds1 : List It} {o : Ou} {pos : Pos} {d : D} {xs ys : List D}
theorem xs_raise {x m : Str} {C : Addr} {j : Nat} {p p2 p3 : Pos} (hc : X.calm = true) (tk : Takes X W) (T : EC X.K X.mg x C) (hg : Gl X x := by rfl) (hdb : (x == ("__debug__" : Str)) = false := by decide) :
    XS X W (.Raise (some (.Call (.Name x p) [.Constant (.str m) j p2] [] p3)) none pos) ds (.es C ds) := .mk fun G S0 S H σ E Z q =>
  ws_of (ps_raise hc tk (pmk_own PySem.F.excBase_ValueError T.q T.g T.kp (raises_own T.b T.t) hg hdb)) (q σ S H E)

/-! ### try -/
/-- an object that came since the def's entry, and is no frame, is tracked from now on -/
theorem inv_track {pins : List (Addr × Obj)} {σ : L2.St} {H : Hp} {s : Shared} {a : Addr} {u : HO} (I : Inv X pins σ H s) (hH : H a = none) (hnew : X.s_0.heap.get? a = none) (hL : a ≠ X.env.locals) (hC : ∀ y k, X.env.cells.lookup y = some k → k ≠ a)
    (hP : ∀ p ∈ X.pn ++ pins, p.1 ≠ a) (ok : ObjOk X.prog X.w (upd H a u) s.heap a u) : Inv X pins σ (upd H a u) s where
  ok := I.ok
  os := I.os
  bare := I.bare
  base := by
    have far : ∀ {k : Addr} {w : Obj}, X.s_0.heap.get? k = some w → k ≠ a := fun {k w} q z => by rw [z, hnew] at q; cases q
    refine ⟨I.base.keep, I.base.slot, fun k w q n nx => ?_, I.base.there, fun k w q => ?_, fun k w z q => ?_, fun k w q => ?_⟩
    · rw [upd_ne (far q)]; exact I.base.free k w q n nx
    · have r := I.base.tups k w q
      rw [upd_ne (ne_of_none r hH)]; exact r
    · have r := I.base.frzs k w z q
      rw [upd_ne (ne_of_none r hH)]; exact r
    · obtain ⟨m, r⟩ := I.base.tbls k w q
      exact ⟨m, by rw [upd_ne (ne_of_none r hH)]; exact r⟩
  loc := I.loc
  cell := I.cell
  free := by rw [upd_ne (Ne.symm hL)]; exact I.free
  freeC := fun y k q => by rw [upd_ne (hC y k q)]; exact I.freeC y k q
  pin := fun p hp => by
    obtain ⟨q1, q2, q3⟩ := I.pin p hp
    exact ⟨q1, by rw [upd_ne (hP p hp)]; exact q2, q3⟩
  hok := fun k w q => by
    by_cases z : k = a
    · subst z; rw [upd_same] at q; cases q; exact ok
    · rw [upd_ne z] at q
      refine (I.hok k w q).stay (fun _ _ _ r => r) (fun y r => ?_) fun y ys r => ?_
      · rw [upd_ne (ne_of_none r hH)]; exact r
      · rw [upd_ne (ne_of_none r hH)]; exact r
  len := I.len
/-- what a try whose clause keeps the exception wishes: slot i is the clause's name -/
def wKeep (K : Fg) (c : Value) (i : Nat) (ts : TS) (Z : Ends) : WX := fun cls d σ H =>
  ∃ C, cls = .ref C ∧ d = none ∧ PySem.W.exmOne K cls c = some true ∧ ∀ a, H a = none →
    ts { nx := fun σ' H' => Z.nx (σ'.set i none) H', rt := Z.rt, bk := fun σ' H' => Z.bk (σ'.set i none) H', ct := fun σ' H' => Z.ct (σ'.set i none) H' } (σ.set i (some (.ref a))) (upd H a (ExT C a))
theorem ps_try_keep {x n : Str} {cv : Value} {i : Nat} {suite : List Stmt} {b0 : Stmt} {np pt : Pos} {tb : WX → TS} {ts : TS} (hs : X.stack = X.env :: X.outer) (hf : X.env.frame = some X.env.locals) (hex0 : X.ex = []) (hN : X.N.Nodup) (hi : X.N[i]? = some n)
    (hln : X.env.kindOf n = some .local) (hcn : Names X x cv)
    (hb : ∀ (V : WX) (pn : List (Addr × Obj)) (xe : Value → Shared → Prop), Takes (X.tr pn xe) V → PassesOwn (model X.prog X.w) X.A X.env xe → PSs (X.tr pn xe) body (tb V))
    (hsu : ∀ (a : Addr) (pn : List (Addr × Obj)), PSs (X.suite a pn) (b0 :: suite) ts) :
    PS X (.Try body [.ExceptHandler (some (.Name x np)) (some n) (b0 :: suite) pt] [] [] pos) (fun Z σ H => tb (wKeep X.K cv i ts Z) Z σ H) := by
  constructor
  intro pins s σ H Z I hw
  have hfr : X.A.frames = some (X.env :: X.outer) := I.ok.frames.trans (by rw [hs])
  apply wpAny_Try_except
  have run := (hb (wKeep X.K cv i ts Z) (X.pn ++ pins) (fun x1 z1 => wpAny (model X.prog X.w) X.A (noteFrame x1 X.env)
      (fun _ z2 => wpAny (model X.prog X.w) X.A (setFlight x1 none) (fun _ z3 => wpAny (model X.prog X.w) X.A
        (handleBy x1 X.env [.ExceptHandler (some (.Name x np)) (some n) (b0 :: suite) pt]) (SP X pins Z) X.xe z3) X.xe z2) X.xe z1)
    (fun u sx hx => ?_) PassesOwn.looking).run [] s σ H Z (I.toTry _) hw
  · refine wpAny_mono run (fun f s1 q => ?_) fun _ _ q => q
    cases f with
    | next => obtain ⟨σ1, H1, J, q⟩ := q; exact wpAny_execs_nil ⟨σ1, H1, J.ofTry I.ok, q⟩
    | brk => obtain ⟨σ1, H1, J, q⟩ := q; exact ⟨σ1, H1, J.ofTry I.ok, q⟩
    | cont => obtain ⟨σ1, H1, J, q⟩ := q; exact ⟨σ1, H1, J.ofTry I.ok, q⟩
    | ret u => obtain ⟨v, σ1, H1, J, r, q⟩ := q; exact ⟨v, σ1, H1, J.ofTry I.ok, r, q⟩
  · obtain ⟨a, B, sI, pl, σ1, H1, cls, dd, rfl, Jt, nb, up, sky, na, hos, hag, C, rfl, rfl, hex, want⟩ := hx
    have J : Inv X pins σ1 H1 sI := Jt.ofTry I.ok
    rw [show (X.tr (X.pn ++ pins) _).stack = X.env :: X.outer from hs] at sky
    refine Sky.land Zc.steady hfr hf sky fun h3 fl3 up3 => ?_
    have nofr : ∀ {h : Heap} {w : Obj} {vs : Array Value}, h.FunFrames B (X.env :: X.outer) → h.get? a = some w → w.data = .fields vs → a ∉ frs (X.env :: X.outer) := fun {h w vs} ff q z hm => by
      obtain ⟨_, w', q', hnf⟩ := ff.mem hm
      rw [q] at q'; cases q'
      exact hnf _ z
    obtain ⟨oe3, vs3, T3, oT3, ts3, he3, hz3, hd3, h13, hT3⟩ := id fl3.2.2.2
    have nfr := nofr fl3.2.2.1 he3 hd3
    have freshI : sI.heap.get? a = none := by
      cases q : sI.heap.get? a with
      | none => rfl
      | some w =>
        have z := nb a w q (by rw [show (X.tr (X.pn ++ pins) _).stack = X.env :: X.outer from hs]; exact nfr)
        rw [fl3.2.1] at z; cases z
    have nL : a ≠ X.env.locals := fun z => nfr (List.mem_filterMap.mpr ⟨X.env, List.mem_cons_self, by rw [hf, z]⟩)
    have fresh0 : X.s_0.heap.get? a = none := by
      cases q : X.s_0.heap.get? a with
      | none => rfl
      | some w =>
        obtain ⟨w', q'⟩ := J.base.there a w q (by rw [hex0]; exact List.not_mem_nil)
        rw [freshI] at q'; cases q'
    have nC : ∀ y k, X.env.cells.lookup y = some k → k ≠ a := fun y k q z => by
      obtain ⟨v, w, r, _⟩ := J.cell y k q
      rw [z, freshI] at r; cases r
    have nP : ∀ p ∈ X.pn ++ pins, p.1 ≠ a := fun p hp z => by
      have r := (J.pin p hp).1
      rw [z, freshI] at r; cases r
    have lift : ∀ {h : Heap}, HandSPX.FlyingZ B (X.env :: X.outer) a (Zc (.ref C) none) h → sx.heap.UpToSlots h → Inv X pins σ1 (upd H1 a (ExT C a)) { sx with heap := h } := fun {h} fl u => by
      have L := J.landed (s' := { sx with heap := h }) (fun k w q hk => nb k w q hk) fl.1 (up.trans u) hos hag
      obtain ⟨oe, vs, T, oT, tss, he, hz, hd, _⟩ := id fl.2.2.2
      refine inv_track L na fresh0 nL nC nP ⟨⟨oe, vs, he, hz, hd⟩, ⟨oe, he⟩, fun h1 h2 ⟨oe', vs', r1, r2, r3⟩ k => ⟨oe', vs', k _ r1, r2, r3⟩⟩
    have suiteI : ∀ {τ : L2.St} {F : Hp} {z : Shared}, Inv X pins τ F z → Inv (X.suite a (X.pn ++ pins)) [] τ F z := fun {τ F z} Q =>
      ⟨Q.ok.suite _ _, Q.os, Q.bare, Q.base, Q.loc, Q.cell, Q.free, Q.freeC, fun p hp => Q.pin p (by rwa [List.append_nil] at hp), Q.hok, Q.len⟩
    have backI : ∀ {τ : L2.St} {F : Hp} {z : Shared}, Inv (X.suite a (X.pn ++ pins)) [] τ F z → Inv X pins τ F z := fun {τ F z} Q =>
      ⟨I.ok, Q.os, Q.bare, Q.base, Q.loc, Q.cell, Q.free, Q.freeC, fun p hp => Q.pin p (List.mem_append_left _ hp), Q.hok, Q.len⟩
    have I3 := lift fl3 up3
    have tyL : PySem.W.Looks (model X.prog X.w) h3 (typeOf (.ref a)) (.ref C) := fun _ _ _ _ kk qq => wpAny_typeOf_ref (kk _ _ he3) (by rw [hz3.1]; exact qq)
    have mt := PySem.W.exm_one (M := model X.prog X.w) I3.kIn tyL hex
    apply wpAny_handleBy_cons (codeAny_handlers_test _) (by intro q; cases q)
    have test : ∀ {Q : Value → Shared → Prop} {E : Value → Shared → Prop}, Q cv { sx with heap := h3 } → wpAny (model X.prog X.w) (X.A.mark (some (.ref a))) (eval (.Name x np) X.env) Q E { sx with heap := h3 } := fun {Q E} q => by
      obtain ⟨hg, hdb, hm | ⟨hm, hv, hnn⟩⟩ := hcn
      · exact ld_glob (X := X.suite a (X.pn ++ pins)) (suiteI I3) hg hm q hdb
      · exact ld_blt (X := X.suite a (X.pn ++ pins)) (suiteI I3) hg hm hv q hnn hdb
    refine test (mt.here ?_)
    apply codeAny_handlers_suite_as
    refine HandSPX.lands_againZ fl3 fun h4 fl4 up4 => ?_
    refine store_ok (X := X.suite a (X.pn ++ pins)) (v := .ref a) (suiteI (lift fl4 (up3.trans up4))) hN hi (.inl hln) rfl (fun s5 I5 => ?_) (.inr hln)
    refine wpAny_mono ((hsu a (X.pn ++ pins)).run [] s5 _ _ _ I5 (want a na)) (fun f s6 q => ?_) fun _ _ z => False.elim z
    cases f with
    | next => obtain ⟨τ, F, Q, q⟩ := q; exact gone_ok (backI Q) hN hi hln fun s7 Q7 => ⟨_, _, Q7, q⟩
    | brk => obtain ⟨τ, F, Q, q⟩ := q; exact gone_ok (backI Q) hN hi hln fun s7 Q7 => ⟨_, _, Q7, q⟩
    | cont => obtain ⟨τ, F, Q, q⟩ := q; exact gone_ok (backI Q) hN hi hln fun s7 Q7 => ⟨_, _, Q7, q⟩
    | ret u => obtain ⟨v, τ, F, Q, r, q⟩ := q; exact gone_ok (backI Q) hN hi hln fun s7 Q7 => ⟨_, _, _, Q7, r, q⟩

/-- try: body / except x as n: kept = n: the exception's class is known; kept is slot k, n slot i -/
theorem xs_try {x n y : Str} {cv : Value} {i k : Nat} {np pt py pn' ps' : Pos} {C : Addr} (hs : X.stack = X.env :: X.outer) (hf : X.env.frame = some X.env.locals) (hex0 : X.ex = []) (hN : X.N.Nodup) (hi : X.N[i]? = some n) (hk : X.N[k]? = some y)
    (hln : X.env.kindOf n = some .local) (hly : X.env.kindOf y = some .local) (hcn : Names X x cv) (hex : PySem.W.exmOne X.K (.ref C) cv = some true)
    (hb : ∀ (V : WX) (pn : List (Addr × Obj)) (xe : Value → Shared → Prop), Takes (X.tr pn xe) V → PassesOwn (model X.prog X.w) X.A X.env xe → XSs (X.tr pn xe) V body ds (.es C ds))
    (h1 : (n == ("__debug__" : Str)) = false := by decide) (h2 : (n == ("__classdict__" : Str)) = false := by decide) (hsw : swapsWith (.Name n pn') (some (.Name y py)) ps'.line X.env = pure false := by rfl) (hik : i < ds.length := by exact Nat.lt_of_lt_of_le (Nat.lt_succ_self _) (Nat.le_of_ble_eq_true rfl)) :
    XS X W (.Try body [.ExceptHandler (some (.Name x np)) (some n) [.Assign [.Name y py] (.Name n pn') ps'] pt] [] [] pos) ds (.nx (((ds.set i (.fz (.exc C))).set k (.fz (.exc C))).set i .no)) := .mk fun G S0 S H σ E Z q => by
  refine ws_of (ps_try_keep (tb := fun V => fun Z σ H => ∀ (pn : List (Addr × Obj)) (xe : Value → Shared → Prop), Takes (X.tr pn xe) V → PassesOwn (model X.prog X.w) X.A X.env xe → wSs (X.tr pn xe) body Z σ H) (ts := tAsg (tVar i) (gName k)) hs hf hex0 hN hi hln hcn
    (fun V pn xe tk hp => ⟨fun pins s σ H Z I w => w pn xe tk hp pins s I⟩)
    (fun a pn => pss_one (ps_set (X := X.suite a pn) hN hk (.inl hly) (pe_var (X := X.suite a pn) hi (.inl hln) h1 h2) hsw (.inr hly)))) ?_
  intro pn xe tk hp
  refine hb _ pn xe tk hp G S0 S H σ E _ fun σ1 S1 H1 E1 => ⟨C, rfl, rfl, hex, fun a na => ?_⟩
  have sna : S1 a = none := E1.sh.free na
  have g : Gr S1 H1 (upd S1 a (ExT C a)) (upd H1 a (ExT C a)) := Gr.new E1.sh na
  have E2 := E1.grow g
  have r : Rp X.K (upd S1 a (ExT C a)) (.ref a) (.exc C) := .exc upd_same
  have hil : i < σ1.length := by rw [E1.len]; exact hik
  refine ⟨.ref a, by rw [List.getElem?_set_self hil], ?_⟩
  exact q _ _ _ (((E2.putD i r).putD k r).put_no i none)
/-- the body goes through -/
theorem xs_try0 {x n y : Str} {cv : Value} {i k : Nat} {np pt py pn' ps' : Pos} (hs : X.stack = X.env :: X.outer) (hf : X.env.frame = some X.env.locals) (hex0 : X.ex = []) (hN : X.N.Nodup) (hi : X.N[i]? = some n) (hk : X.N[k]? = some y)
    (hln : X.env.kindOf n = some .local) (hly : X.env.kindOf y = some .local) (hcn : Names X x cv)
    (hb : ∀ (V : WX) (pn : List (Addr × Obj)) (xe : Value → Shared → Prop), Takes (X.tr pn xe) V → PassesOwn (model X.prog X.w) X.A X.env xe → XSs (X.tr pn xe) V body ds (.nx ds1))
    (h1 : (n == ("__debug__" : Str)) = false := by decide) (h2 : (n == ("__classdict__" : Str)) = false := by decide) (hsw : swapsWith (.Name n pn') (some (.Name y py)) ps'.line X.env = pure false := by rfl) :
    XS X W (.Try body [.ExceptHandler (some (.Name x np)) (some n) [.Assign [.Name y py] (.Name n pn') ps'] pt] [] [] pos) ds (.nx ds1) := .mk fun G S0 S H σ E Z q => by
  refine ws_of (ps_try_keep (tb := fun V => fun Z σ H => ∀ (pn : List (Addr × Obj)) (xe : Value → Shared → Prop), Takes (X.tr pn xe) V → PassesOwn (model X.prog X.w) X.A X.env xe → wSs (X.tr pn xe) body Z σ H) (ts := tAsg (tVar i) (gName k)) hs hf hex0 hN hi hln hcn
    (fun V pn xe tk hp => ⟨fun pins s σ H Z I w => w pn xe tk hp pins s I⟩)
    (fun a pn => pss_one (ps_set (X := X.suite a pn) hN hk (.inl hly) (pe_var (X := X.suite a pn) hi (.inl hln) h1 h2) hsw (.inr hly)))) ?_
  intro pn xe tk hp
  exact hb _ pn xe tk hp G S0 S H σ E _ fun σ1 S1 H1 E1 => q σ1 S1 H1 E1
end

/-! ### defs -/
/-- what a def answers -/
inductive Res where
  | ok (d : D)
  | er (c : Addr)
abbrev Fs := List D → Res → Prop
def PostF (K : Fg) (S H : Hp) (Q : VK) (E : XK) : Res → Prop
  | .ok d => ∀ v S' H', Gr S H S' H' → Rp K S' v d → Q v H'
  | .er c => ∀ S' H', Gr S H S' H' → E (.ref c) none H'
/-- the promise: what F says of the arguments' data -/
def spF (K : Fg) (F : Fs) : Sp := fun vs H Q E => ∃ S args r, Same S H ∧ RpA K S vs args ∧ F args r ∧ PostF K S H Q E r
/-- a body's end and the def's answer -/
def Fits : Ou → Res → Prop
  | .rt d, .ok d' => d = d'
  | .nx _, .ok d' => d' = .non
  | .er c, .er c' => c = c'
  | .es c _, .er c' => c = c'
  | _, _ => False
/-- from a body: F's answer -/
def XF (X : Cx) (W : WX) (body : List Stmt) (ds : List It) (r : Res) : Prop := ∃ o, XSs X W body ds o ∧ Fits o r
/-- a def that is known by its module's name x, at level k -/
structure Df (P : Program) (w : World) (K : Fg) (mg : Str → Option Value) (base : Heap) (x : Str) (k : Nat) (F : Fs) : Prop where
  ex : ∃ f fd ps, mg x = some (.ref f) ∧ PySem.W.keepIn K (.ref f) = true ∧ Binds K fd ps [] ∧ FnOk P w K mg base (L2.CX P w) k f fd ps (spF K F)
/-- the slots at a def's entry -/
def ctx0 (n : Nat) (args : List D) : List It := args.map .fz ++ List.replicate (n - args.length) .no
theorem env_start {K : Fg} {S H : Hp} (k : Same S H) {N : List Str} {vs : List V} {args : List D} (r : RpA K S vs args) : Env K H S S H (L2.start N vs) (ctx0 N.length args) := by
  refine ⟨fun _ => [], k, Same.refl _, Same.refl _, fun _ _ => rfl, ?_, fun i it hi => ?_, fun _ => .nil, fun i j a h => (by cases h), fun i a h => (by cases h)⟩
  · simp [L2.start, ctx0, da_len r]
  · unfold ctx0 at hi
    by_cases h : i < args.length
    · rw [List.getElem?_append_left (by simpa using h), List.getElem?_map] at hi
      rw [List.getElem?_eq_getElem h] at hi
      cases hi
      obtain ⟨v, hv, rv⟩ := da_get r (List.getElem?_eq_getElem h)
      have hl := da_len r
      have e : (L2.start N vs)[i]? = some (some v) := by
        unfold L2.start
        rw [List.getElem?_append_left (by simpa [hl] using h), List.getElem?_map, hv]
        rfl
      rw [e]
      exact .fz rv
    · rw [List.getElem?_append_right (by simpa using h), List.getElem?_replicate] at hi
      split at hi
      · cases hi; exact .no _
      · cases hi
section
variable {P : Program} {w : World} {K : Fg} {mg : Str → Option Value} {base : Heap}
/-- a def by its body -/
theorem fn_ok {x qual : Str} {st : Stmt} {f : Addr} {fd : FuncData} {N ps : List Str} {k : Nat} {F : Fs} (U : Fun K x qual st f fd) (S : FnScope N ps (defScope st)) (len : ∀ args r, F args r → args.length = ps.length)
    (body : ∀ (cdv : Value) (A : Around) (outer : List PySem.Env) (s : Shared) (H : Hp) (E : XK) (args : List D) (r : Res), Room k (A.deeper (PyProof.Rows.envOfC qual (defScope st) s.heap.objs.size f cdv)) → F args r →
      XF (cxOf (L2.CX P w) P w K mg base N qual (defScope st) f cdv A outer s H E) (fun cls d _ H => E cls d H) (defBody st) (ctx0 N.length args) r) : FnOk P w K mg base (L2.CX P w) (k + 1) f fd ps (spF K F) := by
  refine U.okX S (fun vs H Q E ⟨S, args, r, _, ra, hf, _⟩ => (da_len ra).trans (len args r hf)) fun cdv A outer s H vs Q E hr ⟨S, args, r, ks, ra, hf, q⟩ => ?_
  obtain ⟨o, ho, he⟩ := body cdv A outer s H E args r hr hf
  refine ⟨_, pss_w, ho H S S H _ (env_start ks ra) _ ?_⟩
  have gr : ∀ {S' H' : Hp}, Fnl H S S' H' → Gr S H S' H' := fun z => ⟨z.s0, z.gh, z.sh, z.gs⟩
  cases o with
  | nx ds => cases r with
    | ok d => cases he; exact fun σ S' H' z => q .non S' H' (gr z.fin) .non
    | er c => cases he
  | rt d => cases r with
    | ok d' => cases he; exact fun v S' H' z rv => q v S' H' (gr z) rv
    | er c => cases he
  | er c => cases r with
    | ok d => cases he
    | er c' => cases he; exact fun σ S' H' z => q S' H' (gr z)
  | es c ds => cases r with
    | ok d => cases he
    | er c' => cases he; exact fun σ S' H' z => q S' H' (gr z.fin)
  | bk ds => cases r <;> cases he
  | ct ds => cases r <;> cases he
  | rs d it => cases r <;> cases he
end
section
variable {X : Cx} {W : WX} {e : Expr} {es : List Expr} {ds : List It} {pos : Pos} {d : D} {args : List D} {x : Str} {p : Pos} {k : Nat} {F : Fs}
theorem call_any (T : Df X.prog X.w X.K X.mg X.base x k F) (hr : Room k X.A) (tk : Takes X W) (ha : XA X (e :: es) ds args) {r : Res} (hF : F args r) (hg : Gl X x) (hdb : (x == ("__debug__" : Str)) = false)
    (he : starEach (e :: es) X.env = (false, eval e X.env) :: starEach es X.env) (hpl : (backTo pos (starEach es X.env)).any (·.1) = false) {G S0 S H : Hp} {σ : L2.St} (E : Env X.K G S0 S H σ ds) {Q : VK}
    (q : ∀ S1 H1, Gr S H S1 H1 → PostF X.K S1 H1 Q (fun cls d H => W cls d σ H) r) : wE X (.Call (.Name x p) (e :: es) [] pos) σ H Q := by
  obtain ⟨f, fd, ps, hm, hk, hb, fo⟩ := T.ex
  refine we_of (pe_callS fo hr hg hm hk hb (fun σ => passAt tk σ) pa_w hdb he hpl) (ha G S0 S H σ E _ fun vs S1 H1 g r1 => ?_)
  exact ⟨S1, args, r, g.sh, r1, hF, q S1 H1 g⟩
theorem xv_call (T : Df X.prog X.w X.K X.mg X.base x k F) (hr : Room k X.A) (tk : Takes X W) (ha : XA X (e :: es) ds args) (hF : F args (.ok d)) (hg : Gl X x := by rfl) (hdb : (x == ("__debug__" : Str)) = false := by decide)
    (he : starEach (e :: es) X.env = (false, eval e X.env) :: starEach es X.env := by exact se rfl) (hpl : (backTo pos (starEach es X.env)).any (·.1) = false := by exact spl rfl) : XV X (.Call (.Name x p) (e :: es) [] pos) ds d := .mk fun G S0 S H σ E Q q =>
  call_any T hr tk ha hF hg hdb he hpl E fun S1 H1 g v S' H' g' r => q v S' H' (g.trans g') r
theorem xr_call {c : Addr} (T : Df X.prog X.w X.K X.mg X.base x k F) (hr : Room k X.A) (tk : Takes X W) (ha : XA X (e :: es) ds args) (hF : F args (.er c)) (hg : Gl X x := by rfl) (hdb : (x == ("__debug__" : Str)) = false := by decide)
    (he : starEach (e :: es) X.env = (false, eval e X.env) :: starEach es X.env := by exact se rfl) (hpl : (backTo pos (starEach es X.env)).any (·.1) = false := by exact spl rfl) : XR X W (.Call (.Name x p) (e :: es) [] pos) ds c := .mk fun G S0 S H σ E q Q =>
  call_any T hr tk ha hF hg hdb he hpl E fun S1 H1 g S' H' g' => q S' H' (g.trans g')
end
end Lay
/-! Lay7: list comprehensions. -/
namespace Lay
open PySem L2
theorem wipe_at {σ : L2.St} {j : Nat} : ∀ vs : List Nat, (wipe σ vs)[j]? = if j ∈ vs then (σ[j]?.map fun _ => none) else σ[j]?
  | [] => by simp [wipe]
  | v :: vs => by
    have ih := wipe_at (σ := σ) (j := j) vs
    have hl := wipe_length σ vs
    unfold wipe
    by_cases h : v = j
    · subst h
      rw [if_pos List.mem_cons_self]
      by_cases q : v < σ.length
      · rw [List.getElem?_set_self (by rw [hl]; exact q), List.getElem?_eq_getElem q]; rfl
      · rw [List.getElem?_eq_none (by rw [List.length_set, hl]; omega), List.getElem?_eq_none (by omega)]; rfl
    · rw [List.getElem?_set_ne h, ih]
      by_cases z : j ∈ vs
      · rw [if_pos z, if_pos (List.mem_cons_of_mem _ z)]
      · rw [if_neg z, if_neg]
        intro q
        rcases List.mem_cons.mp q with e | e
        · exact h e.symm
        · exact z e
theorem wipe_set {σ : L2.St} {i : Nat} {o : Option V} {vs : List Nat} (h : i ∈ vs) : wipe (σ.set i o) vs = wipe σ vs := by
  apply List.ext_getElem?
  intro j
  rw [wipe_at, wipe_at]
  by_cases z : i = j
  · subst z
    rw [if_pos h, if_pos h]
    by_cases q : i < σ.length
    · rw [List.getElem?_set_self q, List.getElem?_eq_getElem q]; rfl
    · rw [List.set_eq_of_length_le (by omega)]
  · rw [List.getElem?_set_ne z]
theorem wipe_wipe {σ : L2.St} (vs : List Nat) : wipe (wipe σ vs) vs = wipe σ vs := by
  apply List.ext_getElem?
  intro j
  rw [wipe_at, wipe_at]
  split
  · cases σ[j]? <;> rfl
  · rfl
def wipeC (ds : List It) : List Nat → List It
  | [] => ds
  | v :: vs => (wipeC ds vs).set v .no
theorem Env.wipe {K : Fg} {G S0 S H : Hp} {σ : L2.St} {ds : List It} (e : Env K G S0 S H σ ds) : ∀ vs, Env K G S0 S H (L2.wipe σ vs) (wipeC ds vs)
  | [] => e
  | v :: vs => (Env.wipe e vs).put_no v none

abbrev Bk (X : Cx) (scope : Scope) (s : Shared) (H : Hp) (C : Addr) (cl : List (Str × Addr)) (fp : List Addr) : Cx := X.blk s H scope (compEnvC scope cl C X.env) fp
section
variable {X : Cx} {W : WX} {e a b c : Expr} {st : Stmt} {ds ds' ds1 : List It} {o : Ou} {pos : Pos} {d : D} {xs ys : List D} {tg iter elt : Expr} {ifs : List Expr} {scope : Scope} {own : List (Str × Nat)} {vs : List Nat}
/-- a target within a comprehension: its slots are among vs -/
structure XGW (X : Cx) (tg : Expr) (d : D) (ds ds' : List It) (vs : List Nat) : Prop where
  mk ::
  run : ∀ G S0 S H σ v, Env X.K G S0 S H σ ds → Rp X.K S v d → ∀ Q : L2.St → Hp → Prop, (∀ σ', Env X.K G S0 S H σ' ds' → wipe σ' vs = wipe σ vs → Q σ' H) → wG X tg v σ H Q
instance {X : Cx} {tg : Expr} {d : D} {ds ds' : List It} {vs : List Nat} : CoeFun (XGW X tg d ds ds' vs) (fun _ => ∀ G S0 S H σ v, Env X.K G S0 S H σ ds → Rp X.K S v d → ∀ Q : L2.St → Hp → Prop, (∀ σ', Env X.K G S0 S H σ' ds' → wipe σ' vs = wipe σ vs → Q σ' H) → wG X tg v σ H Q) := ⟨XGW.run⟩
structure XGWs (X : Cx) (tgs : List Expr) (xs : List D) (ds ds' : List It) (vs : List Nat) : Prop where
  mk ::
  run : ∀ G S0 S H σ us, Env X.K G S0 S H σ ds → RpA X.K S us xs → ∀ Q : L2.St → Hp → Prop, (∀ σ', Env X.K G S0 S H σ' ds' → wipe σ' vs = wipe σ vs → Q σ' H) → wGs X tgs us σ H Q
instance {X : Cx} {tgs : List Expr} {xs : List D} {ds ds' : List It} {vs : List Nat} : CoeFun (XGWs X tgs xs ds ds' vs) (fun _ => ∀ G S0 S H σ us, Env X.K G S0 S H σ ds → RpA X.K S us xs → ∀ Q : L2.St → Hp → Prop, (∀ σ', Env X.K G S0 S H σ' ds' → wipe σ' vs = wipe σ vs → Q σ' H) → wGs X tgs us σ H Q) := ⟨XGWs.run⟩
theorem xgw_name (i : Nat) {x : Str} {p : Pos} (hN : X.N.Nodup) (hi : X.N[i]? = some x := by rfl) (hx : Loc X.env.scope x := by first | exact Or.inl rfl | exact Or.inr rfl) (hf : X.fn x = true ∨ X.env.scope.names.lookup x = some .local := by first | exact .inl rfl | exact .inr rfl) (hm : i ∈ vs := by simp) :
    XGW X (.Name x p) d ds (ds.set i (.fz d)) vs := .mk fun G S0 S H σ v E r Q q => wg_of (pg_name (i := i) hN hi hx hf) (q _ (E.putD i r) (wipe_set hm))
theorem xgws_nil : XGWs X [] [] ds ds vs := .mk fun G S0 S H σ us E r Q q => by cases r; exact wgs_of pgs_nil ⟨rfl, q σ E rfl⟩
theorem xgws_cons {tg : Expr} {tgs : List Expr} (h1 : XGW X tg d ds ds1 vs) (h2 : XGWs X tgs xs ds1 ds' vs) (hs : (assignEach (tg :: tgs) X.env).map (·.2) = assign tg X.env :: (assignEach tgs X.env).map (·.2) := by rfl) : XGWs X (tg :: tgs) (d :: xs) ds ds' vs := .mk fun G S0 S H σ us E r Q q => by
  cases r with
  | cons r rs => exact wgs_of (pgs_cons pg_w pgs_w hs) ⟨_, _, rfl, h1 G S0 S H σ _ E r _ fun σ' E' w => h2 G S0 S H σ' _ E' rs Q fun σ2 E2 w2 => q σ2 E2 (w2.trans w)⟩
theorem xgw_tup {tgs : List Expr} {k : Nat} {p : Pos} (hc : X.calm = true) (h : XGWs X tgs xs ds ds' vs) (hn : (assignEach tgs X.env).length = xs.length := by rfl) (hst : (assignEach tgs X.env).findIdx? (·.1) = none := by rfl) : XGW X (.Tuple tgs k p) (.tup xs) ds ds' vs := .mk fun G S0 S H σ v E r Q q => by
  cases r with
  | tup h1 ra => exact wg_of (pg_tup (n := xs.length) hc pgs_w hn hst) ⟨_, _, rfl, st_of (E.sh _ _ h1), by rw [da_len ra], h G S0 S H σ _ E ra Q q⟩
/-- a clause's tests -/
def wPt (X : Cx) (ifs : List Expr) : TT := fun σ H Q => ∀ pins s, Inv X pins σ H s →
    wpAny (model X.prog X.w) X.A (forIn ifs true fun c r => if r = true then do let ok ← isTrue c X.env (eval c X.env); pure (ForInStep.yield ok) else pure (ForInStep.yield r)) (TP X pins σ Q) X.xe s
structure XTs (X : Cx) (ifs : List Expr) (ds : List It) (k : Bool) : Prop where
  mk ::
  run : ∀ G S0 S H σ, Env X.K G S0 S H σ ds → ∀ Q : Bool → Hp → Prop, (∀ S' H', Gr S H S' H' → Q k H') → wPt X ifs σ H Q
instance {X : Cx} {ifs : List Expr} {ds : List It} {k : Bool} : CoeFun (XTs X ifs ds k) (fun _ => ∀ G S0 S H σ, Env X.K G S0 S H σ ds → ∀ Q : Bool → Hp → Prop, (∀ S' H', Gr S H S' H' → Q k H') → wPt X ifs σ H Q) := ⟨XTs.run⟩
theorem xts_nil : XTs X [] ds true := .mk fun G S0 S H σ E Q q pins s I => pts_nil.run pins s σ H Q I (q S H E.gr)
theorem xts_one {k : Bool} (h : XT X c ds k) : XTs X [c] ds k := .mk fun G S0 S H σ E Q q pins s I => (pts_one pt_w).run pins s σ H Q I (h G S0 S H σ E Q q)
/-- the turns of a comprehension, whatever its frame -/
inductive Lc (X : Cx) (scope : Scope) (vs : List Nat) (tg elt : Expr) (ifs : List Expr) (ds : List It) : List D → List D → Prop where
  | nil : Lc X scope vs tg elt ifs ds [] []
  | cons {d y : D} {xs ys : List D} {ds1 : List It} : (∀ s H C cl fp, XGW (Bk X scope s H C cl fp) tg d ds ds1 vs) → (∀ s H C cl fp, XTs (Bk X scope s H C cl fp) ifs ds1 true) → (∀ s H C cl fp, XV (Bk X scope s H C cl fp) elt ds1 y) →
      Lc X scope vs tg elt ifs ds xs ys → Lc X scope vs tg elt ifs ds (d :: xs) (y :: ys)
  | skip {d : D} {xs ys : List D} {ds1 : List It} : (∀ s H C cl fp, XGW (Bk X scope s H C cl fp) tg d ds ds1 vs) → (∀ s H C cl fp, XTs (Bk X scope s H C cl fp) ifs ds1 false) →
      Lc X scope vs tg elt ifs ds xs ys → Lc X scope vs tg elt ifs ds (d :: xs) ys
theorem Lc.len (h : Lc X scope vs tg elt ifs ds xs ys) : ys.length ≤ xs.length := by
  induction h with
  | nil => simp
  | cons _ _ _ _ ih => simp; exact ih
  | skip _ _ _ ih => simp; omega
def uG (X : Cx) (scope : Scope) (tg : Expr) : TG := fun v σ H Q => ∀ s H0 C cl fp, wG (Bk X scope s H0 C cl fp) tg v σ H Q
def uT (X : Cx) (scope : Scope) (ifs : List Expr) : TT := fun σ H Q => ∀ s H0 C cl fp, wPt (Bk X scope s H0 C cl fp) ifs σ H Q
def uE (X : Cx) (scope : Scope) (elt : Expr) : TE := fun σ H Q => ∀ s H0 C cl fp, wE (Bk X scope s H0 C cl fp) elt σ H Q
theorem wG_all {v : V} {σ : L2.St} {H : Hp} {Q : L2.St → Hp → Prop} (h : ∀ s H0 C cl fp, wG (Bk X scope s H0 C cl fp) tg v σ H Q) : uG X scope tg v σ H Q := h
theorem lc_read (hi : XI X tg iter ds xs) (hl : Lc X scope vs tg elt ifs (wipeC ds vs) xs ys) (hz : xs.length ≤ 100000) {G S0 S H : Hp} {σ : L2.St} (E : Env X.K G S0 S H σ ds) {Q : VK}
    (q : ∀ p us S' H', Gr S H S' H' → H p = none → S' p = none → H' p = some (.lst us) → RpA X.K S' us ys → Q (.ref p) H') : tLc (wI X tg iter) (uG X scope tg) (uT X scope ifs) (uE X scope elt) vs σ H Q :=
  hi G S0 S H σ E _ fun J S1 H1 g1 wk => fun D hD => by
    have sD : S1 D = none := g1.sh.free hD
    refine ⟨fun i m H => m = xs.length - i ∧ i ≤ xs.length ∧ ∃ S us acc rest, Gr S1 H1 S H ∧ S D = none ∧ H D = some (.lst us) ∧ RpA X.K S us acc ∧ Lc X scope vs tg elt ifs (wipeC ds vs) (xs.drop i) rest ∧ acc ++ rest = ys,
      ⟨xs.length, by simp, Nat.zero_le _, S1, [], [], ys, Gr.newH g1.sh hD, sD, upd_same, .nil, hl, rfl⟩, ?_⟩
    rintro i m H2 ⟨rfl, hi, S2, us, acc, rest, g2, s2, h2, ra, F, eq⟩
    obtain ⟨w1, w2⟩ := wk i S2 H2 g2.s g2.sh
    have E2 : Env X.K G S0 S2 H2 (wipe σ vs) (wipeC ds vs) := ((E.grow g1).grow g2).wipe vs
    by_cases hlt : i < xs.length
    · obtain ⟨go, y⟩ := w1 hlt
      rw [List.drop_eq_getElem_cons hlt] at F
      refine .inr ⟨go, fun H' => ∃ S us acc rest, Gr S1 H1 S H' ∧ S D = none ∧ H' D = some (.lst us) ∧ RpA X.K S us acc ∧ Lc X scope vs tg elt ifs (wipeC ds vs) (xs.drop (i + 1)) rest ∧ acc ++ rest = ys,
        fun H' h => ⟨xs.length - (i + 1), by omega, rfl, hlt, h⟩, fun x H3 hy => ?_⟩
      obtain ⟨rfl, d, hd, r⟩ := y x H3 hy
      rw [List.getElem?_eq_getElem hlt] at hd
      have hd' := Option.some.inj hd
      subst hd'
      -- the block's own judgements, whatever its frame
      have glue : ∀ {ds1 : List It} {k : Bool} {R : L2.St → Hp → Prop}, (∀ s H C cl fp, XGW (Bk X scope s H C cl fp) tg xs[i] (wipeC ds vs) ds1 vs) → (∀ σ', Env X.K G S0 S2 H3 σ' ds1 → wipe σ' vs = wipe σ vs → R σ' H3) → uG X scope tg x (wipe σ vs) H3 R := fun {ds1 k R} hg hR s H0 C cl fp =>
        hg s H0 C cl fp G S0 S2 H3 _ x E2 r R fun σ' E' w => hR σ' E' (w.trans (wipe_wipe vs))
      cases F with
      | @cons _ y _ rest' ds1 hg ht hv F =>
        refine glue (k := true) hg fun σ' E' w => ⟨w, fun s H0 C cl fp => ht s H0 C cl fp G S0 S2 H3 σ' E' _ fun S3 H4 g3 => ?_⟩
        rw [if_pos rfl]
        intro s H0 C cl fp
        refine hv s H0 C cl fp G S0 S3 H4 σ' (E'.grow g3) _ fun u S4 H5 g4 ru => ?_
        have g34 := g3.trans g4
        have h5 : H5 D = some (.lst us) := g34.h _ _ h2
        have s4 : S4 D = none := by rw [g34.old D (nn_of h2)]; exact s2
        have ra' := da_same g34.s ra
        refine ⟨us, h5, szlt _ ?_, S4, us ++ [u], acc ++ [y], rest', ⟨g2.s.trans g34.s, fun k w z => ?_, fun k w z => ?_, fun k hk => ?_⟩, s4, upd_same, da_append ra' (da_one ru), F, by rw [List.append_assoc]; exact eq⟩
        · have e1 : acc.length + (y :: rest').length = ys.length := by rw [← eq, List.length_append]
          have e2 := hl.len
          have e3 := da_len ra
          simp only [List.length_cons] at e1
          omega
        · rw [upd_ne (ne_of_none z hD)]
          exact g34.h _ _ (g2.h _ _ z)
        · rw [upd_ne (fun e => by rw [e, s4] at z; cases z)]
          exact g34.sh _ _ z
        · exact (g34.old k (Same.nn g2.h hk)).trans (g2.old k hk)
      | @skip _ _ _ ds1 hg ht F =>
        refine glue (k := true) hg fun σ' E' w => ⟨w, fun s H0 C cl fp => ht s H0 C cl fp G S0 S2 H3 σ' E' _ fun S3 H4 g3 => ?_⟩
        rw [if_neg Bool.false_ne_true]
        exact ⟨S3, us, acc, rest, g2.trans g3, by rw [g3.old D (nn_of h2)]; exact s2, g3.h _ _ h2, da_same g3.s ra, F, eq⟩
    · have e : i = xs.length := by omega
      subst e
      rw [List.drop_length] at F
      cases F
      rw [List.append_nil] at eq
      subst eq
      exact .inl ⟨w2 (Nat.le_refl _), q D us S2 H2 (g1.trans g2) (g1.h.free hD) s2 h2 ra⟩
theorem xl_lc (own : List (Str × Nat)) (hc : X.calm = true) (hN : X.N.Nodup) (hi : XI X tg iter ds xs) (ok : BlkOk X.N X.env.scope scope own) (hl : Lc X scope (own.map (·.2)) tg elt ifs (wipeC ds (own.map (·.2))) xs ys) (hz : xs.length ≤ 100000)
    (hs : ∀ x, foldedSetIterable iter X.env x = pure x := by intro _; rfl) : XL X (.ListComp elt [⟨tg, iter, ifs, 0⟩] scope pos) ds ys := .mk fun G S0 S H σ E Q q =>
  we_of (pe_lc hc hN pi_w ok (fun s H0 C cl fp => ⟨fun pins s σ H v u Q I r h => (h _ _ _ _ _) pins s u I r⟩) (fun s H0 C cl fp => ⟨fun pins s σ H Q I h => (h _ _ _ _ _) pins s I⟩) (fun s H0 C cl fp => ⟨fun pins s σ H Q I h => (h _ _ _ _ _) pins s I⟩) hs)
    (lc_read hi hl hz E q)
theorem xs_lc (i : Nat) {y : Str} {py : Pos} (own : List (Str × Nat)) (hc : X.calm = true) (hN : X.N.Nodup) (hi : XI X tg iter ds xs) (ok : BlkOk X.N X.env.scope scope own) (hl : Lc X scope (own.map (·.2)) tg elt ifs (wipeC ds (own.map (·.2))) xs ys) (hz : xs.length ≤ 100000)
    (hy : X.N[i]? = some y := by rfl) (hyl : X.env.scope.names.lookup y = some .local := by rfl) (hsw : swapsWith (.ListComp elt [⟨tg, iter, ifs, 0⟩] scope pos) (some (.Name y py)) pos.line X.env = pure true := by exact sw_true rfl rfl rfl (by decide +kernel))
    {spos : Pos} (hline : spos.line = pos.line := by rfl) (hs : ∀ x, foldedSetIterable iter X.env x = pure x := by intro _; rfl) : XS X W (.Assign [.Name y py] (.ListComp elt [⟨tg, iter, ifs, 0⟩] scope pos) spos) ds (.nx (ds.set i (.ow ys))) := .mk fun G S0 S H σ E Z q =>
  ws_of (ps_setLc hc hN hy hyl (by rw [hline]; exact hsw) pi_w ok (fun s H0 C cl fp => ⟨fun pins s σ H v u Q I r h => (h _ _ _ _ _) pins s u I r⟩) (fun s H0 C cl fp => ⟨fun pins s σ H Q I h => (h _ _ _ _ _) pins s I⟩) (fun s H0 C cl fp => ⟨fun pins s σ H Q I h => (h _ _ _ _ _) pins s I⟩) hs)
    (lc_read hi hl hz E fun p us S' H' g h1 h2 h3 h4 => q _ S' H' (E.putL g i h1 h3 h2 h4))
end
end Lay
/-! Lay8: what the top leaves; more built-ins. -/
namespace Lay
open PySem L2
/-- the built-ins that are used are what they were -/
structure Tx (K : Fg) (mg : Str → Option Value) : Prop where
  len : mg "len" = none
  range : mg "range" = none
  sorted : mg "sorted" = none
  set : mg "set" = none
  list : mg "list" = none
  tuple : mg "tuple" = none
  sum : mg "sum" = none
  any : mg "any" = none
  all : mg "all" = none
  abs : mg "abs" = none
  max : mg "max" = none
  min : mg "min" = none
  int : mg "int" = none
  isinstance : mg "isinstance" = none
  bool : mg "bool" = none
/-- a def of the text, by its name -/
structure Dn (K : Fg) (mg : Str → Option Value) (x : Str) (st : Stmt) (ps : List Str) : Prop where
  ex : ∃ f fd, mg x = some (.ref f) ∧ Fun K x x st f fd ∧ Binds K fd ps []
section
variable {P : Program} {w : World} {K : Fg} {mg : Str → Option Value} {base : Heap}
theorem df_of {x : Str} {st : Stmt} {N ps : List Str} (k : Nat) {F : Fs} (U : Dn K mg x st ps) (S : FnScope N ps (defScope st)) (len : ∀ args r, F args r → args.length = ps.length)
    (body : ∀ (f : Addr) (cdv : Value) (A : Around) (outer : List PySem.Env) (s : Shared) (H : Hp) (E : XK) (args : List D) (r : Res), Room k (A.deeper (PyProof.Rows.envOfC x (defScope st) s.heap.objs.size f cdv)) →
      Takes (cxOf (L2.CX P w) P w K mg base N x (defScope st) f cdv A outer s H E) (fun cls d _ H => E cls d H) →
      PassesOwn (model P w) (A.deeper (PyProof.Rows.envOfC x (defScope st) s.heap.objs.size f cdv)) (PyProof.Rows.envOfC x (defScope st) s.heap.objs.size f cdv) (cxOf (L2.CX P w) P w K mg base N x (defScope st) f cdv A outer s H E).xe → F args r →
      XF (cxOf (L2.CX P w) P w K mg base N x (defScope st) f cdv A outer s H E) (fun cls d _ H => E cls d H) (defBody st) (ctx0 N.length args) r) : Df P w K mg base x (k + 1) F := by
  obtain ⟨f, fd, hm, hf, hb⟩ := U.ex
  exact ⟨f, fd, ps, hm, hf.kp, hb, fn_ok hf S len fun cdv A outer s H E args r hr hF => body f cdv A outer s H E args r hr (takes_of rfl rfl rfl rfl) (passes_of rfl) hF⟩
end
/-- the same for the law itself -/
theorem fnl_of {P : Program} {w : World} {K : Fg} {mg : Str → Option Value} {base : Heap} {x : Str} {st : Stmt} {N ps : List Str} (k : Nat) {F : Fs} {f : Addr} {fd : FuncData} (U : Fun K x x st f fd) (S : FnScope N ps (defScope st)) (len : ∀ args r, F args r → args.length = ps.length)
    (body : ∀ (cdv : Value) (A : Around) (outer : List PySem.Env) (s : Shared) (H : Hp) (E : XK) (args : List D) (r : Res), Room k (A.deeper (PyProof.Rows.envOfC x (defScope st) s.heap.objs.size f cdv)) →
      Takes (cxOf (L2.CX P w) P w K mg base N x (defScope st) f cdv A outer s H E) (fun cls d _ H => E cls d H) →
      PassesOwn (model P w) (A.deeper (PyProof.Rows.envOfC x (defScope st) s.heap.objs.size f cdv)) (PyProof.Rows.envOfC x (defScope st) s.heap.objs.size f cdv) (cxOf (L2.CX P w) P w K mg base N x (defScope st) f cdv A outer s H E).xe → F args r →
      XF (cxOf (L2.CX P w) P w K mg base N x (defScope st) f cdv A outer s H E) (fun cls d _ H => E cls d H) (defBody st) (ctx0 N.length args) r) : FnOk P w K mg base (L2.CX P w) (k + 1) f fd ps (spF K F) :=
  fn_ok U S len fun cdv A outer s H E args r hr hF => body cdv A outer s H E args r hr (takes_of rfl rfl rfl rfl) (passes_of rfl) hF
/-- the law's own promise -/
def F_law : Fs := fun args r => ∃ ns : List Int, args = [.scr ns] ∧ ns.length ≤ 63 ∧ r = .ok (.bl true)
theorem law_sp {K : Fg} {H : Hp} {a : Addr} {ns : List Int} (hl : ns.length ≤ 63) (h : SqL K H a (ns.map V.int)) : spF K F_law [.ref a] H (fun v _ => v = .bl true) fun _ _ _ => False :=
  ⟨H, [.scr ns], .ok (.bl true), Same.refl _, .cons (.scr h) .nil, ⟨ns, rfl, hl, rfl⟩, fun v S' H' g r => by cases r; rfl⟩
theorem law_cx {P : Program} {w : World} {outer : List PySem.Env} {H : Hp} {s s' : Shared} {e : Value} (h : L2.CX P w outer H s (fun _ _ _ => False) e s') : False := by
  obtain ⟨_, _, _, _, _, _, _, _, _, _, _, _, z⟩ := h
  exact z
/-- a def, by what the head tells of it -/
theorem dn_mk {K : Fg} {h : Heap} {mg : Str → Option Value} {x : Str} {st : Stmt} {ps : List Str} {f : Addr} {oc : Value} {od an : Option Addr} {osl : Array (Option Value)} {kV doc pm cdv ct : Value} (X : K.In h) (G : h.Ns mainGlobals mg)
    (a : PySem.W.nsIn K mainGlobals x = some (some (.ref f))) (l : K.lookup f = some ⟨oc, od, .func (PySem.W.fnOf x x (defArgs st) (defBody st) (defScope st) .none kV doc pm an cdv ct), osl⟩) (c : PySem.W.codeIn K cdv x = true) (k : PySem.W.keepIn K (.ref f) = true)
    (b : ∀ (kV doc pm : Value) (an : Option Addr) (cdv ct : Value) (us : List Value), us.length = ps.length → bindArgs (PySem.W.fnOf x x (defArgs st) (defBody st) (defScope st) .none kV doc pm an cdv ct) ⟨us, []⟩ = pure (ps.zip us)) : Dn K mg x st ps :=
  ⟨f, _, PySem.W.mg_of X G a, fun_mk l c k, (fun_mk l c k).binds b⟩
/-- the law itself, likewise -/
structure Dl (K : Fg) (st : Stmt) (fa : Addr) : Prop where
  ex : ∃ fd, Fun K "law" "law" st fa fd ∧ ∀ (s : Shared) (v : Value), BindsTo s fd ⟨[v], []⟩ [("_law_script", v)]
theorem dl_mk {K : Fg} {h : Heap} {mg : Str → Option Value} {st : Stmt} {fa f : Addr} {oc : Value} {od an : Option Addr} {osl : Array (Option Value)} {kV doc pm cdv ct : Value} (X : K.In h) (G : h.Ns mainGlobals mg) (hfa : mg "law" = some (.ref fa))
    (a : PySem.W.nsIn K mainGlobals "law" = some (some (.ref f))) (l : K.lookup f = some ⟨oc, od, .func (PySem.W.fnOf "law" "law" (defArgs st) (defBody st) (defScope st) .none kV doc pm an cdv ct), osl⟩) (c : PySem.W.codeIn K cdv "law" = true) (k : PySem.W.keepIn K (.ref f) = true)
    (b : ∀ (kV doc pm : Value) (an : Option Addr) (cdv ct v : Value), bindArgs (PySem.W.fnOf "law" "law" (defArgs st) (defBody st) (defScope st) .none kV doc pm an cdv ct) ⟨[v], []⟩ = pure [(("_law_script" : Str), v)]) : Dl K st fa := by
  have e := hfa.symm.trans (PySem.W.mg_of X G a)
  cases e
  exact ⟨_, fun_mk l c k, fun s v => .of_eq (b ..)⟩
theorem Df.mono {P : Program} {w : World} {K : Fg} {mg : Str → Option Value} {base : Heap} {x : Str} {j k : Nat} {F : Fs} (h : Df P w K mg base x j F) (l : j ≤ k) : Df P w K mg base x k F :=
  let ⟨f, fd, ps, a, b, c, d⟩ := h.ex; ⟨f, fd, ps, a, b, c, d.mono l⟩
theorem XF.mk {X : Cx} {W : WX} {body : List Stmt} {ds : List It} {r : Res} (o : Ou) (h : XSs X W body ds o) (f : Fits o r) : XF X W body ds r := ⟨o, h, f⟩
theorem XF.rt {X : Cx} {W : WX} {body : List Stmt} {ds : List It} {d : D} (h : XSs X W body ds (.rt d)) : XF X W body ds (.ok d) := ⟨_, h, rfl⟩
theorem XF.er {X : Cx} {W : WX} {body : List Stmt} {ds : List It} {c : Addr} (h : XSs X W body ds (.er c)) : XF X W body ds (.er c) := ⟨_, h, rfl⟩
theorem XF.nx {X : Cx} {W : WX} {body : List Stmt} {ds ds' : List It} (h : XSs X W body ds (.nx ds')) : XF X W body ds (.ok .non) := ⟨_, h, rfl⟩
section
variable {X : Cx} {W : WX} {e a b c : Expr} {ds : List It} {pos : Pos} {A B : D} {i j : Int}
theorem xv_ifd {d d' : D} {k : Bool} (hc : XT X c ds k) (ha : k = true → XV X a ds d) (hb : k = false → XV X b ds d') : XV X (.IfExp c a b pos) ds (if k = true then d else d') :=
  xv_if hc (fun h => by rw [if_pos h]; exact ha h) fun h => by rw [h, if_neg Bool.false_ne_true]; exact hb h
/-- an item of a list that a typed list makes -/
theorem ix_map {α : Type} {f : α → D} {xs : List α} {i : Int} {x : α} (h : atI xs i = some x) : ixD (.lst (xs.map f)) i = some (f x) := by
  show atI (xs.map f) i = some (f x)
  unfold atI at h ⊢
  rw [List.length_map]
  cases q : ixN xs.length i with
  | none => rw [q] at h; cases h
  | some j =>
    rw [q] at h
    show (xs.map f)[j]? = _
    have h : xs[j]? = some x := h
    rw [List.getElem?_map, h]; rfl
theorem atI_ge {α : Type} {xs : List α} {i : Int} (h0 : 0 ≤ i) (h1 : i < xs.length) : atI xs i = some (xs[i.toNat]'(by omega)) := by
  unfold atI ixN
  rw [if_pos h0, if_pos h1]
  show xs[i.toNat]? = _
  rw [List.getElem?_eq_getElem]
theorem atI_d {α : Type} {xs : List α} {i : Int} (d : α) (h0 : 0 ≤ i) (h1 : i < xs.length) : atI xs i = some (xs.getD i.toNat d) := by
  rw [atI_ge h0 h1]; congr 1
  rw [List.getD_eq_getElem?_getD, List.getElem?_eq_getElem (by omega)]; rfl
theorem atI_lastD {α : Type} {xs : List α} (h : xs ≠ []) : atI xs (-1) = some (xs.getLast h) := by
  have hl : 0 < xs.length := List.length_pos_iff.mpr h
  unfold atI ixN
  rw [if_neg (by omega), if_pos (by omega)]
  show xs[((-1 : Int) + (xs.length : Int)).toNat]? = _
  have e : ((-1 : Int) + (xs.length : Int)).toNat = xs.length - 1 := by omega
  rw [e, ← List.getLast?_eq_getElem?, List.getLast?_eq_some_getLast h]
theorem ixN_ge {n : Nat} {i : Int} (h0 : 0 ≤ i) (h1 : i < n) : ixN n i = some i.toNat := by unfold ixN; rw [if_pos h0, if_pos h1]
theorem xv_sum {p : Pos} {ns : List Int} (hc : X.calm = true) (hm : X.mg "sum" = none) (ha : XB X e ds A) (h : A = .lst (ns.map .int)) (hg : Gl X "sum" := by rfl) (hs : starEach [e] X.env = (false, eval e X.env) :: starEach [] X.env := by exact se rfl) (hpl : (backTo pos (starEach [] X.env)).any (·.1) = false := by exact spl rfl) :
    XV X (.Call (.Name "sum" p) [e] [] pos) ds (.int ns.sum) := by
  subst h
  exact xv_callB (cr_sum hc) hm boot_sum' (xab_cons ha xab_nil hs) (fun S H vs Q k r q => by
    obtain ⟨v, rfl, r1⟩ := rba1 r
    obtain ⟨p, vs, rfl, h1, h2⟩ := r1.lst k
    have e := da_ints h2
    subst e
    exact ⟨p, ns, rfl, sq_of h1, q _ S H (.refl k) (.int _)⟩) hg (he := hs) (hpl := hpl)
theorem xv_any {p : Pos} {ns : List Bool} (hc : X.calm = true) (hm : X.mg "any" = none) (ha : XB X e ds A) (h : A = .lst (ns.map .bl)) (hg : Gl X "any" := by rfl) (hs : starEach [e] X.env = (false, eval e X.env) :: starEach [] X.env := by exact se rfl) (hpl : (backTo pos (starEach [] X.env)).any (·.1) = false := by exact spl rfl) :
    XV X (.Call (.Name "any" p) [e] [] pos) ds (.bl (ns.any id)) := by
  subst h
  exact xv_callB (cr_any hc) hm boot_any' (xab_cons ha xab_nil hs) (fun S H vs Q k r q => by
    obtain ⟨v, rfl, r1⟩ := rba1 r
    obtain ⟨p, vs, rfl, h1, h2⟩ := r1.lst k
    have e := da_bools h2
    subst e
    exact ⟨p, ns, rfl, sq_of h1, q _ S H (.refl k) (.bl _)⟩) hg (he := hs) (hpl := hpl)
theorem xv_all {p : Pos} {ns : List Bool} (hc : X.calm = true) (hm : X.mg "all" = none) (ha : XB X e ds A) (h : A = .lst (ns.map .bl)) (hg : Gl X "all" := by rfl) (hs : starEach [e] X.env = (false, eval e X.env) :: starEach [] X.env := by exact se rfl) (hpl : (backTo pos (starEach [] X.env)).any (·.1) = false := by exact spl rfl) :
    XV X (.Call (.Name "all" p) [e] [] pos) ds (.bl (ns.all id)) := by
  subst h
  exact xv_callB (cr_all hc) hm boot_all' (xab_cons ha xab_nil hs) (fun S H vs Q k r q => by
    obtain ⟨v, rfl, r1⟩ := rba1 r
    obtain ⟨p, vs, rfl, h1, h2⟩ := r1.lst k
    have e := da_bools h2
    subst e
    exact ⟨p, ns, rfl, sq_of h1, q _ S H (.refl k) (.bl _)⟩) hg (he := hs) (hpl := hpl)
/-! ### comprehensions of the usual kinds -/
theorem Lc.is {scope : Scope} {vs : List Nat} {tg elt : Expr} {ifs : List Expr} {xs ys zs : List D} (h : Lc X scope vs tg elt ifs ds xs ys) (q : ys = zs) : Lc X scope vs tg elt ifs ds xs zs := q ▸ h
theorem truD_map {α : Type} {f : α → D} {xs : List α} {k : Bool} (h : (!xs.isEmpty) = k) : truD (.lst (xs.map f)) = some k := by subst h; cases xs <;> rfl
theorem lc_map {α : Type} {f g : α → D} {scope : Scope} {vs : List Nat} {tg elt : Expr} : ∀ (xs : List α), (∀ x ∈ xs, ∃ ds1, (∀ s H C cl fp, XGW (Bk X scope s H C cl fp) tg (f x) ds ds1 vs) ∧ (∀ s H C cl fp, XV (Bk X scope s H C cl fp) elt ds1 (g x))) →
    Lc X scope vs tg elt [] ds (xs.map f) (xs.map g)
  | [], _ => .nil
  | x :: xs, h => by
    obtain ⟨ds1, hg, he⟩ := h x List.mem_cons_self
    exact .cons hg (fun _ _ _ _ _ => xts_nil) he (lc_map xs fun y hy => h y (List.mem_cons_of_mem _ hy))
theorem lc_filter {α : Type} {f g : α → D} {p : α → Bool} {scope : Scope} {vs : List Nat} {tg elt : Expr} {ifs : List Expr} : ∀ (xs : List α), (∀ x ∈ xs, ∃ ds1, (∀ s H C cl fp, XGW (Bk X scope s H C cl fp) tg (f x) ds ds1 vs) ∧ (∀ s H C cl fp, XTs (Bk X scope s H C cl fp) ifs ds1 (p x)) ∧ (p x = true → ∀ s H C cl fp, XV (Bk X scope s H C cl fp) elt ds1 (g x))) →
    Lc X scope vs tg elt ifs ds (xs.map f) ((xs.filter p).map g)
  | [], _ => .nil
  | x :: xs, h => by
    obtain ⟨ds1, hg, ht, he⟩ := h x List.mem_cons_self
    have ih := lc_filter xs fun y hy => h y (List.mem_cons_of_mem _ hy)
    cases e : p x with
    | true =>
      rw [List.filter_cons_of_pos (by rw [e])]
      rw [e] at ht
      exact .cons hg ht (he e) ih
    | false =>
      rw [List.filter_cons_of_neg (by rw [e]; exact Bool.false_ne_true)]
      rw [e] at ht
      exact .skip hg ht ih
/-! ### ifs in a block -/
variable {st : Stmt} {sts rest AA BB : List Stmt} {ds1 : List It} {o : Ou} {k : Bool}
theorem xss_if (hc : XT X c ds k) (ht : k = true → XT X c ds true → XSs X W (.If c AA BB pos :: rest) ds o) (hf : k = false → XT X c ds false → XSs X W (.If c AA BB pos :: rest) ds o) : XSs X W (.If c AA BB pos :: rest) ds o := by
  cases k with
  | true => exact ht rfl hc
  | false => exact hf rfl hc
theorem xss_yes (hc : XT X c ds true) (h : XSs X W AA ds (.nx ds1)) (h2 : XSs X W rest ds1 o) : XSs X W (.If c AA BB pos :: rest) ds o := xss_cons (xs_yes hc h) h2
theorem xss_no (hc : XT X c ds false) (h : XSs X W BB ds (.nx ds1)) (h2 : XSs X W rest ds1 o) : XSs X W (.If c AA BB pos :: rest) ds o := xss_cons (xs_no hc h) h2
theorem xss_no0 (hc : XT X c ds false) (h2 : XSs X W rest ds o) : XSs X W (.If c AA [] pos :: rest) ds o := xss_cons (xs_no hc xss_nil) h2
theorem xss_yesS (hc : XT X c ds true) (h : XSs X W AA ds o) (ho : goesOn o = false := by rfl) : XSs X W (.If c AA BB pos :: rest) ds o := xss_stop (xs_yes hc h) ho
theorem xss_noS (hc : XT X c ds false) (h : XSs X W BB ds o) (ho : goesOn o = false := by rfl) : XSs X W (.If c AA BB pos :: rest) ds o := xss_stop (xs_no hc h) ho
theorem xss_ret {d : D} (he : XV X e ds d) : XSs X W (.Return (some e) pos :: rest) ds (.rt d) := xss_stop (xs_ret he)
theorem xss_raise {x m : Str} {C : Addr} {j : Nat} {p p2 p3 : Pos} (hc : X.calm = true) (tk : Takes X W) (T : EC X.K X.mg x C) (hg : Gl X x := by rfl) (hdb : (x == ("__debug__" : Str)) = false := by decide) :
    XSs X W (.Raise (some (.Call (.Name x p) [.Constant (.str m) j p2] [] p3)) none pos :: rest) ds (.er C) := (xss_stop (xs_raise hc tk T hg hdb)).er
theorem xss_then {o1 : Ou} (h : XS X W st ds o1) (hn : ∀ ds1, o1 = .nx ds1 → XSs X W rest ds1 o) (hs : goesOn o1 = false → o1 = o) : XSs X W (st :: rest) ds o := by
  cases o1 with
  | nx ds1 => exact xss_cons h (hn ds1 rfl)
  | _ => exact xss_stop (h.is (hs rfl)) (by rw [← hs rfl]; rfl)
/-! ### 0, 1, .. from a number on -/
def rngF (i m : Nat) : List D := (List.range' i m).map fun (k : Nat) => D.int (k : Int)
theorem rngD_F (n : Nat) : rngD n = rngF 0 n := by unfold rngD rngF; rw [List.range_eq_range']
theorem rngF_0 (i : Nat) : rngF i 0 = [] := rfl
theorem rngF_succ (i m : Nat) : rngF i (m + 1) = .int i :: rngF (i + 1) m := rfl
theorem rngF_len (i m : Nat) : (rngF i m).length = m := by simp [rngF]
/-- a turn that goes on if c, else ends the loop by o1 -/
theorem Fr.chk {tg : Expr} {body : List Stmt} {d : D} {xs : List D} {a b : List It} {o1 : Ou} (cc : Bool) (hg : XG X tg d ds ds1) (hb : XSs X W body ds1 (if cc = true then .nx a else o1)) (hl : Le a b) (ht : turns o1 = none) (h : cc = true → Fr X W tg body xs b o) (h' : cc = false → o = brk o1) :
    Fr X W tg body (d :: xs) ds o := by
  cases cc with
  | true => rw [if_pos rfl] at hb; exact .step hg hb rfl hl (h rfl)
  | false => rw [if_neg Bool.false_ne_true] at hb; rw [h' rfl]; exact .out hg hb ht
/-! ### tuples of whole numbers, compared -/
theorem xt_ltT {ns ms : List Int} (hu : X.A.units + 64 < cLine) (ha : XB X a ds A) (hb : XB X b ds B) (h1 : A = .tup (ns.map .int)) (h2 : B = .tup (ms.map .int)) : XT X (.Compare a [.Lt] [b] pos) ds (HT.lexLt ns ms) := by
  subst h1 h2
  exact xt_cmp (op_ltT (by omega)) ha hb (nomark _) fun S H x y Q k r1 r2 q => by
    obtain ⟨p, vs, rfl, p1, a1⟩ := r1.tup
    obtain ⟨p', vs', rfl, p2, a2⟩ := r2.tup
    have e1 := da_ints a1
    have e2 := da_ints a2
    subst e1 e2
    exact ⟨p, p', ns, ms, rfl, rfl, st_of (k _ _ p1), st_of (k _ _ p2), q⟩
end
end Lay
/-! Lay9: sorted(set(..)) of tuples of whole numbers. -/
namespace Lay
open PySem L2
/-- a tuple of whole numbers -/
def eT (ns : List Int) : D := .tup (ns.map .int)
section
variable {B : Int}
theorem code_bd : ∀ {ns : List Int}, TS.Bd B ns → 0 ≤ TS.code B ns ∧ TS.code B ns < B ^ ns.length
  | [], _ => by simp [TS.code]
  | d :: r, h => by
    obtain ⟨h1, h2⟩ := h.head
    obtain ⟨h3, h4⟩ := code_bd h.tail
    have hB : 0 < B := by omega
    have hp : 0 < B ^ r.length := Int.pow_pos hB
    simp only [TS.code, List.length_cons, Int.pow_succ]
    constructor
    · have := Int.mul_nonneg h1 (Int.le_of_lt hp); omega
    · have : (d + 1) * B ^ r.length ≤ B * B ^ r.length := Int.mul_le_mul_of_nonneg_right (by omega) (Int.le_of_lt hp)
      rw [Int.add_mul] at this
      rw [Int.mul_comm (B ^ r.length) B]
      omega
theorem code_inj : ∀ {ns ms : List Int}, TS.Bd B ns → TS.Bd B ms → ns.length = ms.length → TS.code B ns = TS.code B ms → ns = ms
  | [], [], _, _, _, _ => rfl
  | [], _ :: _, _, _, h, _ => by cases h
  | _ :: _, [], _, _, h, _ => by cases h
  | d :: r, d' :: r', h, h', hl, hc => by
    have hl' : r.length = r'.length := by simpa using hl
    obtain ⟨a1, a2⟩ := code_bd h.tail
    obtain ⟨b1, b2⟩ := code_bd h'.tail
    simp only [TS.code] at hc
    rw [← hl'] at hc b2
    have hp : 0 < B ^ r.length := Int.pow_pos (by have := h.head; omega)
    have e : d = d' := by
      rcases Int.lt_trichotomy d d' with z | z | z
      · have : (d + 1) * B ^ r.length ≤ d' * B ^ r.length := Int.mul_le_mul_of_nonneg_right (by omega) (Int.le_of_lt hp)
        rw [Int.add_mul] at this; omega
      · exact z
      · have : (d' + 1) * B ^ r.length ≤ d * B ^ r.length := Int.mul_le_mul_of_nonneg_right (by omega) (Int.le_of_lt hp)
        rw [Int.add_mul] at this; omega
    subst e
    rw [code_inj h.tail h'.tail hl' (by omega)]
/-- a list that rises strictly by a key is told by its members -/
theorem rise_unique {α : Type} (f : α → Int) : ∀ {xs ys : List α}, xs.Pairwise (fun a b => f a < f b) → ys.Pairwise (fun a b => f a < f b) → (∀ x, x ∈ xs ↔ x ∈ ys) → xs = ys
  | [], [], _, _, _ => rfl
  | [], y :: ys, _, _, h => absurd ((h y).mpr List.mem_cons_self) (by simp)
  | x :: xs, [], _, _, h => absurd ((h x).mp List.mem_cons_self) (by simp)
  | x :: xs, y :: ys, hx, hy, h => by
    rw [List.pairwise_cons] at hx hy
    have e : x = y := by
      rcases List.mem_cons.mp ((h x).mp List.mem_cons_self) with q | q
      · exact q
      · rcases List.mem_cons.mp ((h y).mpr List.mem_cons_self) with q' | q'
        · exact q'.symm
        · have := hx.1 y q'
          have := hy.1 x q
          omega
    subst e
    congr 1
    refine rise_unique f hx.2 hy.2 fun z => ⟨fun hz => ?_, fun hz => ?_⟩
    · rcases List.mem_cons.mp ((h z).mp (List.mem_cons_of_mem _ hz)) with q | q
      · subst q; exact absurd (hx.1 _ hz) (Int.lt_irrefl _)
      · exact q
    · rcases List.mem_cons.mp ((h z).mpr (List.mem_cons_of_mem _ hz)) with q | q
      · subst q; exact absurd (hy.1 _ hz) (Int.lt_irrefl _)
      · exact q
end
theorem da_tups {K : Fg} {S : Hp} : ∀ {vs : List V} {xs : List (List Int)}, RpA K S vs (xs.map eT) → ∃ ks : List (Addr × List Int), vs = ks.map (fun p => V.ref p.1) ∧ xs = ks.map (·.2) ∧ ∀ p ∈ ks, S p.1 = some (.tup (p.2.map V.int))
  | _, [], h => by cases h; exact ⟨[], rfl, rfl, fun _ z => by cases z⟩
  | _, x :: xs, h => by
    cases h with
    | cons h t =>
      obtain ⟨ks, e1, e2, hk⟩ := da_tups t
      cases h with
      | @tup a vs _ ha hr =>
        have z := da_ints hr
        subst z
        refine ⟨(a, x) :: ks, by rw [e1]; rfl, by rw [e2]; rfl, fun p hp => ?_⟩
        rcases List.mem_cons.mp hp with rfl | hp
        · exact ha
        · exact hk p hp
theorem tups_da {K : Fg} {S : Hp} : ∀ (ks : List (Addr × List Int)), (∀ p ∈ ks, S p.1 = some (.tup (p.2.map V.int))) → RpA K S (ks.map fun p => V.ref p.1) ((ks.map (·.2)).map eT)
  | [], _ => .nil
  | p :: ks, h => .cons (.tup (h p List.mem_cons_self) (ints_da _)) (tups_da ks fun q hq => h q (List.mem_cons_of_mem _ hq))
theorem boot_sorted' : bootBuiltins ("sorted" : Str) = some (.builtin "sorted") := by decide +kernel
theorem boot_set' : bootBuiltins ("set" : Str) = some (.type "set") := by decide +kernel
section
variable {X : Cx} {e : Expr} {ds : List It} {pos : Pos}
theorem xl_sortset {p p2 pos2 : Pos} {A : D} {xs ys : List (List Int)} (d : Nat) (B : Int) (hc : X.calm = true) (hu : X.A.units + 64 < cLine) (hm : X.mg "sorted" = none) (hm2 : X.mg "set" = none) (ha : XB X e ds A) (hA : A = .lst (xs.map eT)) (hz : xs.length < 64) (hd : 1 ≤ d) (hb : ∀ x ∈ xs, x.length = d ∧ TS.Bd B x)
    (hy : ys.Pairwise fun a b => TS.code B a < TS.code B b) (hmem : ∀ x, x ∈ ys ↔ x ∈ xs) (hg : Gl X "sorted" := by rfl) (hg2 : Gl X "set" := by rfl) (hs : starEach [e] X.env = (false, eval e X.env) :: starEach [] X.env := by exact se rfl) (hpl2 : (backTo pos2 (starEach [] X.env)).any (·.1) = false := by exact spl rfl)
    (hs2 : starEach [.Call (.Name "set" p2) [e] [] pos2] X.env = (false, eval (.Call (.Name "set" p2) [e] [] pos2) X.env) :: starEach [] X.env := by rfl) (hpl : (backTo pos (starEach [] X.env)).any (·.1) = false := by exact spl rfl) :
    XL X (.Call (.Name "sorted" p) [.Call (.Name "set" p2) [e] [] pos2] [] pos) ds (ys.map eT) := .mk fun G S0 S H σ E Q q =>
  we_of (pe_callB (cr_sortedT hc) hg hm boot_sorted' (pa_cons (pe_callTy (cr_setOfT hc hu) hg2 hm2 boot_set' (pa_cons pe_w pa_nil hs) (he := hs) (hpl := hpl2)) pa_nil hs2) (he := hs2) (hpl := hpl)) (ha G S0 S H σ E _ fun v S1 H1 g1 r1 => by
    obtain ⟨l, vs, rfl, hl, ra⟩ := (hA ▸ r1).lst g1.sh
    obtain ⟨ks, rfl, rfl, hk⟩ := da_tups ra
    refine ⟨l, ks, rfl, sq_of hl, fun p hp => st_of (g1.sh _ _ (hk p hp)), by simpa using hz, fun a L ha0 hL1 hL2 => ?_⟩
    have kL : ∀ p ∈ L, S1 p.1 = some (.tup (p.2.map V.int)) := fun p hp => hk p (hL1 p hp)
    have g2 : Gr S1 H1 S1 (upd H1 a (SetTO X.prog X.w a L)) := Gr.newH g1.sh ha0
    refine ⟨a, L, d, B, rfl, upd_same, fun p hp => st_of (g2.sh _ _ (kL p hp)), hd, fun p hp => hb p.2 (List.mem_map_of_mem (hL1 p hp)), fun L' n pm nd h64 pw hn => ?_⟩
    have hb' : ∀ p ∈ L', p.2.length = d ∧ TS.Bd B p.2 := fun p hp => hb p.2 (List.mem_map_of_mem (hL1 p (pm.mem_iff.mp hp)))
    have strict : (L'.map (·.2)).Pairwise fun a b => TS.code B a < TS.code B b := by
      rw [List.pairwise_map]
      have nd' : L'.Pairwise fun a b => a.2 ≠ b.2 := by
        have := nd
        unfold List.Nodup at this
        rwa [List.pairwise_map] at this
      have both := pw.and nd'
      refine both.imp_of_mem fun {a b} ha hb ⟨h1, h2⟩ => ?_
      rcases Int.lt_or_eq_of_le h1 with z | z
      · exact z
      · obtain ⟨a1, a2⟩ := hb' a ha
        obtain ⟨b1, b2⟩ := hb' b hb
        exact absurd (code_inj a2 b2 (by omega) z) h2
    have eq : L'.map (·.2) = ys := rise_unique (TS.code B) strict hy fun x => by
      rw [hmem, List.mem_map, List.mem_map]
      constructor
      · rintro ⟨p, hp, rfl⟩
        exact ⟨p, hL1 p (pm.mem_iff.mp hp), rfl⟩
      · rintro ⟨p, hp, rfl⟩
        obtain ⟨p', hp', e'⟩ := List.mem_map.mp (hL2 p hp)
        exact ⟨p', pm.mem_iff.mpr hp', e'⟩
    have g3 : Gr S1 (upd H1 a (SetTO X.prog X.w a L)) S1 (upd (upd H1 a (SetTO X.prog X.w a L)) n (.lst (L'.map fun q => V.ref q.1))) := Gr.newH g2.sh hn
    have gg := (g1.trans g2).trans g3
    refine q n _ S1 _ gg (g1.h.free (g2.h.free hn)) (g1.sh.free (g2.h.free hn)) upd_same ?_
    rw [← eq]
    exact tups_da L' fun p hp => kL p (pm.mem_iff.mp hp))
end
end Lay
/-! Lay10: methods that only read; isinstance. -/
namespace Lay
open PySem L2 PyProof.Rows
/-! ### flat data -/
def flatD : D → Bool
  | .non => true
  | .bl _ => true
  | .int _ => true
  | .str _ => true
  | _ => false
def toV : D → V
  | .non => .non
  | .bl b => .bl b
  | .int i => .int i
  | .str x => .str x
  | _ => .non
theorem rp_flat {K : Fg} {S : Hp} {v : V} {d : D} (h : Rp K S v d) (f : flatD d = true) : v = toV d ∧ flatV v = true := by
  cases h <;> first | exact ⟨rfl, rfl⟩ | cases f
theorem rb_flat {K : Fg} {S H : Hp} {v : V} {d : D} (h : Rb K S H v d) (f : flatD d = true) : v = toV d ∧ flatV v = true := by
  rcases h with h | ⟨p, vs, xs, rfl, rfl, _⟩
  · exact rp_flat h f
  · cases f
theorem rpa_flat {K : Fg} {S : Hp} : ∀ {vs : List V} {ds : List D}, RpA K S vs ds → ds.all flatD = true → vs = ds.map toV ∧ vs.all flatV = true
  | _, _, .nil, _ => ⟨rfl, rfl⟩
  | _, _, .cons h t, f => by
    rw [List.all_cons, Bool.and_eq_true] at f
    obtain ⟨e1, e2⟩ := rp_flat h f.1
    obtain ⟨e3, e4⟩ := rpa_flat t f.2
    exact ⟨by rw [e1, e3]; rfl, by rw [List.all_cons, e2, e4]; rfl⟩
/-- == of flat data -/
def eqF (a b : D) : Bool := eqV (toV a) (toV b)
theorem eqF_int {i j : Int} : eqF (.int i) (.int j) = decide (i = j) := rfl
section
variable {X : Cx} {e a b c : Expr} {es : List Expr} {ds : List It} {pos : Pos} {A B d : D} {xs ys : List D}
theorem xv_bm {T id : String} {name : Str} {r : V → List V → Hp → VK → Prop} {pa : Pos} (pl : PlainAttrs T) (slot : Slot T name id) (hty : typeOf (.builtin id) = pure (.type "method_descriptor")) (hm : MtR X id r) (ho : XB X a ds A) (ha : XAB X (e :: es) ds ys)
    (ht : ∀ (S H : Hp) x, Same S H → Rb X.K S H x A → tyV X.K T x H) (hr : ∀ (S H : Hp) x vs (Q : VK), Same S H → Rb X.K S H x A → RbA X.K S H vs ys → (∀ v S' H', Gr S H S' H' → Rp X.K S' v d → Q v H') → r x vs H Q)
    (hbase : attributeBase a name X.env (eval a X.env) = eval a X.env) (hfew : ((backTo pos (starEach (e :: es) X.env)).all (fun x => !x.1) && (backToKw pos (keywordEach [] X.env)).all (fun x => x.1.isSome)
      && decide ((e :: es).length + ([] : List Keyword).length + (if ([] : List Keyword).isEmpty then 0 else 1) < 30)) = true)
    (hline : (pa.endLine == pos.line) = true) (hs : starEach (e :: es) X.env = (false, eval e X.env) :: starEach es X.env) (hplain : (backTo pos (starEach es X.env)).any (·.1) = false) : XV X (.Call (.Attribute a name pa) (e :: es) [] pos) ds d := .mk fun G S0 S H σ E Q q =>
  we_of (pe_bm pl slot hty hm pe_w pa_w hbase hfew hline hs hplain) (ho G S0 S H σ E _ fun x S1 H1 g1 r1 => ⟨ht S1 H1 x g1.sh r1, ha G S0 S1 H1 σ (E.grow g1) _ fun vs S2 H2 g2 r2 =>
    hr S2 H2 x vs Q g2.sh (r1.gr g2) r2 fun v S3 H3 g3 r3 => q v S3 H3 ((g1.trans g2).trans g3) r3⟩)
theorem ty_lst {xs : List D} (S H : Hp) (x : V) (k : Same S H) (r : Rb X.K S H x (.lst xs)) : tyV X.K "list" x H := by
  obtain ⟨p, vs, rfl, h1, _⟩ := r.lst k
  exact ty_list h1
/-- how often a flat thing stands in a list of such -/
def rCntF (K : Fg) : V → List V → Hp → VK → Prop := fun x xs H Q => ∃ (p : Addr) (ys : List V) (y : V), x = .ref p ∧ xs = [y] ∧ SqL K H p ys ∧ flatV y = true ∧ ys.all flatV = true ∧ Q (.int (ys.countP fun z => eqV z y : Nat)) H
theorem countP_eqU {x : V} : ∀ {xs : List V} {us : List Value}, Vals xs us → xs.all flatV = true → us.countP (eqU x) = xs.countP fun y => eqV y x
  | _, _, .nil, _ => rfl
  | y :: xs, u :: us, .cons r t, f => by
    rw [List.all_cons, Bool.and_eq_true] at f
    rw [List.countP_cons, List.countP_cons, eqU_of r f.1, countP_eqU t f.2]
theorem mt_cntF : MtR X "list.count" (rCntF X.K) := by
  rintro pins s σ H x zs v us Q I rx rz ⟨p, ys, y, rfl, rfl, hs, fy, fys, q⟩
  cases rx
  obtain ⟨u, rfl, ru⟩ := rz.one
  obtain ⟨its, rv, ⟨⟨c, dd, dt, sl⟩, n, ho, hc, hdn, hd⟩, _⟩ := I.list hs
  dsimp only at hc hd
  subst hc hd
  refine PySem.call_meets PySem.F.slot_list_count ⟨_, ho, rfl⟩ PySem.F.entry_list_count (PySem.F.args_list_count_2 _ _)
    (SeqAt.list_countAt p its.toArray n dd sl u (eqU y)) ⟨ho, fun z hz => mem_eqAt ru fy rv fys z (by simpa using hz), ?_⟩
  refine ⟨.int (ys.countP fun z => eqV z y : Nat), H, I.tok _, ⟨s.toks, ?_⟩, q⟩
  rw [← countP_eqU rv fys]
theorem count_toV {d : D} {xs : List D} : (xs.map toV).countP (fun z => eqV z (toV d)) = xs.countP fun z => eqF z d := by
  rw [List.countP_map]; rfl
theorem xv_count {pa : Pos} (ho : XB X a ds (.lst xs)) (ha : XB X e ds d) (hf : flatD d = true) (hfs : xs.all flatD = true) (hbase : attributeBase a "count" X.env (eval a X.env) = eval a X.env := by rfl) (hline : (pa.endLine == pos.line) = true := by rfl) (hst : isStar e = false := by rfl) :
    XV X (.Call (.Attribute a "count" pa) [e] [] pos) ds (.int (xs.countP fun z => eqF z d : Nat)) :=
  xv_bm PySem.F.plainAttrs_list PySem.F.slot_list_count PySem.F.type_list_count mt_cntF ho (xab_cons ha xab_nil (se hst)) ty_lst (fun S H x vs Q k r rr q => by
    obtain ⟨p, us, rfl, h1, h2⟩ := r.lst k
    obtain ⟨v, rfl, r1⟩ := rba1 rr
    obtain ⟨rfl, f1⟩ := rb_flat r1 hf
    obtain ⟨rfl, f2⟩ := rpa_flat h2 hfs
    exact ⟨p, _, _, rfl, rfl, sq_of h1, f1, f2, by rw [count_toV]; exact q _ S H (.refl k) (.int _)⟩) hbase (sfew (by simp [hst]) (by simp)) hline (se hst) (spl rfl)
theorem xv_index {pa : Pos} {j : Nat} {z : D} (ho : XB X a ds (.lst xs)) (ha : XB X e ds d) (hf : flatD d = true) (hfs : xs.all flatD = true) (hj : xs[j]? = some z) (hz : eqF z d = true) (hn : ∀ (m : Nat) (z' : D), m < j → xs[m]? = some z' → eqF z' d = false)
    (hbase : attributeBase a "index" X.env (eval a X.env) = eval a X.env := by rfl) (hline : (pa.endLine == pos.line) = true := by rfl) (hst : isStar e = false := by rfl) : XV X (.Call (.Attribute a "index" pa) [e] [] pos) ds (.int (j : Int)) :=
  xv_bm PySem.F.plainAttrs_list PySem.F.slot_list_index PySem.F.type_list_index mt_index ho (xab_cons ha xab_nil (se hst)) ty_lst (fun S H x vs Q k r rr q => by
    obtain ⟨p, us, rfl, h1, h2⟩ := r.lst k
    obtain ⟨v, rfl, r1⟩ := rba1 rr
    obtain ⟨rfl, f1⟩ := rb_flat r1 hf
    obtain ⟨rfl, f2⟩ := rpa_flat h2 hfs
    exact ⟨p, _, _, j, toV z, rfl, rfl, sq_of h1, f1, f2, by rw [List.getElem?_map, hj]; rfl, hz, fun m z' hm hz' => by
      rw [List.getElem?_map] at hz'
      cases w : xs[m]? with
      | none => rw [w] at hz'; cases hz'
      | some y => rw [w] at hz'; cases hz'; exact hn m y hm w, q _ S H (.refl k) (.int _)⟩) hbase (sfew (by simp [hst]) (by simp)) hline (se hst) (spl rfl)
/-- in, not in: a flat thing, a list or tuple of such -/
def inF (d : D) (xs : List D) : Bool := xs.any fun x => eqF x d
theorem inF_toV {d : D} {xs : List D} : inV (toV d) (xs.map toV) = inF d xs := by
  unfold inV inF
  rw [List.any_map]; rfl
theorem in_read {neg : Bool} {S H : Hp} {x y : V} {Q : VK} (k : Same S H) (hB : B = .lst xs ∨ B = .tup xs) (hf : flatD A = true) (hfs : xs.all flatD = true) (r1 : Rb X.K S H x A) (r2 : Rb X.K S H y B) (q : Q (.bl (if neg then !inF A xs else inF A xs)) H) : rIn X.K neg x y H Q := by
  obtain ⟨p, vs, rfl, h1, h2⟩ := rb_seq k r2 hB
  obtain ⟨rfl, f1⟩ := rb_flat r1 hf
  obtain ⟨rfl, f2⟩ := rpa_flat h2 hfs
  exact ⟨p, _, rfl, h1, f1, f2, by rw [inF_toV]; exact q⟩
theorem xt_in (ha : XB X a ds A) (hb : XB X b ds B) (hB : B = .lst xs ∨ B = .tup xs) (hf : flatD A = true) (hfs : xs.all flatD = true) (hm : behindInMarks .In b = false := by rfl) : XT X (.Compare a [.In] [b] pos) ds (inF A xs) :=
  xt_cmp op_in_seq ha hb hm fun S H x y Q k r1 r2 q => in_read k hB hf hfs r1 r2 q
theorem xv_in (ha : XB X a ds A) (hb : XB X b ds B) (hB : B = .lst xs ∨ B = .tup xs) (hf : flatD A = true) (hfs : xs.all flatD = true) (hm : behindInMarks .In b = false := by rfl) : XV X (.Compare a [.In] [b] pos) ds (.bl (inF A xs)) :=
  xv_cmp op_in_seq ha hb hm fun S H x y Q k r1 r2 q => in_read k hB hf hfs r1 r2 q
theorem xt_nin (ha : XB X a ds A) (hb : XB X b ds B) (hB : B = .lst xs ∨ B = .tup xs) (hf : flatD A = true) (hfs : xs.all flatD = true) (hm : behindInMarks .NotIn b = false := by rfl) : XT X (.Compare a [.NotIn] [b] pos) ds (!inF A xs) :=
  xt_cmp op_notIn_seq ha hb hm fun S H x y Q k r1 r2 q => in_read (neg := true) k hB hf hfs r1 r2 q
theorem xv_nin (ha : XB X a ds A) (hb : XB X b ds B) (hB : B = .lst xs ∨ B = .tup xs) (hf : flatD A = true) (hfs : xs.all flatD = true) (hm : behindInMarks .NotIn b = false := by rfl) : XV X (.Compare a [.NotIn] [b] pos) ds (.bl (!inF A xs)) :=
  xv_cmp op_notIn_seq ha hb hm fun S H x y Q k r1 r2 q => in_read (neg := true) k hB hf hfs r1 r2 q

/-! ### isinstance -/
theorem boot_isinstance' : bootBuiltins ("isinstance" : Str) = some (.builtin "isinstance") := by decide +kernel
/-- a class of the program's errors, as isinstance asks it -/
structure EI (K : Fg) (C : Addr) : Prop where
  ex : ExcC K C
  t : PySem.W.typeIn K (.ref C) = some (.type "type")
  i : PySem.W.isClsIn K C = true
  s : PySem.W.subIn K (.ref C) (.ref C) = some true
  v : PySem.W.subIn K (.ref C) (.type "ValueError") = some true
theorem kit_ref {K : Fg} {C C' : Addr} {k : Bool} (h : EI K C) (h' : EI K C') (s : PySem.W.subIn K (.ref C) (.ref C') = some k) : PySem.W.kitOne K (.ref C) (.ref C') = some k := by
  unfold PySem.W.kitOne
  by_cases z : C = C'
  · subst z
    rw [h.s] at s
    cases s
    rw [if_pos (by simp)]
  · rw [if_neg (by simp [z])]
    unfold PySem.W.kitCls
    dsimp only
    have i : (PySem.W.clsIn K C').isSome = true := h'.i
    rw [i, h'.t, if_pos (by rfl)]
    exact s
theorem kit_ve {K : Fg} {C : Addr} (h : EI K C) : PySem.W.kitOne K (.ref C) (.type "ValueError") = some true := by
  unfold PySem.W.kitOne
  rw [if_neg (by intro z; exact absurd (beq_iff_eq.mp z) (fun z => nomatch z))]
  unfold PySem.W.kitCls
  dsimp only
  rw [if_pos (by decide +kernel)]
  exact h.v
def rIsX (K : Fg) (C : Addr) : List V → Hp → VK → Prop := fun xs H Q => ∃ (a : Addr) (c : V) (cv : Value) (b : Bool), xs = [.ref a, c] ∧ H a = some (ExT C a) ∧ ClsV c cv ∧ PySem.W.kitOne K (.ref C) cv = some b ∧ Q (.bl b) H
theorem call_isX {C : Addr} (h : EI X.K C) : CallR X (.builtin "isinstance") (rIsX X.K C) := by
  rintro pins s σ H xs us Q I r ⟨a, c, cv, k, rfl, ha, hc, hk, q⟩
  cases r with
  | cons r1 r =>
    cases r with
    | cons r2 r =>
      cases r
      cases r1
      have e := hc.eq r2
      subst e
      obtain ⟨⟨oe, ws, g1, ⟨g2, g3⟩, g4⟩, _⟩ : ObjOk X.prog X.w H s.heap a (ExT C a) := I.hok a _ ha
      have J : PySem.W.InstAt s.heap a oe C none := by
        cases oe
        dsimp only at g2 g3 g4
        subst g2 g3 g4
        exact ⟨g1, rfl, rfl, trivial⟩
      exact PySem.W.kia_one (PySem.W.handS_kitx_exc h.ex.hg h.ex.hk h.ex.hs h.ex.hd h.ex.ha h.ex.hn h.ex.ht h.ex.hm) I.kIn J hk (fun z => nomatch z) fun tk => ⟨.bl k, H, I.tok tk, rfl, q⟩
/-- isinstance(x, Y), x an exception of the class at C, Y a class of the program -/
theorem xv_isX {p p2 : Pos} {y : Str} {C C' : Addr} {k : Bool} (hm : X.mg "isinstance" = none) (h : EI X.K C) (h' : EI X.K C') (s : PySem.W.subIn X.K (.ref C) (.ref C') = some k) (gy : X.mg y = some (.ref C')) (ha : XB X e ds (.exc C)) (hg : Gl X "isinstance" := by rfl) (hgy : Gl X y := by rfl)
    (hdb : (y == ("__debug__" : Str)) = false := by decide) (hst : isStar e = false := by rfl) : XV X (.Call (.Name "isinstance" p) [e, .Name y p2] [] pos) ds (.bl k) := .mk fun G S0 S H σ E Q q =>
  we_of (pe_callB (call_isX h) hg hm boot_isinstance' (pa_cons pe_w (pa_cons (pe_glob (v := .ref C') hgy gy rfl hdb) pa_nil (se rfl)) (se hst)) (he := se hst) (hpl := spl rfl)) (ha G S0 S H σ E _ fun v S1 H1 g r => by
    rcases r with r | ⟨_, _, _, _, z, _⟩
    · cases r with
      | exc ha => exact ⟨_, _, _, k, rfl, g.sh _ _ ha, .own C', kit_ref h h' s, q _ S1 H1 g (.bl k)⟩
    · cases z)
theorem xv_isVE {p p2 : Pos} {C : Addr} (hm : X.mg "isinstance" = none) (hmv : X.mg "ValueError" = none) (h : EI X.K C) (ha : XB X e ds (.exc C)) (hg : Gl X "isinstance" := by rfl) (hgy : Gl X "ValueError" := by rfl) (hst : isStar e = false := by rfl) :
    XV X (.Call (.Name "isinstance" p) [e, .Name "ValueError" p2] [] pos) ds (.bl true) := .mk fun G S0 S H σ E Q q =>
  we_of (pe_callB (call_isX h) hg hm boot_isinstance' (pa_cons pe_w (pa_cons (pe_bltn (v := .ty "ValueError") hgy hmv (by decide +kernel) rfl) pa_nil (se rfl)) (se hst)) (he := se hst) (hpl := spl rfl)) (ha G S0 S H σ E _ fun v S1 H1 g r => by
    rcases r with r | ⟨_, _, _, _, z, _⟩
    · cases r with
      | exc ha => exact ⟨_, _, _, true, rfl, g.sh _ _ ha, .ty "ValueError", kit_ve h, q _ S1 H1 g (.bl true)⟩
    · cases z)
end
end Lay
/-! Lay11: sorted of any number of tuples of whole numbers. -/
namespace Lay
open PySem L2 PyProof.Rows
section
variable {prog : Program} {w : World} {A : Around} {s : Shared}
/-- a tuple's number, read off the heap h -/
noncomputable def rkT (h : Heap) (B : Int) (v : Value) : Int := open Classical in if z : ∃ ns, TS.TupInts h v ns then TS.code B z.choose else 0
theorem rkT_of {h : Heap} {B : Int} {v : Value} {ns : List Int} (t : TS.TupInts h v ns) : rkT h B v = TS.code B ns := by
  unfold rkT
  have z : ∃ ns, TS.TupInts h v ns := ⟨ns, t⟩
  rw [dif_pos z, show z.choose = ns from z.choose_spec.ints.symm.trans t.ints]
theorem swoT (r : Value → Int) : SrtO.Swo fun v u => decide (r v < r u) := ⟨fun x y h => by simp at h ⊢; omega, fun x y z h q => by simp at h q ⊢; omega⟩
theorem sortableT {a : Addr} {vs : List Value} {d : Nat} {B : Int} (hd : 1 ≤ d) (h2 : 2 ≤ vs.length) (x : TS.TupsOk s.heap d B vs) (r : Value → Int) (hr : ∀ v ∈ vs, ∀ ns, TS.TupInts s.heap v ns → r v = TS.code B ns)
    (ha : ∀ o, s.heap.get? a = some o → o.cls ≠ .type "tuple") : SrtO.SortableO prog w A s a vs fun v u => decide (r v < r u) := fun h' keep => by
  have kp : ∀ b o, s.heap.get? b = some o → o.cls = .type "tuple" → h'.get? b = some o := fun b o e c => keep b o (fun z => ha o (by rw [← z]; exact e) c) e
  have x' := x.keeps kp
  obtain ⟨fs, k, hl, hi⟩ := TS.firsts_of hd vs x'
  refine ⟨tuples' true, fun Q E hq => PySem.W.kat_kind (T := .type "int") k (by omega) (fun f hf => ?_) rfl ?_, fun p q hp hq => ?_⟩
  · obtain ⟨n, t, rfl⟩ := hi f hf
    exact PySem.W.Looks.now
  · rw [show (Value.type "int" != Value.type "tuple") = true from by decide +kernel]
    exact hq
  · obtain ⟨ns, tp, lp, bp⟩ := x' _ hp
    obtain ⟨ms, tq, lq, bq⟩ := x' _ hq
    obtain ⟨ns0, tp0, _⟩ := x _ hp
    obtain ⟨ms0, tq0, _⟩ := x _ hq
    have ep : r p.1 = TS.code B ns := by rw [hr _ hp _ tp0, (tp0.keeps kp).ints.symm.trans tp.ints]
    have eq : r q.1 = TS.code B ms := by rw [hr _ hq _ tq0, (tq0.keeps kp).ints.symm.trans tq.ints]
    show wpAny (model prog w) A (keyLt' (tuples' true) p.1 q.1) (fun z s' => s' = { s with heap := h' } ∧ z = decide (r p.1 < r q.1)) (fun _ _ => False) { s with heap := h' }
    rw [ep, eq]
    obtain ⟨a1, xs, e1, ⟨o, ho, hc, n, hdt⟩, i⟩ := tp
    obtain ⟨a2, ys, e2, ⟨o', ho', hc', n', hdt'⟩, i'⟩ := tq
    rw [e1, e2]
    refine PySem.W.kat_lt ho hdt ho' hdt' ?_
    have l1 := i.length
    have l2 := i'.length
    rw [Array.length_toList] at l1 l2
    rw [show decide (xs.size < ys.size) = false from decide_eq_false (by omega)]
    exact TS.lex_ints 0 i i' (by omega) bp bq ⟨rfl, rfl⟩
end
/-- sorted(xs), xs tuples of d ints in [0, B) -/
def rSortA (K : Fg) (d : Nat) (B : Int) : List V → Hp → VK → Prop := fun vs H Q => ∃ (a : Addr) (ks : List (Addr × List Int)), vs = [V.ref a] ∧ SqL K H a (ks.map fun p => V.ref p.1) ∧ (∀ p ∈ ks, SqT K H p.1 (p.2.map V.int) ∧ p.2.length = d ∧ TS.Bd B p.2) ∧
  ∀ (ls : List (Addr × List Int)) (p : Addr), ls.Perm ks → ls.Pairwise (fun x y => TS.code B x.2 ≤ TS.code B y.2) → H p = none → Q (.ref p) (upd H p (.lst (ls.map fun p => V.ref p.1)))
theorem perm_back {α β : Type} {f : α → β} : ∀ {ys : List β} {xs : List α}, ys.Perm (xs.map f) → ∃ zs : List α, zs.Perm xs ∧ ys = zs.map f := by
  intro ys xs h
  generalize e : xs.map f = l at h
  induction h generalizing xs with
  | nil => cases xs with
    | nil => exact ⟨[], .refl _, rfl⟩
    | cons => cases e
  | cons x p ih =>
    -- ys = x :: l1, perm to x :: l2 = xs.map f
    cases xs with
    | nil => cases e
    | cons a xs =>
      cases e
      obtain ⟨zs, h1, h2⟩ := ih rfl
      exact ⟨a :: zs, h1.cons a, by rw [h2]; rfl⟩
  | swap x y l =>
    cases xs with
    | nil => cases e
    | cons a xs => cases xs with
      | nil => cases e
      | cons b xs => cases e; exact ⟨b :: a :: xs, .swap a b xs, rfl⟩
  | trans p q ih1 ih2 =>
    obtain ⟨zs, h1, h2⟩ := ih2 e
    obtain ⟨ws, h3, h4⟩ := ih1 h2.symm
    exact ⟨ws, h3.trans h1, h4⟩
section
variable {X : Cx}
theorem cr_sortA {d : Nat} {B : Int} (hd : 1 ≤ d) : CallR X (.builtin "sorted") (rSortA X.K d B) := by
  rintro pins s σ H vs us Q I r ⟨a, ks, rfl, hs, hk, q⟩
  obtain ⟨its, rv, hl, hz⟩ := I.list hs
  obtain ⟨u, rfl, ru⟩ := vals1 r
  obtain rfl : u = Value.ref a := ru
  have e0 := refs_of_vals rv
  have e1 : its = ks.map fun p => Value.ref p.1 := by simpa using e0
  subst e1
  have hx : TS.TupsOk s.heap d B (ks.map fun p => Value.ref p.1) := fun v hv => by
    obtain ⟨p, hp, rfl⟩ := List.mem_map.mp hv
    obtain ⟨h1, h2, h3⟩ := hk p hp
    exact ⟨p.2, tupI_raw I h1, h2, h3⟩
  refine SrtO.sorted_ord (swoT (rkT s.heap B)) hl.isList (by simpa using hz) (fun h2 h1 b hb kk => ?_) fun out hs hb => ?_
  · refine sortableT (s := { s with heap := h1 }) hd h2 (hx.keeps fun b o e _ => (kk b o e).2) (rkT s.heap B) (fun v hv ns t => ?_) fun o e => ?_
    · obtain ⟨ns0, t0, _⟩ := hx v hv
      rw [rkT_of t0, (t0.keeps fun b o e _ => (kk b o e).2).ints.symm.trans t.ints]
    · have e' : some o = some (seqObj "list" _ 0) := e.symm.trans hb
      cases e'
      intro c
      exact absurd (Value.type.inj c) (by decide)
  · obtain ⟨ls, hp, rfl⟩ := perm_back hb.perm
    have hsz : ls.length = ks.length := hp.length_eq
    obtain ⟨n, hn⟩ : ∃ n, (sortedAll s.heap (ks.map fun p => Value.ref p.1) (ls.map fun p => Value.ref p.1).toArray).get? (s.heap.objs.size + 1) = some (seqObj "list" (ls.map fun p => Value.ref p.1).toArray n) := sortedAll_at _ _ _
    refine ⟨.ref (s.heap.objs.size + 1), upd H (s.heap.objs.size + 1) (.lst (ls.map fun p => V.ref p.1)), I.laid (t' := s.toks) (fun b o e => sortedAll_old e) (Nat.le_succ _) ⟨by rw [List.length_map, hsz]; simpa using hz, _, n, vals_of_refs ls, hn⟩, rfl,
      q ls _ hp ?_ (I.hok.fresh (Nat.le_succ _))⟩
    have hs' := hs
    unfold SrtO.Srtd at hs'
    rw [List.pairwise_map] at hs'
    refine hs'.imp_of_mem fun {x y} hx1 hy1 h => ?_
    have t1 := tupI_raw I (hk x (hp.mem_iff.mp hx1)).1
    have t2 := tupI_raw I (hk y (hp.mem_iff.mp hy1)).1
    have h : decide (rkT s.heap B (.ref y.1) < rkT s.heap B (.ref x.1)) = false := h
    rw [rkT_of t1, rkT_of t2, decide_eq_false_iff_not] at h
    omega
end
section
variable {X : Cx} {e : Expr} {ds : List It} {pos : Pos} {A : D}
/-- sorted(xs): ys is the same list in order -/
theorem xl_sortA {p : Pos} {xs ys : List (List Int)} (d : Nat) (B : Int) (hm : X.mg "sorted" = none) (ha : XB X e ds A) (hA : A = .lst (xs.map eT)) (hd : 1 ≤ d) (hb : ∀ x ∈ xs, x.length = d ∧ TS.Bd B x)
    (hy : ys.Pairwise fun a b => TS.code B a ≤ TS.code B b) (hp : ys.Perm xs) (hg : Gl X "sorted" := by rfl) (hs : isStar e = false := by rfl) : XL X (.Call (.Name "sorted" p) [e] [] pos) ds (ys.map eT) := .mk fun G S0 S H σ E Q q =>
  we_of (pe_callB (cr_sortA (d := d) (B := B) hd) hg hm boot_sorted' (pa_cons pe_w pa_nil (se hs)) (he := se hs) (hpl := spl rfl)) (ha G S0 S H σ E _ fun v S1 H1 g1 r1 => by
    rw [hA] at r1
    obtain ⟨l, vs, rfl, hl, ra⟩ := r1.lst g1.sh
    obtain ⟨ks, rfl, rfl, hk⟩ := da_tups ra
    refine ⟨l, ks, rfl, sq_of hl, fun p hp => ⟨st_of (g1.sh _ _ (hk p hp)), hb p.2 (List.mem_map_of_mem hp)⟩, fun ls n pm pw hn => ?_⟩
    have hb' : ∀ z ∈ ls.map (·.2), z.length = d ∧ TS.Bd B z := fun z hz => by
      obtain ⟨p, hp, rfl⟩ := List.mem_map.mp hz
      exact hb p.2 (List.mem_map_of_mem (pm.mem_iff.mp hp))
    have pw' : (ls.map (·.2)).Pairwise fun a b => TS.code B a ≤ TS.code B b := by rw [List.pairwise_map]; exact pw
    have eq : ls.map (·.2) = ys := by
      have pp : (ls.map (·.2)).Perm ys := (pm.map _).trans hp.symm
      refine pp.eq_of_pairwise (fun a b ha hb2 h1 h2 => ?_) pw' hy
      obtain ⟨a1, a2⟩ := hb' a ha
      obtain ⟨b1, b2⟩ := hb b (hp.mem_iff.mp hb2)
      exact code_inj a2 b2 (by omega) (by omega)
    have g2 : Gr S1 H1 S1 (upd H1 n (.lst (ls.map fun p => V.ref p.1))) := Gr.newH g1.sh hn
    refine q n _ S1 _ (g1.trans g2) (g1.h.free hn) (g1.sh.free hn) upd_same ?_
    rw [← eq]
    exact tups_da ls fun p hp => hk p (pm.mem_iff.mp hp))
end
end Lay
/-! Lay12: the facts of the top. -/
namespace Lay
open PySem L2 PyProof.Rows
section
variable {K : Fg} {h : Heap} {mg : Str → Option Value}
theorem tx_mk (X : K.In h) (G : h.Ns mainGlobals mg) (z1 : PySem.W.nsIn K mainGlobals "len" = some none) (z2 : PySem.W.nsIn K mainGlobals "range" = some none) (z3 : PySem.W.nsIn K mainGlobals "sorted" = some none) (z4 : PySem.W.nsIn K mainGlobals "set" = some none)
    (z5 : PySem.W.nsIn K mainGlobals "list" = some none) (z6 : PySem.W.nsIn K mainGlobals "tuple" = some none) (z7 : PySem.W.nsIn K mainGlobals "sum" = some none) (z8 : PySem.W.nsIn K mainGlobals "any" = some none) (z9 : PySem.W.nsIn K mainGlobals "all" = some none)
    (z10 : PySem.W.nsIn K mainGlobals "abs" = some none) (z11 : PySem.W.nsIn K mainGlobals "max" = some none) (z12 : PySem.W.nsIn K mainGlobals "min" = some none) (z13 : PySem.W.nsIn K mainGlobals "int" = some none) (z14 : PySem.W.nsIn K mainGlobals "isinstance" = some none)
    (z16 : PySem.W.nsIn K mainGlobals "bool" = some none)
    (z15 : PySem.W.nsIn K mainGlobals "ValueError" = some none) : Tx K mg ∧ mg "ValueError" = none :=
  have m := fun {x : Str} (z : PySem.W.nsIn K mainGlobals x = some none) => PySem.W.mg_none_of X G z
  ⟨⟨m z1, m z2, m z3, m z4, m z5, m z6, m z7, m z8, m z9, m z10, m z11, m z12, m z13, m z14, m z16⟩, m z15⟩
theorem c_mk {x : Str} {i : Int} {t : Tok} (X : K.In h) (G : h.Ns mainGlobals mg) (a : PySem.W.nsIn K mainGlobals x = some (some (.int i t))) : ∃ t, mg x = some (.int i t) := ⟨t, PySem.W.mg_of X G a⟩
theorem ec_mk {x : Str} {C : Addr} (X : K.In h) (G : h.Ns mainGlobals mg) (a : PySem.W.nsIn K mainGlobals x = some (some (.ref C))) (q : PySem.W.excIn K C [.type "ValueError", .type "Exception", .type "BaseException", .type "object"] "ValueError.__new__" = true) (kp : PySem.W.keepIn K (.ref C) = true)
    (b : PySem.W.subIn K (.ref C) (.type "BaseException") = some true) (t : PySem.W.typeIn K (.ref C) = some (.type "type")) : EC K mg x C := ⟨PySem.W.mg_of X G a, q, kp, b, t⟩
theorem ei_mk {C : Addr} (t : PySem.W.typeIn K (.ref C) = some (.type "type")) (i : PySem.W.isClsIn K C = true) (s : PySem.W.subIn K (.ref C) (.ref C) = some true) (v : PySem.W.subIn K (.ref C) (.type "ValueError") = some true)
    (hg : PySem.W.findIn K (.ref C) "__getattribute__" = some (some (.builtin "BaseException.__getattribute__"))) (hk : PySem.W.findIn K (.ref C) "__getattr__" = some none) (hs : PySem.W.subIn K (.ref C) (.type "BaseException") = some true) (hd : PySem.W.hasDictIn K C = true)
    (ha : PySem.W.findIn K (.ref C) "__class__" = some (some (.builtin "object.__class__"))) (hn : PySem.W.specialIn K (.builtin "object.__class__") "__get__" = some (some (.builtin "getset_descriptor.__get__"))) (ht : PySem.W.takesIn K (.builtin "object.__class__") = some true)
    (hm : PySem.W.mroIn K C (.type "object") = some true) : EI K C := ⟨⟨hg, hk, hs, hd, ha, hn, ht, hm⟩, t, i, s, v⟩
end
/-- the error that all errors of the program are: what an except clause asks -/
structure EP (K : Fg) (mg : Str → Option Value) (cE : Addr) : Prop where
  g : mg "PurseError" = some (.ref cE)
  hd : PySem.W.hasDictIn K cE = true
  b : PySem.W.subIn K (.ref cE) (.type "BaseException") = some true
  t : PySem.W.typeIn K (.ref cE) = some (.type "type")
theorem ep_mk {K : Fg} {h : Heap} {mg : Str → Option Value} {C : Addr} (X : K.In h) (G : h.Ns mainGlobals mg) (a : PySem.W.nsIn K mainGlobals "PurseError" = some (some (.ref C))) (hd : PySem.W.hasDictIn K C = true)
    (b : PySem.W.subIn K (.ref C) (.type "BaseException") = some true) (t : PySem.W.typeIn K (.ref C) = some (.type "type")) : EP K mg C := ⟨PySem.W.mg_of X G a, hd, b, t⟩
theorem EP.exm {K : Fg} {mg : Str → Option Value} {cE C : Addr} (h : EP K mg cE) (s : PySem.W.subIn K (.ref C) (.ref cE) = some true) : PySem.W.exmOne K (.ref C) (.ref cE) = some true := PySem.W.exm_ref h.b h.hd h.t s
theorem EP.names {X : Cx} {cE : Addr} (h : EP X.K X.mg cE) (hg : Gl X "PurseError") : Names X "PurseError" (.ref cE) := ⟨hg, rfl, .inl h.g⟩
/-- the five errors, in the law's order -/
def nm5 : Fin 5 → Str
  | 0 => "BadMachine"
  | 1 => "BadRow"
  | 2 => "BadPrices"
  | 3 => "BadModel"
  | 4 => "BadForm"
def cls5 (a b c d e : Addr) : Fin 5 → Addr
  | 0 => a
  | 1 => b
  | 2 => c
  | 3 => d
  | 4 => e
structure E5 (K : Fg) (mg : Str → Option Value) (cE : Addr) (cls : Fin 5 → Addr) : Prop where
  ep : EP K mg cE
  ve : mg "ValueError" = none
  ec : ∀ i, EC K mg (nm5 i) (cls i)
  ei : ∀ i, EI K (cls i)
  sub : ∀ i j, PySem.W.subIn K (.ref (cls i)) (.ref (cls j)) = some (decide (i = j))
  par : ∀ i, PySem.W.subIn K (.ref (cls i)) (.ref cE) = some true
theorem e5_mk {K : Fg} {mg : Str → Option Value} {cE a b c d e : Addr} (ep : EP K mg cE) (ve : mg "ValueError" = none) (ec0 : EC K mg "BadMachine" a) (ec1 : EC K mg "BadRow" b) (ec2 : EC K mg "BadPrices" c) (ec3 : EC K mg "BadModel" d) (ec4 : EC K mg "BadForm" e)
    (ei0 : EI K a) (ei1 : EI K b) (ei2 : EI K c) (ei3 : EI K d) (ei4 : EI K e)
    (s01 : PySem.W.subIn K (.ref a) (.ref b) = some false) (s02 : PySem.W.subIn K (.ref a) (.ref c) = some false) (s03 : PySem.W.subIn K (.ref a) (.ref d) = some false) (s04 : PySem.W.subIn K (.ref a) (.ref e) = some false)
    (s10 : PySem.W.subIn K (.ref b) (.ref a) = some false) (s12 : PySem.W.subIn K (.ref b) (.ref c) = some false) (s13 : PySem.W.subIn K (.ref b) (.ref d) = some false) (s14 : PySem.W.subIn K (.ref b) (.ref e) = some false)
    (s20 : PySem.W.subIn K (.ref c) (.ref a) = some false) (s21 : PySem.W.subIn K (.ref c) (.ref b) = some false) (s23 : PySem.W.subIn K (.ref c) (.ref d) = some false) (s24 : PySem.W.subIn K (.ref c) (.ref e) = some false)
    (s30 : PySem.W.subIn K (.ref d) (.ref a) = some false) (s31 : PySem.W.subIn K (.ref d) (.ref b) = some false) (s32 : PySem.W.subIn K (.ref d) (.ref c) = some false) (s34 : PySem.W.subIn K (.ref d) (.ref e) = some false)
    (s40 : PySem.W.subIn K (.ref e) (.ref a) = some false) (s41 : PySem.W.subIn K (.ref e) (.ref b) = some false) (s42 : PySem.W.subIn K (.ref e) (.ref c) = some false) (s43 : PySem.W.subIn K (.ref e) (.ref d) = some false)
    (p0 : PySem.W.subIn K (.ref a) (.ref cE) = some true) (p1 : PySem.W.subIn K (.ref b) (.ref cE) = some true) (p2 : PySem.W.subIn K (.ref c) (.ref cE) = some true) (p3 : PySem.W.subIn K (.ref d) (.ref cE) = some true) (p4 : PySem.W.subIn K (.ref e) (.ref cE) = some true) :
    E5 K mg cE (cls5 a b c d e) where
  ep := ep
  ve := ve
  ec := fun i => match i with | 0 => ec0 | 1 => ec1 | 2 => ec2 | 3 => ec3 | 4 => ec4
  ei := fun i => match i with | 0 => ei0 | 1 => ei1 | 2 => ei2 | 3 => ei3 | 4 => ei4
  sub := fun i j => match i, j with
    | 0, 0 => ei0.s | 0, 1 => s01 | 0, 2 => s02 | 0, 3 => s03 | 0, 4 => s04
    | 1, 0 => s10 | 1, 1 => ei1.s | 1, 2 => s12 | 1, 3 => s13 | 1, 4 => s14
    | 2, 0 => s20 | 2, 1 => s21 | 2, 2 => ei2.s | 2, 3 => s23 | 2, 4 => s24
    | 3, 0 => s30 | 3, 1 => s31 | 3, 2 => s32 | 3, 3 => ei3.s | 3, 4 => s34
    | 4, 0 => s40 | 4, 1 => s41 | 4, 2 => s42 | 4, 3 => s43 | 4, 4 => ei4.s
  par := fun i => match i with | 0 => p0 | 1 => p1 | 2 => p2 | 3 => p3 | 4 => p4
theorem walk_F {l : PySem.W.OpenLaw} {q : Program} {loose : List Str} {XP : (Str → Option Value) → Heap → Prop} {YP : World → Heap → Prop} {d : DefRec} {K : Params → PySem.W.Frag} (k : Nat) (hn : l.most = some 63) (hdf : d.params.defaults = []) (hr : Room k callerA)
    (hY : ∀ (w : World) (h : Heap), YP w h → (K w.params).In h)
    (F : ∀ (w : World) (mg : Str → Option Value) (fa : Addr) (h : Heap), (K w.params).In h → h.Ns mainGlobals mg → mg d.name = some (.ref fa) →
      ∃ fd : FuncData, (∀ (s : Shared) (u : Value), BindsTo s fd ⟨[u], []⟩ [("_law_script", u)]) ∧ ∀ base : Heap, (K w.params).In base → base.Ns mainGlobals mg → FnOk l.prog w (K w.params) mg base (L2.CX l.prog w) k fa fd ["_law_script"] (spF (K w.params) F_law)) :
    PySem.W.WalkO q loose XP YP l.row.toRowW d [] (fun f vs => PySem.call f vs) :=
  L2.walk_of (n := 63) (k := k) (x := "_law_script") (CX := fun w => L2.CX l.prog w) (sp := fun w => spF (K w.params) F_law) hn (by decide) hdf hr hY F (fun w H a ns hl _ hS => law_sp hl hS) fun w H s e s2 z => law_cx z
end Lay
/-! Lay13: what may be compared, told by depth; lists of lists of the frame's own. -/
namespace Lay
open PySem L2
/-- data of at most n deep, that may be compared -/
def okN (n : Nat) (d : D) : Prop := plain d = true ∧ (py d).canLay0 = true ∧ (py d).depth ≤ n
theorem okN.e {n : Nat} {d : D} (h : okN n d) (hn : n ≤ 64 := by decide) : okE d = true := by
  obtain ⟨h1, h2, h3⟩ := h
  unfold okE SeqAt.shaped
  rw [h1, h2]
  simp; omega
theorem okN.mono {m n : Nat} {d : D} (h : okN m d) (l : m ≤ n) : okN n d := ⟨h.1, h.2.1, Nat.le_trans h.2.2 l⟩
theorem okN_int {n : Nat} {i : Int} : okN n (.int i) := ⟨rfl, rfl, Nat.zero_le _⟩
theorem okN_bl {n : Nat} {i : Bool} : okN n (.bl i) := ⟨rfl, rfl, Nat.zero_le _⟩
theorem okN_non {n : Nat} : okN n .non := ⟨rfl, rfl, Nat.zero_le _⟩
theorem okN_all {n : Nat} : ∀ {ds : List D}, (∀ d ∈ ds, okN n d) → plainAll ds = true ∧ PyData.canLayAll0 (pyAll ds) = true ∧ PyData.depthAll (pyAll ds) ≤ n
  | [], _ => ⟨rfl, rfl, Nat.zero_le _⟩
  | d :: ds, h => by
    obtain ⟨a, b, c⟩ := okN_all (ds := ds) fun x hx => h x (List.mem_cons_of_mem _ hx)
    obtain ⟨a1, b1, c1⟩ := h d List.mem_cons_self
    refine ⟨?_, ?_, ?_⟩
    · show (plain d && plainAll ds) = true
      rw [a1, a]; rfl
    · show (PyData.canLay0 (py d) && PyData.canLayAll0 (pyAll ds)) = true
      rw [b1, b]; rfl
    · show max (PyData.depth (py d)) (PyData.depthAll (pyAll ds)) ≤ n
      omega
theorem okN_lst {n : Nat} {ds : List D} (h : ∀ d ∈ ds, okN n d) : okN (n + 1) (.lst ds) := by
  obtain ⟨a, b, c⟩ := okN_all h
  refine ⟨a, b, ?_⟩
  show PyData.depthAll (pyAll ds) + 1 ≤ n + 1
  omega
theorem okN_tup {n : Nat} {ds : List D} (h : ∀ d ∈ ds, okN n d) : okN (n + 1) (.tup ds) := by
  obtain ⟨a, b, c⟩ := okN_all h
  refine ⟨a, b, ?_⟩
  show PyData.depthAll (pyAll ds) + 1 ≤ n + 1
  omega
theorem eqD_refl {A : D} (h : okE A = true) : eqD A A = true := PySem.SeqAt.eqv_refl _ (SeqAt.canLay_of_shaped (okE_r h))

/-! ### lists of lists of the frame's own -/
section
variable {K : Fg} {G S0 S H S' H' : Hp} {σ : St} {ds : List It} {A : Nat → List Addr}
theorem itr_ll {o : Option V} {xss : List (List D)} {as : List Addr} (q : ItR K S H (.ll xss) o as) : ∃ p vs bs, o = some (.ref p) ∧ as = p :: bs ∧ H p = some (.lst vs) ∧ LlR K S H xss vs bs := by
  cases q with
  | ll q q2 => exact ⟨_, _, _, rfl, rfl, q, q2⟩
theorem llr_len : ∀ {xss : List (List D)} {vs : List V} {as : List Addr}, LlR K S H xss vs as → vs.length = xss.length ∧ as.length = xss.length
  | _, _, _, .nil => ⟨rfl, rfl⟩
  | _, _, _, .cons _ _ t => by
    obtain ⟨a, b⟩ := llr_len t
    exact ⟨by simp [a], by simp [b]⟩
theorem llr_get : ∀ {xss : List (List D)} {vs : List V} {as : List Addr} {j : Nat} {xs : List D}, LlR K S H xss vs as → xss[j]? = some xs → ∃ p ws, vs[j]? = some (.ref p) ∧ as[j]? = some p ∧ H p = some (.lst ws) ∧ RpA K S ws xs
  | _, _, _, 0, _, .cons h r _, e => by cases e; exact ⟨_, _, rfl, rfl, h, r⟩
  | _, _, _, j + 1, _, .cons _ _ t, e => llr_get (j := j) t e
theorem llr_set : ∀ {xss : List (List D)} {vs : List V} {as : List Addr} {j : Nat} {ys : List D} {p : Addr} {ws : List V}, LlR K S H xss vs as → as.Nodup → as[j]? = some p → RpA K S ws ys → LlR K S (upd H p (.lst ws)) (xss.set j ys) vs as
  | _, _, _, 0, _, p, _, .cons h r t, nd, e, q => by
    cases e
    rw [List.nodup_cons] at nd
    exact .cons upd_same q (llr_keep (Same.refl _) t fun a ha => upd_ne fun z => nd.1 (by rw [← z]; exact ha))
  | _, _, _, j + 1, _, p, _, .cons (as := bs) h r t, nd, e, q => by
    rw [List.nodup_cons] at nd
    have hm : p ∈ bs := List.mem_of_getElem? (show bs[j]? = some p from e)
    exact .cons ((upd_ne fun z => nd.1 (by rw [z]; exact hm)).trans h) r (llr_set t nd.2 e q)
theorem llr_dp (k : Same S H) : ∀ {xss : List (List D)} {vs : List V} {as : List Addr}, LlR K S H xss vs as → plainAll (xss.map D.lst) = true → DpAll K H vs (pyAll (xss.map D.lst))
  | _, _, _, .nil, _ => .nil
  | _, _, _, .cons h r t, p => by
    obtain ⟨p1, p2⟩ := Bool.and_eq_true_iff.mp p
    exact .cons (.lst (sq_of h) (rpa_dp k _ _ r p1)) (llr_dp k t p2)
theorem EnvA.ll (e : EnvA K G S0 S H σ ds A) {i : Nat} {xss : List (List D)} (h : ds[i]? = some (.ll xss)) : ∃ p vs bs, σ[i]? = some (some (.ref p)) ∧ A i = p :: bs ∧ H p = some (.lst vs) ∧ LlR K S H xss vs bs := by
  obtain ⟨p, vs, bs, hv, ha, hp, r⟩ := itr_ll (e.it i _ h)
  exact ⟨p, vs, bs, join_some hv, ha, hp, r⟩
/-- one of the lists changes -/
theorem Env.mutLL (e : Env K G S0 S H σ ds) {i : Nat} {xss : List (List D)} {j : Nat} {xs : List D} (h : ds[i]? = some (.ll xss)) (hj : xss[j]? = some xs) : ∃ p vs q ws, σ[i]? = some (some (.ref p)) ∧ H p = some (.lst vs) ∧ vs.length = xss.length ∧ vs[j]? = some (.ref q) ∧ H q = some (.lst ws) ∧ RpA K S ws xs ∧
    ∀ us ys, RpA K S us ys → Env K G S0 S (upd H q (.lst us)) σ (ds.set i (.ll (xss.set j ys))) := by
  obtain ⟨A, e⟩ := e
  obtain ⟨p, vs, bs, hv, ha, hp, r⟩ := e.ll h
  obtain ⟨q, ws, h1, h2, h3, h4⟩ := llr_get r hj
  refine ⟨p, vs, q, ws, hv, hp, (llr_len r).1, h1, h3, h4, fun us ys ru => ?_⟩
  have hm : q ∈ A i := by rw [ha]; exact List.mem_cons_of_mem _ (List.mem_of_getElem? h2)
  have nd := e.nd i
  obtain ⟨_, sq, gq⟩ := e.fr i q hm
  have hne : ∀ j a, j ≠ i → a ∈ A j → a ≠ q := fun j a z hj w => z (e.dj j i a hj (w ▸ hm))
  have fr := e.fr i
  rw [ha] at nd fr
  rw [List.nodup_cons] at nd
  have pq : p ≠ q := fun z => nd.1 (z ▸ List.mem_of_getElem? h2)
  have w := e.put (S' := S) (H' := upd H q (.lst us)) i (it := .ll (xss.set j ys)) (v := some (.ref p)) (Same.refl _) (fun b u w => by
      rw [upd_ne (fun z => by subst z; rw [sq] at w; cases w)]; exact e.sh _ _ w) (fun b u w => by rw [upd_ne (fun z => by subst z; rw [gq] at w; cases w)]; exact e.gh _ _ w) e.gs (.ll ((upd_ne pq).trans hp) (llr_set r nd.2 h2 ru)) (List.nodup_cons.mpr nd)
    (fun j a z hj => ⟨upd_ne (hne j a z hj), (e.fr j a hj).2.1⟩) fun a ha' => ⟨(fr a ha').2.1, (fr a ha').2.2, fun j z hj => z (e.dj j i a hj (by rw [ha]; exact ha'))⟩
  rw [set_get hv] at w
  exact ⟨_, w⟩
end
section
variable {X : Cx} {W : WX} {e a b c : Expr} {ds ds' : List It} {pos : Pos} {d : D} {xs ys : List D} {tg : Expr}
variable {x : Str} {px pa : Pos}
/-- x = [xs, ys] of new lists -/
theorem xs_own2 (i : Nat) {p pl : Pos} (hN : X.N.Nodup) (ha : XL X a ds xs) (hb : XL X b ds ys) (hi : X.N[i]? = some x := by rfl) (hx : Loc X.env.scope x := by first | exact Or.inl rfl | exact Or.inr rfl) (hs : swapsWith (.List [a, b] pl) (some (.Name x p)) pos.line X.env = pure false := by rfl)
    (hf : X.fn x = true ∨ X.env.scope.names.lookup x = some .local := by first | exact .inl rfl | exact .inr rfl) (h1 : starEach [a, b] X.env = (false, eval a X.env) :: starEach [b] X.env := by exact se rfl) (h2 : starEach [b] X.env = (false, eval b X.env) :: starEach [] X.env := by exact se rfl) :
    XS X W (.Assign [.Name x p] (.List [a, b] pl) pos) ds (.nx (ds.set i (.ll [xs, ys]))) := .mk fun G S0 S H σ E Z q =>
  ws_of (ps_set hN hi hx (pe_lst (pa_cons pe_w (pa_cons pe_w pa_nil h2) h1)) hs hf) (ha G S0 S H σ E _ fun p1 vs1 S1 H1 g1 f1 f2 f3 r1 => hb G S0 S1 H1 σ (E.grow g1) _ fun p2 vs2 S2 H2 g2 f4 f5 f6 r2 => by
    refine ⟨sz _ (Nat.le_of_ble_eq_true rfl), fun p hp => q _ S2 _ ?_⟩
    have z1 : H2 p1 = some (.lst vs1) := g2.h _ _ f3
    have s1 : S2 p1 = none := by rw [g2.old p1 (nn_of f3)]; exact f2
    have n12 : p1 ≠ p2 := fun z => by rw [z, f4] at f3; cases f3
    have np1 : p1 ≠ p := fun z => by rw [z, hp] at z1; cases z1
    have np2 : p2 ≠ p := fun z => by rw [z, hp] at f6; cases f6
    have n2 : H p2 = none := g1.h.free f4
    have n3 : H p = none := g1.h.free (g2.h.free hp)
    have g : Gr S H S2 (upd H2 p (.lst [.ref p1, .ref p2])) := (g1.trans g2).trans (Gr.newH g2.sh hp)
    obtain ⟨A, e⟩ := E
    have e' := e.grow g
    have hS : S2 p = none := g2.sh.free hp
    refine ⟨_, e'.put i (it := .ll [xs, ys]) (as := [p, p1, p2]) (Same.refl _) e'.sh e'.gh e'.gs (.ll upd_same (.cons ((upd_ne np1).trans z1) (da_same g2.s r1) (.cons ((upd_ne np2).trans f6) r2 .nil))) ?_ (fun j a _ ha => ⟨rfl, (e'.fr j a ha).2.1⟩) fun a ha => ?_⟩
    · simp [n12, np1.symm, np2.symm]
    · have new : ∀ a, H a = none → S2 a = none → S2 a = none ∧ G a = none ∧ ∀ j, j ≠ i → a ∉ A j := fun a h1 h2 => ⟨h2, e.gh.free h1, fun j _ hj => e.own hj h1⟩
      rcases List.mem_cons.mp ha with rfl | ha
      · exact new _ n3 hS
      · rcases List.mem_cons.mp ha with rfl | ha
        · exact new _ f1 s1
        · rcases List.mem_singleton.mp ha with rfl
          exact new _ n2 f5)
/-- x != b -/
theorem xt_neLL (i : Nat) {B : D} {xss : List (List D)} (hu : X.A.units + 64 < cLine) (hb : XB X b ds B) (h1 : okE (.lst (xss.map .lst)) = true) (h2 : okE B = true) (hd : ds[i]? = some (.ll xss) := by rfl) (hN : X.N[i]? = some x := by rfl) (hv : Vis X.env.scope x := by first | exact Or.inl rfl | exact Or.inr (Or.inl rfl) | exact Or.inr (Or.inr rfl)) (h3 : (x == ("__debug__" : Str)) = false := by decide)
    (h4 : (x == ("__classdict__" : Str)) = false := by decide) : XT X (.Compare (.Name x px) [.NotEq] [b] pos) ds (!eqD (.lst (xss.map .lst)) B) := .mk fun G S0 S H σ E Q q => by
  obtain ⟨A, e⟩ := E
  obtain ⟨p, vs, bs, hv', ha, hp, r⟩ := e.ll hd
  exact wt_of (pt_cmpR (op_neD hu) (pe_var (i := i) hN hv h3 h4) pe_w (nomark _)) ⟨.ref p, hv', hb G S0 S H σ ⟨A, e⟩ _ fun y S2 H2 g r2 => ⟨_, _, .lst (sq_of (g.h _ _ hp)) (llr_dp g.sh (llr_keep g.s r fun a ha' => keep_of g.h (llr_owned r a ha')) (okE_l h1)), rb_dp g.sh r2 (okE_l h2), okE_r h1, okE_r h2, ⟨_, rfl, q S2 H2 g⟩⟩⟩
theorem ll_atI {α : Type} {vs : List α} {n : Nat} {m : Int} {j : Nat} {v : α} (hn : vs.length = n) (hj : ixN n m = some j) (h : vs[j]? = some v) : atI vs m = some v := by
  unfold atI
  rw [hn, hj]; exact h
/-- x[k] == b -/
theorem xt_eqLL (i : Nat) {B : D} {xss : List (List D)} {m : Int} {j : Nat} {k : Expr} {pk : Pos} (hu : X.A.units + 64 < cLine) (hk : XV X k ds (.int m)) (hj : ixN xss.length m = some j) (hx : xss[j]? = some xs) (hb : XB X b ds B) (h1 : okE (.lst xs) = true) (h2 : okE B = true) (hd : ds[i]? = some (.ll xss) := by rfl) (hN : X.N[i]? = some x := by rfl) (hv : Vis X.env.scope x := by first | exact Or.inl rfl | exact Or.inr (Or.inl rfl) | exact Or.inr (Or.inr rfl)) (h3 : (x == ("__debug__" : Str)) = false := by decide)
    (h4 : (x == ("__classdict__" : Str)) = false := by decide) (hs : PlainIx k := by exact fun _ _ => rfl) : XT X (.Compare (.Subscript (.Name x px) k pk) [.Eq] [b] pos) ds (eqD (.lst xs) B) := .mk fun G S0 S H σ E Q q => by
  refine wt_of (pt_cmpR (op_eqD hu) (pe_ix ix_seq (pe_var (i := i) hN hv h3 h4) pe_w hs) pe_w (nomark _)) ?_
  obtain ⟨p, vs, r, ws, hv', hp, hl, hvj, hr, ra, _⟩ := E.mutLL hd hx
  refine ⟨.ref p, hv', hk G S0 S H σ E _ fun kv S1 H1 g1 rk => ?_⟩
  cases rk
  refine .inl ⟨p, vs, m, .ref r, rfl, rfl, sq_of (g1.h _ _ hp), ll_atI hl hj hvj, ?_⟩
  exact hb G S0 S1 H1 σ (E.grow g1) _ fun y S2 H2 g r2 => ⟨_, _, .lst (sq_of (g.h _ _ (g1.h _ _ hr))) (rpa_dp g.sh _ _ (da_same g.s (da_same g1.s ra)) (okE_l h1)), rb_dp g.sh r2 (okE_l h2), okE_r h1, okE_r h2, ⟨_, rfl, q S2 H2 (g1.trans g)⟩⟩
/-- tg = a[x[k].pop(0)] -/
theorem xs_asgPopIx (i : Nat) {xss : List (List D)} {m y : Int} {j : Nat} {k : Expr} {pk pc ps pz : Pos} {jz} (ha : XV X a ds (.lst xs)) (hk : XV X k ds (.int m)) (hj : ixN xss.length m = some j) (hx : xss[j]? = some (.int y :: ys)) (hy : atI xs y = some d) (hg : XG X tg d (ds.set i (.ll (xss.set j ys))) ds') (hd : ds[i]? = some (.ll xss) := by rfl)
    (hN : X.N[i]? = some x := by rfl) (hv : Vis X.env.scope x := by first | exact Or.inl rfl | exact Or.inr (Or.inl rfl) | exact Or.inr (Or.inr rfl)) (h3 : (x == ("__debug__" : Str)) = false := by decide) (h4 : (x == ("__classdict__" : Str)) = false := by decide) (hi : PlainIx k := by exact fun _ _ => rfl)
    (hbase : attributeBase (.Subscript (.Name x px) k pk) "pop" X.env (eval (.Subscript (.Name x px) k pk) X.env) = eval (.Subscript (.Name x px) k pk) X.env := by rfl) (hline : (pa.endLine == pc.line) = true := by rfl)
    (hs : swapsWithSole [tg] (.Subscript a (.Call (.Attribute (.Subscript (.Name x px) k pk) "pop" pa) [.Constant (.int 0) jz pz] [] pc) ps) pos.line X.env = pure false := by rfl) (hw : swappedStores [tg] (.Subscript a (.Call (.Attribute (.Subscript (.Name x px) k pk) "pop" pa) [.Constant (.int 0) jz pz] [] pc) ps) X.env = pure none := by rfl)
    (h1 : (assignEach [tg] X.env).map (·.2) = [assign tg X.env] := by rfl) : XS X W (.Assign [tg] (.Subscript a (.Call (.Attribute (.Subscript (.Name x px) k pk) "pop" pa) [.Constant (.int 0) jz pz] [] pc) ps) pos) ds (.nx ds') := .mk fun G S0 S H σ E Z q => by
  refine ws_of (ps_asg (pe_ix ix_seq pe_w (pe_bm PySem.F.plainAttrs_list PySem.F.slot_list_pop PySem.F.type_list_pop (fun pins s σ H x xs v us Q I rx rv h => mt_popAt pins s σ H x xs v us Q I rx rv h) (pe_ix ix_seq (pe_var (i := i) hN hv h3 h4) pe_w hi) (pa_cons pe_int pa_nil (se rfl)) hbase (sfew rfl (Nat.le_of_ble_eq_true rfl)) hline (se rfl) (spl rfl)) (fun _ _ => rfl)) pg_w hs hw h1) ?_
  refine ha G S0 S H σ E _ fun av S1 H1 g1 r1 => ?_
  have E1 := E.grow g1
  obtain ⟨p, vs, r, ws, hv', hp, hl, hvj, hr, ra, _⟩ := E1.mutLL hd hx
  refine ⟨.ref p, hv', hk G S0 S1 H1 σ E1 _ fun kv S2 H2 g2 rk => ?_⟩
  cases rk
  refine .inl ⟨p, vs, m, .ref r, rfl, rfl, sq_of (g2.h _ _ hp), ll_atI hl hj hvj, ty_list (g2.h _ _ hr), ?_⟩
  obtain ⟨p', vs', r', ws', hv2, hp2, hl2, hvj2, hr2, ra2, mut2⟩ := (E1.grow g2).mutLL hd hx
  rw [hv'] at hv2
  cases hv2
  rw [g2.h _ _ hp] at hp2
  cases hp2
  rw [hvj] at hvj2
  cases hvj2
  cases ra2 with
  | @cons v0 _ vs0 _ rv rvs =>
    cases rv
    refine ⟨r, _, 0, 0, _, rfl, rfl, hr2, by decide, by decide, (ixN_seq (ixN_ge (i := 0) (by decide) (by simp))).1, rfl, ?_⟩
    have E3 := mut2 _ _ rvs
    cases r1 with
    | @lst qa ws2 _ hq raq =>
      obtain ⟨v, hv3, rv3⟩ := da_atI raq hy
      have hq2 := E3.sh _ _ (g2.s _ _ hq)
      exact .inl ⟨qa, ws2, y, v, rfl, rfl, sq_of hq2, hv3, hg G S0 S2 _ σ v E3 (dp_same g2.s rv3) _ fun σ' E4 => q σ' S2 _ E4⟩
theorem pyAll_get : ∀ {xs : List D} {j : Nat}, (pyAll xs)[j]? = xs[j]?.map py
  | [], _ => rfl
  | x :: xs, 0 => rfl
  | x :: xs, j + 1 => pyAll_get (xs := xs) (j := j)
/-- xs.index(e), of data of any depth -/
theorem xv_indexD {j : Nat} {z : D} (hu : X.A.units + 65 < cLine) (ho : XB X a ds (.lst xs)) (ha : XB X e ds d) (hk1 : okE (.lst xs) = true) (hk2 : okE d = true) (hj : xs[j]? = some z) (hz : eqD z d = true) (hn : ∀ (m : Nat) (z' : D), m < j → xs[m]? = some z' → eqD z' d = false)
    (hbase : attributeBase a "index" X.env (eval a X.env) = eval a X.env := by rfl) (hline : (pa.endLine == pos.line) = true := by rfl) (hst : isStar e = false := by rfl) : XV X (.Call (.Attribute a "index" pa) [e] [] pos) ds (.int (j : Int)) :=
  xv_bm PySem.F.plainAttrs_list PySem.F.slot_list_index PySem.F.type_list_index (mt_indexD hu) ho (xab_cons ha xab_nil (se hst)) ty_lst (fun S H x vs Q k r rr q => by
    have r0 := r
    obtain ⟨p, us, rfl, h1, h2⟩ := r.lst k
    obtain ⟨v, rfl, r1⟩ := rba1 rr
    refine ⟨p, v, py d, pyAll xs, j, py z, rfl, rfl, rb_dp k r0 (okE_l hk1), rb_dp k r1 (okE_l hk2), okE_r hk1, okE_r hk2, by rw [pyAll_get, hj]; rfl, hz, fun m z' hm hz' => ?_, q _ S H (.refl k) (.int _)⟩
    rw [pyAll_get] at hz'
    cases w : xs[m]? with
    | none => rw [w] at hz'; cases hz'
    | some y => rw [w] at hz'; cases hz'; exact hn m y hm w) hbase (sfew (by simp [hst]) (by simp)) hline (se hst) (spl rfl)
/-- a while whose end is told by what is true of it -/
theorem xss_whileE {c : Expr} {body rest : List Stmt} {n : Nat} {Q : List It → Prop} {o : Ou} (hp : PassesOwn (model X.prog X.w) X.A X.env X.xe) (hw : ∃ ds1, Q ds1 ∧ Wh X W c body n ds (.nx ds1)) (h : ∀ ds1, Q ds1 → XSs X W rest ds1 o) : XSs X W (.While c body [] pos :: rest) ds o := by
  obtain ⟨ds1, q, hw⟩ := hw
  exact xss_cons (xs_while hp hw) (h ds1 q)
theorem xss_whileX {c : Expr} {body rest : List Stmt} {Q : List It → Prop} {o : Ou} (hp : PassesOwn (model X.prog X.w) X.A X.env X.xe) (hw : ∃ n ds1, Q ds1 ∧ Wh X W c body n ds (.nx ds1)) (h : ∀ ds1, Q ds1 → XSs X W rest ds1 o) : XSs X W (.While c body [] pos :: rest) ds o := by
  obtain ⟨n, ds1, q, hw⟩ := hw
  exact xss_cons (xs_while hp hw) (h ds1 q)
end
end Lay
/-! Lay14: instances: their fields. -/
namespace Lay
open PySem L2
/-! ### names of fields, by place -/
section
variable {α : Type} {f : Str} {x y : α}
theorem look_at : ∀ {l : List (Str × α)} {k : Nat}, (l.map (·.1)).Nodup → l[k]? = some (f, x) → l.lookup f = some x
  | [], _, _, h => by cases h
  | (n, z) :: l, 0, _, h => by cases h; simp [List.lookup]
  | (n, z) :: l, k + 1, nd, h => by
    rw [List.map_cons, List.nodup_cons] at nd
    have hm : f ∈ l.map (·.1) := List.mem_map.mpr ⟨(f, x), List.mem_of_getElem? (show l[k]? = some (f, x) from h), rfl⟩
    have e : (f == n) = false := by
      rw [beq_eq_false_iff_ne]
      intro z
      exact nd.1 (z ▸ hm)
    simp only [List.lookup, e]
    exact look_at nd.2 (show l[k]? = some (f, x) from h)
theorem look_no : ∀ {l : List (Str × α)}, f ∉ l.map (·.1) → l.lookup f = none
  | [], _ => rfl
  | (n, z) :: l, h => by
    rw [List.map_cons, List.mem_cons] at h
    have e : (f == n) = false := by
      rw [beq_eq_false_iff_ne]
      intro z
      exact h (.inl z)
    simp only [List.lookup, e]
    exact look_no fun q => h (.inr q)
def putI (f : Str) (d : α) : List (Str × α) → List (Str × α)
  | [] => [(f, d)]
  | (g, x) :: r => if g = f then (g, d) :: r else (g, x) :: putI f d r
theorem putI_at : ∀ {l : List (Str × α)} {k : Nat}, (l.map (·.1)).Nodup → l[k]? = some (f, x) → putI f y l = l.set k (f, y)
  | [], _, _, h => by cases h
  | (n, z) :: l, 0, _, h => by cases h; unfold putI; rw [if_pos rfl]; rfl
  | (n, z) :: l, k + 1, nd, h => by
    rw [List.map_cons, List.nodup_cons] at nd
    have hm : f ∈ l.map (·.1) := List.mem_map.mpr ⟨(f, x), List.mem_of_getElem? (show l[k]? = some (f, x) from h), rfl⟩
    have e : ¬ n = f := fun z => nd.1 (by rw [show (n, _).1 = f from z]; exact hm)
    unfold putI
    rw [if_neg e, putI_at nd.2 (show l[k]? = some (f, x) from h)]
    rfl
theorem putI_no : ∀ {l : List (Str × α)}, f ∉ l.map (·.1) → putI f y l = l ++ [(f, y)]
  | [], _ => rfl
  | (n, z) :: l, h => by
    rw [List.map_cons, List.mem_cons] at h
    have e : ¬ n = f := fun z => h (.inl z.symm)
    unfold putI
    rw [if_neg e, putI_no fun q => h (.inr q)]
    rfl
end
/-! ### what the fields hold -/
section
variable {K : Fg} {S H : Hp} {f : Str}
theorem rpF_look {d : D} : ∀ {fv : List (Str × V)} {fs : List (Str × D)}, RpF K S fv fs → fs.lookup f = some d → ∃ v, fv.lookup f = some v ∧ Rp K S v d
  | _, _, .nil, h => by cases h
  | (n, v) :: fv, (_, x) :: fs, .cons r t, h => by
    by_cases e : f = n
    · subst e
      simp only [List.lookup, beq_self_eq_true] at h ⊢
      cases h
      exact ⟨v, rfl, r⟩
    · have : (f == n) = false := by simp [e]
      simp only [List.lookup, this] at h ⊢
      exact rpF_look t h
theorem rpF_none : ∀ {fv : List (Str × V)} {fs : List (Str × D)}, RpF K S fv fs → fs.lookup f = none → fv.lookup f = none
  | _, _, .nil, h => rfl
  | (n, v) :: fv, (_, x) :: fs, .cons r t, h => by
    by_cases e : f = n
    · subst e
      simp only [List.lookup, beq_self_eq_true] at h
      cases h
    · have : (f == n) = false := by simp [e]
      simp only [List.lookup, this] at h ⊢
      exact rpF_none t h
theorem fsr_look {g : FI} : ∀ {fs : List (Str × FI)} {fv : List (Str × V)} {bs : List Addr}, FsR K S H fs fv bs → fs.lookup f = some g → ∃ v as, fv.lookup f = some v ∧ FIR K S H g v as ∧ ∀ x ∈ as, x ∈ bs
  | _, _, _, .nil, h => by cases h
  | (n, x) :: fs, (_, v) :: fv, _, .cons r t, h => by
    by_cases e : f = n
    · subst e
      simp only [List.lookup, beq_self_eq_true] at h ⊢
      cases h
      exact ⟨v, _, rfl, r, fun x hx => List.mem_append_left _ hx⟩
    · have : (f == n) = false := by simp [e]
      simp only [List.lookup, this] at h ⊢
      obtain ⟨v, as, h1, h2, h3⟩ := fsr_look t h
      exact ⟨v, as, h1, h2, fun x hx => List.mem_append_right _ (h3 x hx)⟩
theorem fsr_none : ∀ {fs : List (Str × FI)} {fv : List (Str × V)} {bs : List Addr}, FsR K S H fs fv bs → fs.lookup f = none → fv.lookup f = none
  | _, _, _, .nil, h => rfl
  | (n, x) :: fs, (_, v) :: fv, _, .cons r t, h => by
    by_cases e : f = n
    · subst e
      simp only [List.lookup, beq_self_eq_true] at h
      cases h
    · have : (f == n) = false := by simp [e]
      simp only [List.lookup, this] at h ⊢
      exact fsr_none t h
theorem fsr_len : ∀ {fs : List (Str × FI)} {fv : List (Str × V)} {bs : List Addr}, FsR K S H fs fv bs → fv.length = fs.length
  | _, _, _, .nil => rfl
  | _, _, _, .cons _ t => by rw [List.length_cons, List.length_cons, fsr_len t]
theorem fsr_put {g : FI} {v : V} {as : List Addr} (r : FIR K S H g v as) : ∀ {fs : List (Str × FI)} {fv : List (Str × V)} {bs : List Addr}, FsR K S H fs fv bs → ∃ bs', FsR K S H (putI f g fs) (putF f v fv) bs' ∧ (∀ x ∈ bs', x ∈ bs ∨ x ∈ as) ∧ (bs.Nodup → as.Nodup → (∀ x ∈ as, x ∉ bs) → bs'.Nodup)
  | [], _, _, .nil => ⟨as ++ [], .cons r .nil, fun x hx => .inr (by simpa using hx), fun _ h _ => by simpa using h⟩
  | (n, x) :: fs, (_, y) :: fv, _, .cons (as := as0) (bs := bs0) r1 t => by
    unfold putI putF
    by_cases e : n = f
    · rw [if_pos e, if_pos e]
      refine ⟨_, .cons r t, fun x hx => ?_, fun h1 h2 h3 => ?_⟩
      · rcases List.mem_append.mp hx with q | q
        · exact .inr q
        · exact .inl (List.mem_append_right _ q)
      · rw [List.nodup_append] at h1 ⊢
        exact ⟨h2, h1.2.1, fun x hx y hy z => h3 x hx (List.mem_append_right _ (z ▸ hy))⟩
    · rw [if_neg e, if_neg e]
      obtain ⟨bs', q1, q2, q3⟩ := fsr_put r t
      refine ⟨_, .cons r1 q1, fun x hx => ?_, fun h1 h2 h3 => ?_⟩
      · rcases List.mem_append.mp hx with q | q
        · exact .inl (List.mem_append_left _ q)
        · rcases q2 x q with z | z
          · exact .inl (List.mem_append_right _ z)
          · exact .inr z
      · rw [List.nodup_append] at h1 ⊢
        refine ⟨h1.1, q3 h1.2.1 h2 fun x hx z => h3 x hx (List.mem_append_right _ z), fun x hx y hy z => ?_⟩
        rcases q2 y hy with w | w
        · exact h1.2.2 x hx y w z
        · exact h3 y w (List.mem_append_left _ (z ▸ hx))
theorem fsr_mut {oa : Option Addr} {xs : List D} : ∀ {fs : List (Str × FI)} {fv : List (Str × V)} {bs : List Addr}, FsR K S H fs fv bs → bs.Nodup → fs.lookup f = some (.ow oa xs) → ∃ p vs, fv.lookup f = some (.ref p) ∧ p ∈ bs ∧ (∀ a, oa = some a → p = a) ∧ H p = some (.lst vs) ∧ RpA K S vs xs ∧
    ∀ ws ys ob, RpA K S ws ys → (∀ a, ob = some a → p = a) → FsR K S (upd H p (.lst ws)) (putI f (.ow ob ys) fs) fv bs
  | _, _, _, .nil, _, h => by cases h
  | (n, x) :: fs, (_, v) :: fv, _, .cons (as := as0) (bs := bs0) r t, nd, h => by
    rw [List.nodup_append] at nd
    by_cases e : f = n
    · subst e
      simp only [List.lookup, beq_self_eq_true] at h ⊢
      cases h
      cases r with
      | @ow _ _ p vs z hp ra =>
        refine ⟨p, vs, rfl, List.mem_append_left _ List.mem_cons_self, z, hp, ra, fun ws ys ob q qz => ?_⟩
        unfold putI
        rw [if_pos rfl]
        exact .cons (.ow qz upd_same q) (fsr_keep (Same.refl _) t fun a ha => upd_ne fun w => nd.2.2 p List.mem_cons_self a ha w.symm)
    · have : (f == n) = false := by simp [e]
      simp only [List.lookup, this] at h ⊢
      obtain ⟨p, vs, h1, h2, h3, h4, h5, h6⟩ := fsr_mut t nd.2.1 h
      refine ⟨p, vs, h1, List.mem_append_right _ h2, h3, h4, h5, fun ws ys ob q qz => ?_⟩
      unfold putI
      rw [if_neg (fun z => e z.symm)]
      exact .cons (fir_keep (Same.refl _) r fun a ha => upd_ne fun w => nd.2.2 a ha p h2 w) (h6 ws ys ob q qz)
end
def allF (fs : List (Str × D)) : List (Str × FI) := fs.map fun p => (p.1, FI.fz p.2)
theorem fsr_all {K : Fg} {S H : Hp} : ∀ {fs : List (Str × D)} {fv : List (Str × V)} {as : List Addr}, FsR K S H (allF fs) fv as → RpF K S fv fs
  | [], _, _, h => by cases h; exact .nil
  | (n, d) :: fs, _, _, h => by
    cases h with
    | cons h t =>
      cases h with
      | fz r => exact .cons r (fsr_all t)
/-! ### a slot's own object -/
section
variable {K : Fg} {G S0 S H S' H' : Hp} {σ : St} {ds : List It} {A : Nat → List Addr} {i : Nat} {C : Addr} {oa ob : Option Addr} {fs : List (Str × FI)} {f : Str}
theorem EnvA.obj (e : EnvA K G S0 S H σ ds A) (h : ds[i]? = some (.ob C oa fs)) : ∃ p dx fv bs, σ[i]? = some (some (.ref p)) ∧ A i = p :: bs ∧ (∀ a, oa = some a → p = a) ∧ H p = some (.ins C dx fv) ∧ FsR K S H fs fv bs := by
  obtain ⟨p, dx, fv, bs, hv, ha, hp, hH, r⟩ := itr_ob (e.it i _ h)
  exact ⟨p, dx, fv, bs, join_some hv, ha, hp, hH, r⟩
/-- a field that is frozen -/
theorem Env.fldz (E : Env K G S0 S H σ ds) {d : D} (h : ds[i]? = some (.ob C oa fs)) (hl : fs.lookup f = some (.fz d)) : ∃ p dx fv v, σ[i]? = some (some (.ref p)) ∧ H p = some (.ins C dx fv) ∧ fv.lookup f = some v ∧ Rp K S v d := by
  obtain ⟨A, e⟩ := E
  obtain ⟨p, dx, fv, bs, h1, _, _, h2, r⟩ := e.obj h
  obtain ⟨v, as, h3, q, _⟩ := fsr_look r hl
  cases q with
  | fz q => exact ⟨p, dx, fv, v, h1, h2, h3, q⟩
/-- a field that is a list of its own -/
theorem Env.fldo (E : Env K G S0 S H σ ds) {xs : List D} (h : ds[i]? = some (.ob C oa fs)) (hl : fs.lookup f = some (.ow ob xs)) : ∃ p dx fv q vs, σ[i]? = some (some (.ref p)) ∧ H p = some (.ins C dx fv) ∧ fv.lookup f = some (.ref q) ∧ (∀ a, ob = some a → q = a) ∧ H q = some (.lst vs) ∧ RpA K S vs xs ∧
    S q = none ∧ ∀ ws ys ob', RpA K S ws ys → (∀ a, ob' = some a → q = a) → Env K G S0 S (upd H q (.lst ws)) σ (ds.set i (.ob C oa (putI f (.ow ob' ys) fs))) := by
  obtain ⟨A, e⟩ := E
  obtain ⟨p, dx, fv, bs, h1, ha, hp, h2, r⟩ := e.obj h
  have nd := e.nd i
  rw [ha, List.nodup_cons] at nd
  obtain ⟨q, vs, h3, hq, hz, h4, ra, mt⟩ := fsr_mut r nd.2 hl
  have hm : q ∈ A i := by rw [ha]; exact List.mem_cons_of_mem _ hq
  obtain ⟨_, sq, gq⟩ := e.fr i q hm
  refine ⟨p, dx, fv, q, vs, h1, h2, h3, hz, h4, ra, sq, fun ws ys ob' rw' qz => ?_⟩
  have hne : ∀ j a, j ≠ i → a ∈ A j → a ≠ q := fun j a z hj w => z (e.dj j i a hj (w ▸ hm))
  have pq : p ≠ q := fun z => nd.1 (z ▸ hq)
  have fr := e.fr i
  rw [ha] at fr
  have w := e.put (S' := S) (H' := upd H q (.lst ws)) i (it := .ob C oa (putI f (.ow ob' ys) fs)) (v := some (.ref p)) (as := p :: bs) (Same.refl _) (fun b u w => by
      rw [upd_ne (fun z => by subst z; rw [sq] at w; cases w)]; exact e.sh _ _ w) (fun b u w => by rw [upd_ne (fun z => by subst z; rw [gq] at w; cases w)]; exact e.gh _ _ w) e.gs (.ob hp ((upd_ne pq).trans h2) (mt ws ys ob' rw' qz)) (List.nodup_cons.mpr nd)
    (fun j a z hj => ⟨upd_ne (hne j a z hj), (e.fr j a hj).2.1⟩) fun a ha' => ⟨(fr a ha').2.1, (fr a ha').2.2, fun j z hj => z (e.dj j i a hj (by rw [ha]; exact ha'))⟩
  rw [set_get h1] at w
  exact ⟨_, w⟩
/-- a field is stored -/
theorem Env.setF (E : Env K G S0 S H σ ds) (g : Gr S H S' H') {fi : FI} {v : V} {as : List Addr} (h : ds[i]? = some (.ob C oa fs)) (r : FIR K S' H' fi v as) (fresh : ∀ x ∈ as, H x = none ∧ S' x = none) (nd : as.Nodup) : ∃ p dx fv, σ[i]? = some (some (.ref p)) ∧ H' p = some (.ins C dx fv) ∧ fv.length = fs.length ∧
    Env K G S0 S' (upd H' p (.ins C dx (putF f v fv))) σ (ds.set i (.ob C oa (putI f fi fs))) := by
  obtain ⟨A, e0⟩ := E
  have e := e0.grow g
  obtain ⟨p, dx, fv, bs, h1, ha, hp, h2, rf⟩ := e.obj h
  have nda := e.nd i
  have fr := e.fr i
  rw [ha] at nda fr
  rw [List.nodup_cons] at nda
  have own : ∀ x ∈ p :: bs, H x ≠ none := fun x hx => e0.own (i := i) (by rw [ha]; exact hx)
  obtain ⟨bs', q1, q2, q3⟩ := fsr_put (f := f) r rf
  have nd2 : bs'.Nodup := q3 nda.2 nd fun x hx z => own x (List.mem_cons_of_mem _ z) (fresh x hx).1
  have pn : p ∉ bs' := fun z => by
    rcases q2 p z with w | w
    · exact nda.1 w
    · exact own p List.mem_cons_self (fresh p w).1
  obtain ⟨_, sp, gp⟩ := e.fr i p (by rw [ha]; exact List.mem_cons_self)
  have hne : ∀ j a, j ≠ i → a ∈ A j → a ≠ p := fun j a z hj w => z (e.dj j i a hj (by rw [ha, w]; exact List.mem_cons_self))
  refine ⟨p, dx, fv, h1, h2, fsr_len rf, ?_⟩
  have w := e.put (S' := S') (H' := upd H' p (.ins C dx (putF f v fv))) i (it := .ob C oa (putI f fi fs)) (v := some (.ref p)) (as := p :: bs') (Same.refl _) (fun b u w => by
      rw [upd_ne (fun z => by subst z; rw [sp] at w; cases w)]; exact e.sh _ _ w) (fun b u w => by rw [upd_ne (fun z => by subst z; rw [gp] at w; cases w)]; exact e.gh _ _ w) e.gs (.ob hp upd_same (fsr_keep (Same.refl _) q1 fun a ha => upd_ne fun z => pn (z ▸ ha))) (List.nodup_cons.mpr ⟨pn, nd2⟩)
    (fun j a z hj => ⟨upd_ne (hne j a z hj), (e.fr j a hj).2.1⟩) fun a ha' => by
      rcases List.mem_cons.mp ha' with rfl | hb
      · exact ⟨sp, gp, fun j z hj => z (e.dj j i _ hj (by rw [ha]; exact List.mem_cons_self))⟩
      · rcases q2 a hb with w | w
        · have hm := List.mem_cons_of_mem p w
          exact ⟨(fr a hm).2.1, (fr a hm).2.2, fun j z hj => z (e.dj j i a hj (by rw [ha]; exact hm))⟩
        · exact ⟨(fresh a w).2, e0.gh.free (fresh a w).1, fun j _ hj => e0.own hj (fresh a w).1⟩
  rw [set_get h1] at w
  exact ⟨_, w⟩
end
/-! ### fields read and stored -/
section
variable {X : Cx} {W : WX} {e b : Expr} {ds : List It} {pos pos' px : Pos} {d : D} {x : Str} {C : Addr} {oa ob : Option Addr} {f : Str} {xs : List D}
/-- e.f of an instance that will not change -/
theorem xv_fld {fs : List (Str × D)} (k : Nat) (he : XV X e ds (.ins C fs)) (c : Cls X.K C) (n : NoAttr X.K C f) (hk : fs[k]? = some (f, d) := by rfl) {FN : List Str} (nd : FN.Nodup) (hn : fs.map (·.1) = FN := by rfl) (hb : attributeBase e f X.env (eval e X.env) = eval e X.env := by rfl) : XV X (.Attribute e f pos) ds d := .mk fun G S0 S H σ E Q q =>
  we_of (pe_fld pe_w hb) (he G S0 S H σ E _ fun v S' H' g r => by
    cases r with
    | @ins a _ dx fv _ h rf =>
      obtain ⟨v, hv, rv⟩ := rpF_look rf (look_at (hn ▸ nd) hk)
      exact ⟨a, C, dx, fv, v, rfl, g.sh _ _ h, c, n, hv, q v S' H' g rv⟩)
variable {fs : List (Str × FI)}
/-- x.f of an own object: frozen -/
theorem xv_fldO (i k : Nat) (c : Cls X.K C) (n : NoAttr X.K C f) (hd : ds[i]? = some (.ob C oa fs) := by rfl) (hk : fs[k]? = some (f, .fz d) := by rfl) {FN : List Str} (nd : FN.Nodup) (hn : fs.map (·.1) = FN := by rfl) (hN : X.N[i]? = some x := by rfl) (hv : Vis X.env.scope x := by first | exact Or.inl rfl | exact Or.inr (Or.inl rfl) | exact Or.inr (Or.inr rfl))
    (h1 : (x == ("__debug__" : Str)) = false := by decide) (h2 : (x == ("__classdict__" : Str)) = false := by decide) (hb : attributeBase (.Name x px) f X.env (eval (.Name x px) X.env) = eval (.Name x px) X.env := by rfl) : XV X (.Attribute (.Name x px) f pos) ds d := .mk fun G S0 S H σ E Q q => by
  obtain ⟨p, dx, fv, v, hσ, hp, hl, r⟩ := E.fldz hd (look_at (hn ▸ nd) hk)
  exact we_of (pe_fld (pe_var (i := i) hN hv h1 h2) hb) ⟨.ref p, hσ, p, C, dx, fv, v, rfl, hp, c, n, hl, q v S H E.gr r⟩
/-- x.f of an own object: a list of its own -/
theorem xb_fldO (i k : Nat) (c : Cls X.K C) (n : NoAttr X.K C f) (hd : ds[i]? = some (.ob C oa fs) := by rfl) (hk : fs[k]? = some (f, .ow ob xs) := by rfl) {FN : List Str} (nd : FN.Nodup) (hn : fs.map (·.1) = FN := by rfl) (hN : X.N[i]? = some x := by rfl) (hv : Vis X.env.scope x := by first | exact Or.inl rfl | exact Or.inr (Or.inl rfl) | exact Or.inr (Or.inr rfl))
    (h1 : (x == ("__debug__" : Str)) = false := by decide) (h2 : (x == ("__classdict__" : Str)) = false := by decide) (hb : attributeBase (.Name x px) f X.env (eval (.Name x px) X.env) = eval (.Name x px) X.env := by rfl) : XB X (.Attribute (.Name x px) f pos) ds (.lst xs) := .mk fun G S0 S H σ E Q q => by
  obtain ⟨p, dx, fv, a, vs, hσ, hp, hl, _, ha, r, _, _⟩ := E.fldo hd (look_at (hn ▸ nd) hk)
  exact we_of (pe_fld (pe_var (i := i) hN hv h1 h2) hb) ⟨.ref p, hσ, p, C, dx, fv, _, rfl, hp, c, n, hl, q _ S H E.gr (.inr ⟨a, vs, xs, rfl, rfl, ha, r⟩)⟩
/-- x.f = e, by its place -/
theorem xs_fldP {fi : FI} {fs' : List (Str × FI)} (i : Nat) (hput : putI f fi fs = fs') (he : ∀ G S0 S H σ, Env X.K G S0 S H σ ds → ∀ Q : VK, (∀ v as S' H', Gr S H S' H' → FIR X.K S' H' fi v as → (∀ x ∈ as, H x = none ∧ S' x = none) → as.Nodup → Q v H') → wE X e σ H Q)
    (c : Cls X.K C) (n : NoAttr X.K C f) (hl : fs.length < 900) (hd : ds[i]? = some (.ob C oa fs)) (hN : X.N[i]? = some x) (hv : Vis X.env.scope x)
    (h1 : (x == ("__debug__" : Str)) = false) (h2 : (x == ("__classdict__" : Str)) = false) (hs : swapsWith e (some (.Attribute (.Name x px) f pos')) pos.line X.env = pure false) :
    XS X W (.Assign [.Attribute (.Name x px) f pos'] e pos) ds (.nx (ds.set i (.ob C oa fs'))) := .mk fun G S0 S H σ E Z q =>
  ws_of (ps_fld (pe_var (i := i) hN hv h1 h2) pe_w hs) (he G S0 S H σ E _ fun v as S' H' g r fr nd => by
    obtain ⟨p, dx, fv, hσ, hp, hlen, mt⟩ := E.setF (f := f) g hd r fr nd
    exact ⟨.ref p, hσ, p, C, dx, fv, rfl, hp, c, n, by rw [hlen]; omega, q _ S' _ (hput ▸ mt)⟩)
theorem he_v (he : XV X e ds d) : ∀ G S0 S H σ, Env X.K G S0 S H σ ds → ∀ Q : VK, (∀ v as S' H', Gr S H S' H' → FIR X.K S' H' (.fz d) v as → (∀ x ∈ as, H x = none ∧ S' x = none) → as.Nodup → Q v H') → wE X e σ H Q := fun G S0 S H σ E Q q =>
  he G S0 S H σ E Q fun v S' H' g r => q v [] S' H' g (.fz r) (fun _ z => by cases z) .nil
theorem he_l (he : XL X e ds xs) : ∀ G S0 S H σ, Env X.K G S0 S H σ ds → ∀ Q : VK, (∀ v as S' H', Gr S H S' H' → FIR X.K S' H' (.ow none xs) v as → (∀ x ∈ as, H x = none ∧ S' x = none) → as.Nodup → Q v H') → wE X e σ H Q := fun G S0 S H σ E Q q =>
  he G S0 S H σ E Q fun p vs S' H' g h1 h2 h3 h4 => q _ [p] S' H' g (.ow (fun _ z => by cases z) h3 h4) (fun x hx => by rcases List.mem_singleton.mp hx with rfl; exact ⟨h1, h2⟩) (by simp)
section
variable {g : FI} (i k : Nat) (c : Cls X.K C) (n : NoAttr X.K C f) (hd : ds[i]? = some (.ob C oa fs) := by rfl) (hk : fs[k]? = some (f, g) := by rfl) {FN : List Str} (nd : FN.Nodup) (hn : fs.map (·.1) = FN := by rfl) (hl : fs.length < 900 := by exact Nat.lt_of_lt_of_le (Nat.lt_succ_self _) (Nat.le_of_ble_eq_true rfl)) (hN : X.N[i]? = some x := by rfl) (hv : Vis X.env.scope x := by first | exact Or.inl rfl | exact Or.inr (Or.inl rfl) | exact Or.inr (Or.inr rfl))
    (h1 : (x == ("__debug__" : Str)) = false := by decide) (h2 : (x == ("__classdict__" : Str)) = false := by decide) (hs : swapsWith e (some (.Attribute (.Name x px) f pos')) pos.line X.env = pure false := by rfl)
include c n hd hk nd hn hl hN hv h1 h2 hs
theorem xs_fld (he : XV X e ds d) : XS X W (.Assign [.Attribute (.Name x px) f pos'] e pos) ds (.nx (ds.set i (.ob C oa (fs.set k (f, .fz d))))) := xs_fldP i (putI_at (hn ▸ nd) hk) (he_v he) c n hl hd hN hv h1 h2 hs
theorem xs_fldL (he : XL X e ds xs) : XS X W (.Assign [.Attribute (.Name x px) f pos'] e pos) ds (.nx (ds.set i (.ob C oa (fs.set k (f, .ow none xs))))) := xs_fldP i (putI_at (hn ▸ nd) hk) (he_l he) c n hl hd hN hv h1 h2 hs
end
section
variable (i : Nat) (c : Cls X.K C) (n : NoAttr X.K C f) (hd : ds[i]? = some (.ob C oa fs) := by rfl) {FN : List Str} (hn : fs.map (·.1) = FN := by rfl) (hm : f ∉ FN := by decide +kernel) (hl : fs.length < 900 := by exact Nat.lt_of_lt_of_le (Nat.lt_succ_self _) (Nat.le_of_ble_eq_true rfl)) (hN : X.N[i]? = some x := by rfl) (hv : Vis X.env.scope x := by first | exact Or.inl rfl | exact Or.inr (Or.inl rfl) | exact Or.inr (Or.inr rfl))
    (h1 : (x == ("__debug__" : Str)) = false := by decide) (h2 : (x == ("__classdict__" : Str)) = false := by decide) (hs : swapsWith e (some (.Attribute (.Name x px) f pos')) pos.line X.env = pure false := by rfl)
include c n hd hn hm hl hN hv h1 h2 hs
/-- a new field -/
theorem xs_fld0 (he : XV X e ds d) : XS X W (.Assign [.Attribute (.Name x px) f pos'] e pos) ds (.nx (ds.set i (.ob C oa (fs ++ [(f, .fz d)])))) := xs_fldP i (putI_no (by rw [hn]; exact hm)) (he_v he) c n hl hd hN hv h1 h2 hs
theorem xs_fldL0 (he : XL X e ds xs) : XS X W (.Assign [.Attribute (.Name x px) f pos'] e pos) ds (.nx (ds.set i (.ob C oa (fs ++ [(f, .ow none xs)])))) := xs_fldP i (putI_no (by rw [hn]; exact hm)) (he_l he) c n hl hd hN hv h1 h2 hs
end
/-- x.f[m] = e -/
theorem xs_fldIx (i k : Nat) {m : Int} {j : Nat} {pt : Pos} (he : XV X e ds d) (hb : XV X b ds (.int m)) (c : Cls X.K C) (n : NoAttr X.K C f) (hj : ixN xs.length m = some j) (hd : ds[i]? = some (.ob C oa fs) := by rfl) (hk : fs[k]? = some (f, .ow ob xs) := by rfl) {FN : List Str} (nd : FN.Nodup) (hn : fs.map (·.1) = FN := by rfl)
    (hN : X.N[i]? = some x := by rfl) (hv : Vis X.env.scope x := by first | exact Or.inl rfl | exact Or.inr (Or.inl rfl) | exact Or.inr (Or.inr rfl))
    (h1 : (x == ("__debug__" : Str)) = false := by decide) (h2 : (x == ("__classdict__" : Str)) = false := by decide) (hbs : attributeBase (.Name x px) f X.env (eval (.Name x px) X.env) = eval (.Name x px) X.env := by rfl)
    (ha : ∀ v, assign (.Subscript (.Attribute (.Name x px) f pos') b pt) X.env v = (do
      let ov ← holding [v] (eval (.Attribute (.Name x px) f pos') X.env)
      let iv ← holding [v, ov] (eval b X.env)
      standAt pt
      holding [v, ov, iv] (setItem ov iv v)
      release [v, ov, iv] []) := by intro _; rfl)
    (hs : swapsWithSole [.Subscript (.Attribute (.Name x px) f pos') b pt] e pos.line X.env = pure false := by rfl) (hw : swappedStores [.Subscript (.Attribute (.Name x px) f pos') b pt] e X.env = pure none := by rfl)
    (h3 : (assignEach [.Subscript (.Attribute (.Name x px) f pos') b pt] X.env).map (·.2) = [assign (.Subscript (.Attribute (.Name x px) f pos') b pt) X.env] := by rfl) :
    XS X W (.Assign [.Subscript (.Attribute (.Name x px) f pos') b pt] e pos) ds (.nx (ds.set i (.ob C oa (fs.set k (f, .ow ob (xs.set j d)))))) := .mk fun G S0 S H σ E Z q =>
  ws_of (ps_asg pe_w (pg_sub (pe_fld (pe_var (i := i) hN hv h1 h2) hbs) pe_w set_list ha) hs hw h3) (he G S0 S H σ E _ fun v S' H' g r => by
    have E' := E.grow g
    obtain ⟨p, dx, fv, a, vs, hσ, hp, hl, _, ha, ra, _, _⟩ := E'.fldo hd (look_at (hn ▸ nd) hk)
    refine ⟨.ref p, hσ, p, C, dx, fv, _, rfl, hp, c, n, hl, hb G S0 S' H' σ E' _ fun kv S2 H2 g2 rk => ?_⟩
    cases rk
    have E2 := E'.grow g2
    obtain ⟨p', dx', fv', a', vs', hσ', hp', hl', hz', ha', ra', _, mt⟩ := E2.fldo hd (look_at (hn ▸ nd) hk)
    rw [hσ] at hσ'
    cases hσ'
    rw [g2.h _ _ hp] at hp'
    cases hp'
    rw [hl] at hl'
    cases hl'
    have q2 := mt (vs'.set j v) (xs.set j d) ob (da_set j ra' (dp_same g2.s r)) hz'
    rw [putI_at (hn ▸ nd) hk] at q2
    exact ⟨a, vs', m, j, rfl, rfl, ha', by rw [da_len ra']; exact hj, q _ S2 _ q2⟩)
/-- x.f.append(e) -/
theorem xs_fldApp (i k : Nat) {pa pc : Pos} (he : XV X e ds d) (c : Cls X.K C) (n : NoAttr X.K C f) (hz : xs.length < 100000) (hd : ds[i]? = some (.ob C oa fs) := by rfl) (hk : fs[k]? = some (f, .ow ob xs) := by rfl) {FN : List Str} (nd : FN.Nodup) (hn : fs.map (·.1) = FN := by rfl)
    (hN : X.N[i]? = some x := by rfl) (hv : Vis X.env.scope x := by first | exact Or.inl rfl | exact Or.inr (Or.inl rfl) | exact Or.inr (Or.inr rfl))
    (h1 : (x == ("__debug__" : Str)) = false := by decide) (h2 : (x == ("__classdict__" : Str)) = false := by decide) (hbs : attributeBase (.Name x px) f X.env (eval (.Name x px) X.env) = eval (.Name x px) X.env := by rfl)
    (hbase : attributeBase (.Attribute (.Name x px) f pos') "append" X.env (eval (.Attribute (.Name x px) f pos') X.env) = eval (.Attribute (.Name x px) f pos') X.env := by rfl)
    (hline : (pa.endLine == pc.line) = true := by rfl) (hst : isStar e = false := by rfl)
    (hsw : swapsWith (.Call (.Attribute (.Attribute (.Name x px) f pos') "append" pa) [e] [] pc) none pos.line X.env = pure false := by rfl) :
    XS X W (.Expr (.Call (.Attribute (.Attribute (.Name x px) f pos') "append" pa) [e] [] pc) pos) ds (.nx (ds.set i (.ob C oa (fs.set k (f, .ow ob (xs ++ [d])))))) := .mk fun G S0 S H σ E Z q => by
  refine ws_of (ps_expr (pe_bm PySem.F.plainAttrs_list PySem.F.slot_list_append PySem.F.type_list_append (fun pins s σ H x xs v us Q I rx rv h => mt_append pins s σ H x xs v us Q I rx rv h) (pe_fld (pe_var (i := i) hN hv h1 h2) hbs) (pa_cons pe_w pa_nil (se hst)) hbase (sfew (by simp [hst]) (by simp)) hline (se hst) (spl rfl)) hsw) ?_
  obtain ⟨p, dx, fv, a, vs, hσ, hp, hl, _, ha, ra, _, _⟩ := E.fldo hd (look_at (hn ▸ nd) hk)
  refine ⟨.ref p, hσ, p, C, dx, fv, _, rfl, hp, c, n, hl, ty_list ha, he G S0 S H σ E _ fun v S2 H2 g2 r => ?_⟩
  have E2 := E.grow g2
  obtain ⟨p', dx', fv', a', vs', hσ', hp', hl', hz', ha', ra', _, mt⟩ := E2.fldo hd (look_at (hn ▸ nd) hk)
  rw [hσ] at hσ'
  cases hσ'
  rw [g2.h _ _ hp] at hp'
  cases hp'
  rw [hl] at hl'
  cases hl'
  have q2 := mt (vs' ++ [v]) (xs ++ [d]) ob (da_append ra' (da_one r)) hz'
  rw [putI_at (hn ▸ nd) hk] at q2
  exact ⟨a, vs', v, rfl, rfl, ha', szlt _ (by rw [da_len ra']; exact hz), q _ S2 _ q2⟩
end
end Lay
/-! Lay15: methods; own objects made; dicts of the frame's own. -/
namespace Lay
open PySem L2
theorem passes0 {X : Cx} : Passes (L2.CX X.prog X.w) X (fun _ _ _ => False) := fun _ _ _ _ _ _ _ h => (law_cx h).elim
/-- a method of the text -/
structure Mn (K : Fg) (C : Addr) (m qual : Str) (st : Stmt) (ps : List Str) : Prop where
  ex : ∃ f fd, Meth K C m f ∧ Fun K m qual st f fd ∧ Binds K fd ps []
/-- the class x of the text, its __init__ by st -/
structure Cn (K : Fg) (mg : Str → Option Value) (x qual : Str) (C : Addr) (st : Stmt) (ps : List Str) : Prop where
  g : mg x = some (.ref C)
  cl : Cls K C
  ex : ∃ f fd, Mk K C f ∧ Fun K "__init__" qual st f fd ∧ Binds K fd ps []
/-- a method of an object that will not change -/
structure Dm (P : Program) (w : World) (K : Fg) (mg : Str → Option Value) (base : Heap) (C : Addr) (m : Str) (k : Nat) (F : Fs) : Prop where
  ex : ∃ f fd ps, Meth K C m f ∧ Binds K fd ps [] ∧ FnOk P w K mg base (L2.CX P w) k f fd ps (spF K F)
section
variable {P : Program} {w : World} {K : Fg} {mg : Str → Option Value} {base : Heap}
theorem dm_of {C : Addr} {m qual : Str} {st : Stmt} {N ps : List Str} (k : Nat) {F : Fs} (U : Mn K C m qual st ps) (S : FnScope N ps (defScope st)) (len : ∀ args r, F args r → args.length = ps.length)
    (body : ∀ (f : Addr) (cdv : Value) (A : Around) (outer : List PySem.Env) (s : Shared) (H : Hp) (E : XK) (args : List D) (r : Res), Room k (A.deeper (PyProof.Rows.envOfC qual (defScope st) s.heap.objs.size f cdv)) →
      Takes (cxOf (L2.CX P w) P w K mg base N qual (defScope st) f cdv A outer s H E) (fun cls d _ H => E cls d H) →
      PassesOwn (model P w) (A.deeper (PyProof.Rows.envOfC qual (defScope st) s.heap.objs.size f cdv)) (PyProof.Rows.envOfC qual (defScope st) s.heap.objs.size f cdv) (cxOf (L2.CX P w) P w K mg base N qual (defScope st) f cdv A outer s H E).xe → F args r →
      XF (cxOf (L2.CX P w) P w K mg base N qual (defScope st) f cdv A outer s H E) (fun cls d _ H => E cls d H) (defBody st) (ctx0 N.length args) r) : Dm P w K mg base C m (k + 1) F := by
  obtain ⟨f, fd, hm, hf, hb⟩ := U.ex
  exact ⟨f, fd, ps, hm, hb, fn_ok hf S len fun cdv A outer s H E args r hr hF => body f cdv A outer s H E args r hr (takes_of rfl rfl rfl rfl) (passes_of rfl) hF⟩
end
section
variable {X : Cx} {W : WX} {e o : Expr} {es : List Expr} {ds : List It} {pos apos : Pos} {d : D} {args : List D} {m : Str} {C : Addr} {k : Nat} {F : Fs} {fs : List (Str × D)} {pl : Sem Bool} {FN : List Str}
theorem xv_meth (T : Dm X.prog X.w X.K X.mg X.base C m k F) (c : Cls X.K C) (hr : Room k X.A) (he : XV X o ds (.ins C fs)) (ha : XA X (e :: es) ds args) (hF : F (.ins C fs :: args) (.ok d)) (hn : fs.map (·.1) = FN := by rfl) (hm : m ∉ FN := by decide +kernel)
    (hst : starEach (e :: es) X.env = (false, eval e X.env) :: starEach es X.env := by exact se rfl) (hpl : (backTo pos (starEach es X.env)).any (·.1) = false := by exact spl rfl)
    (ht : eval (.Call (.Attribute o m apos) (e :: es) [] pos) X.env = (do
      let ov ← eval o X.env
      standAt apos.atName
      let (f, first) ← holding [ov] (getMethod ov m pl)
      callWith pos f first (backTo pos (starEach (e :: es) X.env)) (backToKw pos (keywordEach [] X.env))) := by rfl) : XV X (.Call (.Attribute o m apos) (e :: es) [] pos) ds d := .mk fun G S0 S H σ E Q q => by
  obtain ⟨f, fd, ps, hm', hb, fo⟩ := T.ex
  refine we_of (pe_meth pe_w c hm' fo hr hb .nil passes0 pa_w hst hpl ht) (he G S0 S H σ E _ fun v S1 H1 g1 r1 => ?_)
  cases r1 with
  | @ins a _ dx fv _ h rf =>
    refine ⟨a, dx, fv, rfl, g1.sh _ _ h, rpF_none rf (look_no (by rw [hn]; exact hm)), ha G S0 S1 H1 σ (E.grow g1) _ fun vs S2 H2 g2 r2 => ?_⟩
    rw [List.append_nil]
    exact ⟨S2, .ins C fs :: args, .ok d, g2.sh, .cons (.ins (g2.s _ _ h) (df_same g2.s rf)) r2, hF, fun v S' H' g' r => q v S' H' ((g1.trans g2).trans g') r⟩
theorem xv_meth0 (T : Dm X.prog X.w X.K X.mg X.base C m k F) (c : Cls X.K C) (hr : Room k X.A) (he : XV X o ds (.ins C fs)) (hF : F [.ins C fs] (.ok d)) (hn : fs.map (·.1) = FN := by rfl) (hm : m ∉ FN := by decide +kernel)
    (ht : eval (.Call (.Attribute o m apos) [] [] pos) X.env = (do
      let ov ← eval o X.env
      standAt apos.atName
      let (f, first) ← holding [ov] (getMethod ov m pl)
      callWith pos f first (backTo pos (starEach [] X.env)) (backToKw pos (keywordEach [] X.env))) := by rfl) : XV X (.Call (.Attribute o m apos) [] [] pos) ds d := .mk fun G S0 S H σ E Q q => by
  obtain ⟨f, fd, ps, hm', hb, fo⟩ := T.ex
  refine we_of (pe_meth0 pe_w c hm' fo hr hb .nil passes0 ht) (he G S0 S H σ E _ fun v S1 H1 g1 r1 => ?_)
  cases r1 with
  | @ins a _ dx fv _ h rf =>
    refine ⟨a, dx, fv, rfl, g1.sh _ _ h, rpF_none rf (look_no (by rw [hn]; exact hm)), ?_⟩
    exact ⟨S1, [.ins C fs], .ok d, g1.sh, .cons (.ins h rf) .nil, hF, fun v S' H' g' r => q v S' H' (g1.trans g') r⟩
end
/-! ### methods of an object that they change -/
abbrev Ofs := List D → List (Str × FI) → List (Str × FI) → D → Prop
def lessL (as : List Addr) (H : Hp) : Hp := fun b => if b ∈ as then none else H b
theorem lessL_in {as : List Addr} {H : Hp} {b : Addr} (h : b ∈ as) : lessL as H b = none := if_pos h
theorem lessL_no {as : List Addr} {H : Hp} {b : Addr} (h : b ∉ as) : lessL as H b = H b := if_neg h
theorem lessL_same {as : List Addr} {H : Hp} : Same (lessL as H) H := fun b u e => by
  by_cases z : b ∈ as
  · rw [lessL_in z] at e; cases e
  · rw [lessL_no z] at e; exact e
def spO (K : Fg) (C : Addr) (F : Ofs) : Sp := fun vs H Q E => ∃ S a dx vs' args fs fs' d fv bs, vs = .ref a :: vs' ∧ H a = some (.ins C dx fv) ∧ FsR K S H fs fv bs ∧ (a :: bs).Nodup ∧ (∀ x ∈ a :: bs, S x = none) ∧ Same S H ∧ RpA K S vs' args ∧ F args fs fs' d ∧
  ∀ v S' H' dx' fv' bs', Fnl (lessL (a :: bs) H) S S' H' → (a :: bs').Nodup → (∀ x ∈ a :: bs', S' x = none ∧ lessL (a :: bs) H x = none) → H' a = some (.ins C dx' fv') → FsR K S' H' fs' fv' bs' → Rp K S' v d → Q v H'
theorem env_startG {K : Fg} {G S H : Hp} (k : Same S H) (kG : Same G H) {N : List Str} {vs : List V} {args : List D} (r : RpA K S vs args) : EnvA K G S S H (L2.start N vs) (ctx0 N.length args) (fun _ => []) := by
  refine ⟨k, kG, Same.refl _, fun _ _ => rfl, ?_, fun i it hi => ?_, fun _ => .nil, fun i j a h => (by cases h), fun i a h => (by cases h)⟩
  · simp [L2.start, ctx0, da_len r]
  · unfold ctx0 at hi
    by_cases h : i < args.length
    · rw [List.getElem?_append_left (by simpa using h), List.getElem?_map] at hi
      rw [List.getElem?_eq_getElem h] at hi
      cases hi
      obtain ⟨v, hv, rv⟩ := da_get r (List.getElem?_eq_getElem h)
      have hl := da_len r
      have e : (L2.start N vs)[i]? = some (some v) := by
        unfold L2.start
        rw [List.getElem?_append_left (by simpa [hl] using h), List.getElem?_map, hv]
        rfl
      rw [e]
      exact .fz rv
    · rw [List.getElem?_append_right (by simpa using h), List.getElem?_replicate] at hi
      split at hi
      · cases hi; exact .no _
      · cases hi
/-- the slots at the entry of a method of an own object -/
def ctxO (n : Nat) (C a : Addr) (fs : List (Str × FI)) (args : List D) : List It := (ctx0 n (.non :: args)).set 0 (.ob C (some a) fs)
theorem env_obj {K : Fg} {S H : Hp} {a C dx : Addr} {fs : List (Str × FI)} {fv : List (Str × V)} {bs : List Addr} (k : Same S H) (ha : H a = some (.ins C dx fv)) (rf : FsR K S H fs fv bs) (nd : (a :: bs).Nodup) (hS : ∀ x ∈ a :: bs, S x = none) {N : List Str} {vs : List V} {args : List D} (r : RpA K S vs args) :
    Env K (lessL (a :: bs) H) S S H (L2.start N (.ref a :: vs)) (ctxO N.length C a fs args) := by
  have e := env_startG (N := N) k (lessL_same (as := a :: bs)) (.cons .non r)
  have q := e.put (S' := S) (H' := H) 0 (it := .ob C (some a) fs) (v := some (.ref a)) (as := a :: bs) (Same.refl _) k lessL_same (fun _ _ => rfl) (.ob (fun b hb => by cases hb; rfl) ha rf) nd (fun j b _ hb => by cases hb) (fun b hb =>
    ⟨hS b hb, lessL_in hb, fun j _ hj => by cases hj⟩)
  exact ⟨_, q⟩
def FitsO (C a : Addr) (fs' : List (Str × FI)) (d : D) : Ou → Prop
  | .nx ds => d = .non ∧ ∃ rest, ds = .ob C (some a) fs' :: rest
  | .rs d' it => d = d' ∧ it = .ob C (some a) fs'
  | _ => False
theorem FO.nx {X : Cx} {W : WX} {body : List Stmt} {ds rest : List It} {C a : Addr} {fs' : List (Str × FI)} (h : XSs X W body ds (.nx (.ob C (some a) fs' :: rest))) : ∃ o, XSs X W body ds o ∧ FitsO C a fs' .non o := ⟨_, h, rfl, rest, rfl⟩
theorem FO.rs {X : Cx} {W : WX} {body : List Stmt} {ds : List It} {C a : Addr} {fs' : List (Str × FI)} {d : D} (h : XSs X W body ds (.rs d (.ob C (some a) fs'))) : ∃ o, XSs X W body ds o ∧ FitsO C a fs' d o := ⟨_, h, rfl, rfl⟩
/-- a method that changes its object -/
structure Do (P : Program) (w : World) (K : Fg) (mg : Str → Option Value) (base : Heap) (C : Addr) (m : Str) (k : Nat) (F : Ofs) : Prop where
  ex : ∃ f fd ps, Meth K C m f ∧ Binds K fd ps [] ∧ FnOk P w K mg base (L2.CX P w) k f fd ps (spO K C F)
/-- a class, its __init__ by F -/
structure Dc (P : Program) (w : World) (K : Fg) (mg : Str → Option Value) (base : Heap) (x : Str) (C : Addr) (k : Nat) (F : Ofs) : Prop where
  ex : ∃ f fd ps, mg x = some (.ref C) ∧ Mk K C f ∧ Binds K fd ps [] ∧ FnOk P w K mg base (L2.CX P w) k f fd ps (spO K C F)
section
variable {P : Program} {w : World} {K : Fg} {mg : Str → Option Value} {base : Heap} {C : Addr} {m qual : Str} {st : Stmt} {N ps : List Str} {F : Ofs}
theorem obj_ok {x : Str} {f : Addr} {fd : FuncData} {k : Nat} (U : Fun K x qual st f fd) (S : FnScope N ps (defScope st)) (len : ∀ args fs fs' d, F args fs fs' d → args.length + 1 = ps.length)
    (body : ∀ (cdv : Value) (A : Around) (outer : List PySem.Env) (s : Shared) (H : Hp) (E : XK) (a : Addr) (args : List D) (fs fs' : List (Str × FI)) (d : D), Room k (A.deeper (PyProof.Rows.envOfC qual (defScope st) s.heap.objs.size f cdv)) →
      Takes (cxOf (L2.CX P w) P w K mg base N qual (defScope st) f cdv A outer s H E) (fun cls d _ H => E cls d H) →
      PassesOwn (model P w) (A.deeper (PyProof.Rows.envOfC qual (defScope st) s.heap.objs.size f cdv)) (PyProof.Rows.envOfC qual (defScope st) s.heap.objs.size f cdv) (cxOf (L2.CX P w) P w K mg base N qual (defScope st) f cdv A outer s H E).xe → F args fs fs' d →
      ∃ o, XSs (cxOf (L2.CX P w) P w K mg base N qual (defScope st) f cdv A outer s H E) (fun cls d _ H => E cls d H) (defBody st) (ctxO N.length C a fs args) o ∧ FitsO C a fs' d o) : FnOk P w K mg base (L2.CX P w) (k + 1) f fd ps (spO K C F) := by
  refine U.okX S (fun vs H Q E ⟨S, a, dx, vs', args, fs, fs', d, fv, bs, e, _, _, _, _, _, ra, hf, _⟩ => by rw [e, List.length_cons, da_len ra]; exact len args fs fs' d hf) fun cdv A outer s H vs Q E hr ⟨S, a, dx, vs', args, fs, fs', d, fv, bs, e, ha, rf, nd, hS, ks, ra, hf, q⟩ => ?_
  subst e
  obtain ⟨o, ho, ht⟩ := body cdv A outer s H E a args fs fs' d hr (takes_of rfl rfl rfl rfl) (passes_of rfl) hf
  refine ⟨_, pss_w, ho (lessL (a :: bs) H) S S H _ (env_obj ks ha rf nd hS ra) _ ?_⟩
  have fin : ∀ {σ : L2.St} {S' H' : Hp} {rest : List It} {v : V}, Env K (lessL (a :: bs) H) S S' H' σ (.ob C (some a) fs' :: rest) → Rp K S' v d → Q v H' := fun {σ S' H' rest v} E rv => by
    obtain ⟨B, e⟩ := E
    obtain ⟨p, dx', fv', bs', _, hB, hp, hH, r⟩ := e.obj (i := 0) rfl
    have hpa := hp a rfl
    subst hpa
    have nd' := e.nd 0
    rw [hB] at nd'
    exact q v S' H' dx' fv' bs' (Env.fin ⟨B, e⟩) nd' (fun x hx => (e.fr 0 x (by rw [hB]; exact hx)).2) hH r rv
  cases o with
  | nx ds =>
    obtain ⟨h1, rest, h2⟩ := ht
    subst h1 h2
    exact fun σ S' H' E => fin E .non
  | rs d' it =>
    obtain ⟨h1, h2⟩ := ht
    subst h1 h2
    exact fun v σ S' H' ds E r => fin E r
  | _ => exact ht.elim
theorem do_of (k : Nat) (U : Mn K C m qual st ps) (S : FnScope N ps (defScope st)) (len : ∀ args fs fs' d, F args fs fs' d → args.length + 1 = ps.length)
    (body : ∀ (f : Addr) (cdv : Value) (A : Around) (outer : List PySem.Env) (s : Shared) (H : Hp) (E : XK) (a : Addr) (args : List D) (fs fs' : List (Str × FI)) (d : D), Room k (A.deeper (PyProof.Rows.envOfC qual (defScope st) s.heap.objs.size f cdv)) →
      Takes (cxOf (L2.CX P w) P w K mg base N qual (defScope st) f cdv A outer s H E) (fun cls d _ H => E cls d H) →
      PassesOwn (model P w) (A.deeper (PyProof.Rows.envOfC qual (defScope st) s.heap.objs.size f cdv)) (PyProof.Rows.envOfC qual (defScope st) s.heap.objs.size f cdv) (cxOf (L2.CX P w) P w K mg base N qual (defScope st) f cdv A outer s H E).xe → F args fs fs' d →
      ∃ o, XSs (cxOf (L2.CX P w) P w K mg base N qual (defScope st) f cdv A outer s H E) (fun cls d _ H => E cls d H) (defBody st) (ctxO N.length C a fs args) o ∧ FitsO C a fs' d o) : Do P w K mg base C m (k + 1) F := by
  obtain ⟨f, fd, hm, hf, hb⟩ := U.ex
  exact ⟨f, fd, ps, hm, hb, obj_ok hf S len (body f)⟩
theorem dc_of {x : Str} (k : Nat) (U : Cn K mg x qual C st ps) (S : FnScope N ps (defScope st)) (len : ∀ args fs fs' d, F args fs fs' d → args.length + 1 = ps.length)
    (body : ∀ (f : Addr) (cdv : Value) (A : Around) (outer : List PySem.Env) (s : Shared) (H : Hp) (E : XK) (a : Addr) (args : List D) (fs fs' : List (Str × FI)) (d : D), Room k (A.deeper (PyProof.Rows.envOfC qual (defScope st) s.heap.objs.size f cdv)) →
      Takes (cxOf (L2.CX P w) P w K mg base N qual (defScope st) f cdv A outer s H E) (fun cls d _ H => E cls d H) →
      PassesOwn (model P w) (A.deeper (PyProof.Rows.envOfC qual (defScope st) s.heap.objs.size f cdv)) (PyProof.Rows.envOfC qual (defScope st) s.heap.objs.size f cdv) (cxOf (L2.CX P w) P w K mg base N qual (defScope st) f cdv A outer s H E).xe → F args fs fs' d →
      ∃ o, XSs (cxOf (L2.CX P w) P w K mg base N qual (defScope st) f cdv A outer s H E) (fun cls d _ H => E cls d H) (defBody st) (ctxO N.length C a fs args) o ∧ FitsO C a fs' d o) : Dc P w K mg base x C (k + 1) F := by
  obtain ⟨f, fd, hm, hf, hb⟩ := U.ex
  exact ⟨f, fd, ps, U.g, hm, hb, obj_ok hf S len (body f)⟩
end
/-! ### made objects -/
section
variable {X : Cx} {W : WX} {e a b c : Expr} {es : List Expr} {ds ds' ds1 ds2 : List It} {pos p apos px : Pos} {d : D} {args xs : List D} {x y m : Str} {C : Addr} {k : Nat} {F : Ofs} {fs fs' : List (Str × FI)} {pl : Sem Bool} {FN : List Str}
/-- gives a new object -/
structure XO (X : Cx) (e : Expr) (ds : List It) (C : Addr) (fs : List (Str × FI)) : Prop where
  mk ::
  run : ∀ G S0 S H σ, Env X.K G S0 S H σ ds → ∀ Q : VK, (∀ p S' H' dx fv bs, Gr S H S' H' → (p :: bs).Nodup → (∀ x ∈ p :: bs, H x = none ∧ S' x = none) → H' p = some (.ins C dx fv) → FsR X.K S' H' fs fv bs → Q (.ref p) H') → wE X e σ H Q
instance {X : Cx} {e : Expr} {ds : List It} {C : Addr} {fs : List (Str × FI)} : CoeFun (XO X e ds C fs) (fun _ => ∀ G S0 S H σ, Env X.K G S0 S H σ ds → ∀ Q : VK, (∀ p S' H' dx fv bs, Gr S H S' H' → (p :: bs).Nodup → (∀ x ∈ p :: bs, H x = none ∧ S' x = none) → H' p = some (.ins C dx fv) → FsR X.K S' H' fs fv bs → Q (.ref p) H') → wE X e σ H Q) := ⟨XO.run⟩
theorem xo_make (T : Dc X.prog X.w X.K X.mg X.base x C k F) (hr : Room (k + 1) X.A) (ha : XA X (e :: es) ds args) (hF : F args [] fs' .non) (hg : Gl X x := by rfl) (hdb : (x == ("__debug__" : Str)) = false := by decide)
    (he : starEach (e :: es) X.env = (false, eval e X.env) :: starEach es X.env := by exact se rfl) (hpl : (backTo pos (starEach es X.env)).any (·.1) = false := by exact spl rfl) : XO X (.Call (.Name x p) (e :: es) [] pos) ds C fs' := .mk fun G S0 S H σ E Q q => by
  obtain ⟨f, fd, ps, hm, M, hb, Fo⟩ := T.ex
  refine we_of (pe_make M Fo hr hg hm hb .nil passes0 pa_w hdb he hpl) (ha G S0 S H σ E _ fun vs S1 H1 g r => fun a dx h1 h2 hne => ?_)
  have k1 : Same H1 (upd H1 dx (.own a)) := same_new h2
  have h3 : upd H1 dx (.own a) a = none := by rw [upd_ne (fun z => hne z.symm)]; exact h1
  have k2 : Same (upd H1 dx (.own a)) (upd (upd H1 dx (.own a)) a (.ins C dx [])) := same_new h3
  have hS1 : S1 a = none := g.sh.free h1
  refine ⟨S1, a, dx, vs, args, [], fs', .non, [], [], by rw [List.append_nil], upd_same, .nil, by simp, (fun x hx => by rcases List.mem_singleton.mp hx with rfl; exact hS1), (g.sh.trans k1).trans k2, r, hF, fun v S' H' dx' fv bs fn nd hfr hH rf rv => ?_⟩
  cases rv
  refine ⟨rfl, q a S' H' dx' fv bs ⟨g.s.trans fn.s0, fun b u hb => ?_, fn.sh, fun b hb => ?_⟩ nd (fun x hx => ⟨?_, (hfr x hx).1⟩) hH rf⟩
  · have hb1 := g.h _ _ hb
    have ne : b ≠ a := fun z => by rw [z, h1] at hb1; cases hb1
    exact fn.gh _ _ (by rw [lessL_no (by simpa using ne)]; exact k2 _ _ (k1 _ _ hb1))
  · have hb1 : H1 b ≠ none := Same.nn g.h hb
    have ne : b ≠ a := fun z => hb1 (by rw [z]; exact h1)
    rw [fn.gs b (by rw [lessL_no (by simpa using ne)]; exact Same.nn k2 (Same.nn k1 hb1)), g.old b hb]
  · by_cases z : x = a
    · rw [z]; exact g.h.free h1
    · have := (hfr x hx).2
      rw [lessL_no (by simpa using z)] at this
      exact g.h.free (k1.free (k2.free this))
/-- a new object of frozen fields, that will not change -/
theorem XO.v {gs : List (Str × D)} (h : XO X e ds C (allF gs)) : XV X e ds (.ins C gs) := .mk fun G S0 S H σ E Q q =>
  h G S0 S H σ E Q fun p S' H' dx fv bs g nd hf hH rf => by
    obtain ⟨h1, h2⟩ := hf p List.mem_cons_self
    exact q _ _ H' (g.freeze h1 hH h2) (.ins upd_same (df_same (same_new h2) (fsr_all rf)))
theorem XO.is (h : XO X e ds C fs) (q : fs = fs') : XO X e ds C fs' := q ▸ h
/-- y = a new object -/
theorem xs_ownO (i : Nat) {p : Pos} (hN : X.N.Nodup) (he : XO X e ds C fs) (hi : X.N[i]? = some y := by rfl) (hx : Loc X.env.scope y := by first | exact Or.inl rfl | exact Or.inr rfl) (hs : swapsWith e (some (.Name y p)) pos.line X.env = pure false := by rfl)
    (hf : X.fn y = true ∨ X.env.scope.names.lookup y = some .local := by first | exact .inl rfl | exact .inr rfl) : XS X W (.Assign [.Name y p] e pos) ds (.nx (ds.set i (.ob C none fs))) := .mk fun G S0 S H σ E Z q =>
  ws_of (ps_set hN hi hx pe_w hs hf) (he G S0 S H σ E _ fun p S' H' dx fv bs g nd hf hH rf => q _ S' H' (by
    obtain ⟨A, e0⟩ := E
    have e := e0.grow g
    exact ⟨_, e.put i (it := .ob C none fs) (as := p :: bs) (Same.refl _) e.sh e.gh e.gs (.ob (fun _ z => by cases z) hH rf) nd (fun j a _ ha => ⟨rfl, (e.fr j a ha).2.1⟩) fun a ha =>
      ⟨(hf a ha).2, e0.gh.free (hf a ha).1, fun j _ hj => e0.own hj (hf a ha).1⟩⟩))
/-! ### expressions that change the frame's objects -/
structure XM (X : Cx) (e : Expr) (ds ds' : List It) (d : D) : Prop where
  mk ::
  run : ∀ G S0 S H σ, Env X.K G S0 S H σ ds → ∀ Q : VK, (∀ v S' H', Env X.K G S0 S' H' σ ds' → Rp X.K S' v d → Q v H') → wE X e σ H Q
instance {X : Cx} {e : Expr} {ds ds' : List It} {d : D} : CoeFun (XM X e ds ds' d) (fun _ => ∀ G S0 S H σ, Env X.K G S0 S H σ ds → ∀ Q : VK, (∀ v S' H', Env X.K G S0 S' H' σ ds' → Rp X.K S' v d → Q v H') → wE X e σ H Q) := ⟨XM.run⟩
structure XMA (X : Cx) (es : List Expr) (ds ds' : List It) (ys : List D) : Prop where
  mk ::
  run : ∀ G S0 S H σ, Env X.K G S0 S H σ ds → ∀ Q : List V → Hp → Prop, (∀ vs S' H', Env X.K G S0 S' H' σ ds' → RpA X.K S' vs ys → Q vs H') → wA X es σ H Q
instance {X : Cx} {es : List Expr} {ds ds' : List It} {ys : List D} : CoeFun (XMA X es ds ds' ys) (fun _ => ∀ G S0 S H σ, Env X.K G S0 S H σ ds → ∀ Q : List V → Hp → Prop, (∀ vs S' H', Env X.K G S0 S' H' σ ds' → RpA X.K S' vs ys → Q vs H') → wA X es σ H Q) := ⟨XMA.run⟩
theorem XV.xm (h : XV X e ds d) : XM X e ds ds d := .mk fun G S0 S H σ E Q q => h G S0 S H σ E Q fun v S' H' g r => q v S' H' (E.grow g) r
theorem XA.xm (h : XA X es ds xs) : XMA X es ds ds xs := .mk fun G S0 S H σ E Q q => h G S0 S H σ E Q fun v S' H' g r => q v S' H' (E.grow g) r
theorem xma_cons (ha : XM X e ds ds1 d) (hr : XMA X es ds1 ds2 xs) (hs : starEach (e :: es) X.env = (false, eval e X.env) :: starEach es X.env := by exact se rfl) : XMA X (e :: es) ds ds2 (d :: xs) := .mk fun G S0 S H σ E Q q =>
  wa_of (pa_cons pe_w pa_w hs) (ha G S0 S H σ E _ fun v S1 H1 E1 r1 => hr G S1 S1 H1 σ E1.rebase _ fun vs S2 H2 E2 r2 => q _ S2 H2 (E2.base E1.s0 E1.gs) (.cons (dp_same E2.s0 r1) r2))
theorem XM.is {d' : D} (h : XM X e ds ds' d) (q : d = d') : XM X e ds ds' d' := q ▸ h
theorem xs_exprM (he : XM X e ds ds' d) (hs : swapsWith e none pos.line X.env = pure false := by rfl) : XS X W (.Expr e pos) ds (.nx ds') := .mk fun G S0 S H σ E Z q =>
  ws_of (ps_expr pe_w hs) (he G S0 S H σ E _ fun v S' H' E' r => q σ S' H' E')
theorem xs_setM (i : Nat) {p : Pos} (hN : X.N.Nodup) (he : XM X e ds ds' d) (hi : X.N[i]? = some y := by rfl) (hx : Loc X.env.scope y := by first | exact Or.inl rfl | exact Or.inr rfl) (hs : swapsWith e (some (.Name y p)) pos.line X.env = pure false := by rfl)
    (hf : X.fn y = true ∨ X.env.scope.names.lookup y = some .local := by first | exact .inl rfl | exact .inr rfl) : XS X W (.Assign [.Name y p] e pos) ds (.nx (ds'.set i (.fz d))) := .mk fun G S0 S H σ E Z q =>
  ws_of (ps_set hN hi hx pe_w hs hf) (he G S0 S H σ E _ fun v S' H' E' r => q _ S' H' (E'.putD i r))
theorem xs_retM (he : XM X e ds ds' d) : XS X W (.Return (some e) pos) ds (.rt d) := .mk fun G S0 S H σ E Z q =>
  ws_of (ps_ret pe_w) (he G S0 S H σ E _ fun v S' H' E' r => q v S' H' E'.fin r)
/-- behind a method of the object of slot i -/
theorem obj_after {G S0 S H : Hp} {σ : St} {A : Nat → List Addr} {i : Nat} {q : Addr} {bs : List Addr} {oa : Option Addr} (e : EnvA X.K G S0 S H σ ds A) (hA : A i = q :: bs) (hσ : σ[i]? = some (some (.ref q))) (hz : ∀ a, oa = some a → q = a)
    {S' H' : Hp} {dx' : Addr} {fv' : List (Str × V)} {bs' : List Addr} (fn : Fnl (lessL (q :: bs) H) S S' H') (nd : (q :: bs').Nodup) (hf : ∀ x ∈ q :: bs', S' x = none ∧ lessL (q :: bs) H x = none) (hH : H' q = some (.ins C dx' fv')) (rf : FsR X.K S' H' fs' fv' bs') :
    Env X.K G S0 S' H' σ (ds.set i (.ob C oa fs')) := by
  have gno : ∀ b, G b ≠ none → b ∉ q :: bs := fun b hb z => hb (e.fr i b (by rw [hA]; exact z)).2.2
  have w := e.put (S' := S') (H' := H') i (it := .ob C oa fs') (v := some (.ref q)) (as := q :: bs') fn.s0 fn.sh
    (fun b u w => fn.gh _ _ (by rw [lessL_no (gno b (by rw [w]; exact fun z => by cases z))]; exact e.gh _ _ w))
    (fun b hb => (fn.gs b (by rw [lessL_no (gno b hb)]; exact Same.nn e.gh hb)).trans (e.gs b hb)) (.ob hz hH rf) nd
    (fun j b hj hb => by
      have hno : b ∉ q :: bs := fun z => hj (e.dj j i b hb (by rw [hA]; exact z))
      have hn := e.own hb
      refine ⟨?_, ?_⟩
      · obtain ⟨u, hu⟩ := some_nn hn
        rw [hu]
        exact fn.gh _ _ (by rw [lessL_no hno]; exact hu)
      · rw [fn.gs b (by rw [lessL_no hno]; exact hn)]
        exact (e.fr j b hb).2.1)
    fun x hx => by
      obtain ⟨h1, h2⟩ := hf x hx
      by_cases z : x ∈ q :: bs
      · have hm : x ∈ A i := by rw [hA]; exact z
        exact ⟨h1, (e.fr i x hm).2.2, fun j hj hx' => hj (e.dj j i x hx' hm)⟩
      · rw [lessL_no z] at h2
        exact ⟨h1, e.gh.free h2, fun j _ hj => e.own hj h2⟩
  rw [set_get hσ] at w
  exact ⟨_, w⟩
/-- x.m(e, ..) -/
theorem xm_meth (i : Nat) {oa : Option Addr} {fs0 : List (Str × FI)} (T : Do X.prog X.w X.K X.mg X.base C m k F) (c : Cls X.K C) (hr : Room k X.A) (ha : XMA X (e :: es) ds ds1 args) (hF : F args fs fs' d) (hd : ds[i]? = some (.ob C oa fs0) := by rfl) (hd1 : ds1[i]? = some (.ob C oa fs) := by rfl)
    (hn : fs0.map (·.1) = FN := by rfl) (hm : m ∉ FN := by decide +kernel) (hN : X.N[i]? = some x := by rfl) (hv : Vis X.env.scope x := by first | exact Or.inl rfl | exact Or.inr (Or.inl rfl) | exact Or.inr (Or.inr rfl))
    (h1 : (x == ("__debug__" : Str)) = false := by decide) (h2 : (x == ("__classdict__" : Str)) = false := by decide)
    (hst : starEach (e :: es) X.env = (false, eval e X.env) :: starEach es X.env := by exact se rfl) (hpl : (backTo pos (starEach es X.env)).any (·.1) = false := by exact spl rfl)
    (ht : eval (.Call (.Attribute (.Name x px) m apos) (e :: es) [] pos) X.env = (do
      let ov ← eval (.Name x px) X.env
      standAt apos.atName
      let (f, first) ← holding [ov] (getMethod ov m pl)
      callWith pos f first (backTo pos (starEach (e :: es) X.env)) (backToKw pos (keywordEach [] X.env))) := by rfl) : XM X (.Call (.Attribute (.Name x px) m apos) (e :: es) [] pos) ds (ds1.set i (.ob C oa fs')) d := .mk fun G S0 S H σ E Q q => by
  obtain ⟨f, fd, ps, hm', hb, fo⟩ := T.ex
  refine we_of (pe_meth (pe_var (i := i) hN hv h1 h2) c hm' fo hr hb .nil passes0 pa_w hst hpl ht) ?_
  obtain ⟨A0, e0⟩ := id E
  obtain ⟨p, dx, fv, bs, hσ, _, _, hp, rf⟩ := e0.obj hd
  refine ⟨.ref p, hσ, p, dx, fv, rfl, hp, fsr_none rf (look_no (by rw [hn]; exact hm)), ha G S0 S H σ E _ fun vs S1 H1 E1 r1 => ?_⟩
  obtain ⟨A, e⟩ := E1
  obtain ⟨p', dx', fv', bs', hσ', hA, hz, hp', rf'⟩ := e.obj hd1
  rw [hσ] at hσ'
  cases hσ'
  have nd := e.nd i
  rw [hA] at nd
  rw [List.append_nil]
  exact ⟨S1, p, dx', vs, args, fs, fs', d, fv', bs', rfl, hp', rf', nd, fun x hx => (e.fr i x (by rw [hA]; exact hx)).2.1, e.sh, r1, hF, fun v S' H' dx2 fv2 bs2 fn nd2 hf2 hH rf2 rv => q v S' H' (obj_after e hA hσ hz fn nd2 hf2 hH rf2) rv⟩
/-- x.m() -/
theorem xm_meth0 (i : Nat) {oa : Option Addr} (T : Do X.prog X.w X.K X.mg X.base C m k F) (c : Cls X.K C) (hr : Room k X.A) (hF : F [] fs fs' d) (hd : ds[i]? = some (.ob C oa fs) := by rfl)
    (hn : fs.map (·.1) = FN := by rfl) (hm : m ∉ FN := by decide +kernel) (hN : X.N[i]? = some x := by rfl) (hv : Vis X.env.scope x := by first | exact Or.inl rfl | exact Or.inr (Or.inl rfl) | exact Or.inr (Or.inr rfl))
    (h1 : (x == ("__debug__" : Str)) = false := by decide) (h2 : (x == ("__classdict__" : Str)) = false := by decide)
    (ht : eval (.Call (.Attribute (.Name x px) m apos) [] [] pos) X.env = (do
      let ov ← eval (.Name x px) X.env
      standAt apos.atName
      let (f, first) ← holding [ov] (getMethod ov m pl)
      callWith pos f first (backTo pos (starEach [] X.env)) (backToKw pos (keywordEach [] X.env))) := by rfl) : XM X (.Call (.Attribute (.Name x px) m apos) [] [] pos) ds (ds.set i (.ob C oa fs')) d := .mk fun G S0 S H σ E Q q => by
  obtain ⟨f, fd, ps, hm', hb, fo⟩ := T.ex
  refine we_of (pe_meth0 (pe_var (i := i) hN hv h1 h2) c hm' fo hr hb .nil passes0 ht) ?_
  obtain ⟨A, e⟩ := id E
  obtain ⟨p, dx, fv, bs, hσ, hA, hz, hp, rf⟩ := e.obj hd
  have nd := e.nd i
  rw [hA] at nd
  refine ⟨.ref p, hσ, p, dx, fv, rfl, hp, fsr_none rf (look_no (by rw [hn]; exact hm)), ?_⟩
  exact ⟨S, p, dx, [], [], fs, fs', d, fv, bs, rfl, hp, rf, nd, fun x hx => (e.fr i x (by rw [hA]; exact hx)).2.1, e.sh, .nil, hF, fun v S' H' dx2 fv2 bs2 fn nd2 hf2 hH rf2 rv => q v S' H' (obj_after e hA hσ hz fn nd2 hf2 hH rf2) rv⟩
end
/-! ### dicts of the frame's own, keys whole numbers -/
section
variable {K : Fg} {S : Hp}
theorem dkr_val {n : Int} : ∀ {ds : List (Int × D)} {kvs : List (Key × V)}, DkR K S ds kvs → (∀ d, ds.lookup n = some d → ∃ v, valV kvs (.inl n) = some v ∧ Rp K S v d) ∧ (ds.lookup n = none → valV kvs (.inl n) = none)
  | _, _, .nil => ⟨(fun d h => by cases h), (fun _ => rfl)⟩
  | (m, x) :: ds, _, .cons (v := v) r t => by
    obtain ⟨h1, h2⟩ := dkr_val (n := n) t
    by_cases e : n = m
    · subst e
      refine ⟨fun d h => ?_, fun h => ?_⟩
      · simp only [List.lookup, beq_self_eq_true] at h
        cases h
        exact ⟨v, valV_pos rfl, r⟩
      · simp only [List.lookup, beq_self_eq_true] at h
        cases h
    · have e1 : (n == m) = false := by simp [e]
      have e2 : ¬ ((Sum.inl m, v) : Key × V).1 = .inl n := fun z => e (Sum.inl.inj z).symm
      refine ⟨fun d h => ?_, fun h => ?_⟩
      · simp only [List.lookup, e1] at h
        rw [valV_neg e2]
        exact h1 d h
      · simp only [List.lookup, e1] at h
        rw [valV_neg e2]
        exact h2 h
theorem dkr_snoc {n : Int} {d : D} {v : V} (r : Rp K S v d) : ∀ {ds : List (Int × D)} {kvs : List (Key × V)}, DkR K S ds kvs → DkR K S (ds ++ [(n, d)]) (kvs ++ [(.inl n, v)])
  | _, _, .nil => .cons r .nil
  | _, _, .cons r1 t => .cons r1 (dkr_snoc r t)
theorem dkr_put {n : Int} {d : D} {v : V} {ds : List (Int × D)} {kvs : List (Key × V)} (h : DkR K S ds kvs) (r : Rp K S v d) (hn : ds.lookup n = none) : DkR K S (ds ++ [(n, d)]) (putK kvs (.inl n) v) := by
  unfold putK
  rw [valV_any, (dkr_val h).2 hn]
  rw [if_neg (by simp)]
  exact dkr_snoc r h
theorem dkr_len : ∀ {ds : List (Int × D)} {kvs : List (Key × V)}, DkR K S ds kvs → kvs.length = ds.length
  | _, _, .nil => rfl
  | _, _, .cons _ t => by rw [List.length_cons, List.length_cons, dkr_len t]
end
section
variable {X : Cx} {W : WX} {e a b c : Expr} {ds : List It} {pos px pos' : Pos} {d : D} {x y : Str} {kvs : List (Int × D)} {n : Int}
/-- y = {a: b} -/
theorem xs_dict1 (i : Nat) {p pd : Pos} (hN : X.N.Nodup) (ha : XV X a ds (.int n)) (hb : XV X b ds d) (hi : X.N[i]? = some y := by rfl) (hx : Loc X.env.scope y := by first | exact Or.inl rfl | exact Or.inr rfl) (hs : swapsWith (.Dict [some a] [b] pd) (some (.Name y p)) pos.line X.env = pure false := by rfl)
    (hf : X.fn y = true ∨ X.env.scope.names.lookup y = some .local := by first | exact .inl rfl | exact .inr rfl) : XS X W (.Assign [.Name y p] (.Dict [some a] [b] pd) pos) ds (.nx (ds.set i (.dk [(n, d)]))) := .mk fun G S0 S H σ E Z q =>
  ws_of (ps_set hN hi hx (pe_disp (pps_cons pe_w pe_w pps_nil) rfl rfl (by simp) (by simp)) hs hf) fun u hu => by
    have g0 : Gr S H S (upd H u (.dK [])) := Gr.newH E.sh hu
    refine ha G S0 S _ σ (E.grow g0) _ fun v S1 H1 g1 r1 => hb G S0 S1 H1 σ ((E.grow g0).grow g1) _ fun z S2 H2 g2 r2 => ?_
    cases r1
    have g := (g0.trans g1).trans g2
    have h2 : H2 u = some (.dK []) := g2.h _ _ (g1.h _ _ upd_same)
    have su : S2 u = none := by
      rw [g2.old u (by rw [g1.h _ _ upd_same]; exact fun z => by cases z), g1.old u (by rw [upd_same]; exact fun z => by cases z)]
      exact E.sh.free hu
    refine ⟨h2, [(.inl n, z)], rfl, by simp, q _ S2 _ ?_⟩
    have g3 : Gr S H S2 (upd H2 u (.dK (mergeK [] [(.inl n, z)]))) := by
      refine ⟨g.s, fun b w hb => ?_, fun b w hb => ?_, g.old⟩
      · rw [upd_ne (fun z => by rw [z, hu] at hb; cases hb)]; exact g.h _ _ hb
      · rw [upd_ne (fun z => by rw [z, su] at hb; cases hb)]; exact g.sh _ _ hb
    exact E.put1 g3 i hu su (.dk upd_same (.cons r2 .nil))
/-- e in x, e not in x -/
theorem dk_has (i : Nat) (hu : X.A.units + 64 < cLine) (ha : XV X a ds (.int n)) {G S0 S H : Hp} {σ : St} (E : Env X.K G S0 S H σ ds) (hd : ds[i]? = some (.dk kvs)) {Q : VK} (q : ∀ S' H', Gr S H S' H' → Q (.bl (!(kvs.lookup n).isSome)) H') (hN : X.N[i]? = some x) (hv : Vis X.env.scope x) (h1 : (x == ("__debug__" : Str)) = false) (h2 : (x == ("__classdict__" : Str)) = false) : tDNotIn (wE X a) (tVar i) σ H Q :=
  ha G S0 S H σ E _ fun v S1 H1 g1 r1 => by
    cases r1
    obtain ⟨p, vs, hσ, hp, _, _, dk⟩ := (E.grow g1).dk hd
    refine ⟨.ref p, hσ, p, _, rfl, DGet.k (k := .inl n) hp, ?_⟩
    have e : (valV vs (.inl n)).isSome = (kvs.lookup n).isSome := by
      cases h : kvs.lookup n with
      | none => rw [(dkr_val dk).2 h]; rfl
      | some d => obtain ⟨v, hv, _⟩ := (dkr_val dk).1 d h; rw [hv]; rfl
    rw [e]
    exact q S1 H1 g1
theorem xt_dnin (i : Nat) (hu : X.A.units + 64 < cLine) (ha : XV X a ds (.int n)) (hd : ds[i]? = some (.dk kvs) := by rfl) (hN : X.N[i]? = some x := by rfl) (hv : Vis X.env.scope x := by first | exact Or.inl rfl | exact Or.inr (Or.inl rfl) | exact Or.inr (Or.inr rfl)) (h1 : (x == ("__debug__" : Str)) = false := by decide) (h2 : (x == ("__classdict__" : Str)) = false := by decide)
    (hm : behindInMarks .NotIn (.Name x px) = false := by rfl) : XT X (.Compare a [.NotIn] [.Name x px] pos) ds (!(kvs.lookup n).isSome) := .mk fun G S0 S H σ E Q q =>
  wt_of (pt_cmp (pc_dnotin (by omega) pe_w (pe_var (i := i) hN hv h1 h2)) hm) (dk_has i hu ha E hd (fun S' H' g => ⟨_, rfl, q S' H' g⟩) hN hv h1 h2)
theorem xv_dnin (i : Nat) (hu : X.A.units + 64 < cLine) (ha : XV X a ds (.int n)) (hd : ds[i]? = some (.dk kvs) := by rfl) (hN : X.N[i]? = some x := by rfl) (hv : Vis X.env.scope x := by first | exact Or.inl rfl | exact Or.inr (Or.inl rfl) | exact Or.inr (Or.inr rfl)) (h1 : (x == ("__debug__" : Str)) = false := by decide) (h2 : (x == ("__classdict__" : Str)) = false := by decide)
    (hm : behindInMarks .NotIn (.Name x px) = false := by rfl) : XV X (.Compare a [.NotIn] [.Name x px] pos) ds (.bl (!(kvs.lookup n).isSome)) := .mk fun G S0 S H σ E Q q =>
  we_of (pe_cmp (pc_dnotin (by omega) pe_w (pe_var (i := i) hN hv h1 h2)) hm) (dk_has i hu ha E hd (fun S' H' g => q _ S' H' g (.bl _)) hN hv h1 h2)
/-- x[e] -/
theorem xv_dget (i : Nat) (hu : X.A.units + 64 < cLine) (ha : XV X a ds (.int n)) (hk : kvs.lookup n = some d) (hd : ds[i]? = some (.dk kvs) := by rfl) (hN : X.N[i]? = some x := by rfl) (hv : Vis X.env.scope x := by first | exact Or.inl rfl | exact Or.inr (Or.inl rfl) | exact Or.inr (Or.inr rfl)) (h1 : (x == ("__debug__" : Str)) = false := by decide) (h2 : (x == ("__classdict__" : Str)) = false := by decide)
    (hs : NoSl a := by exact fun _ _ => rfl) : XV X (.Subscript (.Name x px) a pos) ds d := .mk fun G S0 S H σ E Q q => by
  refine we_of (pe_dget (by omega) (pe_var (i := i) hN hv h1 h2) pe_w hs) ?_
  obtain ⟨p, vs, hσ, hp, _, _, _⟩ := E.dk hd
  refine ⟨.ref p, hσ, ha G S0 S H σ E _ fun v S1 H1 g1 r1 => ?_⟩
  cases r1
  obtain ⟨p', vs', hσ', hp', _, _, dk⟩ := (E.grow g1).dk hd
  rw [hσ] at hσ'
  cases hσ'
  obtain ⟨v, hv', rv⟩ := (dkr_val dk).1 d hk
  exact ⟨p, v, rfl, by rw [← hv']; exact DGet.k (k := .inl n) hp', q v S1 H1 g1 rv⟩
/-- x[a] = e, a new key -/
theorem xs_dput (i : Nat) (hu : X.A.units + 64 < cLine) (he : XV X e ds d) (ha : XV X a ds (.int n)) (hk : kvs.lookup n = none) (hz : kvs.length < 100000) (hd : ds[i]? = some (.dk kvs) := by rfl) (hN : X.N[i]? = some x := by rfl) (hv : Vis X.env.scope x := by first | exact Or.inl rfl | exact Or.inr (Or.inl rfl) | exact Or.inr (Or.inr rfl)) (h1 : (x == ("__debug__" : Str)) = false := by decide) (h2 : (x == ("__classdict__" : Str)) = false := by decide)
    (hs : swapsWith e (some (.Subscript (.Name x px) a pos')) pos.line X.env = pure false := by rfl) : XS X W (.Assign [.Subscript (.Name x px) a pos'] e pos) ds (.nx (ds.set i (.dk (kvs ++ [(n, d)])))) := .mk fun G S0 S H σ E Z q =>
  ws_of (ps_dput (by omega) (pe_var (i := i) hN hv h1 h2) pe_w pe_w hs) (he G S0 S H σ E _ fun v S1 H1 g1 r1 => by
    obtain ⟨p, vs, hσ, hp, _, _, _⟩ := (E.grow g1).dk hd
    refine ⟨.ref p, hσ, ha G S0 S1 H1 σ (E.grow g1) _ fun w S2 H2 g2 r2 => ?_⟩
    cases r2
    have E2 := (E.grow g1).grow g2
    obtain ⟨p', vs', hσ', hp', _, _, dk⟩ := E2.dk hd
    rw [hσ] at hσ'
    cases hσ'
    exact ⟨p, _, rfl, DPut.k (k := .inl n) hp' (szlt _ (by rw [dkr_len dk]; exact hz)), q _ S2 _ (E2.mutK hd hσ (dkr_put dk (dp_same g2.s r1) hk))⟩)
end
/-! ### what the head tells of a class -/
section
variable {K : Fg} {h : Heap} {mg : Str → Option Value} {C : Addr}
theorem na_mk {f : Str} (a : PySem.W.findIn K (.ref C) f = some none) : NoAttr K C f := a
theorem mn_mk {m qual : Str} {st : Stmt} {ps : List Str} {f : Addr} {oc : Value} {od an : Option Addr} {osl : Array (Option Value)} {kV doc pm cdv ct : Value}
    (a : PySem.W.findIn K (.ref C) m = some (some (.ref f))) (i : PySem.W.isFn K (.ref f) = true) (l : K.lookup f = some ⟨oc, od, .func (PySem.W.fnOf m qual (defArgs st) (defBody st) (defScope st) .none kV doc pm an cdv ct), osl⟩) (c : PySem.W.codeIn K cdv qual = true) (k : PySem.W.keepIn K (.ref f) = true)
    (b : ∀ (kV doc pm : Value) (an : Option Addr) (cdv ct : Value) (us : List Value), us.length = ps.length → bindArgs (PySem.W.fnOf m qual (defArgs st) (defBody st) (defScope st) .none kV doc pm an cdv ct) ⟨us, []⟩ = pure (ps.zip us)) : Mn K C m qual st ps :=
  ⟨f, _, ⟨a, i, k⟩, fun_mk l c k, (fun_mk l c k).binds b⟩
theorem cn_mk {x qual : Str} {st : Stmt} {ps : List Str} {f : Addr} {oc : Value} {od an : Option Addr} {osl : Array (Option Value)} {kV doc pm cdv ct : Value} (X : K.In h) (G : h.Ns mainGlobals mg)
    (aC : PySem.W.nsIn K mainGlobals x = some (some (.ref C))) (a : PySem.W.findIn K (.ref C) "__init__" = some (some (.ref f))) (i : PySem.W.isFn K (.ref f) = true) (l : K.lookup f = some ⟨oc, od, .func (PySem.W.fnOf "__init__" qual (defArgs st) (defBody st) (defScope st) .none kV doc pm an cdv ct), osl⟩) (c : PySem.W.codeIn K cdv qual = true) (k : PySem.W.keepIn K (.ref f) = true)
    (b : ∀ (kV doc pm : Value) (an : Option Addr) (cdv ct : Value) (us : List Value), us.length = ps.length → bindArgs (PySem.W.fnOf "__init__" qual (defArgs st) (defBody st) (defScope st) .none kV doc pm an cdv ct) ⟨us, []⟩ = pure (ps.zip us))
    (pg : PySem.W.plainGet K C Str.empty = true) (hd : PySem.W.hasDictIn K C = true) (po : PySem.W.plainOver K C = true) (sa : PySem.W.findIn K (.ref C) "__setattr__" = some (some (.builtin "object.__setattr__"))) (mk : PySem.W.makesIn K C = true) (kc : PySem.W.keepIn K (.ref C) = true) : Cn K mg x qual C st ps :=
  ⟨PySem.W.mg_of X G aC, ⟨pg, hd, po, sa⟩, f, _, ⟨mk, a, i, kc⟩, fun_mk l c k, (fun_mk l c k).binds b⟩
end
end Lay
/-! Lay16: slices, least and greatest of a list, wide numbers, in of any data. -/
namespace Lay
open PySem L2
/-- the items of xs[lo:hi] -/
def cutD {α : Type} (xs : List α) (lo hi : Option Int) : List α := (xs.drop (HT.sIx xs.length 0 lo)).take (HT.sIx xs.length xs.length hi - HT.sIx xs.length 0 lo)
theorem cutD_from {α : Type} (xs : List α) {i : Int} (h : 0 ≤ i) : cutD xs (some i) none = xs.drop i.toNat := by
  unfold cutD
  rw [HT.sIx_none]
  have e : HT.sIx xs.length 0 (some i) = min i.toNat xs.length := by
    exact if_neg (by omega)
  rw [e]
  by_cases q : i.toNat ≤ xs.length
  · rw [Nat.min_eq_left q, List.take_of_length_le (by rw [List.length_drop]; omega)]
  · rw [Nat.min_eq_right (by omega), List.drop_length, List.drop_of_length_le (by omega)]; simp
theorem cutD_to {α : Type} (xs : List α) {i : Int} (h : 0 ≤ i) : cutD xs none (some i) = xs.take i.toNat := by
  unfold cutD
  have e : HT.sIx xs.length xs.length (some i) = min i.toNat xs.length := by
    exact if_neg (by omega)
  rw [HT.sIx_none, e, List.drop_zero, Nat.sub_zero]
  by_cases q : i.toNat ≤ xs.length
  · rw [Nat.min_eq_left q]
  · rw [Nat.min_eq_right (by omega), List.take_length, List.take_of_length_le (by omega)]
theorem cutD_init {α : Type} (xs : List α) : cutD xs none (some (-1)) = xs.dropLast := by
  unfold cutD
  have e : HT.sIx xs.length xs.length (some (-1)) = xs.length - 1 := by
    show (if (-1 : Int) < 0 then ((-1 : Int) + (xs.length : Int)).toNat else min (-1 : Int).toNat xs.length) = _
    rw [if_pos (by decide)]; omega
  rw [HT.sIx_none, e, List.drop_zero, Nat.sub_zero, List.dropLast_eq_take]
theorem cutD_last {α : Type} (xs : List α) : cutD xs (some (-1)) none = xs.drop (xs.length - 1) := by
  unfold cutD
  have e : HT.sIx xs.length 0 (some (-1)) = xs.length - 1 := by
    show (if (-1 : Int) < 0 then ((-1 : Int) + (xs.length : Int)).toNat else min (-1 : Int).toNat xs.length) = _
    rw [if_pos (by decide)]; omega
  rw [HT.sIx_none, e, List.take_of_length_le (by rw [List.length_drop]; omega)]
theorem cutD_map {α β : Type} (f : α → β) (xs : List α) (lo hi : Option Int) : cutD (xs.map f) lo hi = (cutD xs lo hi).map f := by
  unfold cutD
  rw [List.length_map, List.map_take, List.map_drop]
theorem da_cut {K : Fg} {S : Hp} {vs : List V} {xs : List D} (lo hi : Option Int) (h : RpA K S vs xs) : RpA K S (cutV vs lo hi) (cutD xs lo hi) := by
  unfold cutV cutD
  rw [da_len h]
  exact da_take _ (da_drop _ h)
section
variable {X : Cx} {e a b c : Expr} {ds : List It} {pos p2 : Pos} {A B d : D} {i j : Int} {xs ys : List D}
def wO (X : Cx) (o : Option Expr) : TO := fun σ H Q => ∀ pins s, Inv X pins σ H s → wpAny (model X.prog X.w) X.A (evalPart o X.env) (fun u s' => ∃ o H', Inv X pins σ H' s' ∧ IsPart u o ∧ Q o H') X.xe s
theorem po_w {o : Option Expr} : PO X o (wO X o) := ⟨fun pins s _ _ _ I h => h pins s I⟩
theorem wo_of {o : Option Expr} {t : TO} (h : PO X o t) {σ : St} {H : Hp} {Q : Option Int → Hp → Prop} (q : t σ H Q) : wO X o σ H Q := fun pins s I => h.run pins s σ H Q I q
structure XP (X : Cx) (o : Option Expr) (ds : List It) (v : Option Int) : Prop where
  mk ::
  run : ∀ G S0 S H σ, Env X.K G S0 S H σ ds → ∀ Q : Option Int → Hp → Prop, (∀ S' H', Gr S H S' H' → Q v H') → wO X o σ H Q
theorem xp_none : XP X none ds none := .mk fun G S0 S H σ E Q q => wo_of po_none (q S H E.gr)
theorem xp_some (h : XV X e ds (.int i)) : XP X (some e) ds (some i) := .mk fun G S0 S H σ E Q q => wo_of (po_some pe_w) (h G S0 S H σ E _ fun v S' H' g r => by cases r; exact ⟨i, rfl, q S' H' g⟩)
/-- xs[lo:hi] -/
theorem xl_sl {lo hi : Option Expr} {l h : Option Int} (ha : XB X a ds (.lst xs)) (hl : XP X lo ds l) (hh : XP X hi ds h) : XL X (.Subscript a (.Slice lo hi none p2) pos) ds (cutD xs l h) := .mk fun G S0 S H σ E Q q =>
  we_of (pe_slice sl_list pe_w po_w po_w) (ha G S0 S H σ E _ fun v S1 H1 g1 r1 => hl.run G S0 S1 H1 σ (E.grow g1) _ fun S2 H2 g2 => hh.run G S0 S2 H2 σ ((E.grow g1).grow g2) _ fun S3 H3 g3 => by
    have g := (g1.trans g2).trans g3
    obtain ⟨p, vs, rfl, hp, ra⟩ := (r1.gr (g2.trans g3)).lst g3.sh
    exact ⟨p, vs, rfl, sq_of hp, fun n hn => q n _ S3 _ (g.trans (Gr.newH g3.sh hn)) (g.h.free hn) (g3.sh.free hn) upd_same (da_cut l h ra)⟩)
/-- t[lo:hi] of a tuple -/
theorem xv_slT {lo hi : Option Expr} {l h : Option Int} (ha : XB X a ds (.tup xs)) (hl : XP X lo ds l) (hh : XP X hi ds h) : XV X (.Subscript a (.Slice lo hi none p2) pos) ds (.tup (cutD xs l h)) := .mk fun G S0 S H σ E Q q =>
  we_of (pe_slice sl_tupA pe_w po_w po_w) (ha G S0 S H σ E _ fun v S1 H1 g1 r1 => hl.run G S0 S1 H1 σ (E.grow g1) _ fun S2 H2 g2 => hh.run G S0 S2 H2 σ ((E.grow g1).grow g2) _ fun S3 H3 g3 => by
    have g := (g1.trans g2).trans g3
    obtain ⟨p, vs, rfl, hp, ra⟩ := (r1.gr (g2.trans g3)).tup
    refine ⟨p, vs, rfl, st_of (g3.sh _ _ hp), fun hw => q _ S3 H3 g (.tup hp ?_), fun _ n hn => q _ _ _ (g.trans (Gr.new g3.sh hn)) (.tup upd_same (da_same (same_new (g3.sh.free hn)) (da_cut l h ra)))⟩
    have e : cutV vs l h = vs := by unfold cutV; rw [hw.1, hw.2, List.drop_zero, Nat.sub_zero, List.take_length]
    have := da_cut l h ra
    rw [e] at this
    exact this)
/-- xs[::-1] -/
theorem xl_rev {k : Nat} {p1 p3 p4 : Pos} (ha : XB X a ds (.lst xs)) : XL X (.Subscript a (.Slice none none (some (.UnaryOp .USub (.Constant (.int 1) k p1) p4)) p3) pos) ds xs.reverse := .mk fun G S0 S H σ E Q q =>
  we_of (pe_revL pe_w) (ha G S0 S H σ E _ fun v S1 H1 g1 r1 => by
    obtain ⟨p, vs, rfl, hp, ra⟩ := r1.lst g1.sh
    exact ⟨p, vs, rfl, sq_of hp, fun n hn => q n _ S1 _ (g1.trans (Gr.newH g1.sh hn)) (g1.h.free hn) (g1.sh.free hn) upd_same (da_reverse ra)⟩)
/-! ### least and greatest of a list -/
def lmin (ns : List Int) : Int := ns.min?.getD 0
def lmax (ns : List Int) : Int := ns.max?.getD 0
theorem lmin_of {ns : List Int} {m : Int} (h : m ∈ ns) (hl : ∀ y ∈ ns, m ≤ y) : lmin ns = m := by
  unfold lmin
  rw [List.min?_eq_some_iff.mpr ⟨h, hl⟩]; rfl
theorem lmax_of {ns : List Int} {m : Int} (h : m ∈ ns) (hl : ∀ y ∈ ns, y ≤ m) : lmax ns = m := by
  unfold lmax
  rw [List.max?_eq_some_iff.mpr ⟨h, hl⟩]; rfl
theorem lmin_spec {ns : List Int} (h : ns ≠ []) : lmin ns ∈ ns ∧ ∀ y ∈ ns, lmin ns ≤ y := by
  cases e : ns.min? with
  | none => exact absurd (List.min?_eq_none_iff.mp e) h
  | some m =>
    have := List.min?_eq_some_iff.mp e
    unfold lmin
    rw [e]; exact this
theorem lmax_spec {ns : List Int} (h : ns ≠ []) : lmax ns ∈ ns ∧ ∀ y ∈ ns, y ≤ lmax ns := by
  cases e : ns.max? with
  | none => exact absurd (List.max?_eq_none_iff.mp e) h
  | some m =>
    have := List.max?_eq_some_iff.mp e
    unfold lmax
    rw [e]; exact this
theorem xv_minL {p : Pos} {ns : List Int} (hc : X.calm = true) (hm : X.mg "min" = none) (ha : XB X e ds A) (h : A = .lst (ns.map .int)) (hne : ns ≠ []) (hg : Gl X "min" := by rfl) (hs : isStar e = false := by rfl) :
    XV X (.Call (.Name "min" p) [e] [] pos) ds (.int (lmin ns)) := by
  subst h
  exact xv_callB (cr_min hc) hm boot_min (xab_cons ha xab_nil (se hs)) (fun S H vs Q k r q => by
    obtain ⟨v, rfl, r1⟩ := rba1 r
    obtain ⟨p, vs, rfl, h1, h2⟩ := r1.lst k
    have e := da_ints h2
    subst e
    exact ⟨p, ns, rfl, sq_of h1, List.length_pos_iff.mpr hne, fun m hm hl => by rw [← lmin_of hm hl]; exact q _ S H (.refl k) (.int _)⟩) hg (he := se hs) (hpl := spl rfl)
theorem xv_maxL {p : Pos} {ns : List Int} (hc : X.calm = true) (hm : X.mg "max" = none) (ha : XB X e ds A) (h : A = .lst (ns.map .int)) (hne : ns ≠ []) (hg : Gl X "max" := by rfl) (hs : isStar e = false := by rfl) :
    XV X (.Call (.Name "max" p) [e] [] pos) ds (.int (lmax ns)) := by
  subst h
  exact xv_callB (cr_max hc) hm boot_max (xab_cons ha xab_nil (se hs)) (fun S H vs Q k r q => by
    obtain ⟨v, rfl, r1⟩ := rba1 r
    obtain ⟨p, vs, rfl, h1, h2⟩ := r1.lst k
    have e := da_ints h2
    subst e
    exact ⟨p, ns, rfl, sq_of h1, List.length_pos_iff.mpr hne, fun m hm hl => by rw [← lmax_of hm hl]; exact q _ S H (.refl k) (.int _)⟩) hg (he := se hs) (hpl := spl rfl)
/-! ### wide numbers -/
theorem xv_mulW (ha : XB X a ds (.int i)) (hb : XB X b ds (.int j)) (hc : CMulW i j) : XV X (.BinOp a .Mult b pos) ds (.int (i * j)) :=
  xv_bin op_mulW ha hb fun S H x y Q k r1 r2 q => ⟨i, j, r1.int, r2.int, hc, q _ S H (.refl k) (.int _)⟩
theorem xv_divW (ha : XB X a ds (.int i)) (hb : XB X b ds (.int j)) (hc : CDivW i j) : XV X (.BinOp a .FloorDiv b pos) ds (.int (i / j)) :=
  xv_bin op_fdivW ha hb fun S H x y Q k r1 r2 q => ⟨i, j, r1.int, r2.int, hc, q _ S H (.refl k) (.int _)⟩
/-! ### in, of data of any depth -/
theorem inD_py {A : D} : ∀ {xs : List D}, (pyAll xs).any (fun z => PyData.eqv z (py A)) = inD A xs
  | [] => rfl
  | x :: xs => by
    show (PyData.eqv (py x) (py A) || (pyAll xs).any fun z => PyData.eqv z (py A)) = (eqD x A || inD A xs)
    rw [inD_py]; rfl
theorem xv_inD (hu : X.A.units + 65 < cLine) (ha : XB X a ds A) (hb : XB X b ds (.lst xs)) (h1 : okE A = true) (h2 : okE (.lst xs) = true) (hm : behindInMarks .In b = false := by rfl) : XV X (.Compare a [.In] [b] pos) ds (.bl (inD A xs)) :=
  xv_cmp (op_inD hu) ha hb hm fun S H x y Q k r1 r2 q => ⟨py A, pyAll xs, rb_dp k r1 (okE_l h1), rb_dp k r2 (okE_l h2), okE_r h1, okE_r h2, by rw [inD_py]; exact q⟩
theorem xt_inD (hu : X.A.units + 65 < cLine) (ha : XB X a ds A) (hb : XB X b ds (.lst xs)) (h1 : okE A = true) (h2 : okE (.lst xs) = true) (hm : behindInMarks .In b = false := by rfl) : XT X (.Compare a [.In] [b] pos) ds (inD A xs) :=
  xt_cmp (op_inD hu) ha hb hm fun S H x y Q k r1 r2 q => ⟨py A, pyAll xs, rb_dp k r1 (okE_l h1), rb_dp k r2 (okE_l h2), okE_r h1, okE_r h2, by rw [inD_py]; exact q⟩
theorem xt_ninD (hu : X.A.units + 65 < cLine) (ha : XB X a ds A) (hb : XB X b ds (.lst xs)) (h1 : okE A = true) (h2 : okE (.lst xs) = true) (hm : behindInMarks .NotIn b = false := by rfl) : XT X (.Compare a [.NotIn] [b] pos) ds (!inD A xs) :=
  xt_cmp (op_notInD hu) ha hb hm fun S H x y Q k r1 r2 q => ⟨py A, pyAll xs, rb_dp k r1 (okE_l h1), rb_dp k r2 (okE_l h2), okE_r h1, okE_r h2, by rw [inD_py]; exact q⟩
theorem xv_ninD (hu : X.A.units + 65 < cLine) (ha : XB X a ds A) (hb : XB X b ds (.lst xs)) (h1 : okE A = true) (h2 : okE (.lst xs) = true) (hm : behindInMarks .NotIn b = false := by rfl) : XV X (.Compare a [.NotIn] [b] pos) ds (.bl (!inD A xs)) :=
  xv_cmp (op_notInD hu) ha hb hm fun S H x y Q k r1 r2 q => ⟨py A, pyAll xs, rb_dp k r1 (okE_l h1), rb_dp k r2 (okE_l h2), okE_r h1, okE_r h2, by rw [inD_py]; exact q⟩
/-- t + u of tuples -/
theorem xv_catT (ha : XB X a ds (.tup xs)) (hb : XB X b ds (.tup ys)) (hne : xs ≠ []) (hz : xs.length + ys.length ≤ 100000) : XV X (.BinOp a .Add b pos) ds (.tup (xs ++ ys)) :=
  xv_bin op_catT ha hb fun S H x y Q k r1 r2 q => by
    obtain ⟨p, vs, rfl, hp, ra⟩ := r1.tup
    obtain ⟨p', vs', rfl, hp', rb⟩ := r2.tup
    refine ⟨p, p', vs, vs', rfl, rfl, st_of (k _ _ hp), st_of (k _ _ hp'), fun z => hne ?_, sz _ (by rw [da_len ra, da_len rb]; exact hz), fun h0 => ?_, fun _ n hn => q _ _ _ (Gr.new k hn) (.tup upd_same (da_same (same_new (k.free hn)) (da_append ra rb)))⟩
    · rw [z] at ra; cases ra; rfl
    · rw [h0] at rb
      cases rb
      rw [List.append_nil] at q
      exact q _ S H (.refl k) (.tup hp ra)
/-! ### more -/
theorem xr_if {W : WX} {C : Addr} {k : Bool} (hc : XT X c ds k) (ha : k = true → XR X W a ds C) (hb : k = false → XR X W b ds C) : XR X W (.IfExp c a b pos) ds C := .mk fun G S0 S H σ E q Q =>
  we_of (pe_ifExp pt_w pe_w pe_w) (hc G S0 S H σ E _ fun S' H' g => by
    cases k with
    | true => rw [if_pos rfl]; exact ha rfl G S0 S' H' σ (E.grow g) (fun S2 H2 g2 => q S2 H2 (g.trans g2)) _
    | false => rw [if_neg Bool.false_ne_true]; exact hb rfl G S0 S' H' σ (E.grow g) (fun S2 H2 g2 => q S2 H2 (g.trans g2)) _)
/-- x, y = a, b -/
theorem xs_par {W : WX} {d1 d2 : D} (i j : Nat) {x y : Str} {px py pt : Pos} {kt k2 pt2} (hc : X.calm = true) (hN : X.N.Nodup) (ha : XV X a ds d1) (hb : XV X b ds d2) (hij : i ≠ j := by decide) (hi : X.N[i]? = some x := by rfl) (hj : X.N[j]? = some y := by rfl)
    (hx : X.env.scope.names.lookup x = some .local := by rfl) (hy : X.env.scope.names.lookup y = some .local := by rfl) (h1 : starEach [a, b] X.env = (false, eval a X.env) :: starEach [b] X.env := by exact se rfl) (h2 : starEach [b] X.env = (false, eval b X.env) :: starEach [] X.env := by exact se rfl)
    (hw : swappedStores [.Tuple [.Name x px, .Name y py] kt pt] (.Tuple [a, b] k2 pt2) X.env = pure (some [x, y]) := by rfl)
    (hs : swapsWithSole [.Tuple [.Name x px, .Name y py] kt pt] (.Tuple [a, b] k2 pt2) pos.line X.env = pure false := by rfl) : XS X W (.Assign [.Tuple [.Name x px, .Name y py] kt pt] (.Tuple [a, b] k2 pt2) pos) ds (.nx ((ds.set i (.fz d1)).set j (.fz d2))) := .mk fun G S0 S H σ E Z q =>
  ws_of (ps_par hc hN hi hj hij hx hy (pa_cons pe_w (pa_cons pe_w pa_nil h2) h1) hw hs) (ha G S0 S H σ E _ fun v S1 H1 g1 r1 => hb G S0 S1 H1 σ (E.grow g1) _ fun v2 S2 H2 g2 r2 => ⟨v, v2, rfl, q _ S2 H2 ((((E.grow g1).grow g2).putD i (dp_same g2.s r1)).putD j r2)⟩)
/-- the type of data, by its name -/
def tyN : D → Option String
  | .bl _ => some "bool"
  | .int _ => some "int"
  | .str _ => some "str"
  | .lst _ => some "list"
  | .tup _ => some "tuple"
  | _ => none
theorem rb_ty {K : Fg} {S H : Hp} {v : V} {A : D} {n : String} (k : Same S H) (h : Rb K S H v A) (t : tyN A = some n) : TyX K H v (.type n) := by
  cases A with
  | bl b => rw [h.bl]; cases t; exact .base (.bl b)
  | int b => rw [h.int]; cases t; exact .base (.int b)
  | str b => rw [h.str]; cases t; exact .base (.str b)
  | lst xs => obtain ⟨p, vs, rfl, hp, _⟩ := h.lst k; cases t; exact .base (.lst hp)
  | tup xs => obtain ⟨p, vs, rfl, hp, _⟩ := h.tup; cases t; exact .base (.tup (k _ _ hp))
  | _ => cases t
/-- isinstance(x, T), T a built-in class -/
theorem xv_isT {p p2 : Pos} {y : Str} {T n : String} {k : Bool} (hm : X.mg "isinstance" = none) (hmy : X.mg y = none) (hby : bootBuiltins y = some (.type T)) (ha : XB X e ds A) (ht : tyN A = some n) (hk : kitB n T = some k) (hg : Gl X "isinstance" := by rfl) (hgy : Gl X y := by rfl) (hst : isStar e = false := by rfl) (hny : y ≠ "__name__" := by decide) (hdy : (y == ("__debug__" : Str)) = false := by decide) :
    XV X (.Call (.Name "isinstance" p) [e, .Name y p2] [] pos) ds (.bl k) := .mk fun G S0 S H σ E Q q =>
  we_of (pe_callB call_isi hg hm boot_isinstance' (pa_cons pe_w (pa_cons (pe_bltn (v := .ty T) hgy hmy hby rfl hny hdy) pa_nil (se rfl)) (se hst)) (he := se hst) (hpl := spl rfl)) (ha G S0 S H σ E _ fun v S1 H1 g r => ⟨v, .ty T, .type n, .type T, k, rfl, .ty T, rb_ty g.sh r ht, kit_ty hk, q _ S1 H1 g (.bl k)⟩)
theorem boot_bool : bootBuiltins ("bool" : Str) = some (.type "bool") := by decide +kernel
theorem boot_int' : bootBuiltins ("int" : Str) = some (.type "int") := by decide +kernel
theorem boot_tuple' : bootBuiltins ("tuple" : Str) = some (.type "tuple") := by decide +kernel
theorem boot_list' : bootBuiltins ("list" : Str) = some (.type "list") := by decide +kernel
end
end Lay
/-! Lay17: sorted(set(xs)) of a list of whole numbers. -/
namespace Lay
open PySem L2 PySem.Spec PyProof.Rows
/-- an empty set, as it is made -/
abbrev e0 (w : World) : Obj := { cls := .type "set", dict := none, data := .set #[] 0 (.fresh 0 0 (!w.params.followText "set-order")) }
section
variable {P : Program} {w : World} {A : Around} {E : Value → Shared → Prop} {s : Shared}
theorem set_ofL {l : Addr} {its : Array Value} (ns : List Int) {Q : Value → Shared → Prop} (hh : A.handled = none) (hl : s.heap.IsList l its) (hit : IntsAre its.toList ns) (hb : ns.length + 1 < scanBound)
    (h : ∀ (h' : Heap) (tk c : Nat), SetR w h' s.heap.objs.size (fun j => decide (j ∈ ns)) c → c ≤ ns.length → (∀ b o, s.heap.get? b = some o → h'.get? b = some o) → Q (.ref s.heap.objs.size) { s with heap := h', toks := tk }) : wpAny (model P w) A (call (.type "set") [.ref l]) Q E s := by
  have len : its.size = ns.length := by have q := IntsAre.length hit; rwa [Array.length_toList] at q
  obtain ⟨c, tl, hmro⟩ := F.called_set.mro
  have hmade := F.called_set.made; have hsub := F.called_set.sub
  refine wpAny_call (codeAny_of_tree ?_)
  refine wpAny_pure ⟨Code.quiet_builtin _ (by decide +kernel), codeAny_builtin F.entry_type_call (by
    rw [Around.under_plain (weight_type_call_type "set" [.ref l] []) rfl]
    have z1 := F.called_set.notType; have z2 := F.called_set.canCreate; have z3 := F.typeCall_set_1 (.ref l)
    repeat (any_goals (first | assumption | wp_step))
    refine codeAny_mono (code_set_led1 (.ref l) (E := E) (Q₁ := fun u t => u = .ref s.heap.objs.size ∧ t = { s with heap := s.heap.push (e0 w) }) ⟨rfl, rfl⟩) fun r t hr => ?_
    rcases r with e | fl
    · exact hr
    rcases fl with _ | _ | _ | u
    · exact hr.elim
    · exact hr.elim
    · exact hr.elim
    obtain ⟨rfl, rfl⟩ := hr
    have hS : (s.heap.push (e0 w)).get? s.heap.objs.size = some (e0 w) := Heap.get?_push_size _ rfl
    have hT : Shared.TypeIs { s with heap := s.heap.push (e0 w) } (.ref s.heap.objs.size) "set" := ⟨_, hS, rfl⟩
    have y1 := F.called_set.init.lookup; have y2 := F.called_set.init.bind (.ref s.heap.objs.size)
    repeat (any_goals (first | assumption | wp_step))
    refine codeAny_mono (codeAny_call_builtin (R := wants (fun r t => r = .none ∧ ∃ h' tk c, t = { s with heap := h', toks := tk } ∧ SetR w h' s.heap.objs.size (fun j => decide (j ∈ ns)) c ∧ c ≤ ns.length ∧ ∀ b o, s.heap.get? b = some o → h'.get? b = some o) E) F.called_set.init.plain F.entry_set_init (check_set_init_1 hT ?_)) fun r t hr => ?_
    rotate_left
    · rcases r with e | fl
      · exact hr
      · rcases fl with _ | _ | _ | u
        · exact hr.elim
        · exact hr.elim
        · exact hr.elim
        · obtain ⟨rfl, h', tk, c, rfl, x1, x2, x3⟩ := hr
          repeat (any_goals (first | assumption | wp_step))
          exact h _ _ _ x1 x2 x3
    · obtain ⟨⟨oc, od, dt, sl⟩, ol, hc, n, hd⟩ := hl
      simp only at hc hd
      subst hc hd
      have ol' := Heap.get?_push_of_some (e0 w) ol
      have w1 := F.sub_list_set; have w2 := F.sub_list_frozenset
      have w3 : (Value.type "list" == Value.type "dict") = false := by decide
      have isl : (s.heap.push (e0 w)).IsList l its := ⟨_, ol', rfl, n, rfl⟩
      unfold Builtin.«set.__init__» noKeywords Builtin.Frozenset.updateFrom
      generalize gI : pyIter = PI
      wp_walk
      subst gI
      refine wpAny_pyIter_list isl (wpAny_bind (wpAny_runValue ?_))
      have lS : l < s.heap.objs.size := Heap.lt_size ol
      have sz : (s.heap.push (e0 w)).objs.size = s.heap.objs.size + 1 := Heap.size_push ..
      have neI : l ≠ (s.heap.push (e0 w)).objs.size := by rw [sz]; exact Nat.ne_of_lt (Nat.lt_succ_of_lt lS)
      have nf : s.heap.objs.size ∉ [(s.heap.push (e0 w)).objs.size, l] := by rw [sz]; intro z; exact (List.mem_cons.mp z).elim (fun z => absurd z (Nat.ne_of_lt (Nat.lt_succ_self _))) fun z => absurd (List.mem_singleton.mp z) (Nat.ne_of_gt lS)
      refine set_update_ints (P := P) ((Walks.list (show A.in1.in1.in1.handled = none by simp [hh]) _ l neI its).toS) s.heap.objs.size nf ns len hb (fun i v hv => ?_) (its.size - 0) 0 _ (by omega) (Nat.zero_le _) ⟨⟨_, Heap.get?_push_size _ rfl, rfl, rfl⟩, isl.push _⟩ ⟨0, Nat.le_refl 0, setR_new_at (Heap.get?_push_of_some _ hS)⟩ fun t c hm hc hS' => ?_
      · have hi : i < ns.length := by rw [← len]; exact (Array.getElem?_eq_some_iff.mp hv).1
        obtain ⟨tt, e⟩ := IntsAre.int_at hit i v (by rw [Array.getElem?_toList]; exact hv)
        exact ⟨ns[i], tt, List.getElem?_eq_getElem hi, by rw [e, List.getD_eq_getElem?_getD, List.getElem?_eq_getElem hi]; rfl⟩
      · obtain ⟨h', g', d', tk', os'⟩ := t
        obtain rfl : g' = s.gens := hm.gens
        obtain rfl : d' = s.drawn := hm.drawn
        obtain rfl : os' = s.os := hm.os
        rw [len] at hc
        refine wpAny_pure (wpAny_pure ⟨rfl, h', tk', c, rfl, hS', hc, fun b o e => ?_⟩)
        have b0 := Heap.lt_size e
        exact hm.heap b o (by rw [sz]; intro z; exact (List.mem_cons.mp z).elim (fun z => absurd z (Nat.ne_of_lt b0)) fun z => absurd (List.mem_singleton.mp z) (Nat.ne_of_lt (Nat.lt_succ_of_lt b0))) (Heap.get?_push_of_some _ (Heap.get?_push_of_some _ e)))⟩
end
/-- set(xs) of whole numbers -/
def rSetI (K : Fg) (w : World) : List V → Hp → VK → Prop := fun vs H Q => ∃ (l : Addr) (ns : List Int), vs = [.ref l] ∧ SqL K H l (ns.map V.int) ∧ ns.length ≤ 1000 ∧ ∀ a c, H a = none → c ≤ ns.length → Q (.ref a) (upd H a (SetO w a (fun j => decide (j ∈ ns)) c))
section
variable {X : Cx}
theorem cr_setI (hc : X.calm = true) : CallR X (.type "set") (rSetI X.K X.w) := by
  rintro pins s σ H vs us Q I r ⟨l, ns, rfl, hs, hz, q⟩
  obtain ⟨its, rv, hl, _⟩ := I.list hs
  obtain ⟨u, rfl, ru⟩ := vals1 r
  obtain rfl : u = Value.ref l := ru
  refine set_ofL (P := X.prog) ns (I.ok.hd hc) hl.isList (by simpa using ints_of_vals rv) (by unfold scanBound; omega) fun h' tk c R hcn k => ?_
  exact ⟨.ref s.heap.objs.size, _, I.laid (t' := tk) (fun b u e => k b u e) (Nat.le_refl _) (setO_new R), rfl, q _ _ (I.hok.fresh (Nat.le_refl _)) hcn⟩
variable {e : Expr} {ds : List It} {pos : Pos} {A : D}
theorem xl_sortsetI {p p2 pos2 : Pos} {xs ys : List Int} (hc : X.calm = true) (hm : X.mg "sorted" = none) (hm2 : X.mg "set" = none) (ha : XB X e ds A) (hA : A = .lst (xs.map .int)) (hz : xs.length < 64) (hy : ys.Pairwise (· < ·)) (hmem : ∀ x, x ∈ ys ↔ x ∈ xs) (hg : Gl X "sorted" := by rfl) (hg2 : Gl X "set" := by rfl) (hs : isStar e = false := by rfl) :
    XL X (.Call (.Name "sorted" p) [.Call (.Name "set" p2) [e] [] pos2] [] pos) ds (ys.map .int) := .mk fun G S0 S H σ E Q q =>
  we_of (pe_callB (cr_sortedSet hc) hg hm boot_sorted' (pa_cons (pe_callTy (cr_setI hc) hg2 hm2 boot_set' (pa_cons pe_w pa_nil (se hs)) (he := se hs) (hpl := spl rfl)) pa_nil (se rfl)) (he := se rfl) (hpl := spl rfl)) (ha G S0 S H σ E _ fun v S1 H1 g1 r1 => by
    obtain ⟨l, vs, rfl, hl, ra⟩ := (hA ▸ r1).lst g1.sh
    have z := da_ints ra
    subst z
    refine ⟨l, xs, rfl, sq_of hl, by omega, fun a c ha0 hcn => ⟨a, _, c, rfl, upd_same, by omega, fun ns' n pw hmm _ hn => ?_⟩⟩
    have eq : ns' = ys := rise_unique id pw hy fun x => by rw [hmem, hmm, decide_eq_true_eq]
    subst eq
    have g2 : Gr S1 H1 S1 (upd H1 a (SetO X.w a (fun j => decide (j ∈ xs)) c)) := Gr.newH g1.sh ha0
    have g3 := Gr.newH (o := .lst (ns'.map V.int)) g2.sh hn
    have gg := (g1.trans g2).trans g3
    exact q n _ S1 _ gg (g1.h.free (g2.h.free hn)) (g1.sh.free (g2.h.free hn)) upd_same (ints_da ns'))
end
end Lay
/-! Lay18: isinstance of a caught error, with a tuple of classes. -/
namespace Lay
open PySem L2 PyProof.Rows
def rIsXT (K : Fg) (C : Addr) : List V → Hp → VK → Prop := fun xs H Q => ∃ (a tp : Addr) (cs : List V) (us : List Value) (b : Bool), xs = [.ref a, .ref tp] ∧ H a = some (ExT C a) ∧ H tp = some (.tup cs) ∧ Paired ClsV cs us ∧ PySem.W.kitAny K (.ref C) us = some b ∧ Q (.bl b) H
section
variable {X : Cx} {e : Expr} {ds : List It} {pos : Pos}
theorem call_isXT {C : Addr} (h : EI X.K C) : CallR X (.builtin "isinstance") (rIsXT X.K C) := by
  rintro pins s σ H xs us Q I r ⟨a, tp, cs, ws, k, rfl, ha, hT, hc, hk, q⟩
  obtain ⟨u1, u2, rfl, r1, r2⟩ := vals2 r
  obtain rfl : u1 = Value.ref a := r1
  obtain rfl : u2 = Value.ref tp := r2
  obtain ⟨⟨oe, vs, g1, ⟨g2, g3⟩, g4⟩, _⟩ : ObjOk X.prog X.w H s.heap a (ExT C a) := I.hok a _ ha
  have J : PySem.W.InstAt s.heap a oe C none := by
    cases oe
    dsimp only at g2 g3 g4
    subst g2 g3 g4
    exact ⟨g1, rfl, rfl, trivial⟩
  obtain ⟨_, its, rv, ⟨oc, od, dt, sl⟩, z1, z2, n, z3⟩ := (show ObjOk X.prog X.w H s.heap tp (.tup cs) from I.hok tp _ hT)
  have e3 := ClsV.all hc rv
  subst e3
  simp only at z2 z3
  subst z2 z3
  exact PySem.W.kia_tup (PySem.W.handS_kitx_exc h.ex.hg h.ex.hk h.ex.hs h.ex.hd h.ex.ha h.ex.hn h.ex.ht h.ex.hm) I.kIn J z1 hk (fun z => nomatch z) fun tk => ⟨.bl k, H, I.tok tk, rfl, q⟩
/-- isinstance(x, (Y1, .., Y4)), x an exception of the class at C -/
theorem xv_isX4 {p p1 p2 p3 p4 p5 : Pos} {x1} {y1 y2 y3 y4 : Str} {C C1 C2 C3 C4 : Addr} {k : Bool} (hm : X.mg "isinstance" = none) (h : EI X.K C) (m1 : X.mg y1 = some (.ref C1)) (m2 : X.mg y2 = some (.ref C2)) (m3 : X.mg y3 = some (.ref C3)) (m4 : X.mg y4 = some (.ref C4))
    (hk : PySem.W.kitAny X.K (.ref C) [.ref C1, .ref C2, .ref C3, .ref C4] = some k) (ha : XB X e ds (.exc C)) (hg : Gl X "isinstance" := by rfl) (g1 : Gl X y1 := by rfl) (g2 : Gl X y2 := by rfl) (g3 : Gl X y3 := by rfl) (g4 : Gl X y4 := by rfl)
    (d1 : (y1 == ("__debug__" : Str)) = false := by decide) (d2 : (y2 == ("__debug__" : Str)) = false := by decide) (d3 : (y3 == ("__debug__" : Str)) = false := by decide) (d4 : (y4 == ("__debug__" : Str)) = false := by decide) (hst : isStar e = false := by rfl) :
    XV X (.Call (.Name "isinstance" p) [e, .Tuple [.Name y1 p1, .Name y2 p2, .Name y3 p3, .Name y4 p4] x1 p5] [] pos) ds (.bl k) := .mk fun G S0 S H σ E Q q =>
  we_of (pe_callB (call_isXT h) hg hm boot_isinstance' (pa_cons pe_w (pa_cons (pe_tup (pa_cons (pe_glob (v := .ref C1) g1 m1 rfl d1) (pa_cons (pe_glob (v := .ref C2) g2 m2 rfl d2) (pa_cons (pe_glob (v := .ref C3) g3 m3 rfl d3) (pa_cons (pe_glob (v := .ref C4) g4 m4 rfl d4) pa_nil (se rfl)) (se rfl)) (se rfl)) (se rfl))) pa_nil (se rfl)) (se hst)) (he := se hst) (hpl := spl rfl)) (ha G S0 S H σ E _ fun v S1 H1 g r => by
    rcases r with r | ⟨_, _, _, _, z, _⟩
    · cases r with
      | @exc a _ ha =>
        refine ⟨sz _ (Nat.le_of_ble_eq_true rfl), fun t ht => ?_⟩
        have gg := g.trans (Gr.new (o := .tup [.ref C1, .ref C2, .ref C3, .ref C4]) g.sh ht)
        exact ⟨a, t, _, _, k, rfl, by rw [upd_ne (ne_of_none (g.sh _ _ ha) ht)]; exact g.sh _ _ ha, upd_same, .cons (.own C1) (.cons (.own C2) (.cons (.own C3) (.cons (.own C4) .nil))), hk, q _ _ _ gg (.bl k)⟩
    · cases z)
end
theorem kit_no4 {K : Fg} {mg : Str → Option Value} {cE : Addr} {cls : Fin 5 → Addr} (E : E5 K mg cE cls) {i a b c d : Fin 5} (h : (i ≠ a ∧ i ≠ b) ∧ i ≠ c ∧ i ≠ d) : PySem.W.kitAny K (.ref (cls i)) [.ref (cls a), .ref (cls b), .ref (cls c), .ref (cls d)] = some false := by
  have one : ∀ j, i ≠ j → PySem.W.kitOne K (.ref (cls i)) (.ref (cls j)) = some false := fun j z => kit_ref (E.ei i) (E.ei j) (by rw [E.sub, decide_eq_false z])
  exact kitAny_cons (one a h.1.1) (fun _ => kitAny_cons (one b h.1.2) (fun _ => kitAny_cons (one c h.2.1) (fun _ => kitAny_cons (one d h.2.2) (fun _ => kitAny_nil) (fun z => by cases z)) (fun z => by cases z)) (fun z => by cases z)) (fun z => by cases z)
end Lay
set_option autoImplicit true
namespace Prog
open PySem L2 Lay

def top (i : Nat) : Stmt := PySem.Challenge.pw_pursehall_k31_whole_known_purses.main.body.getD i (.Pass ⟨0, 0, 0, 0⟩)

/-! the law's own draws -/
def cell (s : List Int) (k : Int) : Int := if s.isEmpty then 0 else s.getD (k % s.length).toNat 0
@[irreducible] def mix (s : List Int) (k : Int) : Int :=
  let n := (cell s k + 104729 * (k + 1)) % 4294967291
  let n := n * 48271 % 4294967279
  (n / 64 * 69621 + n) % 4294967231
theorem mix_nonneg (s : List Int) (k : Int) : 0 ≤ mix s k := by unfold mix; exact Int.emod_nonneg _ (by decide)
theorem mix_lt (s : List Int) (k : Int) : mix s k < 4294967231 := by unfold mix; exact Int.emod_lt_of_pos _ (by decide)

/-! machines, as the document has them -/
abbrev Deed := Int × Int × Int × Int
def dl (d : Deed) : List Int := [d.1, d.2.1, d.2.2.1, d.2.2.2]
def eDeed (d : Deed) : D := .tup ((dl d).map .int)
def eMach (p k : Int) (ds : List Deed) : D := .tup [.int p, .int k, .lst (ds.map eDeed)]
def deedOk (p kn : Int) (d : Deed) : Bool := decide (0 ≤ d.1) && decide (d.1 < p) && (decide (0 ≤ d.2.2.1) && decide (d.2.2.1 < p)) && (decide (0 ≤ d.2.1) && decide (d.2.1 < kn)) && (decide (0 ≤ d.2.2.2) && decide (d.2.2.2 ≤ 1000))
def dlt (c d : Deed) : Bool := HT.lexLt (dl c) (dl d)
def prevOk : Option Deed → Deed → Bool
  | none, _ => true
  | some c, d => dlt c d
def look (p kn : Int) : Option Deed → List Deed → Bool
  | _, [] => true
  | prev, d :: ds => deedOk p kn d && prevOk prev d && look p kn (some d) ds
def goodM (p kn : Int) (ds : List Deed) : Bool := decide (1 ≤ p) && decide (p ≤ 200) && (decide (1 ≤ kn) && decide (kn ≤ 8)) && decide (ds.length ≤ 600) && look p kn none ds
def dAt (ds : List Deed) (n : Int) : Deed := ds.getD n.toNat (0, 0, 0, 0)
theorem ix_deed {ds : List Deed} {n : Int} (h0 : 0 ≤ n) (h1 : n < ds.length) : ixD (.lst (ds.map eDeed)) n = some (eDeed (dAt ds n)) := ix_map (atI_d _ h0 h1)
theorem in_of {n : Int} {m : Nat} (h : (!(cmpI .LtE 0 n && cmpI .Lt n (m : Int))) = false) : 0 ≤ n ∧ n < m := by simpa [cmpI] using h
theorem ix_deedC {ds : List Deed} {n : Int} (h : (!(cmpI .LtE 0 n && cmpI .Lt n (((ds.map eDeed).length : Nat) : Int))) = false) : ixD (.lst (ds.map eDeed)) n = some (eDeed (dAt ds n)) := by
  obtain ⟨h0, h1⟩ := in_of h
  rw [List.length_map] at h1
  exact ix_deed h0 h1
theorem ix_lastM {α : Type} {f : α → D} {xs : List α} {x : α} (h : xs.getLast? = some x) : ixD (.lst (xs.map f)) (-1) = some (f x) := by
  refine ix_map ?_
  have hn : xs ≠ [] := by intro z; rw [z] at h; cases h
  rw [atI_lastD hn, ← List.getLast?_eq_some_getLast hn, h]
/-- a deed done at a place: where it leads -/
def step (ds : List Deed) (here n : Int) : Option Int := if 0 ≤ n ∧ n < ds.length ∧ (dAt ds n).1 = here then some (dAt ds n).2.2.1 else none
/-- the places that a row comes to, behind here -/
def goneL (ds : List Deed) : Int → List Int → Option (List Int)
  | _, [] => some []
  | here, n :: r => match step ds here n with
    | none => none
    | some h => (goneL ds h r).map (h :: ·)
theorem goneL_len (ds : List Deed) : ∀ (row : List Int) (here : Int) (l : List Int), goneL ds here row = some l → l.length = row.length
  | [], here, l, h => by cases h; rfl
  | n :: r, here, l, h => by
    unfold goneL at h
    split at h
    · cases h
    · rename_i h2 hs
      cases e : goneL ds h2 r with
      | none => rw [e] at h; cases h
      | some l2 => rw [e] at h; cases h; simp [goneL_len ds r h2 l2 e]
theorem goneL_some {ds : List Deed} {here n h : Int} {r : List Int} (e : step ds here n = some h) : goneL ds here (n :: r) = (goneL ds h r).map (h :: ·) := by
  conv => lhs; unfold goneL
  rw [e]
theorem goneL_none {ds : List Deed} {here n : Int} {r : List Int} (e : step ds here n = none) : goneL ds here (n :: r) = none := by
  conv => lhs; unfold goneL
  rw [e]
theorem step_to {ds : List Deed} {here n h : Int} (e : step ds here n = some h) : h = (dAt ds n).2.2.1 := by
  unfold step at e
  split at e
  · cases e; rfl
  · cases e
/-- what the deeds of a row cost -/
def costL (ds : List Deed) (row : List Int) : Int := (row.map fun n => (dAt ds n).2.2.2).sum
theorem goneL_in {ds : List Deed} : ∀ (row : List Int) (here : Int) (l : List Int), goneL ds here row = some l → ∀ n ∈ row, 0 ≤ n ∧ n < ds.length
  | [], here, l, _, n, hn => by cases hn
  | n :: r, here, l, h, m, hm => by
    cases e : step ds here n with
    | none => rw [goneL_none e] at h; cases h
    | some h2 =>
      rw [goneL_some e] at h
      have hin : 0 ≤ n ∧ n < ds.length := by
        unfold step at e
        split at e
        · omega
        · cases e
      rcases List.mem_cons.mp hm with rfl | hm
      · exact hin
      · cases e3 : goneL ds h2 r with
        | none => rw [e3] at h; cases h
        | some l2 => exact goneL_in r h2 l2 e3 m hm
theorem look_mem {p kn : Int} : ∀ (ds : List Deed) (prev : Option Deed), look p kn prev ds = true → ∀ d ∈ ds, deedOk p kn d = true
  | [], _, _, d, h => by cases h
  | c :: ds, prev, e, d, h => by
    unfold look at e
    rw [Bool.and_eq_true, Bool.and_eq_true] at e
    rcases List.mem_cons.mp h with rfl | h
    · exact e.1.1
    · exact look_mem ds _ e.2 d h
theorem goodM_d {p kn : Int} {ds : List Deed} (h : goodM p kn ds = true) : (1 ≤ p ∧ p ≤ 200) ∧ (1 ≤ kn ∧ kn ≤ 8) ∧ ds.length ≤ 600 ∧ ∀ d ∈ ds, (0 ≤ d.1 ∧ d.1 < p) ∧ (0 ≤ d.2.2.1 ∧ d.2.2.1 < p) ∧ (0 ≤ d.2.1 ∧ d.2.1 < kn) ∧ 0 ≤ d.2.2.2 ∧ d.2.2.2 ≤ 1000 := by
  unfold goodM at h
  simp only [Bool.and_eq_true, decide_eq_true_eq] at h
  obtain ⟨⟨⟨h1, h2⟩, h3⟩, h4⟩ := h
  refine ⟨h1, h2, h3, fun d hd => ?_⟩
  have q := look_mem ds none h4 d hd
  unfold deedOk at q
  simp only [Bool.and_eq_true, decide_eq_true_eq] at q
  obtain ⟨⟨⟨q1, q2⟩, q3⟩, q4⟩ := q
  exact ⟨q1, q2, q3, q4⟩
theorem dAt_mem {ds : List Deed} {n : Int} (h0 : 0 ≤ n) (h1 : n < ds.length) : dAt ds n ∈ ds := by
  unfold dAt
  rw [List.getD_eq_getElem?_getD, List.getElem?_eq_getElem (by omega)]
  exact List.getElem_mem _
theorem goneL_cons {ds : List Deed} {here n : Int} {r : List Int} {l : List Int} (h : goneL ds here (n :: r) = some l) : (0 ≤ n ∧ n < ds.length ∧ (dAt ds n).1 = here) ∧ ∃ l2, goneL ds (dAt ds n).2.2.1 r = some l2 ∧ l = (dAt ds n).2.2.1 :: l2 := by
  cases e : step ds here n with
  | none => rw [goneL_none e] at h; cases h
  | some h2 =>
    rw [goneL_some e] at h
    have e2 := step_to e
    subst e2
    refine ⟨?_, ?_⟩
    · unfold step at e
      split at e
      · assumption
      · cases e
    · cases e3 : goneL ds (dAt ds n).2.2.1 r with
      | none => rw [e3] at h; cases h
      | some l2 => rw [e3] at h; cases h; exact ⟨l2, rfl, rfl⟩
theorem step_at {ds : List Deed} {here n : Int} (h0 : 0 ≤ n) (h1 : n < ds.length) (h : (dAt ds n).1 = here) : step ds here n = some (dAt ds n).2.2.1 := by
  unfold step
  rw [if_pos ⟨h0, h1, h⟩]

/-! the law's drawn machines -/
def cd (d : Deed) : Int := TS.code 1024 (dl d)
def dins (d : Deed) : List Deed → List Deed
  | [] => [d]
  | x :: xs => if cd d < cd x then d :: x :: xs else if cd d = cd x then x :: xs else x :: dins d xs
/-- sorted, each once -/
def dsort : List Deed → List Deed
  | [] => []
  | d :: ds => dins d (dsort ds)
def BdD (d : Deed) : Prop := TS.Bd 1024 (dl d)
theorem dl_inj {c d : Deed} (h : dl c = dl d) : c = d := by
  obtain ⟨a, b, c', e⟩ := c
  obtain ⟨a2, b2, c2, e2⟩ := d
  simp only [dl, List.cons.injEq] at h
  obtain ⟨h1, h2, h3, h4, _⟩ := h
  rw [h1, h2, h3, h4]
theorem cd_inj {c d : Deed} (hc : BdD c) (hd : BdD d) (h : cd c = cd d) : c = d := dl_inj (code_inj hc hd rfl h)
theorem dins_mem {d : Deed} (hd : BdD d) : ∀ {xs : List Deed}, (∀ x ∈ xs, BdD x) → ∀ y, y ∈ dins d xs ↔ y = d ∨ y ∈ xs
  | [], _, y => by simp [dins]
  | x :: xs, h, y => by
    have ih := dins_mem hd (xs := xs) (fun z hz => h z (List.mem_cons_of_mem _ hz)) y
    unfold dins
    split
    · simp
    · split
      · rename_i h1 h2
        have e := cd_inj hd (h x List.mem_cons_self) h2
        subst e
        simp
      · simp only [List.mem_cons, ih]
        constructor
        · rintro (h | h | h) <;> simp [h]
        · rintro (h | h | h) <;> simp [h]
theorem dins_rise {d : Deed} : ∀ {xs : List Deed}, xs.Pairwise (fun a b => cd a < cd b) → (dins d xs).Pairwise (fun a b => cd a < cd b) ∧ ∀ y ∈ dins d xs, y = d ∨ y ∈ xs
  | [], _ => by simp [dins]
  | x :: xs, h => by
    rw [List.pairwise_cons] at h
    obtain ⟨ih1, ih2⟩ := dins_rise (d := d) h.2
    unfold dins
    split
    · rename_i h1
      refine ⟨?_, fun y hy => by simpa using hy⟩
      rw [List.pairwise_cons, List.pairwise_cons]
      refine ⟨fun y hy => ?_, h.1, h.2⟩
      rcases List.mem_cons.mp hy with rfl | hy
      · exact h1
      · have := h.1 y hy; omega
    · split
      · refine ⟨by rw [List.pairwise_cons]; exact ⟨h.1, h.2⟩, fun y hy => .inr hy⟩
      · rename_i h1 h2
        refine ⟨?_, fun y hy => ?_⟩
        · rw [List.pairwise_cons]
          refine ⟨fun y hy => ?_, ih1⟩
          rcases ih2 y hy with rfl | hy
          · omega
          · exact h.1 y hy
        · rcases List.mem_cons.mp hy with rfl | hy
          · exact .inr List.mem_cons_self
          · rcases ih2 y hy with z | z
            · exact .inl z
            · exact .inr (List.mem_cons_of_mem _ z)
theorem dsort_rise : ∀ (ds : List Deed), (dsort ds).Pairwise (fun a b => cd a < cd b)
  | [] => .nil
  | d :: ds => (dins_rise (dsort_rise ds)).1
theorem dsort_mem : ∀ {ds : List Deed}, (∀ d ∈ ds, BdD d) → ∀ y, y ∈ dsort ds ↔ y ∈ ds
  | [], _, y => by simp [dsort]
  | d :: ds, h, y => by
    have ih := dsort_mem (ds := ds) fun z hz => h z (List.mem_cons_of_mem _ hz)
    unfold dsort
    rw [dins_mem (h d List.mem_cons_self) (fun x hx => h x (List.mem_cons_of_mem _ ((ih x).mp hx))) y, ih y, List.mem_cons]
theorem dins_len {d : Deed} : ∀ (xs : List Deed), (dins d xs).length ≤ xs.length + 1
  | [] => by simp [dins]
  | x :: xs => by
    have := dins_len (d := d) xs
    unfold dins
    split
    · simp
    · split <;> simp <;> omega
theorem dsort_len : ∀ (ds : List Deed), (dsort ds).length ≤ ds.length
  | [] => by simp [dsort]
  | d :: ds => by
    have := dsort_len ds
    have := dins_len (d := d) (dsort ds)
    simp only [dsort, List.length_cons]; omega
/-- code and the tuples' own order -/
theorem lex_code {B : Int} : ∀ {ns ms : List Int}, TS.Bd B ns → TS.Bd B ms → ns.length = ms.length → (HT.lexLt ns ms = true ↔ TS.code B ns < TS.code B ms)
  | [], [], _, _, _ => by simp [HT.lexLt, TS.code]
  | [], _ :: _, _, _, h => by cases h
  | _ :: _, [], _, _, h => by cases h
  | d :: r, d' :: r', h, h', hl => by
    have hl' : r.length = r'.length := by simpa using hl
    obtain ⟨a1, a2⟩ := code_bd h.tail
    obtain ⟨b1, b2⟩ := code_bd h'.tail
    have ih := lex_code h.tail h'.tail hl'
    simp only [TS.code, HT.lexLt]
    rw [← hl'] at b2 ⊢
    have hp : 0 < B ^ r.length := Int.pow_pos (by have := h.head; omega)
    rcases Int.lt_trichotomy d d' with z | z | z
    · have : (d + 1) * B ^ r.length ≤ d' * B ^ r.length := Int.mul_le_mul_of_nonneg_right (by omega) (Int.le_of_lt hp)
      rw [Int.add_mul] at this
      rw [if_neg (by omega), decide_eq_true z]
      constructor
      · intro _; omega
      · intro _; rfl
    · subst z
      rw [if_pos rfl, ih]
      omega
    · have : (d' + 1) * B ^ r.length ≤ d * B ^ r.length := Int.mul_le_mul_of_nonneg_right (by omega) (Int.le_of_lt hp)
      rw [Int.add_mul] at this
      rw [if_neg (by omega), decide_eq_false (by omega)]
      constructor
      · intro q; cases q
      · intro q; omega
theorem dlt_cd {c d : Deed} (hc : BdD c) (hd : BdD d) : dlt c d = true ↔ cd c < cd d := lex_code hc hd rfl
/-- what look asks, of a list that rises by code -/
theorem look_of {p kn : Int} : ∀ (ds : List Deed) (prev : Option Deed), (∀ d ∈ ds, BdD d ∧ deedOk p kn d = true) → ds.Pairwise (fun a b => cd a < cd b) → (∀ c, prev = some c → BdD c ∧ ∀ d ∈ ds, cd c < cd d) → look p kn prev ds = true
  | [], _, _, _, _ => rfl
  | d :: ds, prev, h, hp, hc => by
    rw [List.pairwise_cons] at hp
    obtain ⟨hb, ho⟩ := h d List.mem_cons_self
    have h1 : prevOk prev d = true := by
      cases prev with
      | none => rfl
      | some c =>
        obtain ⟨c1, c2⟩ := hc c rfl
        exact (dlt_cd c1 hb).mpr (c2 d List.mem_cons_self)
    have h2 := look_of ds (some d) (fun x hx => h x (List.mem_cons_of_mem _ hx)) hp.2 fun c e => by cases e; exact ⟨hb, hp.1⟩
    unfold look
    rw [ho, h1, h2]
    rfl

def mPl (s : List Int) (k most : Int) : Int := 1 + mix s k % most
def mKn (s : List Int) (k : Int) : Int := 1 + mix s (k + 1) % 3
def mCost (n : Int) : Int := ([0, 1, 2, 3, 5, 9, 1, 0] : List Int).getD (n / 4096 % 8).toNat 0
def mDeed (s : List Int) (k most : Int) (j : Int) : Deed :=
  let n := mix s (k + 3 + j)
  (n % mPl s k most, n / 16 % mKn s k, n / 64 % mPl s k most, mCost n)
def mMany (s : List Int) (k most : Int) : Nat := (mix s (k + 2) % (2 * most + 1)).toNat
def mRaw (s : List Int) (k most : Int) : List Deed := (List.range (mMany s k most)).map fun (j : Nat) => mDeed s k most (j : Int)
def mDs (s : List Int) (k most : Int) : List Deed := dsort (mRaw s k most)
theorem mPl_bd {s : List Int} {k most : Int} (h : 1 ≤ most) : 1 ≤ mPl s k most ∧ mPl s k most ≤ most := by
  unfold mPl
  have h1 := Int.emod_nonneg (mix s k) (show most ≠ 0 by omega)
  have h2 := Int.emod_lt_of_pos (mix s k) (show 0 < most by omega)
  omega
theorem mKn_bd (s : List Int) (k : Int) : 1 ≤ mKn s k ∧ mKn s k ≤ 3 := by unfold mKn; omega
theorem mCost_bd (n : Int) : 0 ≤ mCost n ∧ mCost n ≤ 9 := by
  unfold mCost
  have : (n / 4096 % 8).toNat < 8 := by omega
  generalize (n / 4096 % 8).toNat = m at this
  match m, this with
  | 0, _ => decide
  | 1, _ => decide
  | 2, _ => decide
  | 3, _ => decide
  | 4, _ => decide
  | 5, _ => decide
  | 6, _ => decide
  | 7, _ => decide
theorem mMany_bd {s : List Int} {k most : Int} (h : 1 ≤ most) : (mMany s k most : Int) ≤ 2 * most := by
  unfold mMany
  have h1 := Int.emod_nonneg (mix s (k + 2)) (show 2 * most + 1 ≠ 0 by omega)
  have h2 := Int.emod_lt_of_pos (mix s (k + 2)) (show 0 < 2 * most + 1 by omega)
  omega
theorem mDeed_bd {s : List Int} {k most : Int} (h : 1 ≤ most) (h7 : most ≤ 200) (j : Int) : BdD (mDeed s k most j) ∧ deedOk (mPl s k most) (mKn s k) (mDeed s k most j) = true := by
  obtain ⟨p1, p2⟩ := mPl_bd (s := s) (k := k) h
  obtain ⟨k1, k2⟩ := mKn_bd s k
  obtain ⟨c1, c2⟩ := mCost_bd (mix s (k + 3 + j))
  have a1 := Int.emod_nonneg (mix s (k + 3 + j)) (show mPl s k most ≠ 0 by omega)
  have a2 := Int.emod_lt_of_pos (mix s (k + 3 + j)) (show 0 < mPl s k most by omega)
  have b1 := Int.emod_nonneg (mix s (k + 3 + j) / 16) (show mKn s k ≠ 0 by omega)
  have b2 := Int.emod_lt_of_pos (mix s (k + 3 + j) / 16) (show 0 < mKn s k by omega)
  have d1 := Int.emod_nonneg (mix s (k + 3 + j) / 64) (show mPl s k most ≠ 0 by omega)
  have d2 := Int.emod_lt_of_pos (mix s (k + 3 + j) / 64) (show 0 < mPl s k most by omega)
  constructor
  · intro m hm
    simp only [dl, mDeed, List.mem_cons, List.not_mem_nil, or_false] at hm
    rcases hm with rfl | rfl | rfl | rfl <;> omega
  · unfold deedOk
    simp only [mDeed, Bool.and_eq_true, decide_eq_true_eq]
    exact ⟨⟨⟨⟨decide_eq_true a1, decide_eq_true a2⟩, decide_eq_true d1, decide_eq_true d2⟩, decide_eq_true b1, decide_eq_true b2⟩, decide_eq_true c1, decide_eq_true (Int.le_trans c2 (by omega))⟩
theorem mRaw_bd {s : List Int} {k most : Int} (h : 1 ≤ most) (h7 : most ≤ 200) : ∀ d ∈ mRaw s k most, BdD d ∧ deedOk (mPl s k most) (mKn s k) d = true := fun d hd => by
  obtain ⟨j, _, rfl⟩ := List.mem_map.mp hd
  exact mDeed_bd h h7 j
theorem mDs_mem {s : List Int} {k most : Int} (h : 1 ≤ most) (h7 : most ≤ 200) (d : Deed) : d ∈ mDs s k most ↔ d ∈ mRaw s k most := dsort_mem (fun d hd => (mRaw_bd h h7 d hd).1) d
theorem mDs_bd {s : List Int} {k most : Int} (h : 1 ≤ most) (h7 : most ≤ 200) : ∀ d ∈ mDs s k most, BdD d ∧ deedOk (mPl s k most) (mKn s k) d = true := fun d hd => mRaw_bd h h7 d ((mDs_mem h h7 d).mp hd)
theorem mDs_len {s : List Int} {k most : Int} (h : 1 ≤ most) : ((mDs s k most).length : Int) ≤ 2 * most := by
  have h1 := dsort_len (mRaw s k most)
  have h2 := mMany_bd (s := s) (k := k) h
  have h3 : (mRaw s k most).length = mMany s k most := by simp [mRaw]
  unfold mDs
  omega
theorem mDs_rise (s : List Int) (k most : Int) : (mDs s k most).Pairwise (fun a b => cd a < cd b) := dsort_rise _
theorem mDs_good {s : List Int} {k most : Int} (h : 1 ≤ most) (h7 : most ≤ 200) : goodM (mPl s k most) (mKn s k) (mDs s k most) = true := by
  obtain ⟨p1, p2⟩ := mPl_bd (s := s) (k := k) h
  obtain ⟨k1, k2⟩ := mKn_bd s k
  have hl := mDs_len (s := s) (k := k) h
  unfold goodM
  rw [decide_eq_true p1, decide_eq_true (show mPl s k most ≤ 200 by omega), decide_eq_true k1, decide_eq_true (show mKn s k ≤ 8 by omega), decide_eq_true (show (mDs s k most).length ≤ 600 by omega),
    look_of _ none (mDs_bd h h7) (mDs_rise s k most) (fun c e => by cases e)]
  rfl
/-- the deeds that can be done at a place -/
def mSome (ds : List Deed) (here : Int) : List Nat := (List.range ds.length).filter fun (n : Nat) => decide ((dAt ds (n : Int)).1 = here)
def mPick (s : List Int) (k : Int) (ds : List Deed) (here : Int) (j : Nat) : Int := ((mSome ds here).getD (mix s (k + 1 + j) % (mSome ds here).length).toNat 0 : Nat)
def rowStep (s : List Int) (k : Int) (ds : List Deed) (st : List Int × Int) (j : Nat) : List Int × Int :=
  if (mSome ds st.2).isEmpty then st else (st.1 ++ [mPick s k ds st.2 j], (dAt ds (mPick s k ds st.2 j)).2.2.1)
def rowSt (s : List Int) (k : Int) (ds : List Deed) (n : Nat) : List Int × Int := (List.range n).foldl (rowStep s k ds) ([], 0)
def mRow (s : List Int) (k : Int) (ds : List Deed) (most : Int) : List Int := (rowSt s k ds (mix s k % (most + 1)).toNat).1
theorem rowSt_succ (s : List Int) (k : Int) (ds : List Deed) (n : Nat) : rowSt s k ds (n + 1) = rowStep s k ds (rowSt s k ds n) n := by
  unfold rowSt; rw [List.range_succ, List.foldl_append]; rfl
theorem mPick_mem {s : List Int} {k : Int} {ds : List Deed} {here : Int} {j : Nat} (h : (mSome ds here).isEmpty = false) : ∃ n ∈ mSome ds here, mPick s k ds here j = (n : Int) ∧ (mSome ds here)[(mix s (k + 1 + j) % (mSome ds here).length).toNat]? = some n := by
  have hl : 0 < (mSome ds here).length := by
    rw [List.isEmpty_eq_false_iff] at h
    exact List.length_pos_iff.mpr h
  have h1 := Int.emod_nonneg (mix s (k + 1 + j)) (show ((mSome ds here).length : Int) ≠ 0 by omega)
  have h2 := Int.emod_lt_of_pos (mix s (k + 1 + j)) (show (0 : Int) < ((mSome ds here).length : Int) by omega)
  unfold mPick
  generalize he : (mix s (k + 1 + j) % ((mSome ds here).length : Int)).toNat = m
  have hm : m < (mSome ds here).length := by omega
  refine ⟨(mSome ds here)[m], List.getElem_mem hm, ?_, ?_⟩
  · rw [List.getD_eq_getElem?_getD, List.getElem?_eq_getElem hm]; rfl
  · rw [List.getElem?_eq_getElem hm]
theorem mSome_spec {ds : List Deed} {here : Int} {n : Nat} (h : n ∈ mSome ds here) : n < ds.length ∧ (dAt ds n).1 = here := by
  unfold mSome at h
  rw [List.mem_filter, List.mem_range, decide_eq_true_eq] at h
  exact h
theorem step_pick {s : List Int} {k : Int} {ds : List Deed} {here : Int} {j : Nat} (h : (mSome ds here).isEmpty = false) : step ds here (mPick s k ds here j) = some (dAt ds (mPick s k ds here j)).2.2.1 := by
  obtain ⟨n, hn, e, _⟩ := mPick_mem (s := s) (k := k) (j := j) h
  obtain ⟨h1, h2⟩ := mSome_spec hn
  unfold step
  rw [e, if_pos ⟨by omega, by omega, h2⟩]
theorem getLast_snoc {a x : Int} {l : List Int} (h : a :: (l ++ [x]) ≠ []) : (a :: (l ++ [x])).getLast h = x := by
  have e : (a :: (l ++ [x])).getLast? = some x := List.getLast?_concat (l := a :: l)
  rw [List.getLast?_eq_some_getLast h] at e
  exact Option.some.inj e
/-- a row goes on -/
theorem goneL_snoc {ds : List Deed} : ∀ (row : List Int) (here : Int) (l : List Int) (n h : Int), goneL ds here row = some l → step ds ((here :: l).getLast (by simp)) n = some h → goneL ds here (row ++ [n]) = some (l ++ [h])
  | [], here, l, n, h, e, es => by
    cases e
    have es' : step ds here n = some h := es
    show goneL ds here [n] = _
    rw [goneL_some es']
    rfl
  | m :: r, here, l, n, h, e, es => by
    cases e1 : step ds here m with
    | none => rw [goneL_none e1] at e; cases e
    | some h1 =>
      rw [goneL_some e1] at e
      cases e2 : goneL ds h1 r with
      | none => rw [e2] at e; cases e
      | some l2 =>
        rw [e2] at e
        cases e
        have ih := goneL_snoc r h1 l2 n h e2 (by simpa using es)
        show goneL ds here (m :: (r ++ [n])) = _
        rw [goneL_some e1, ih]
        rfl
theorem rowSt_good (s : List Int) (k : Int) (ds : List Deed) : ∀ n, ∃ l, goneL ds 0 (rowSt s k ds n).1 = some l ∧ (0 :: l).getLast (by simp) = (rowSt s k ds n).2 ∧ (rowSt s k ds n).1.length ≤ n
  | 0 => ⟨[], rfl, rfl, by simp [rowSt]⟩
  | n + 1 => by
    obtain ⟨l, h1, h2, h3⟩ := rowSt_good s k ds n
    rw [rowSt_succ]
    unfold rowStep
    cases e : (mSome ds (rowSt s k ds n).2).isEmpty with
    | true => rw [if_pos rfl]; exact ⟨l, h1, h2, by omega⟩
    | false =>
      rw [if_neg Bool.false_ne_true]
      have q := goneL_snoc (rowSt s k ds n).1 0 l _ _ h1 (by rw [h2]; exact step_pick (s := s) (k := k) (j := n) e)
      exact ⟨_, q, getLast_snoc _, by rw [List.length_append, List.length_singleton]; omega⟩
theorem mRow_good (s : List Int) (k : Int) (ds : List Deed) (most : Int) (hm : 0 ≤ most) : ∃ l, goneL ds 0 (mRow s k ds most) = some l ∧ ((mRow s k ds most).length : Int) ≤ most := by
  obtain ⟨l, h1, _, h3⟩ := rowSt_good s k ds (mix s k % (most + 1)).toNat
  have h4 := Int.emod_nonneg (mix s k) (show most + 1 ≠ 0 by omega)
  have h5 := Int.emod_lt_of_pos (mix s k) (show 0 < most + 1 by omega)
  exact ⟨l, h1, by unfold mRow; omega⟩

/-! two machines side by side -/
def bD1 (many : Int) (d : Deed) (q : Int) : Deed := (d.1 * many + q, d.2.1, d.2.2.1 * many + q, d.2.2.2)
def bD2 (k many : Int) (d : Deed) (p : Int) : Deed := (p * many + d.1, k + d.2.1, p * many + d.2.2.1, d.2.2.2)
def bR1 (many : Int) (d : Deed) : List Deed := (List.range many.toNat).map fun (q : Nat) => bD1 many d (q : Int)
def bR2 (p k many : Int) (d : Deed) : List Deed := (List.range p.toNat).map fun (x : Nat) => bD2 k many d (x : Int)
def bRaw (p k : Int) (ds : List Deed) (many : Int) (ds' : List Deed) : List Deed := ds.flatMap (bR1 many) ++ ds'.flatMap (bR2 p k many)
/-- sorted, as often as it stands there -/
def linsD (d : Deed) : List Deed → List Deed
  | [] => [d]
  | x :: xs => if dlt x d then x :: linsD d xs else d :: x :: xs
def isrt : List Deed → List Deed
  | [] => []
  | d :: ds => linsD d (isrt ds)
theorem linsD_perm (d : Deed) : ∀ xs, (linsD d xs).Perm (d :: xs)
  | [] => .refl _
  | x :: xs => by
    unfold linsD
    split
    · exact ((linsD_perm d xs).cons x).trans (.swap d x xs)
    · exact .refl _
theorem isrt_perm : ∀ ds, (isrt ds).Perm ds
  | [] => .refl _
  | d :: ds => (linsD_perm d _).trans ((isrt_perm ds).cons d)
def cB (B : Int) (d : Deed) : Int := TS.code B (dl d)
def BdB (B : Int) (d : Deed) : Prop := TS.Bd B (dl d)
theorem dlt_cB {B : Int} {c d : Deed} (hc : BdB B c) (hd : BdB B d) : dlt c d = true ↔ cB B c < cB B d := lex_code hc hd rfl
theorem linsD_rise {B : Int} {d : Deed} (hd : BdB B d) : ∀ xs, (∀ x ∈ xs, BdB B x) → xs.Pairwise (fun a b => cB B a ≤ cB B b) → (linsD d xs).Pairwise (fun a b => cB B a ≤ cB B b)
  | [], _, _ => by simp [linsD]
  | x :: xs, h, hp => by
    rw [List.pairwise_cons] at hp
    have ih := linsD_rise hd xs (fun y hy => h y (List.mem_cons_of_mem _ hy)) hp.2
    unfold linsD
    split
    · rename_i hl
      have hl := (dlt_cB (h x List.mem_cons_self) hd).mp hl
      rw [List.pairwise_cons]
      refine ⟨fun y hy => ?_, ih⟩
      rcases List.mem_cons.mp ((linsD_perm d xs).mem_iff.mp hy) with rfl | hy
      · omega
      · exact hp.1 y hy
    · rename_i hl
      have hl : ¬ cB B x < cB B d := fun z => hl ((dlt_cB (h x List.mem_cons_self) hd).mpr z)
      rw [List.pairwise_cons, List.pairwise_cons]
      refine ⟨fun y hy => ?_, hp⟩
      rcases List.mem_cons.mp hy with rfl | hy
      · omega
      · have := hp.1 y hy; omega
theorem isrt_rise {B : Int} : ∀ ds, (∀ x ∈ ds, BdB B x) → (isrt ds).Pairwise (fun a b => cB B a ≤ cB B b)
  | [], _ => .nil
  | d :: ds, h => linsD_rise (h d List.mem_cons_self) _ (fun x hx => h x (List.mem_cons_of_mem _ ((isrt_perm ds).mem_iff.mp hx))) (isrt_rise ds fun x hx => h x (List.mem_cons_of_mem _ hx))
theorem isrt_uniq {B : Int} {xs ys : List Deed} (h : xs.Perm ys) (hb : ∀ x ∈ xs, BdB B x) : isrt xs = isrt ys := by
  have hb' : ∀ y ∈ ys, BdB B y := fun y hy => hb y (h.mem_iff.mpr hy)
  refine List.Perm.eq_of_pairwise (le := fun a b => cB B a ≤ cB B b) (fun a b ha hb2 h1 h2 => ?_) (isrt_rise xs hb) (isrt_rise ys hb') (((isrt_perm xs).trans h).trans (isrt_perm ys).symm)
  have a1 := hb a ((isrt_perm xs).mem_iff.mp ha)
  have b1 := hb' b ((isrt_perm ys).mem_iff.mp hb2)
  exact dl_inj (code_inj a1 b1 rfl (by unfold cB at h1 h2; omega))
def bDs (p k : Int) (ds : List Deed) (many : Int) (ds' : List Deed) : List Deed := isrt (bRaw p k ds many ds')
theorem mul_le {a b : Int} {m n : Int} (h1 : 0 ≤ a) (h2 : a ≤ m) (h3 : 0 ≤ b) (h4 : b ≤ n) : 0 ≤ a * b ∧ a * b ≤ m * n :=
  ⟨Int.mul_nonneg h1 h3, Int.le_trans (Int.mul_le_mul_of_nonneg_right h2 h3) (Int.mul_le_mul_of_nonneg_left h4 (Int.le_trans h1 h2))⟩
theorem bRaw_bd {p k many k' : Int} {ds ds' : List Deed} (h : goodM p k ds = true) (h' : goodM many k' ds' = true) : ∀ d ∈ bRaw p k ds many ds', BdB 65536 d := by
  obtain ⟨p1, k1, _, g⟩ := goodM_d h
  obtain ⟨p2, k2, _, g'⟩ := goodM_d h'
  intro d hd
  unfold bRaw at hd
  rcases List.mem_append.mp hd with hd | hd
  · obtain ⟨c, hc, hd⟩ := List.mem_flatMap.mp hd
    obtain ⟨q, hq, rfl⟩ := List.mem_map.mp hd
    have hq := List.mem_range.mp hq
    obtain ⟨c1, c2, c3, c4⟩ := g c hc
    have m1 := mul_le (a := c.1) (b := many) (m := 199) (n := 200) (by omega) (by omega) (by omega) (by omega)
    have m2 := mul_le (a := c.2.2.1) (b := many) (m := 199) (n := 200) (by omega) (by omega) (by omega) (by omega)
    intro m hm
    simp only [dl, bD1, List.mem_cons, List.not_mem_nil, or_false] at hm
    rcases hm with rfl | rfl | rfl | rfl <;> omega
  · obtain ⟨c, hc, hd⟩ := List.mem_flatMap.mp hd
    obtain ⟨q, hq, rfl⟩ := List.mem_map.mp hd
    have hq := List.mem_range.mp hq
    obtain ⟨c1, c2, c3, c4⟩ := g' c hc
    have m1 := mul_le (a := (q : Int)) (b := many) (m := 199) (n := 200) (by omega) (by omega) (by omega) (by omega)
    intro m hm
    simp only [dl, bD2, List.mem_cons, List.not_mem_nil, or_false] at hm
    rcases hm with rfl | rfl | rfl | rfl <;> omega
def besideM (p k : Int) (ds : List Deed) (p' k' : Int) (ds' : List Deed) : Option (Int × Int × List Deed) :=
  if goodM p k ds && (goodM p' k' ds' && goodM (p * p') (k + k') (bDs p k ds p' ds')) then some (p * p', k + k', bDs p k ds p' ds') else none
def bSmall (p : Int) (ds : List Deed) (p' : Int) (ds' : List Deed) : Prop := ds.length * p'.toNat + ds'.length * p.toNat ≤ 10000
theorem bR1_len (many : Int) : ∀ ds : List Deed, (ds.flatMap (bR1 many)).length = ds.length * many.toNat
  | [] => by simp
  | d :: ds => by rw [List.flatMap_cons, List.length_append, bR1_len many ds]; simp [bR1, Nat.add_mul]; omega
theorem bR2_len (p k many : Int) : ∀ ds : List Deed, (ds.flatMap (bR2 p k many)).length = ds.length * p.toNat
  | [] => by simp
  | d :: ds => by rw [List.flatMap_cons, List.length_append, bR2_len p k many ds]; simp [bR2, Nat.add_mul]; omega

/-! machines may be compared -/
theorem okN_deed (d : Deed) : okN 1 (eDeed d) := okN_tup (n := 0) fun x hx => by
  obtain ⟨i, _, rfl⟩ := List.mem_map.mp hx
  exact okN_int
theorem okN_deeds (ds : List Deed) : okN 2 (.lst (ds.map eDeed)) := okN_lst (n := 1) fun x hx => by
  obtain ⟨d, _, rfl⟩ := List.mem_map.mp hx
  exact okN_deed d
theorem okN_mach (p k : Int) (ds : List Deed) : okN 3 (eMach p k ds) := okN_tup (n := 2) fun x hx => by
  simp only [List.mem_cons, List.not_mem_nil, or_false] at hx
  rcases hx with rfl | rfl | rfl
  · exact okN_int
  · exact okN_int
  · exact okN_deeds ds
theorem okN_ints (ns : List Int) : okN 1 (.lst (ns.map .int)) := okN_lst (n := 0) fun x hx => by
  obtain ⟨i, _, rfl⟩ := List.mem_map.mp hx
  exact okN_int
theorem okN_intsT (ns : List Int) : okN 1 (.tup (ns.map .int)) := okN_tup (n := 0) fun x hx => by
  obtain ⟨i, _, rfl⟩ := List.mem_map.mp hx
  exact okN_int
theorem eqD_deed (c d : Deed) : eqD (eDeed c) (eDeed d) = decide (c = d) := by
  obtain ⟨a, b, e, f⟩ := c
  obtain ⟨a', b', e', f'⟩ := d
  show ((a == a') && ((b == b') && ((e == e') && ((f == f') && true)))) = _
  rw [Bool.eq_iff_iff]
  simp [Prod.ext_iff, and_assoc]
theorem idx_no {l : List Deed} {d : Deed} {j : Nat} (h : ∀ (m : Nat) (z : Deed), m < j → l[m]? = some z → z ≠ d) (m : Nat) (z' : D) (hm : m < j) (hz : (l.map eDeed)[m]? = some z') : eqD z' (eDeed d) = false := by
  rw [List.getElem?_map] at hz
  cases w : l[m]? with
  | none => rw [w] at hz; cases hz
  | some c =>
    rw [w] at hz
    cases hz
    rw [eqD_deed]
    exact decide_eq_false (h m c hm w)
theorem costL_cons (ds : List Deed) (n : Int) (r : List Int) : costL ds (n :: r) = (dAt ds n).2.2.2 + costL ds r := by
  unfold costL
  rw [List.map_cons, List.sum_cons]

/-! places that can be come to -/
inductive Reach (ds : List Deed) : Int → Prop where
  | zero : Reach ds 0
  | go {d : Deed} : d ∈ ds → Reach ds d.1 → Reach ds d.2.2.1
noncomputable def rB (p : Int) (ds : List Deed) : List Bool := (List.range p.toNat).map fun (v : Nat) => @decide (Reach ds (v : Int)) (Classical.propDecidable _)
theorem rB_len (p : Int) (ds : List Deed) : (rB p ds).length = p.toNat := by simp [rB]
theorem rB_get {p : Int} {ds : List Deed} {v : Nat} (h : v < p.toNat) : (rB p ds)[v]? = some (@decide (Reach ds (v : Int)) (Classical.propDecidable _)) := by
  unfold rB
  rw [List.getElem?_map, List.getElem?_range h]; rfl
/-- is v come to? -/
noncomputable def isR (ds : List Deed) (v : Int) : Bool := @decide (Reach ds v) (Classical.propDecidable _)
theorem isR_iff {ds : List Deed} {v : Int} : isR ds v = true ↔ Reach ds v := by unfold isR; exact @decide_eq_true_iff _ (Classical.propDecidable _)
theorem isR_of {ds : List Deed} {v : Int} {b : Bool} (h : b = true ↔ Reach ds v) : b = isR ds v := by
  rw [Bool.eq_iff_iff, h, isR_iff]
theorem rB_ix {p : Int} {ds : List Deed} {v : Int} (h0 : 0 ≤ v) (h1 : v < p) : ixD (.lst ((rB p ds).map .bl)) v = some (.bl (isR ds v)) := by
  refine ix_map ?_
  have hl : v < ((rB p ds).length : Nat) := by rw [rB_len]; omega
  rw [atI_ge h0 hl, ← List.getElem?_eq_getElem, rB_get (by omega), Int.toNat_of_nonneg h0]; rfl
/-- one deed of one turn -/
def dfs (here : Int) (st : List Bool × List Int) (d : Deed) : List Bool × List Int :=
  if d.1 = here ∧ st.1.getD d.2.2.1.toNat true = false then (st.1.set d.2.2.1.toNat true, st.2 ++ [d.2.2.1]) else st
def dfsAll (ds : List Deed) (here : Int) (st : List Bool × List Int) : List Bool × List Int := ds.foldl (dfs here) st
def on (found : List Bool) (v : Int) : Prop := 0 ≤ v ∧ found[v.toNat]? = some true
def msr (st : List Bool × List Int) : Nat := 2 * st.1.count false + st.2.length
structure DInv (p : Int) (ds : List Deed) (pend : Int → Prop) (st : List Bool × List Int) : Prop where
  len : (st.1.length : Int) = p
  ok : ∀ v : Int, on st.1 v → Reach ds v
  lf : ∀ v ∈ st.2, (0 ≤ v ∧ v < p) ∧ on st.1 v
  cl : ∀ d ∈ ds, on st.1 d.1 → d.1 ∈ st.2 ∨ on st.1 d.2.2.1 ∨ pend d.1
  z : on st.1 0
theorem count_set {l : List Bool} {i : Nat} (h : l.getD i true = false) : (l.set i true).count false + 1 = l.count false := by
  induction l generalizing i with
  | nil => simp at h
  | cons x xs ih =>
    cases i with
    | zero =>
      simp at h
      subst h
      simp
    | succ i =>
      have h' : xs.getD i true = false := by simpa using h
      have := ih h'
      rw [List.set_cons_succ, List.count_cons, List.count_cons]
      omega
theorem on_set {l : List Bool} {i : Nat} (hi : i < l.length) {v : Int} : on (l.set i true) v ↔ 0 ≤ v ∧ (v.toNat = i ∨ on l v) := by
  unfold on
  rw [List.getElem?_set]
  by_cases e : i = v.toNat
  · rw [if_pos e, if_pos (by omega)]; simp [e]
  · rw [if_neg e]
    constructor
    · rintro ⟨a, b⟩; exact ⟨a, .inr ⟨a, b⟩⟩
    · rintro ⟨a, b | b⟩
      · exact absurd b.symm e
      · exact b
theorem dfs_msr (here : Int) (st : List Bool × List Int) (d : Deed) : msr (dfs here st d) ≤ msr st := by
  unfold dfs
  split
  · rename_i h
    have := count_set h.2
    unfold msr
    simp only [List.length_append, List.length_singleton]
    omega
  · exact Nat.le_refl _
theorem dfsAll_msr (here : Int) : ∀ (ds : List Deed) (st : List Bool × List Int), msr (dfsAll ds here st) ≤ msr st
  | [], _ => Nat.le_refl _
  | d :: ds, st => Nat.le_trans (dfsAll_msr here ds (dfs here st d)) (dfs_msr here st d)
theorem getD_on {l : List Bool} {v : Int} (h0 : 0 ≤ v) (h1 : v < l.length) : l.getD v.toNat true = true ↔ on l v := by
  unfold on
  rw [List.getD_eq_getElem?_getD, List.getElem?_eq_getElem (by omega)]
  simp [h0]
/-- one deed keeps what is true -/
theorem dfs_inv {p : Int} {ds : List Deed} {here : Int} {pend : Int → Prop} {st : List Bool × List Int} {d : Deed} (hd : d ∈ ds) (hb : 0 ≤ d.2.2.1 ∧ d.2.2.1 < p) (hr : Reach ds here) (I : DInv p ds pend st) :
    DInv p ds pend (dfs here st d) ∧ (∀ v, on st.1 v → on (dfs here st d).1 v) ∧ (d.1 = here → on (dfs here st d).1 d.2.2.1) := by
  have hl := I.len
  unfold dfs
  split
  · rename_i h
    have hi : d.2.2.1.toNat < st.1.length := by omega
    have up : ∀ v, on st.1 v → on (st.1.set d.2.2.1.toNat true) v := fun v hv => (on_set hi).mpr ⟨hv.1, .inr hv⟩
    have me : on (st.1.set d.2.2.1.toNat true) d.2.2.1 := (on_set hi).mpr ⟨hb.1, .inl rfl⟩
    refine ⟨⟨by simpa using hl, fun v hv => ?_, fun v hv => ?_, fun c hc hv => ?_, up 0 I.z⟩, up, fun _ => me⟩
    · obtain ⟨h0, e | h1⟩ := (on_set hi).mp hv
      · have : v = d.2.2.1 := by omega
        rw [this]
        exact .go hd (by rw [h.1]; exact hr)
      · exact I.ok v h1
    · rcases List.mem_append.mp hv with hv | hv
      · exact ⟨(I.lf v hv).1, up v (I.lf v hv).2⟩
      · rw [List.mem_singleton] at hv
        subst hv
        exact ⟨hb, me⟩
    · obtain ⟨h0, e | h1⟩ := (on_set hi).mp hv
      · have : c.1 = d.2.2.1 := by omega
        exact .inl (List.mem_append_right _ (by rw [this]; exact List.mem_singleton_self _))
      · rcases I.cl c hc h1 with q | q | q
        · exact .inl (List.mem_append_left _ q)
        · exact .inr (.inl (up _ q))
        · exact .inr (.inr q)
  · rename_i h
    refine ⟨I, fun v hv => hv, fun e => ?_⟩
    refine (getD_on hb.1 (by omega)).mp ?_
    cases q : st.1.getD d.2.2.1.toNat true with
    | true => rfl
    | false => exact absurd ⟨e, q⟩ h
theorem dfsAll_inv {p : Int} {ds : List Deed} {here : Int} {pend : Int → Prop} (hb : ∀ d ∈ ds, 0 ≤ d.2.2.1 ∧ d.2.2.1 < p) (hr : Reach ds here) : ∀ (xs : List Deed) (st : List Bool × List Int), (∀ d ∈ xs, d ∈ ds) → DInv p ds pend st →
    DInv p ds pend (dfsAll xs here st) ∧ (∀ v, on st.1 v → on (dfsAll xs here st).1 v) ∧ (∀ d ∈ xs, d.1 = here → on (dfsAll xs here st).1 d.2.2.1)
  | [], st, _, I => ⟨I, fun v h => h, fun d hd => by cases hd⟩
  | d :: xs, st, hm, I => by
    obtain ⟨I1, u1, m1⟩ := dfs_inv (hm d List.mem_cons_self) (hb d (hm d List.mem_cons_self)) hr I
    obtain ⟨I2, u2, m2⟩ := dfsAll_inv hb hr xs (dfs here st d) (fun c hc => hm c (List.mem_cons_of_mem _ hc)) I1
    refine ⟨I2, fun v h => u2 v (u1 v h), fun c hc e => ?_⟩
    rcases List.mem_cons.mp hc with rfl | hc
    · exact u2 _ (m1 e)
    · exact m2 c hc e
/-- one turn -/
theorem turn_inv {p : Int} {ds : List Deed} {f : List Bool} {l : List Int} {here : Int} (hb : ∀ d ∈ ds, 0 ≤ d.2.2.1 ∧ d.2.2.1 < p) (I : DInv p ds (fun _ => False) (f, l ++ [here])) : DInv p ds (fun _ => False) (dfsAll ds here (f, l)) := by
  have I0 : DInv p ds (fun v => v = here) (f, l) := ⟨I.len, I.ok, fun v hv => I.lf v (List.mem_append_left _ hv), fun d hd h => by
    rcases I.cl d hd h with q | q | q
    · rcases List.mem_append.mp q with q | q
      · exact .inl q
      · exact .inr (.inr (List.mem_singleton.mp q))
    · exact .inr (.inl q)
    · exact q.elim, I.z⟩
  have hr : Reach ds here := I.ok _ (I.lf here (List.mem_append_right _ (List.mem_singleton_self _))).2
  obtain ⟨I1, u1, m1⟩ := dfsAll_inv hb hr ds (f, l) (fun d h => h) I0
  exact ⟨I1.len, I1.ok, I1.lf, fun d hd h => by
    rcases I1.cl d hd h with q | q | q
    · exact .inl q
    · exact .inr (.inl q)
    · exact .inr (.inl (m1 d hd q)), I1.z⟩
theorem turn_msr {ds : List Deed} {f : List Bool} {l : List Int} {here : Int} : msr (dfsAll ds here (f, l)) < msr (f, l ++ [here]) := by
  have := dfsAll_msr here ds (f, l)
  unfold msr at this ⊢
  simp only [List.length_append, List.length_singleton] at this ⊢
  omega
theorem start_inv {p : Int} {ds : List Deed} (hp : 1 ≤ p) : DInv p ds (fun _ => False) ((List.replicate p.toNat false).set 0 true, [0]) := by
  have hi : 0 < (List.replicate p.toNat false).length := by simp; omega
  have z : on ((List.replicate p.toNat false).set 0 true) 0 := (on_set hi).mpr ⟨by decide, .inl rfl⟩
  have only : ∀ v : Int, on ((List.replicate p.toNat false).set 0 true) v → v = 0 := fun v hv => by
    obtain ⟨h0, e | h1⟩ := (on_set hi).mp hv
    · omega
    · have := h1.2
      rw [List.getElem?_replicate] at this
      split at this <;> cases this
  refine ⟨by simp; omega, fun v hv => ?_, fun v hv => ?_, fun d hd h => ?_, z⟩
  · rw [only v hv]; exact .zero
  · rw [List.mem_singleton] at hv; subst hv; exact ⟨⟨by decide, by omega⟩, z⟩
  · rw [only _ h]; exact .inl (List.mem_singleton_self _)
/-- what stands there at the end -/
theorem end_inv {p : Int} {ds : List Deed} {f : List Bool} (I : DInv p ds (fun _ => False) (f, [])) : f = rB p ds := by
  have cl : ∀ v : Int, Reach ds v → on f v := fun v hv => by
    induction hv with
    | zero => exact I.z
    | go hd _ ih =>
      rcases I.cl _ hd ih with q | q | q
      · cases q
      · exact q
      · exact q.elim
  have hl : (f.length : Int) = p := I.len
  have ok : ∀ v : Int, on f v → Reach ds v := I.ok
  apply List.ext_getElem?
  intro i
  by_cases hi : i < p.toNat
  · rw [rB_get hi, List.getElem?_eq_getElem (by omega)]
    congr 1
    refine isR_of (ds := ds) (v := (i : Int)) ⟨fun h => ok _ ⟨by omega, ?_⟩, fun h => ?_⟩
    · rw [Int.toNat_natCast, List.getElem?_eq_getElem (by omega), h]
    · have := (cl _ h).2
      rw [Int.toNat_natCast, List.getElem?_eq_getElem (by omega)] at this
      exact Option.some.inj this
  · rw [List.getElem?_eq_none (by omega), List.getElem?_eq_none (by rw [rB_len]; omega)]

/-! rings of deeds that gain: the walk over all deeds again and again -/
def src (ds : List Deed) (e : Int) : Int := (dAt ds e).1
def dst (ds : List Deed) (e : Int) : Int := (dAt ds e).2.2.1
def wt (sm : List Int) (e : Int) : Int := sm.getD e.toNat 0
def gI (l : List Int) (v : Int) : Int := l.getD v.toNat 0
def gO (l : List (Option Int)) (v : Int) : Option Int := l.getD v.toNat none
abbrev RSt := List Int × List (Option Int) × Option Int
def relax (ds : List Deed) (sm : List Int) (s : RSt) (e : Int) : RSt :=
  if gI s.1 (dst ds e) < gI s.1 (src ds e) + wt sm e then (s.1.set (dst ds e).toNat (gI s.1 (src ds e) + wt sm e), s.2.1.set (dst ds e).toNat (some e), some (dst ds e)) else s
def pass (ds : List Deed) (sm ns : List Int) (s : RSt) : RSt := ns.foldl (relax ds sm) (s.1, s.2.1, none)
def passes (ds : List Deed) (sm ns : List Int) : Nat → RSt → RSt
  | 0, s => s
  | n + 1, s => passes ds sm ns n (pass ds sm ns s)
def upF (f : Int → Nat) (v : Int) (x : Nat) : Int → Nat := fun u => if u = v then x else f u
theorem upF_same {f : Int → Nat} {v : Int} {x : Nat} : upF f v x v = x := if_pos rfl
theorem upF_ne {f : Int → Nat} {u v : Int} {x : Nat} (h : u ≠ v) : upF f v x u = f u := if_neg h
theorem gI_set {l : List Int} {v u x : Int} (hv : 0 ≤ v) (hl : v < l.length) (hu : 0 ≤ u) : gI (l.set v.toNat x) u = if u = v then x else gI l u := by
  unfold gI
  rw [List.getD_eq_getElem?_getD, List.getElem?_set, List.getD_eq_getElem?_getD]
  by_cases e : u = v
  · subst e
    rw [if_pos rfl, if_pos (by omega), if_pos rfl]; rfl
  · rw [if_neg (by omega), if_neg e]
theorem gO_set {l : List (Option Int)} {v u : Int} {x : Option Int} (hv : 0 ≤ v) (hl : v < l.length) (hu : 0 ≤ u) : gO (l.set v.toNat x) u = if u = v then x else gO l u := by
  unfold gO
  rw [List.getD_eq_getElem?_getD, List.getElem?_set, List.getD_eq_getElem?_getD]
  by_cases e : u = v
  · subst e
    rw [if_pos rfl, if_pos (by omega), if_pos rfl]; rfl
  · rw [if_neg (by omega), if_neg e]
structure RInv (p : Int) (ds : List Deed) (sm ns : List Int) (k : Nat) (pre suf : List Int) (s : RSt) (t tau : Int → Nat) (clock : Nat) : Prop where
  lb : (s.1.length : Int) = p
  ll : (s.2.1.length : Int) = p
  a : ∀ e ∈ pre, t (src ds e) = k ∨ gI s.1 (src ds e) + wt sm e ≤ gI s.1 (dst ds e)
  su : ∀ e ∈ suf, k ≤ t (src ds e) + 1 ∨ gI s.1 (src ds e) + wt sm e ≤ gI s.1 (dst ds e)
  b : ∀ v, 0 ≤ v → v < p → ∀ e, gO s.2.1 v = some e → e ∈ ns ∧ dst ds e = v ∧ t v ≤ t (src ds e) + 1 ∧ gI s.1 v ≤ gI s.1 (src ds e) + wt sm e ∧ (tau v ≤ tau (src ds e) → gI s.1 v < gI s.1 (src ds e) + wt sm e)
  n : ∀ v, 0 ≤ v → v < p → 1 ≤ t v → ∃ e, gO s.2.1 v = some e
  tk : ∀ v, t v ≤ k
  tc : ∀ v, tau v ≤ clock
  c : ∀ v, 0 ≤ v → v < p → t v = k → s.2.2 ≠ none
  c2 : ∀ v, s.2.2 = some v → (0 ≤ v ∧ v < p) ∧ t v = k
theorem relax_inv {p : Int} {ds : List Deed} {sm ns : List Int} {k : Nat} {pre suf : List Int} {e : Int} {s : RSt} {t tau : Int → Nat} {clock : Nat} (hk : 1 ≤ k) (he : e ∈ ns) (hs : 0 ≤ src ds e ∧ src ds e < p) (hd : 0 ≤ dst ds e ∧ dst ds e < p)
    (hall : ∀ e ∈ ns, (0 ≤ src ds e ∧ src ds e < p) ∧ (0 ≤ dst ds e ∧ dst ds e < p)) (hpre : ∀ e ∈ pre, e ∈ ns) (hsuf : ∀ e ∈ suf, e ∈ ns)
    (I : RInv p ds sm ns k pre (e :: suf) s t tau clock) : ∃ t' tau' clock', RInv p ds sm ns k (pre ++ [e]) suf (relax ds sm s e) t' tau' clock' := by
  obtain ⟨b, l, ch⟩ := s
  have lb : (b.length : Int) = p := I.lb
  have ll : (l.length : Int) = p := I.ll
  unfold relax
  by_cases h : gI b (dst ds e) < gI b (src ds e) + wt sm e
  · rw [if_pos h]
    have gb : ∀ u, 0 ≤ u → gI (b.set (dst ds e).toNat (gI b (src ds e) + wt sm e)) u = if u = dst ds e then gI b (src ds e) + wt sm e else gI b u := fun u hu => gI_set hd.1 (by omega) hu
    have gl : ∀ u, 0 ≤ u → gO (l.set (dst ds e).toNat (some e)) u = if u = dst ds e then some e else gO l u := fun u hu => gO_set hd.1 (by omega) hu
    have tks : k ≤ t (src ds e) + 1 := by
      rcases I.su e List.mem_cons_self with q | q
      · exact q
      · simp only at q; omega
    refine ⟨upF t (dst ds e) k, upF tau (dst ds e) (clock + 1), clock + 1, ⟨by simpa using lb, by simpa using ll, ?_, ?_, ?_, ?_, ?_, ?_, ?_, ?_⟩⟩
    · intro c hc
      have hcn : c ∈ ns := by
        rcases List.mem_append.mp hc with hc | hc
        · exact hpre c hc
        · rw [List.mem_singleton] at hc; rw [hc]; exact he
      obtain ⟨cs, cd⟩ := hall c hcn
      by_cases e1 : src ds c = dst ds e
      · left; rw [e1, upF_same]
      · rw [upF_ne e1]
        simp only
        rw [gb _ cs.1, gb _ cd.1, if_neg e1]
        rcases List.mem_append.mp hc with hc | hc
        · rcases I.a c hc with q | q
          · exact .inl q
          · right
            simp only at q
            split
            · rename_i e2; rw [e2] at q; omega
            · exact q
        · rw [List.mem_singleton] at hc
          subst hc
          right
          rw [if_pos rfl]
          exact Int.le_refl _
    · intro c hc
      obtain ⟨cs, cd⟩ := hall c (hsuf c hc)
      by_cases e1 : src ds c = dst ds e
      · left; rw [e1, upF_same]; omega
      · rw [upF_ne e1]
        simp only
        rw [gb _ cs.1, gb _ cd.1, if_neg e1]
        rcases I.su c (List.mem_cons_of_mem _ hc) with q | q
        · exact .inl q
        · right
          simp only at q
          split
          · rename_i e2; rw [e2] at q; omega
          · exact q
    · intro v h0 h1 c hc
      simp only at hc ⊢
      rw [gl v h0] at hc
      split at hc
      · rename_i e1
        cases hc
        refine ⟨he, e1.symm, ?_, ?_, ?_⟩
        · rw [e1, upF_same]
          by_cases e2 : src ds e = dst ds e
          · rw [e2, upF_same]; omega
          · rw [upF_ne e2]; exact tks
        · rw [gb v h0, if_pos e1, gb _ hs.1]
          split
          · rename_i e2; rw [e2] at h; rw [e2]; omega
          · exact Int.le_refl _
        · rw [gb v h0, if_pos e1, gb _ hs.1, e1, upF_same]
          by_cases e2 : src ds e = dst ds e
          · rw [e2, if_pos rfl]; rw [e2] at h; intro _; omega
          · rw [upF_ne e2]
            intro q
            have := I.tc (src ds e)
            omega
      · rename_i e1
        obtain ⟨q1, q2, q3, q4, q5⟩ := I.b v h0 h1 c hc
        simp only at q4 q5
        obtain ⟨cs, cd⟩ := hall c q1
        refine ⟨q1, q2, ?_, ?_, ?_⟩
        · rw [upF_ne e1]
          by_cases e2 : src ds c = dst ds e
          · rw [e2, upF_same]; have := I.tk v; omega
          · rw [upF_ne e2]; exact q3
        · rw [gb v h0, if_neg e1, gb _ cs.1]
          split
          · rename_i e2; rw [e2] at q4; omega
          · exact q4
        · rw [upF_ne e1, gb v h0, if_neg e1, gb _ cs.1]
          by_cases e2 : src ds c = dst ds e
          · rw [if_pos e2]; rw [e2] at q4; intro _; omega
          · rw [upF_ne e2, if_neg e2]; exact q5
    · intro v h0 h1 ht
      simp only
      rw [gl v h0]
      by_cases e1 : v = dst ds e
      · rw [if_pos e1]; exact ⟨e, rfl⟩
      · rw [if_neg e1]
        rw [upF_ne e1] at ht
        exact I.n v h0 h1 ht
    · intro v
      by_cases e1 : v = dst ds e
      · rw [e1, upF_same]; exact Nat.le_refl _
      · rw [upF_ne e1]; exact I.tk v
    · intro v
      by_cases e1 : v = dst ds e
      · rw [e1, upF_same]; exact Nat.le_refl _
      · rw [upF_ne e1]; have := I.tc v; omega
    · intro v _ _ _ z; cases z
    · intro v z
      cases z
      exact ⟨hd, upF_same⟩
  · rw [if_neg h]
    refine ⟨t, tau, clock, ⟨lb, ll, fun c hc => ?_, fun c hc => I.su c (List.mem_cons_of_mem _ hc), I.b, I.n, I.tk, I.tc, I.c, I.c2⟩⟩
    rcases List.mem_append.mp hc with hc | hc
    · exact I.a c hc
    · rw [List.mem_singleton] at hc
      subst hc
      right
      simp only
      omega
theorem fold_inv {p : Int} {ds : List Deed} {sm ns : List Int} {k : Nat} (hk : 1 ≤ k) (hall : ∀ e ∈ ns, (0 ≤ src ds e ∧ src ds e < p) ∧ (0 ≤ dst ds e ∧ dst ds e < p)) : ∀ (suf pre : List Int) (s : RSt) (t tau : Int → Nat) (clock : Nat), (∀ e ∈ pre, e ∈ ns) → (∀ e ∈ suf, e ∈ ns) →
    RInv p ds sm ns k pre suf s t tau clock → ∃ t' tau' clock', RInv p ds sm ns k (pre ++ suf) [] (suf.foldl (relax ds sm) s) t' tau' clock'
  | [], pre, s, t, tau, clock, _, _, I => ⟨t, tau, clock, by rw [List.append_nil]; exact I⟩
  | e :: suf, pre, s, t, tau, clock, hp, hs, I => by
    have he := hs e List.mem_cons_self
    obtain ⟨t', tau', c', I'⟩ := relax_inv hk he (hall e he).1 (hall e he).2 hall hp (fun x hx => hs x (List.mem_cons_of_mem _ hx)) I
    have q := fold_inv hk hall suf (pre ++ [e]) _ t' tau' c' (fun x hx => by
      rcases List.mem_append.mp hx with hx | hx
      · exact hp x hx
      · rw [List.mem_singleton] at hx; rw [hx]; exact he) (fun x hx => hs x (List.mem_cons_of_mem _ hx)) I'
    rw [List.append_assoc] at q
    exact q
theorem next_inv {p : Int} {ds : List Deed} {sm ns : List Int} {k : Nat} {s : RSt} {t tau : Int → Nat} {clock : Nat} (I : RInv p ds sm ns k ns [] s t tau clock) : RInv p ds sm ns (k + 1) [] ns (s.1, s.2.1, none) t tau clock where
  lb := I.lb
  ll := I.ll
  a := fun e he => by cases he
  su := fun e he => by
    rcases I.a e he with q | q
    · exact .inl (by omega)
    · exact .inr q
  b := I.b
  n := I.n
  tk := fun v => by have := I.tk v; omega
  tc := I.tc
  c := fun v _ _ h => by have := I.tk v; omega
  c2 := fun v h => by cases h
theorem passes_inv {p : Int} {ds : List Deed} {sm ns : List Int} (hall : ∀ e ∈ ns, (0 ≤ src ds e ∧ src ds e < p) ∧ (0 ≤ dst ds e ∧ dst ds e < p)) : ∀ (n k : Nat) (s : RSt) (t tau : Int → Nat) (clock : Nat), 1 ≤ k → RInv p ds sm ns k [] ns (s.1, s.2.1, none) t tau clock →
    ∃ t' tau' clock', RInv p ds sm ns (k + n) ns [] (passes ds sm ns (n + 1) s) t' tau' clock'
  | 0, k, s, t, tau, clock, hk, I => by
    obtain ⟨t', tau', c', q⟩ := fold_inv hk hall ns [] _ t tau clock (fun _ h => by cases h) (fun _ h => h) I
    exact ⟨t', tau', c', q⟩
  | n + 1, k, s, t, tau, clock, hk, I => by
    obtain ⟨t', tau', c', q⟩ := fold_inv hk hall ns [] _ t tau clock (fun _ h => by cases h) (fun _ h => h) I
    have r := passes_inv hall n (k + 1) (pass ds sm ns s) t' tau' c' (by omega) (next_inv q)
    rw [show k + 1 + n = k + (n + 1) by omega] at r
    exact r
def rStart (p : Int) : RSt := (List.replicate p.toNat 0, List.replicate p.toNat none, none)
def rEnd (p : Int) (ds : List Deed) (sm ns : List Int) : RSt := passes ds sm ns (p.toNat + 1) (rStart p)
theorem rEnd_inv {p : Int} {ds : List Deed} {sm ns : List Int} (hp : 1 ≤ p) (hall : ∀ e ∈ ns, (0 ≤ src ds e ∧ src ds e < p) ∧ (0 ≤ dst ds e ∧ dst ds e < p)) : ∃ t tau clock, RInv p ds sm ns (p.toNat + 1) ns [] (rEnd p ds sm ns) t tau clock := by
  have I : RInv p ds sm ns 1 [] ns ((rStart p).1, (rStart p).2.1, none) (fun _ => 0) (fun _ => 0) 0 := by
    refine ⟨(by simp [rStart]; omega), (by simp [rStart]; omega), (fun e h => by cases h), (fun e h => .inl (Nat.le_refl _)), (fun v h0 h1 e he => ?_), (fun v _ _ h => by omega), (fun v => Nat.zero_le _), (fun v => Nat.le_refl _), (fun v _ _ h => by cases h), (fun v h => by cases h)⟩
    unfold gO rStart at he
    simp only [List.getD_eq_getElem?_getD, List.getElem?_replicate] at he
    split at he <;> cases he
  have q := passes_inv hall p.toNat 1 (rStart p) _ _ _ (by omega) I
  rw [Nat.add_comm 1] at q
  exact q
/-- nothing changed at last: what stands is a height that no deed beats -/
theorem ring_none {p : Int} {ds : List Deed} {sm ns : List Int} (hp : 1 ≤ p) (hall : ∀ e ∈ ns, (0 ≤ src ds e ∧ src ds e < p) ∧ (0 ≤ dst ds e ∧ dst ds e < p)) (h : (rEnd p ds sm ns).2.2 = none) : ∀ e ∈ ns, gI (rEnd p ds sm ns).1 (src ds e) + wt sm e ≤ gI (rEnd p ds sm ns).1 (dst ds e) := by
  obtain ⟨t, tau, clock, I⟩ := rEnd_inv (sm := sm) hp hall
  intro e he
  rcases I.a e he with q | q
  · exact absurd h (I.c _ (hall e he).1.1 (hall e he).1.2 q)
  · exact q
/-- the place that the last deed came from -/
def prv (ds : List Deed) (l : List (Option Int)) (v : Int) : Int := match gO l v with
  | some e => src ds e
  | none => v
def prvN (ds : List Deed) (l : List (Option Int)) : Nat → Int → Int
  | 0, v => v
  | n + 1, v => prvN ds l n (prv ds l v)
theorem prvN_succ (ds : List Deed) (l : List (Option Int)) : ∀ (n : Nat) (v : Int), prvN ds l (n + 1) v = prv ds l (prvN ds l n v)
  | 0, _ => rfl
  | n + 1, v => by
    rw [prvN, prvN_succ ds l n]; rfl
theorem prvN_add (ds : List Deed) (l : List (Option Int)) (v : Int) : ∀ (m n : Nat), prvN ds l (m + n) v = prvN ds l n (prvN ds l m v)
  | m, 0 => rfl
  | m, n + 1 => by rw [← Nat.add_assoc, prvN_succ, prvN_succ, prvN_add ds l v m n]
/-- more places than there are: one of them twice -/
theorem pigeon : ∀ (p : Nat) (f : Nat → Int), (∀ i, i ≤ p → 0 ≤ f i ∧ f i < p) → ∃ i j, i < j ∧ j ≤ p ∧ f i = f j := by
  intro p
  induction p with
  | zero => intro f h; have := h 0 (Nat.le_refl _); omega
  | succ p ih =>
    intro f h
    by_cases hx : ∃ i, i ≤ p ∧ f i = f (p + 1)
    · obtain ⟨i, hi, e⟩ := hx
      exact ⟨i, p + 1, by omega, Nat.le_refl _, e⟩
    · have hne : ∀ i, i ≤ p → f i ≠ f (p + 1) := fun i hi e => hx ⟨i, hi, e⟩
      obtain ⟨i, j, h1, h2, h3⟩ := ih (fun i => if f i < f (p + 1) then f i else f i - 1) (fun i hi => by
        have a := h i (by omega)
        have b := h (p + 1) (Nat.le_refl _)
        have c := hne i hi
        split <;> omega)
      refine ⟨i, j, h1, by omega, ?_⟩
      have a := hne i (by omega)
      have b := hne j (by omega)
      split at h3 <;> split at h3 <;> omega
structure RLoop (p : Int) (ds : List Deed) (sm ns : List Int) (s : RSt) (here : Int) (c : Nat) : Prop where
  pos : 1 ≤ c
  le : (c : Int) ≤ p
  back : prvN ds s.2.1 c here = here
  some : ∀ m, ∃ e, gO s.2.1 (prvN ds s.2.1 m here) = some e ∧ e ∈ ns ∧ dst ds e = prvN ds s.2.1 m here
  inR : 0 ≤ here ∧ here < p
theorem ring_loop {p : Int} {ds : List Deed} {sm ns : List Int} {v0 : Int} (hp : 1 ≤ p) (hall : ∀ e ∈ ns, (0 ≤ src ds e ∧ src ds e < p) ∧ (0 ≤ dst ds e ∧ dst ds e < p)) (h : (rEnd p ds sm ns).2.2 = some v0) :
    (∀ m, m ≤ p.toNat → ∃ e, gO (rEnd p ds sm ns).2.1 (prvN ds (rEnd p ds sm ns).2.1 m v0) = some e ∧ e ∈ ns) ∧ (0 ≤ v0 ∧ v0 < p) ∧ ∃ c, RLoop p ds sm ns (rEnd p ds sm ns) (prvN ds (rEnd p ds sm ns).2.1 p.toNat v0) c := by
  obtain ⟨t, tau, clock, I⟩ := rEnd_inv (sm := sm) hp hall
  generalize rEnd p ds sm ns = s at *
  obtain ⟨hv, ht⟩ := I.c2 v0 h
  have key : ∀ m, m ≤ p.toNat → (0 ≤ prvN ds s.2.1 m v0 ∧ prvN ds s.2.1 m v0 < p) ∧ p.toNat + 1 ≤ t (prvN ds s.2.1 m v0) + m := by
    intro m
    induction m with
    | zero => intro _; exact ⟨hv, by rw [prvN]; omega⟩
    | succ m ih =>
      intro hm
      obtain ⟨a, b⟩ := ih (by omega)
      obtain ⟨e, he⟩ := I.n _ a.1 a.2 (by omega)
      obtain ⟨q1, q2, q3, _⟩ := I.b _ a.1 a.2 e he
      have : prvN ds s.2.1 (m + 1) v0 = src ds e := by rw [prvN_succ]; unfold prv; rw [he]
      rw [this]
      exact ⟨(hall e q1).1, by omega⟩
  have ex : ∀ m, m ≤ p.toNat → ∃ e, gO s.2.1 (prvN ds s.2.1 m v0) = some e ∧ e ∈ ns ∧ dst ds e = prvN ds s.2.1 m v0 := fun m hm => by
    obtain ⟨a, b⟩ := key m hm
    obtain ⟨e, he⟩ := I.n _ a.1 a.2 (by omega)
    obtain ⟨q1, q2, _⟩ := I.b _ a.1 a.2 e he
    exact ⟨e, he, q1, q2⟩
  refine ⟨fun m hm => by obtain ⟨e, a, b, _⟩ := ex m hm; exact ⟨e, a, b⟩, hv, ?_⟩
  obtain ⟨i, j, h1, h2, h3⟩ := pigeon p.toNat (fun m => prvN ds s.2.1 m v0) (fun i hi => by have := (key i hi).1; omega)
  have per : ∀ m, prvN ds s.2.1 (i + m) v0 = prvN ds s.2.1 (i + m + (j - i)) v0 := by
    intro m
    rw [show i + m + (j - i) = j + m by omega, prvN_add, prvN_add, h3]
  have small : ∀ m, ∃ m', m' ≤ p.toNat ∧ prvN ds s.2.1 m v0 = prvN ds s.2.1 m' v0 := by
    intro m
    induction m using Nat.strongRecOn with
    | ind m ih =>
      by_cases hm : m ≤ p.toNat
      · exact ⟨m, hm, rfl⟩
      · obtain ⟨m', a, b⟩ := ih (m - (j - i)) (by omega)
        refine ⟨m', a, ?_⟩
        rw [← b]
        have := per (m - (j - i) - i)
        rw [show i + (m - (j - i) - i) = m - (j - i) by omega, show m - (j - i) + (j - i) = m by omega] at this
        exact this.symm
  refine ⟨j - i, ⟨by omega, by omega, ?_, fun m => ?_, (key _ (Nat.le_refl _)).1⟩⟩
  · rw [← prvN_add]
    have := per (p.toNat - i)
    rw [show i + (p.toNat - i) = p.toNat by omega] at this
    exact this.symm
  · rw [← prvN_add]
    obtain ⟨m', a, b⟩ := small (p.toNat + m)
    rw [b]
    exact ex m' a
/-- the ring, deed by deed from behind -/
def back (ds : List Deed) (l : List (Option Int)) (here : Int) : Nat → Int → List Int → List Int
  | 0, _, found => found
  | n + 1, v, found => match gO l v with
    | none => found
    | some e => if src ds e = here then e :: found else back ds l here n (src ds e) (e :: found)
def wsum (sm : List Int) (row : List Int) : Int := (row.map (wt sm)).sum
theorem wsum_cons (sm : List Int) (e : Int) (row : List Int) : wsum sm (e :: row) = wt sm e + wsum sm row := by
  unfold wsum; rw [List.map_cons, List.sum_cons]
/-- a row from a place to a place, of deeds of ns -/
def Row (ds : List Deed) (ns : List Int) (a b : Int) (row : List Int) : Prop := (∀ e ∈ row, e ∈ ns) ∧ ∃ l, goneL ds a row = some l ∧ (a :: l).getLast? = some b
theorem Row.nil {ds : List Deed} {ns : List Int} {a : Int} : Row ds ns a a [] := ⟨(fun _ h => by cases h), [], rfl, rfl⟩
theorem Row.cons {ds : List Deed} {ns : List Int} {e b : Int} {row : List Int} (he : e ∈ ns) (h0 : 0 ≤ e ∧ e < ds.length) (h : Row ds ns (dst ds e) b row) : Row ds ns (src ds e) b (e :: row) := by
  obtain ⟨h1, l, h2, h3⟩ := h
  refine ⟨fun x hx => ?_, dst ds e :: l, ?_, ?_⟩
  · rcases List.mem_cons.mp hx with rfl | hx
    · exact he
    · exact h1 x hx
  · rw [goneL_some (here := src ds e) (step_at h0.1 h0.2 rfl)]
    show Option.map _ (goneL ds (dst ds e) row) = _
    rw [h2]; rfl
  · rw [List.getLast?_cons_cons]; exact h3
theorem back_spec {p : Int} {ds : List Deed} {sm ns : List Int} {s : RSt} {k : Nat} {t tau : Int → Nat} {clock : Nat} {here : Int} (I : RInv p ds sm ns k ns [] s t tau clock) (hin : ∀ e ∈ ns, 0 ≤ e ∧ e < ds.length)
    (hall : ∀ e ∈ ns, (0 ≤ src ds e ∧ src ds e < p) ∧ (0 ≤ dst ds e ∧ dst ds e < p)) : ∀ (n : Nat) (v : Int) (found : List Int), (0 ≤ v ∧ v < p) → (∃ c, 1 ≤ c ∧ c ≤ n ∧ prvN ds s.2.1 c v = here ∧ ∀ m, ∃ e, gO s.2.1 (prvN ds s.2.1 m v) = some e) →
    Row ds ns v here found → gI s.1 here ≤ gI s.1 v + wsum sm found → (if found = [] then v = here else gI s.1 here < gI s.1 v + wsum sm found ∨ tau v < tau here) →
      Row ds ns here here (back ds s.2.1 here n v found) ∧ 0 < wsum sm (back ds s.2.1 here n v found) ∧ back ds s.2.1 here n v found ≠ []
  | 0, v, found, hv, ⟨c, c1, c2, _⟩, _, _, _ => by omega
  | n + 1, v, found, hv, ⟨c, c1, c2, c3, c4⟩, hr, hle, hst => by
    obtain ⟨e, he⟩ := c4 0
    rw [prvN] at he
    obtain ⟨q1, q2, q3, q4, q5⟩ := I.b v hv.1 hv.2 e he
    have hpr : prv ds s.2.1 v = src ds e := by unfold prv; rw [he]
    have hrow : Row ds ns (src ds e) here (e :: found) := Row.cons q1 (hin e q1) (by rw [q2]; exact hr)
    have hsum : gI s.1 here ≤ gI s.1 (src ds e) + wsum sm (e :: found) := by rw [wsum_cons]; omega
    have hst2 : gI s.1 here < gI s.1 (src ds e) + wsum sm (e :: found) ∨ tau (src ds e) < tau here := by
      rw [wsum_cons]
      by_cases hts : tau v ≤ tau (src ds e)
      · left; have := q5 hts; omega
      · split at hst
        · rename_i z; rw [hst] at hts; right; omega
        · rcases hst with z | z
          · left; omega
          · right; omega
    unfold back
    rw [he]
    simp only
    by_cases hh : src ds e = here
    · rw [if_pos hh]
      rw [hh] at hrow hsum hst2
      refine ⟨hrow, ?_, by simp⟩
      rcases hst2 with z | z
      · omega
      · omega
    · rw [if_neg hh]
      refine back_spec I hin hall n (src ds e) (e :: found) (hall e q1).1 ⟨c - 1, ?_, by omega, ?_, fun m => ?_⟩ hrow hsum (by rw [if_neg (by simp)]; exact hst2)
      · have : c ≠ 1 := fun z => by rw [z] at c3; exact hh (by rw [← hpr]; exact c3)
        omega
      · rw [show c = (c - 1) + 1 by omega] at c3
        rw [prvN, hpr] at c3
        exact c3
      · have := c4 (m + 1)
        rw [prvN, hpr] at this
        exact this
/-- the ring of a gain, or none -/
def ringM (p : Int) (ds : List Deed) (sm ns : List Int) : List Int := match (rEnd p ds sm ns).2.2 with
  | none => []
  | some v => back ds (rEnd p ds sm ns).2.1 (prvN ds (rEnd p ds sm ns).2.1 p.toNat v) p.toNat (prvN ds (rEnd p ds sm ns).2.1 p.toNat v) []
theorem ringM_spec {p : Int} {ds : List Deed} {sm ns : List Int} (hp : 1 ≤ p) (hin : ∀ e ∈ ns, 0 ≤ e ∧ e < ds.length) (hall : ∀ e ∈ ns, (0 ≤ src ds e ∧ src ds e < p) ∧ (0 ≤ dst ds e ∧ dst ds e < p)) :
    (ringM p ds sm ns = [] ∧ ∃ pot : Int → Int, ∀ e ∈ ns, pot (src ds e) + wt sm e ≤ pot (dst ds e)) ∨ (ringM p ds sm ns ≠ [] ∧ 0 < wsum sm (ringM p ds sm ns) ∧ ∃ here, (0 ≤ here ∧ here < p) ∧ Row ds ns here here (ringM p ds sm ns)) := by
  unfold ringM
  cases h : (rEnd p ds sm ns).2.2 with
  | none => exact .inl ⟨rfl, gI (rEnd p ds sm ns).1, ring_none hp hall h⟩
  | some v =>
    right
    obtain ⟨_, hv, c, L⟩ := ring_loop hp hall h
    obtain ⟨t, tau, clock, I⟩ := rEnd_inv (sm := sm) hp hall
    obtain ⟨a, b, d⟩ := back_spec I hin hall p.toNat _ [] L.inR ⟨c, L.pos, by have := L.le; omega, L.back, fun m => by obtain ⟨e, he, _⟩ := L.some m; exact ⟨e, he⟩⟩ .nil (by simp [wsum]) (by simp)
    exact ⟨d, b, _, L.inR, a⟩

/-! what must be had at each place -/
def wstep (ds : List Deed) (sm : List Int) (x : List Int) (y : List Int) (e : Int) : List Int := y.set (src ds e).toNat (max (gI y (src ds e)) (wt sm e + gI x (dst ds e)))
def wround (ds : List Deed) (sm ns : List Int) (x : List Int) : List Int := ns.foldl (wstep ds sm x) x
def wFix (ds : List Deed) (sm ns : List Int) : Nat → List Int → List Int
  | 0, x => x
  | n + 1, x => if wround ds sm ns x = x then x else wFix ds sm ns n (wround ds sm ns x)
abbrev Edges (p : Int) (ds : List Deed) (ns : List Int) : Prop := ∀ e ∈ ns, (0 ≤ src ds e ∧ src ds e < p) ∧ (0 ≤ dst ds e ∧ dst ds e < p)
theorem wfold_spec {p : Int} {ds : List Deed} {sm : List Int} {x : List Int} : ∀ (ns : List Int) (y : List Int), Edges p ds ns → (y.length : Int) = p →
    ((ns.foldl (wstep ds sm x) y).length : Int) = p ∧ (∀ v, 0 ≤ v → v < p → gI y v ≤ gI (ns.foldl (wstep ds sm x) y) v ∧ (gI (ns.foldl (wstep ds sm x) y) v = gI y v ∨ ∃ e ∈ ns, src ds e = v ∧ gI (ns.foldl (wstep ds sm x) y) v = wt sm e + gI x (dst ds e))) ∧
      ∀ e ∈ ns, wt sm e + gI x (dst ds e) ≤ gI (ns.foldl (wstep ds sm x) y) (src ds e)
  | [], y, _, hl => ⟨hl, fun v _ _ => ⟨Int.le_refl _, .inl rfl⟩, fun e he => by cases he⟩
  | c :: ns, y, hE, hl => by
    obtain ⟨cs, cd⟩ := hE c List.mem_cons_self
    obtain ⟨a1, a2, a3⟩ := wfold_spec (sm := sm) (x := x) ns (wstep ds sm x y c) (fun e he => hE e (List.mem_cons_of_mem _ he)) (by unfold wstep; simpa using hl)
    have g : ∀ u, 0 ≤ u → gI (wstep ds sm x y c) u = if u = src ds c then max (gI y (src ds c)) (wt sm c + gI x (dst ds c)) else gI y u := fun u hu => gI_set cs.1 (by omega) hu
    rw [List.foldl_cons]
    refine ⟨a1, fun v h0 h1 => ?_, fun e he => ?_⟩
    · obtain ⟨b1, b2⟩ := a2 v h0 h1
      rw [g v h0] at b1 b2
      by_cases e1 : v = src ds c
      · rw [if_pos e1] at b1 b2
        rw [← e1] at b1 b2
        refine ⟨by omega, ?_⟩
        rcases b2 with b2 | ⟨e, he, h2, h3⟩
        · rcases Int.le_total (gI y v) (wt sm c + gI x (dst ds c)) with z | z
          · right
            exact ⟨c, List.mem_cons_self, e1.symm, by rw [b2]; omega⟩
          · left; omega
        · exact .inr ⟨e, List.mem_cons_of_mem _ he, h2, h3⟩
      · rw [if_neg e1] at b1 b2
        refine ⟨b1, ?_⟩
        rcases b2 with b2 | ⟨e, he, h2, h3⟩
        · exact .inl b2
        · exact .inr ⟨e, List.mem_cons_of_mem _ he, h2, h3⟩
    · rcases List.mem_cons.mp he with rfl | he
      · have := (a2 _ cs.1 cs.2).1
        rw [g _ cs.1, if_pos rfl] at this
        omega
      · exact a3 e he
theorem wround_spec {p : Int} {ds : List Deed} {sm ns x : List Int} (hE : Edges p ds ns) (hl : (x.length : Int) = p) : ((wround ds sm ns x).length : Int) = p ∧ (∀ v, 0 ≤ v → v < p → gI x v ≤ gI (wround ds sm ns x) v ∧ (gI (wround ds sm ns x) v = gI x v ∨ ∃ e ∈ ns, src ds e = v ∧ gI (wround ds sm ns x) v = wt sm e + gI x (dst ds e))) ∧
    ∀ e ∈ ns, wt sm e + gI x (dst ds e) ≤ gI (wround ds sm ns x) (src ds e) := wfold_spec ns x hE hl
/-- a place from which just what is wanted leads on to a place where nothing is -/
inductive Tg (ds : List Deed) (sm ns : List Int) (W : List Int) : Int → Prop where
  | zero {v : Int} : gI W v = 0 → Tg ds sm ns W v
  | go {e : Int} : e ∈ ns → gI W (src ds e) = wt sm e + gI W (dst ds e) → Tg ds sm ns W (dst ds e) → Tg ds sm ns W (src ds e)
structure WInv (p : Int) (ds : List Deed) (sm ns : List Int) (x : List Int) : Prop where
  len : (x.length : Int) = p
  pos : ∀ v, 0 ≤ v → v < p → 0 ≤ gI x v
  tg : ∀ W : List Int, (∀ e ∈ ns, wt sm e + gI W (dst ds e) ≤ gI W (src ds e)) → (∀ v, 0 ≤ v → v < p → gI x v ≤ gI W v) → ∀ v, 0 ≤ v → v < p → gI x v = gI W v → Tg ds sm ns W v
theorem gI_repl {n : Nat} {v : Int} : gI (List.replicate n 0) v = 0 := by
  unfold gI
  rw [List.getD_eq_getElem?_getD, List.getElem?_replicate]
  split <;> rfl
theorem winv0 {p : Int} {ds : List Deed} {sm ns : List Int} (hp : 1 ≤ p) : WInv p ds sm ns (List.replicate p.toNat 0) :=
  ⟨by simp; omega, fun v _ _ => by rw [gI_repl]; exact Int.le_refl _, fun W _ _ v _ _ h => .zero (by rw [← h, gI_repl])⟩
theorem winv_round {p : Int} {ds : List Deed} {sm ns x : List Int} (hE : Edges p ds ns) (I : WInv p ds sm ns x) : WInv p ds sm ns (wround ds sm ns x) := by
  obtain ⟨a1, a2, a3⟩ := wround_spec (sm := sm) hE I.len
  refine ⟨a1, fun v h0 h1 => Int.le_trans (I.pos v h0 h1) (a2 v h0 h1).1, fun W hW hle v h0 h1 he => ?_⟩
  have hle2 : ∀ v, 0 ≤ v → v < p → gI x v ≤ gI W v := fun v h0 h1 => Int.le_trans (a2 v h0 h1).1 (hle v h0 h1)
  rcases (a2 v h0 h1).2 with q | ⟨e, en, e1, e2⟩
  · exact I.tg W hW hle2 v h0 h1 (by rw [← q]; exact he)
  · obtain ⟨_, ed⟩ := hE e en
    have w1 := hW e en
    have w2 := hle2 _ ed.1 ed.2
    rw [e1] at w1
    have : gI x (dst ds e) = gI W (dst ds e) := by omega
    have t := I.tg W hW hle2 _ ed.1 ed.2 this
    rw [← e1]
    exact .go en (by rw [e1]; omega) t
/-- how much the heights leave -/
def wmu (pot : Int → Int) (M : Int) (x : List Int) : Nat → Nat
  | 0 => 0
  | n + 1 => wmu pot M x n + (M - pot n - gI x n).toNat
theorem wmu_le {pot : Int → Int} {M : Int} {x y : List Int} : ∀ n : Nat, (∀ v : Nat, v < n → gI x v ≤ gI y v) → wmu pot M y n ≤ wmu pot M x n
  | 0, _ => Nat.le_refl _
  | n + 1, h => by
    have := wmu_le (pot := pot) (M := M) n fun v hv => h v (by omega)
    have := h n (by omega)
    unfold wmu
    omega
theorem wmu_lt {pot : Int → Int} {M : Int} {x y : List Int} : ∀ n : Nat, (∀ v : Nat, v < n → gI x v ≤ gI y v ∧ gI y v ≤ M - pot v) → (∃ v : Nat, v < n ∧ gI x v < gI y v) → wmu pot M y n < wmu pot M x n
  | 0, _, ⟨v, hv, _⟩ => by omega
  | n + 1, h, ⟨v, hv, hlt⟩ => by
    have h1 := h n (by omega)
    unfold wmu
    by_cases e : v = n
    · subst e
      have := wmu_le (pot := pot) (M := M) (x := x) (y := y) v fun u hu => (h u (by omega)).1
      omega
    · have := wmu_lt (pot := pot) (M := M) n (fun u hu => h u (by omega)) ⟨v, by omega, hlt⟩
      omega
theorem list_diff {x y : List Int} {n : Nat} (hx : x.length = n) (hy : y.length = n) (h : y ≠ x) : ∃ v : Nat, v < n ∧ gI x v ≠ gI y v := by
  apply Classical.byContradiction
  intro hc
  apply h
  apply List.ext_getElem (by omega)
  intro i h1 h2
  apply Classical.byContradiction
  intro hne
  apply hc
  refine ⟨i, by omega, fun e => hne ?_⟩
  unfold gI at e
  rw [Int.toNat_natCast, List.getD_eq_getElem?_getD, List.getD_eq_getElem?_getD, List.getElem?_eq_getElem h2, List.getElem?_eq_getElem h1] at e
  exact e.symm
/-- where a height stands, the rounds come to an end -/
theorem wfix_spec {p : Int} {ds : List Deed} {sm ns : List Int} {pot : Int → Int} {M : Int} (hE : Edges p ds ns) (hp : ∀ e ∈ ns, pot (src ds e) + wt sm e ≤ pot (dst ds e)) (hM : ∀ v, 0 ≤ v → v < p → pot v ≤ M) : ∀ (k : Nat) (x : List Int), wmu pot M x p.toNat < k → WInv p ds sm ns x →
    (∀ v, 0 ≤ v → v < p → gI x v ≤ M - pot v) → wround ds sm ns (wFix ds sm ns k x) = wFix ds sm ns k x ∧ WInv p ds sm ns (wFix ds sm ns k x)
  | 0, x, hk, _, _ => by omega
  | k + 1, x, hk, I, hb => by
    unfold wFix
    by_cases h : wround ds sm ns x = x
    · rw [if_pos h]; exact ⟨h, I⟩
    · rw [if_neg h]
      obtain ⟨a1, a2, a3⟩ := wround_spec (sm := sm) hE I.len
      have hb2 : ∀ v, 0 ≤ v → v < p → gI (wround ds sm ns x) v ≤ M - pot v := fun v h0 h1 => by
        rcases (a2 v h0 h1).2 with q | ⟨e, en, e1, e2⟩
        · rw [q]; exact hb v h0 h1
        · have := hp e en
          have := hb _ (hE e en).2.1 (hE e en).2.2
          rw [e1] at *
          omega
      have hl := I.len
      obtain ⟨v, hv, hne⟩ := list_diff (n := p.toNat) (by omega) (by omega) h
      have lt : wmu pot M (wround ds sm ns x) p.toNat < wmu pot M x p.toNat := wmu_lt _ (fun u hu => ⟨(a2 u (by omega) (by omega)).1, hb2 u (by omega) (by omega)⟩) ⟨v, hv, by have := (a2 v (by omega) (by omega)).1; omega⟩
      exact wfix_spec hE hp hM k _ (by omega) (winv_round hE I) hb2
def potOf (p : Int) (ds : List Deed) (sm ns : List Int) : Int → Int := gI (rEnd p ds sm ns).1
def topOf (p : Int) (ds : List Deed) (sm ns : List Int) : Int := (rEnd p ds sm ns).1.foldl max 0
def wFuel (p : Int) (ds : List Deed) (sm ns : List Int) : Nat := wmu (potOf p ds sm ns) (topOf p ds sm ns) (List.replicate p.toNat 0) p.toNat + 1
def wantedM (p : Int) (ds : List Deed) (sm ns : List Int) : List Int := wFix ds sm ns (wFuel p ds sm ns) (List.replicate p.toNat 0)
theorem foldl_max {l : List Int} : ∀ (m : Int), m ≤ l.foldl max m ∧ ∀ x ∈ l, x ≤ l.foldl max m := by
  induction l with
  | nil => intro m; exact ⟨Int.le_refl _, fun x hx => by cases hx⟩
  | cons a l ih =>
    intro m
    obtain ⟨h1, h2⟩ := ih (max m a)
    rw [List.foldl_cons]
    refine ⟨by omega, fun x hx => ?_⟩
    rcases List.mem_cons.mp hx with rfl | hx
    · omega
    · exact h2 x hx
theorem gI_mem {l : List Int} {v : Int} (h0 : 0 ≤ v) (h1 : v < l.length) : gI l v ∈ l := by
  unfold gI
  rw [List.getD_eq_getElem?_getD, List.getElem?_eq_getElem (by omega)]
  exact List.getElem_mem _
theorem ringM_none {p : Int} {ds : List Deed} {sm ns : List Int} (hp : 1 ≤ p) (hin : ∀ e ∈ ns, 0 ≤ e ∧ e < ds.length) (hE : Edges p ds ns) (h : ringM p ds sm ns = []) : (rEnd p ds sm ns).2.2 = none := by
  cases q : (rEnd p ds sm ns).2.2 with
  | none => rfl
  | some v =>
    obtain ⟨_, hv, c, L⟩ := ring_loop hp hE q
    obtain ⟨t, tau, clock, I⟩ := rEnd_inv (sm := sm) hp hE
    obtain ⟨a, b, d⟩ := back_spec I hin hE p.toNat _ [] L.inR ⟨c, L.pos, by have := L.le; omega, L.back, fun m => by obtain ⟨e, he, _⟩ := L.some m; exact ⟨e, he⟩⟩ .nil (by simp [wsum]) (by simp)
    unfold ringM at h
    rw [q] at h
    exact absurd h d
structure WOk (p : Int) (ds : List Deed) (sm ns W : List Int) : Prop where
  len : (W.length : Int) = p
  pos : ∀ v, 0 ≤ v → v < p → 0 ≤ gI W v
  up : ∀ e ∈ ns, wt sm e + gI W (dst ds e) ≤ gI W (src ds e)
  tg : ∀ v, 0 ≤ v → v < p → Tg ds sm ns W v
  fx : wround ds sm ns W = W
theorem wantedM_ok {p : Int} {ds : List Deed} {sm ns : List Int} (hp : 1 ≤ p) (hin : ∀ e ∈ ns, 0 ≤ e ∧ e < ds.length) (hE : Edges p ds ns) (h : ringM p ds sm ns = []) : WOk p ds sm ns (wantedM p ds sm ns) := by
  have hn := ringM_none hp hin hE h
  have pot := ring_none hp hE hn
  obtain ⟨t, tau, clock, I⟩ := rEnd_inv (sm := sm) hp hE
  have lb : ((rEnd p ds sm ns).1.length : Int) = p := I.lb
  have hM : ∀ v, 0 ≤ v → v < p → potOf p ds sm ns v ≤ topOf p ds sm ns := fun v h0 h1 => (foldl_max 0).2 _ (gI_mem h0 (by omega))
  obtain ⟨f1, f2⟩ := wfix_spec (sm := sm) (pot := potOf p ds sm ns) (M := topOf p ds sm ns) hE pot hM (wFuel p ds sm ns) (List.replicate p.toNat 0) (Nat.lt_succ_self _) (winv0 hp) (fun v h0 h1 => by rw [gI_repl]; have := hM v h0 h1; omega)
  have up : ∀ e ∈ ns, wt sm e + gI (wantedM p ds sm ns) (dst ds e) ≤ gI (wantedM p ds sm ns) (src ds e) := fun e he => by
    have := (wround_spec (sm := sm) hE f2.len).2.2 e he
    rw [f1] at this
    exact this
  exact ⟨f2.len, f2.pos, up, fun v h0 h1 => f2.tg _ up (fun v _ _ => Int.le_refl _) v h0 h1 rfl, f1⟩

/-! ways found level by level -/
abbrev Ways := List (Int × List Int)
def wLook (ws : Ways) (v : Int) : List Int := (ws.lookup v).getD []
def wHas (ws : Ways) (v : Int) : Bool := (ws.lookup v).isSome
def exEdge (ds : List Deed) (ok : Int → Bool) (here : Int) (st : Ways × List Int) (e : Int) : Ways × List Int :=
  if src ds e = here ∧ ok e = true ∧ wHas st.1 (dst ds e) = false then (st.1 ++ [(dst ds e, wLook st.1 here ++ [e])], st.2 ++ [dst ds e]) else st
def exPlace (ds : List Deed) (ok : Int → Bool) (ns : List Int) (st : Ways × List Int) (here : Int) : Ways × List Int := ns.foldl (exEdge ds ok here) st
theorem lookup_app {ws : Ways} {v u : Int} {r : List Int} : (ws ++ [(u, r)]).lookup v = if (ws.lookup v).isSome then ws.lookup v else if v = u then some r else none := by
  induction ws with
  | nil =>
    rw [List.nil_append]
    by_cases h : v = u
    · subst h; simp [List.lookup]
    · have : (v == u) = false := by simp [h]
      simp [List.lookup, this, h]
  | cons a ws ih =>
    obtain ⟨k, x⟩ := a
    rw [List.cons_append]
    by_cases h : v = k
    · subst h; simp [List.lookup]
    · have : (v == k) = false := by simp [h]
      simp only [List.lookup, this]
      exact ih
/-- a way: a row from 0, of deeds that may be used -/
structure WaysOk (p : Int) (ds : List Deed) (ok : Int → Bool) (ns : List Int) (ws : Ways) : Prop where
  row : ∀ v r, ws.lookup v = some r → (0 ≤ v ∧ v < p) ∧ Row ds ns 0 v r ∧ ∀ e ∈ r, ok e = true
theorem Row.snoc {ds : List Deed} {ns : List Int} {a e : Int} {row : List Int} (he : e ∈ ns) (h0 : 0 ≤ e ∧ e < ds.length) (h : Row ds ns a (src ds e) row) : Row ds ns a (dst ds e) (row ++ [e]) := by
  obtain ⟨h1, l, h2, h3⟩ := h
  refine ⟨fun x hx => ?_, l ++ [dst ds e], ?_, ?_⟩
  · rcases List.mem_append.mp hx with hx | hx
    · exact h1 x hx
    · rw [List.mem_singleton] at hx; rw [hx]; exact he
  · refine goneL_snoc row a l e (dst ds e) h2 ?_
    have : (a :: l).getLast (by simp) = src ds e := by
      rw [List.getLast?_eq_some_getLast (by simp)] at h3
      exact Option.some.inj h3
    rw [this]
    exact step_at h0.1 h0.2 rfl
  · rw [← List.cons_append, List.getLast?_append]; rfl
structure BInv (p : Int) (ds : List Deed) (ok : Int → Bool) (ns : List Int) (pend : Int → Prop) (st : Ways × List Int) : Prop where
  w : WaysOk p ds ok ns st.1
  z : (wHas st.1 0) = true
  lv : ∀ v ∈ st.2, wHas st.1 v = true
  cl : ∀ e ∈ ns, ok e = true → wHas st.1 (src ds e) = true → src ds e ∈ st.2 ∨ wHas st.1 (dst ds e) = true ∨ pend (src ds e)
  nd : (st.1.map (·.1)).Nodup
theorem has_app {ws : Ways} {v u : Int} {r : List Int} : wHas (ws ++ [(u, r)]) v = (wHas ws v || decide (v = u)) := by
  unfold wHas
  rw [lookup_app]
  cases h : (ws.lookup v).isSome with
  | true => simp [h]
  | false =>
    rw [if_neg (by simp)]
    by_cases e : v = u
    · simp [e]
    · simp [e]
theorem has_mem {ws : Ways} {v : Int} : wHas ws v = true ↔ v ∈ ws.map (·.1) := by
  unfold wHas
  induction ws with
  | nil => simp
  | cons a ws ih =>
    obtain ⟨k, x⟩ := a
    by_cases h : v = k
    · subst h; simp [List.lookup]
    · have : (v == k) = false := by simp [h]
      simp only [List.lookup, this, List.map_cons, List.mem_cons, h, false_or]
      exact ih
theorem exEdge_inv {p : Int} {ds : List Deed} {ok : Int → Bool} {ns : List Int} {pend : Int → Prop} {here e : Int} {st : Ways × List Int} (hin : ∀ e ∈ ns, 0 ≤ e ∧ e < ds.length) (hE : Edges p ds ns) (he : e ∈ ns) (hh : wHas st.1 here = true) (I : BInv p ds ok ns pend st) :
    BInv p ds ok ns pend (exEdge ds ok here st e) ∧ (∀ v, wHas st.1 v = true → wHas (exEdge ds ok here st e).1 v = true) ∧ (src ds e = here → ok e = true → wHas (exEdge ds ok here st e).1 (dst ds e) = true) ∧
      st.2.length + (exEdge ds ok here st e).1.length = st.1.length + (exEdge ds ok here st e).2.length := by
  unfold exEdge
  split
  · rename_i h
    obtain ⟨h1, h2, h3⟩ := h
    have up : ∀ v, wHas st.1 v = true → wHas (st.1 ++ [(dst ds e, wLook st.1 here ++ [e])]) v = true := fun v hv => by rw [has_app, hv]; rfl
    refine ⟨⟨⟨fun v r hr => ?_⟩, up 0 I.z, fun v hv => ?_, fun c hc hok hv => ?_, ?_⟩, up, fun _ _ => by rw [has_app]; simp, by simp only [List.length_append, List.length_singleton]; omega⟩
    · simp only at hr
      rw [lookup_app] at hr
      split at hr
      · exact I.w.row v r hr
      · split at hr
        · rename_i e1
          cases hr
          obtain ⟨r0, hr0⟩ := Option.isSome_iff_exists.mp (show (st.1.lookup here).isSome = true from hh)
          obtain ⟨_, a2, a3⟩ := I.w.row here r0 hr0
          have e2 : wLook st.1 here = r0 := by unfold wLook; rw [hr0]; rfl
          rw [e2, e1]
          refine ⟨(hE e he).2, Row.snoc he (hin e he) (by rw [h1]; exact a2), fun c hc => ?_⟩
          rcases List.mem_append.mp hc with hc | hc
          · exact a3 c hc
          · rw [List.mem_singleton] at hc; rw [hc]; exact h2
        · cases hr
    · rcases List.mem_append.mp hv with hv | hv
      · exact up v (I.lv v hv)
      · rw [List.mem_singleton] at hv
        rw [hv, has_app]; simp
    · simp only at hv
      rw [has_app, Bool.or_eq_true] at hv
      rcases hv with hv | hv
      · rcases I.cl c hc hok hv with q | q | q
        · exact .inl (List.mem_append_left _ q)
        · exact .inr (.inl (up _ q))
        · exact .inr (.inr q)
      · exact .inl (List.mem_append_right _ (by rw [of_decide_eq_true hv]; exact List.mem_singleton_self _))
    · simp only [List.map_append, List.map_cons, List.map_nil]
      rw [List.nodup_append]
      refine ⟨I.nd, by simp, fun a ha b hb e1 => ?_⟩
      rw [List.mem_singleton] at hb
      rw [e1, hb] at ha
      rw [has_mem.mpr ha] at h3
      cases h3
  · rename_i h
    refine ⟨I, fun v hv => hv, fun h1 h2 => ?_, by omega⟩
    cases q : wHas st.1 (dst ds e) with
    | true => rfl
    | false => exact absurd ⟨h1, h2, q⟩ h
theorem exFold_inv {p : Int} {ds : List Deed} {ok : Int → Bool} {ns : List Int} {pend : Int → Prop} {here : Int} (hin : ∀ e ∈ ns, 0 ≤ e ∧ e < ds.length) (hE : Edges p ds ns) : ∀ (xs : List Int) (st : Ways × List Int), (∀ e ∈ xs, e ∈ ns) → wHas st.1 here = true → BInv p ds ok ns pend st →
    BInv p ds ok ns pend (xs.foldl (exEdge ds ok here) st) ∧ (∀ v, wHas st.1 v = true → wHas (xs.foldl (exEdge ds ok here) st).1 v = true) ∧ (∀ e ∈ xs, src ds e = here → ok e = true → wHas (xs.foldl (exEdge ds ok here) st).1 (dst ds e) = true) ∧
      st.2.length + (xs.foldl (exEdge ds ok here) st).1.length = st.1.length + (xs.foldl (exEdge ds ok here) st).2.length
  | [], st, _, _, I => ⟨I, fun v h => h, (fun e he => by cases he), (by simp only [List.foldl_nil]; omega)⟩
  | e :: xs, st, hx, hh, I => by
    obtain ⟨a1, a2, a3, a4⟩ := exEdge_inv hin hE (hx e List.mem_cons_self) hh I
    obtain ⟨b1, b2, b3, b4⟩ := exFold_inv hin hE xs (exEdge ds ok here st e) (fun c hc => hx c (List.mem_cons_of_mem _ hc)) (a2 _ hh) a1
    rw [List.foldl_cons]
    refine ⟨b1, fun v hv => b2 v (a2 v hv), fun c hc h1 h2 => ?_, by omega⟩
    rcases List.mem_cons.mp hc with rfl | hc
    · exact b2 _ (a3 h1 h2)
    · exact b3 c hc h1 h2
theorem exPlace_inv {p : Int} {ds : List Deed} {ok : Int → Bool} {ns : List Int} {here : Int} {r : List Int} {st : Ways × List Int} (hin : ∀ e ∈ ns, 0 ≤ e ∧ e < ds.length) (hE : Edges p ds ns) (hh : wHas st.1 here = true) (I : BInv p ds ok ns (fun v => v ∈ here :: r) st) :
    BInv p ds ok ns (fun v => v ∈ r) (exPlace ds ok ns st here) ∧ (∀ v, wHas st.1 v = true → wHas (exPlace ds ok ns st here).1 v = true) ∧ st.2.length + (exPlace ds ok ns st here).1.length = st.1.length + (exPlace ds ok ns st here).2.length := by
  obtain ⟨b1, b2, b3, b4⟩ := exFold_inv hin hE ns st (fun _ h => h) hh I
  refine ⟨⟨b1.w, b1.z, b1.lv, fun e he hok hv => ?_, b1.nd⟩, b2, b4⟩
  rcases b1.cl e he hok hv with q | q | q
  · exact .inl q
  · exact .inr (.inl q)
  · rcases List.mem_cons.mp q with q | q
    · exact .inr (.inl (b3 e he q hok))
    · exact .inr (.inr q)
/-- a level's places, one behind another, till one has nothing -/
def tGo (ds : List Deed) (ok : Int → Bool) (ns : List Int) (stop : Int → Bool) : List Int → Ways × List Int → (List Int) ⊕ (Ways × List Int)
  | [], st => .inr st
  | here :: r, st => if stop here then .inl (wLook st.1 here) else tGo ds ok ns stop r (exPlace ds ok ns st here)
theorem tGo_spec {p : Int} {ds : List Deed} {ok : Int → Bool} {ns : List Int} {stop : Int → Bool} (hin : ∀ e ∈ ns, 0 ≤ e ∧ e < ds.length) (hE : Edges p ds ns) : ∀ (lv : List Int) (st : Ways × List Int), (∀ v ∈ lv, wHas st.1 v = true) → BInv p ds ok ns (fun v => v ∈ lv) st →
    match tGo ds ok ns stop lv st with
    | .inl r => ∃ v, stop v = true ∧ (0 ≤ v ∧ v < p) ∧ Row ds ns 0 v r ∧ ∀ e ∈ r, ok e = true
    | .inr st' => BInv p ds ok ns (fun _ => False) st' ∧ (∀ v, wHas st.1 v = true → wHas st'.1 v = true) ∧ st.2.length + st'.1.length = st.1.length + st'.2.length ∧ ∀ v ∈ lv, stop v = false
  | [], st, _, I => by
    simp only [tGo]
    exact ⟨⟨I.w, I.z, I.lv, (fun e he hok hv => by
      rcases I.cl e he hok hv with q | q | q
      · exact .inl q
      · exact .inr (.inl q)
      · cases q), I.nd⟩, fun v h => h, (by omega), (fun v h => by cases h)⟩
  | here :: r, st, hlv, I => by
    unfold tGo
    cases hs : stop here with
    | true =>
      rw [if_pos rfl]
      obtain ⟨r0, hr0⟩ := Option.isSome_iff_exists.mp (show (st.1.lookup here).isSome = true from hlv here List.mem_cons_self)
      have e2 : wLook st.1 here = r0 := by unfold wLook; rw [hr0]; rfl
      simp only
      rw [e2]
      obtain ⟨a1, a2, a3⟩ := I.w.row here r0 hr0
      exact ⟨here, hs, a1, a2, a3⟩
    | false =>
      rw [if_neg Bool.false_ne_true]
      obtain ⟨b1, b2, b3⟩ := exPlace_inv hin hE (hlv here List.mem_cons_self) I
      have q := tGo_spec (stop := stop) hin hE r (exPlace ds ok ns st here) (fun v hv => b2 v (hlv v (List.mem_cons_of_mem _ hv))) b1
      cases h : tGo ds ok ns stop r (exPlace ds ok ns st here) with
      | inl x => rw [h] at q; exact q
      | inr st' =>
        rw [h] at q
        obtain ⟨c1, c2, c3, c4⟩ := q
        refine ⟨c1, fun v hv => c2 v (b2 v hv), by omega, fun v hv => ?_⟩
        rcases List.mem_cons.mp hv with rfl | hv
        · exact hs
        · exact c4 v hv
theorem ways_len {p : Int} {ds : List Deed} {ok : Int → Bool} {ns : List Int} {pend : Int → Prop} {st : Ways × List Int} (I : BInv p ds ok ns pend st) : (st.1.length : Int) ≤ p := by
  apply Classical.byContradiction
  intro hc
  have hp : 0 ≤ p := by
    obtain ⟨r, hr⟩ := Option.isSome_iff_exists.mp (show (st.1.lookup 0).isSome = true from I.z)
    have := (I.w.row 0 r hr).1
    omega
  obtain ⟨i, j, h1, h2, h3⟩ := pigeon p.toNat (fun i => (st.1.map (·.1)).getD i 0) (fun i hi => by
    have hl : i < (st.1.map (·.1)).length := by rw [List.length_map]; omega
    have hm : (st.1.map (·.1)).getD i 0 ∈ st.1.map (·.1) := by
      rw [List.getD_eq_getElem?_getD, List.getElem?_eq_getElem hl]
      exact List.getElem_mem _
    obtain ⟨r, hr⟩ := Option.isSome_iff_exists.mp (show (st.1.lookup _).isSome = true from has_mem.mpr hm)
    have := (I.w.row _ r hr).1
    omega)
  have li : i < (st.1.map (·.1)).length := by rw [List.length_map]; omega
  have lj : j < (st.1.map (·.1)).length := by rw [List.length_map]; omega
  rw [List.getD_eq_getElem?_getD, List.getD_eq_getElem?_getD, List.getElem?_eq_getElem li, List.getElem?_eq_getElem lj] at h3
  have nd := I.nd
  rw [List.nodup_iff_pairwise_ne, List.pairwise_iff_getElem] at nd
  exact nd i j li lj h1 (by simpa using h3)
def New (ws : Ways) (st : Ways × List Int) : Prop := ∀ v, wHas st.1 v = true → wHas ws v = true ∨ v ∈ st.2
theorem exEdge_new {ds : List Deed} {ok : Int → Bool} {here e : Int} {ws : Ways} {st : Ways × List Int} (h : New ws st) : New ws (exEdge ds ok here st e) := by
  unfold exEdge
  split
  · intro v hv
    simp only at hv ⊢
    rw [has_app, Bool.or_eq_true] at hv
    rcases hv with hv | hv
    · rcases h v hv with q | q
      · exact .inl q
      · exact .inr (List.mem_append_left _ q)
    · exact .inr (List.mem_append_right _ (by rw [of_decide_eq_true hv]; exact List.mem_singleton_self _))
  · exact h
theorem exPlace_new {ds : List Deed} {ok : Int → Bool} {here : Int} {ws : Ways} : ∀ (ns : List Int) {st : Ways × List Int}, New ws st → New ws (exPlace ds ok ns st here)
  | [], _, h => h
  | e :: ns, st, h => exPlace_new (ok := ok) (here := here) ns (st := exEdge ds ok here st e) (exEdge_new h)
theorem tGo_new {ds : List Deed} {ok : Int → Bool} {ns : List Int} {stop : Int → Bool} {ws : Ways} : ∀ (lv : List Int) (st st' : Ways × List Int), New ws st → tGo ds ok ns stop lv st = .inr st' → New ws st'
  | [], st, st', h, e => by
    simp only [tGo] at e
    cases e
    exact h
  | here :: r, st, st', h, e => by
    unfold tGo at e
    split at e
    · cases e
    · exact tGo_new r _ st' (exPlace_new ns h) e
def tightL (ds : List Deed) (ok : Int → Bool) (ns : List Int) (stop : Int → Bool) : Nat → Ways → List Int → List Int
  | 0, _, _ => []
  | n + 1, ws, lv => match tGo ds ok ns stop lv (ws, []) with
    | .inl r => r
    | .inr st => tightL ds ok ns stop n st.1 st.2
theorem lvl_start {p : Int} {ds : List Deed} {ok : Int → Bool} {ns : List Int} {ws : Ways} {lv : List Int} (I : BInv p ds ok ns (fun _ => False) (ws, lv)) : BInv p ds ok ns (fun v => v ∈ lv) (ws, []) :=
  ⟨I.w, I.z, (fun v h => by cases h), (fun e he hok hv => by
    rcases I.cl e he hok hv with q | q | q
    · exact .inr (.inr q)
    · exact .inr (.inl q)
    · exact q.elim), I.nd⟩
theorem bstart {p : Int} {ds : List Deed} {ok : Int → Bool} {ns : List Int} (hp : 1 ≤ p) : BInv p ds ok ns (fun _ => False) ([(0, [])], [0]) := by
  have h0 : ∀ v, wHas [(0, ([] : List Int))] v = true → v = 0 := fun v h => by simpa using has_mem.mp h
  refine ⟨⟨fun v r hr => ?_⟩, rfl, fun v hv => ?_, fun e _ _ hv => ?_, by simp⟩
  · have e0 : v = 0 := h0 v (by unfold wHas; rw [show ([(0, ([] : List Int))] : Ways).lookup v = some r from hr]; rfl)
    subst e0
    cases hr
    exact ⟨⟨by decide, by omega⟩, .nil, fun e h => by cases h⟩
  · rw [List.mem_singleton] at hv; rw [hv]; rfl
  · left; rw [h0 _ hv]; exact List.mem_singleton_self _
/-- measure of a level -/
def lmu (p : Int) (ws : Ways) (lv : List Int) : Nat := 2 * (p.toNat - ws.length) + (if lv = [] then 0 else 1)
theorem tightL_spec {p : Int} {ds : List Deed} {ns sm W : List Int} {ok stop : Int → Bool} (hin : ∀ e ∈ ns, 0 ≤ e ∧ e < ds.length) (hE : Edges p ds ns) (hok : ∀ e ∈ ns, ok e = decide (gI W (src ds e) = wt sm e + gI W (dst ds e))) (hst : ∀ v, stop v = decide (gI W v = 0)) (hT : Tg ds sm ns W 0) :
    ∀ (n : Nat) (ws : Ways) (lv : List Int), lmu p ws lv < n → BInv p ds ok ns (fun _ => False) (ws, lv) → (∀ v, wHas ws v = true → v ∈ lv ∨ gI W v ≠ 0) →
      ∃ v, stop v = true ∧ (0 ≤ v ∧ v < p) ∧ Row ds ns 0 v (tightL ds ok ns stop n ws lv) ∧ ∀ e ∈ tightL ds ok ns stop n ws lv, ok e = true
  | 0, _, _, h, _, _ => by omega
  | n + 1, ws, lv, hm, I, hz => by
    have hlv : lv ≠ [] := by
      intro e
      subst e
      have bad : ∀ v, Tg ds sm ns W v → wHas ws v = true → False := by
        intro v t
        induction t with
        | zero h =>
          intro hv
          rcases hz _ hv with q | q
          · cases q
          · exact q h
        | go he hw _ ih =>
          intro hv
          rcases I.cl _ he (by rw [hok _ he]; exact decide_eq_true hw) hv with q | q | q
          · cases q
          · exact ih q
          · exact q
      exact bad 0 hT I.z
    have q := tGo_spec (stop := stop) hin hE lv (ws, []) I.lv (lvl_start I)
    unfold tightL
    cases h : tGo ds ok ns stop lv (ws, []) with
    | inl r => rw [h] at q; exact q
    | inr st =>
      rw [h] at q
      obtain ⟨c1, c2, c3, c4⟩ := q
      have l1 := ways_len c1
      have l2 := ways_len I
      simp only [List.length_nil] at c3 l2
      refine tightL_spec hin hE hok hst hT n st.1 st.2 ?_ c1 fun v hv => ?_
      · unfold lmu at hm ⊢
        rw [if_neg hlv] at hm
        split
        · omega
        · rename_i z
          have := List.length_pos_iff.mpr z
          omega
      · by_cases hw : wHas ws v = true
        · rcases hz v hw with q | q
          · right
            have := c4 v q
            rw [hst] at this
            exact of_decide_eq_false this
          · exact .inr q
        · left
          rcases tGo_new (ws := ws) lv (ws, []) st (fun v h => .inl h) h v hv with q | q
          · exact absurd q hw
          · exact q
/-- way_to -/
def wayL (ds : List Deed) (ok : Int → Bool) (ns : List Int) (goal : Int) : Nat → Ways → List Int → List Int
  | 0, _, _ => []
  | n + 1, ws, lv => if wHas ws goal then wLook ws goal else
    let st := lv.foldl (exPlace ds ok ns) (ws, [])
    wayL ds ok ns goal n st.1 st.2
inductive Rc (ds : List Deed) (ok : Int → Bool) (ns : List Int) : Int → Prop where
  | zero : Rc ds ok ns 0
  | go {e : Int} : e ∈ ns → ok e = true → Rc ds ok ns (src ds e) → Rc ds ok ns (dst ds e)
theorem lvl_fold {p : Int} {ds : List Deed} {ok : Int → Bool} {ns : List Int} (hin : ∀ e ∈ ns, 0 ≤ e ∧ e < ds.length) (hE : Edges p ds ns) : ∀ (lv : List Int) (st : Ways × List Int), (∀ v ∈ lv, wHas st.1 v = true) → BInv p ds ok ns (fun v => v ∈ lv) st →
    BInv p ds ok ns (fun _ => False) (lv.foldl (exPlace ds ok ns) st) ∧ (∀ v, wHas st.1 v = true → wHas (lv.foldl (exPlace ds ok ns) st).1 v = true) ∧ st.2.length + (lv.foldl (exPlace ds ok ns) st).1.length = st.1.length + (lv.foldl (exPlace ds ok ns) st).2.length
  | [], st, _, I => ⟨⟨I.w, I.z, I.lv, (fun e he hok hv => by
      rcases I.cl e he hok hv with q | q | q
      · exact .inl q
      · exact .inr (.inl q)
      · cases q), I.nd⟩, fun v h => h, (by simp only [List.foldl_nil]; omega)⟩
  | here :: r, st, hlv, I => by
    obtain ⟨b1, b2, b3⟩ := exPlace_inv hin hE (hlv here List.mem_cons_self) I
    obtain ⟨c1, c2, c3⟩ := lvl_fold hin hE r (exPlace ds ok ns st here) (fun v hv => b2 v (hlv v (List.mem_cons_of_mem _ hv))) b1
    rw [List.foldl_cons]
    exact ⟨c1, fun v hv => c2 v (b2 v hv), by omega⟩
theorem wayL_spec {p : Int} {ds : List Deed} {ns : List Int} {ok : Int → Bool} {goal : Int} (hin : ∀ e ∈ ns, 0 ≤ e ∧ e < ds.length) (hE : Edges p ds ns) (hg : Rc ds ok ns goal) :
    ∀ (n : Nat) (ws : Ways) (lv : List Int), lmu p ws lv < n → BInv p ds ok ns (fun _ => False) (ws, lv) → Row ds ns 0 goal (wayL ds ok ns goal n ws lv) ∧ ∀ e ∈ wayL ds ok ns goal n ws lv, ok e = true
  | 0, _, _, h, _ => by omega
  | n + 1, ws, lv, hm, I => by
    unfold wayL
    by_cases hh : wHas ws goal = true
    · rw [if_pos hh]
      obtain ⟨r0, hr0⟩ := Option.isSome_iff_exists.mp (show (ws.lookup goal).isSome = true from hh)
      have e2 : wLook ws goal = r0 := by unfold wLook; rw [hr0]; rfl
      rw [e2]
      obtain ⟨_, a2, a3⟩ := I.w.row goal r0 hr0
      exact ⟨a2, a3⟩
    · rw [if_neg hh]
      have hlv : lv ≠ [] := by
        intro e
        subst e
        have all : ∀ v, Rc ds ok ns v → wHas ws v = true := by
          intro v t
          induction t with
          | zero => exact I.z
          | go he hw _ ih =>
            rcases I.cl _ he hw ih with q | q | q
            · cases q
            · exact q
            · exact q.elim
        exact hh (all goal hg)
      obtain ⟨c1, c2, c3⟩ := lvl_fold hin hE lv (ws, []) I.lv (lvl_start I)
      have l1 := ways_len c1
      have l2 := ways_len I
      simp only [List.length_nil] at c3 l2
      refine wayL_spec hin hE hg n _ _ ?_ c1
      unfold lmu at hm ⊢
      rw [if_neg hlv] at hm
      split
      · omega
      · rename_i z
        have := List.length_pos_iff.mpr z
        omega

structure Kc_Gains (K : Fg) (C : Addr) : Prop where
  cl : Cls K C
  n_whole : NoAttr K C "whole"
  n_some : NoAttr K C "some"
  n_numbers : NoAttr K C "numbers"
abbrev FN_Gains : List Str := ["whole", "some", "numbers"]
theorem nd_Gains : FN_Gains.Nodup := by decide +kernel

abbrev s_look_machine : Stmt := top 10
abbrev N_look_machine : List Str := ["machine", "places", "kinds", "deeds", "k", "one", "kind", "other", "cost"]
abbrev P_look_machine : List Str := ["machine"]
theorem sc_look_machine : FnScope N_look_machine P_look_machine (defScope s_look_machine) := ⟨rfl, rfl, rfl, by decide +kernel, rfl, by decide +kernel, by decide +kernel⟩

/-- None, or an error of the class at cM -/
def F_look_machine (cM : Addr) : Fs := fun args r => ∃ (p kn : Int) (ds : List Deed), args = [eMach p kn ds] ∧ r = if goodM p kn ds then .ok .non else .er cM
theorem df_look_machine {P : Program} {w : World} {K : Fg} {mg : Str → Option Value} {base : Heap} {cM : Addr} (T : Tx K mg) (U : Dn K mg "look_machine" s_look_machine P_look_machine) (EM : EC K mg "BadMachine" cM)
    (c_MOST_PLACES : ∃ t, mg "MOST_PLACES" = some (.int 200 t)) (c_MOST_DEEDS : ∃ t, mg "MOST_DEEDS" = some (.int 600 t)) (c_MOST_KINDS : ∃ t, mg "MOST_KINDS" = some (.int 8 t)) (c_MOST_COST : ∃ t, mg "MOST_COST" = some (.int 1000 t)) :
    Df P w K mg base "look_machine" 1 (F_look_machine cM) :=
  df_of 0 U sc_look_machine (fun _ _ ⟨_, _, _, h, _⟩ => by rw [h]; rfl) fun f cdv A outer s H E args r hr tk hp hF => by
    obtain ⟨p, kn, ds, rfl, rfl⟩ := hF
    have nd := sc_look_machine.nd
    have hu := hr.units
    have hsz : ds.length ≤ 600 ∨ 600 < ds.length := by omega
    refine XF.mk (if goodM p kn ds then .nx [.fz (eMach p kn ds), .fz (.int p), .fz (.int kn), .fz (.lst (ds.map eDeed)), .no, .no, .no, .no, .no] else .er cM) ?_ (by split <;> rfl)
    refine xss_cons (xs_asg (xv_var 0) (xg_tup rfl (xgs_cons (xg_name 1 nd) (xgs_cons (xg_name 2 nd) (xgs_cons (xg_name 3 nd) xgs_nil))))) ?_
    refine xss_if ((xw_or (xt_not (xt_chain (xv_int).br ((xv_var 1)).br ((xv_glob c_MOST_PLACES)).br)) (fun hk => (xw_or (xt_not (xt_chain (xv_int).br ((xv_var 2)).br ((xv_glob c_MOST_KINDS)).br)) (fun hk => (xw_and1 (xt_gt ((xv_len T.len ((xv_var 3)).br)).br ((xv_glob c_MOST_DEEDS)).br))))))).t (fun hk ht => ?_) fun hk ht => ?_
    · have e : goodM p kn ds = false := by
        unfold goodM
        simp only [cmpI, List.length_map] at hk
        rw [Bool.eq_false_iff]
        intro q
        simp only [Bool.and_eq_true, Bool.or_eq_true, Bool.not_eq_true', decide_eq_true_eq, Bool.and_eq_false_iff, decide_eq_false_iff_not] at hk q
        omega
      rw [e, if_neg Bool.false_ne_true]
      exact xss_yesS ht (xss_raise rfl tk EM)
    · refine xss_no0 ht ?_
      simp only [cmpI, List.length_map, Bool.or_eq_false_iff, Bool.not_eq_false', Bool.and_eq_true, decide_eq_true_eq, decide_eq_false_iff_not] at hk
      have eg : goodM p kn ds = look p kn none ds := by
        unfold goodM
        rw [decide_eq_true hk.1.1, decide_eq_true hk.1.2, decide_eq_true hk.2.1.1, decide_eq_true hk.2.1.2, decide_eq_true (show ds.length ≤ 600 by omega)]
        rfl
      rw [eg]
      refine xss_one (xs_for hp rfl (xi_range T.range (xv_len T.len ((xv_var 3)).br) (by omega) (by simp only [List.length_map]; omega)) ?_)
      rw [Int.toNat_natCast, List.length_map, rngD_F]
      -- from the i-th deed on
      suffices h : ∀ (m i : Nat), i + m = ds.length → ∀ prev, prev = (if i = 0 then none else ds[i - 1]?) → Fr _ _ _ _ (rngF i m) [.fz (eMach p kn ds), .fz (.int p), .fz (.int kn), .fz (.lst (ds.map eDeed)), .no, .no, .no, .no, .no]
          (if look p kn prev (ds.drop i) then .nx [.fz (eMach p kn ds), .fz (.int p), .fz (.int kn), .fz (.lst (ds.map eDeed)), .no, .no, .no, .no, .no] else .er cM) by
        exact h ds.length 0 (by omega) none rfl
      intro m
      induction m with
      | zero =>
        intro i hi prev hprev
        rw [rngF_0, List.drop_of_length_le (by omega)]
        exact .nil
      | succ m ih =>
        intro i hi prev hprev
        have hlt : i < ds.length := by omega
        rw [rngF_succ, List.drop_eq_getElem_cons hlt]
        have hix : ixD (.lst (ds.map eDeed)) (i : Int) = some (eDeed ds[i]) := ix_map (by rw [atI_ge (by omega) (by omega)]; simp)
        have hl : look p kn prev (ds[i] :: ds.drop (i + 1)) = ((deedOk p kn ds[i] && prevOk prev ds[i]) && look p kn (some ds[i]) (ds.drop (i + 1))) := rfl
        rw [hl]
        refine Fr.chk (deedOk p kn ds[i] && prevOk prev ds[i]) (xg_name 4 nd) (a := [.fz (eMach p kn ds), .fz (.int p), .fz (.int kn), .fz (.lst (ds.map eDeed)), .fz (.int i), .fz (.int ds[i].1), .fz (.int ds[i].2.1), .fz (.int ds[i].2.2.1), .fz (.int ds[i].2.2.2)]) (o1 := .er cM) ?_ (Le.fg [4, 5, 6, 7, 8] rfl) rfl
          (fun hc => ?_) (fun hc => ?_)
        · refine xss_cons (xs_asg (xv_ix ((xv_var 3)).br ((xv_var 4)).br (hix)) (xg_tup rfl (xgs_cons (xg_name 5 nd) (xgs_cons (xg_name 6 nd) (xgs_cons (xg_name 7 nd) (xgs_cons (xg_name 8 nd) xgs_nil)))))) ?_
          refine xss_if ((xw_or (xt_not (xt_chain (xv_int).br ((xv_var 5)).br ((xv_var 1)).br)) (fun hk => (xw_or (xt_not (xt_chain (xv_int).br ((xv_var 7)).br ((xv_var 1)).br)) (fun hk => (xw_or (xt_not (xt_chain (xv_int).br ((xv_var 6)).br ((xv_var 2)).br)) (fun hk => (xw_and1 (xt_not (xt_chain (xv_int).br ((xv_var 8)).br ((xv_glob c_MOST_COST)).br)))))))))).t (fun hk ht => ?_) fun hk ht => ?_
          · have e : deedOk p kn ds[i] = false := by
              unfold deedOk
              simp only [cmpI] at hk
              rw [Bool.eq_false_iff]
              intro q
              simp only [Bool.and_eq_true, Bool.or_eq_true, Bool.not_eq_true', decide_eq_true_eq, Bool.and_eq_false_iff, decide_eq_false_iff_not] at hk q
              omega
            rw [e, Bool.false_and, if_neg Bool.false_ne_true]
            exact xss_yesS ht (xss_raise rfl tk EM)
          · have e : deedOk p kn ds[i] = true := by
              unfold deedOk
              simp only [cmpI, Bool.or_eq_false_iff, Bool.not_eq_false', Bool.and_eq_true, decide_eq_true_eq] at hk
              simp only [Bool.and_eq_true, decide_eq_true_eq]
              omega
            rw [e, Bool.true_and]
            refine xss_no0 ht ?_
            by_cases h0 : i = 0
            · subst h0
              rw [hprev, if_pos rfl, show prevOk none ds[0] = true from rfl, if_pos rfl]
              exact xss_no0 ((xw_and (l := false) (xt_gt ((xv_var 4)).br (xv_int).br) (fun hk => absurd hk (by simp))).t.is (by simp)) xss_nil
            · rw [if_neg h0, List.getElem?_eq_getElem (by omega)] at hprev
              subst hprev
              have hix' : ixD (.lst (ds.map eDeed)) ((i : Int) - 1) = some (eDeed ds[i - 1]) := ix_map (by rw [atI_ge (by omega) (by omega)]; congr 2; omega)
              refine xss_if (XT.is ((xw_and (xt_gt ((xv_var 4)).br (xv_int).br) (fun _ => xw_and1 (xt_not (xt_ltT hu ((xv_ix ((xv_var 3)).br ((xv_sub ((xv_var 4)).br (xv_int).br)).br (hix'))).br ((xv_ix ((xv_var 3)).br ((xv_var 4)).br (hix))).br (rfl) (rfl))))).t) (show _ = !(dlt ds[i - 1] ds[i]) by rw [decide_eq_true (by omega)]; rfl)) (fun hk ht => ?_) fun hk ht => ?_
              · have e : prevOk (some ds[i - 1]) ds[i] = false := by simpa [prevOk] using hk
                rw [e, if_neg Bool.false_ne_true]
                exact xss_yesS ht (xss_raise rfl tk EM)
              · have e : prevOk (some ds[i - 1]) ds[i] = true := by simpa [prevOk] using hk
                rw [e, if_pos rfl]
                exact xss_no0 ht xss_nil
        · rw [hc, Bool.true_and]
          refine ih (i + 1) (by omega) (some ds[i]) ?_
          rw [if_neg (by omega)]
          simp [hlt]
        · rw [hc]; rfl

abbrev s_reached : Stmt := top 11
abbrev N_reached : List Str := ["machine", "found", "left", "here", "one", "kind", "other", "cost"]
abbrev P_reached : List Str := ["machine"]
theorem sc_reached : FnScope N_reached P_reached (defScope s_reached) := ⟨rfl, rfl, rfl, by decide +kernel, rfl, by decide +kernel, by decide +kernel⟩

theorem and_not {a : Int} {b : Int} {c : Bool} (h : ¬ (a = b ∧ c = false)) : (decide (a = b) && !c) = false := by
  by_cases z : a = b
  · cases c
    · exact absurd ⟨z, rfl⟩ h
    · simp
  · simp [z]
theorem and_yes {a : Int} {b : Int} {c : Bool} (h : a = b ∧ c = false) : (decide (a = b) && !c) = true := by
  rw [h.1, h.2]; simp
noncomputable def reachR (cM : Addr) (p kn : Int) (ds : List Deed) : Res := if goodM p kn ds then .ok (.lst ((rB p ds).map .bl)) else .er cM
def F_reached (cM : Addr) : Fs := fun args r => ∃ (p kn : Int) (ds : List Deed), args = [eMach p kn ds] ∧ r = reachR cM p kn ds
theorem df_reached {P : Program} {w : World} {K : Fg} {mg : Str → Option Value} {base : Heap} {cM : Addr} (T : Tx K mg) (U : Dn K mg "reached" s_reached P_reached) (D_look_machine : Df P w K mg base "look_machine" 1 (F_look_machine cM)) :
    Df P w K mg base "reached" 2 (F_reached cM) :=
  df_of 1 U sc_reached (fun _ _ ⟨_, _, _, h, _⟩ => by rw [h]; rfl) fun f cdv A outer s H E args r hr tk hp hF => by
    obtain ⟨p, kn, ds, rfl, rfl⟩ := hF
    have nd := sc_reached.nd
    unfold reachR
    cases hg : goodM p kn ds with
    | false =>
      rw [if_neg Bool.false_ne_true]
      exact XF.er (xss_stop (xs_exprR (xr_call D_look_machine hr tk (xa_cons (xv_var 0) xa_nil) ⟨p, kn, ds, rfl, by rw [hg]; rfl⟩))).er
    | true =>
      rw [if_pos rfl]
      obtain ⟨p1, _, hl, g⟩ := goodM_d hg
      refine XF.rt (xss_cons (xs_expr (xv_call D_look_machine (hr.mono (by decide)) tk (xa_cons (xv_var 0) xa_nil) (⟨p, kn, ds, rfl, by rw [hg]; rfl⟩))) ?_)
      refine xss_cons (xs_own 1 nd (xl_rep ((xl_lst (xa_cons xv_bl xa_nil))).br ((xv_ix ((xv_var 0)).br (xv_int).br (by rfl))).br (by omega) (by omega) (by simp; omega))) ?_
      have e0 : (List.replicate p.toNat [D.bl false]).flatten = (List.replicate p.toNat false).map D.bl := by
        rw [List.map_replicate]
        induction p.toNat with
        | zero => rfl
        | succ n ih => rw [List.replicate_succ, List.flatten_cons, ih, List.replicate_succ]; rfl
      rw [e0]
      refine xss_cons (xs_setix 1 xv_bl xv_int rfl (ixN_ge (by decide) (by simp; omega))) ?_
      rw [show ((List.replicate p.toNat false).map D.bl).set (0 : Int).toNat (.bl true) = ((List.replicate p.toNat false).set 0 true).map D.bl by rw [List.map_set]; rfl]
      refine xss_cons (xs_own 2 nd (xl_lst (xa_cons xv_int xa_nil))) ?_
      refine xss_whileX (Q := fun d1 => d1 = [.fz (eMach p kn ds), .ow ((rB p ds).map .bl), .ow [], .no, .no, .no, .no, .no]) hp ?_ ?_
      · suffices loop : ∀ (k : Nat) (f : List Bool) (l : List Int), msr (f, l) ≤ k → msr (f, l) ≤ 500 → DInv p ds (fun _ => False) (f, l) → ∃ n, Wh _ _ _ _ n [.fz (eMach p kn ds), .ow (f.map .bl), .ow (l.map .int), .no, .no, .no, .no, .no] (.nx [.fz (eMach p kn ds), .ow ((rB p ds).map .bl), .ow [], .no, .no, .no, .no, .no]) by
          obtain ⟨n, hw⟩ := loop _ _ [0] (Nat.le_refl _) (by have := List.count_le_length (a := false) (l := (List.replicate p.toNat false).set 0 true); rw [List.length_set, List.length_replicate] at this; unfold msr; simp only [List.length_singleton]; omega) (start_inv p1.1)
          exact ⟨n, _, rfl, hw⟩
        intro k
        induction k with
        | zero =>
          intro f l hk h5 I
          have hl0 : l = [] := List.length_eq_zero_iff.mp (by unfold msr at hk; simp only at hk; omega)
          subst hl0
          rw [end_inv I]
          exact ⟨0, .stop (XT.is (xt_truth (xb_own 2)) (rfl))⟩
        | succ k ih =>
          intro f l hk h5 I
          rcases List.eq_nil_or_concat l with rfl | ⟨l, here, rfl⟩
          · rw [end_inv I]
            exact ⟨0, .stop (XT.is (xt_truth (xb_own 2)) (rfl))⟩
          · rw [List.concat_eq_append] at hk h5 I ⊢
            have hm := turn_msr (ds := ds) (f := f) (l := l) (here := here)
            have I2 := turn_inv (fun d hd => (g d hd).2.1) I
            obtain ⟨n, hw⟩ := ih (dfsAll ds here (f, l)).1 (dfsAll ds here (f, l)).2 (show msr (dfsAll ds here (f, l)) ≤ _ by omega) (show msr (dfsAll ds here (f, l)) ≤ _ by omega) I2
            refine ⟨n + 1, .step (o' := .nx [.fz (eMach p kn ds), .ow ((dfsAll ds here (f, l)).1.map .bl), .ow ((dfsAll ds here (f, l)).2.map .int), .fz (.int here), .no, .no, .no, .no]) (XT.is (xt_truth (xb_own 2)) (by rw [List.map_append]; cases l <;> rfl)) (xss_cons (xs_pop (ev := .int here) 2 3 nd (by decide) rfl (by rw [List.map_append]; simp)) (xss_one (xs_for hp rfl (xi_list (xv_ix ((xv_var 0)).br (xv_int).br (by rfl))) ?_))) rfl (Le.fg [3] rfl) hw⟩
            rw [List.map_append, List.map_singleton, List.dropLast_concat]
            have hr : Reach ds here := I.ok _ (I.lf here (List.mem_append_right _ (List.mem_singleton_self _))).2
            have I0 : DInv p ds (fun _ => True) (f, l) := ⟨I.len, I.ok, fun v hv => I.lf v (List.mem_append_left _ hv), fun _ _ _ => .inr (.inr trivial), I.z⟩
            have h6 : msr (f, l) ≤ 500 := by
              unfold msr at h5 ⊢
              simp only [List.length_append, List.length_singleton] at h5 ⊢
              omega
            clear hw ih hm I2 hk I h5
            suffices inner : ∀ (xs : List Deed) (st : List Bool × List Int), (∀ d ∈ xs, d ∈ ds) → DInv p ds (fun _ => True) st → msr st ≤ 500 → Fr _ _ _ _ (xs.map eDeed) [.fz (eMach p kn ds), .ow (st.1.map .bl), .ow (st.2.map .int), .fz (.int here), .no, .no, .no, .no] (.nx [.fz (eMach p kn ds), .ow ((dfsAll xs here st).1.map .bl), .ow ((dfsAll xs here st).2.map .int), .fz (.int here), .no, .no, .no, .no]) by
              exact inner ds (f, l) (fun d h => h) I0 h6
            intro xs
            induction xs with
            | nil => intro st _ _ _; exact .nil
            | cons d xs ihx =>
              intro st hmem I hm
              have hd := hmem d List.mem_cons_self
              have hb := (g d hd).2.1
              have I2 := (dfs_inv hd hb hr I).1
              have q := ihx (dfs here st d) (fun c hc => hmem c (List.mem_cons_of_mem _ hc)) I2 (Nat.le_trans (dfs_msr here st d) hm)
              have hlen := I.len
              have hix : ixD (.lst (st.1.map .bl)) d.2.2.1 = some (.bl (st.1.getD d.2.2.1.toNat true)) := ix_map (atI_d _ hb.1 (by omega))
              obtain ⟨f, l⟩ := st
              have hlen2 : (f.length : Int) = p := hlen
              by_cases hc : d.1 = here ∧ f.getD d.2.2.1.toNat true = false
              · have e : dfs here (f, l) d = (f.set d.2.2.1.toNat true, l ++ [d.2.2.1]) := by unfold dfs; rw [if_pos hc]
                have hl : l.length ≤ 500 := by unfold msr at hm; simp only at hm; omega
                rw [show dfsAll (d :: xs) here (f, l) = dfsAll xs here (dfs here (f, l) d) from rfl]
                rw [e] at q ⊢
                rw [List.map_set, List.map_append] at q
                exact .step (xg_tup rfl (xgs_cons (xg_name 4 nd) (xgs_cons (xg_name 5 nd) (xgs_cons (xg_name 6 nd) (xgs_cons (xg_name 7 nd) xgs_nil))))) (xss_yes (XT.is ((xw_and (xt_eqI ((xv_var 4)).br ((xv_var 3)).br) (fun hk => (xw_and1 (xt_not (xt_val (xv_ix (xb_own 1) ((xv_var 6)).br (hix)))))))).t (and_yes hc)) (xss_cons (xs_setix 1 xv_bl (xv_var 6) rfl (ixN_ge hb.1 (by simp; omega))) (xss_one (xs_append 2 (xv_var 6) (by rfl) (by rw [List.length_map]; omega)))) xss_nil) rfl (Le.fg [4, 5, 6, 7] rfl) q
              · have e : dfs here (f, l) d = (f, l) := by unfold dfs; rw [if_neg hc]
                rw [show dfsAll (d :: xs) here (f, l) = dfsAll xs here (dfs here (f, l) d) from rfl]
                rw [e] at q ⊢
                exact .step (xg_tup rfl (xgs_cons (xg_name 4 nd) (xgs_cons (xg_name 5 nd) (xgs_cons (xg_name 6 nd) (xgs_cons (xg_name 7 nd) xgs_nil))))) (xss_no0 (XT.is ((xw_and (xt_eqI ((xv_var 4)).br ((xv_var 3)).br) (fun hk => (xw_and1 (xt_not (xt_val (xv_ix (xb_own 1) ((xv_var 6)).br (hix)))))))).t (and_not hc)) xss_nil) rfl (Le.fg [4, 5, 6, 7] rfl) q
      · rintro d1 rfl
        exact XSs.freeze 1 (xss_ret (xv_var 1))

abbrev s_law_cell : Stmt := top 29
abbrev N_law_cell : List Str := ["_law_script", "_law_k"]
abbrev P_law_cell : List Str := ["_law_script", "_law_k"]
theorem sc_law_cell : FnScope N_law_cell P_law_cell (defScope s_law_cell) := ⟨rfl, rfl, rfl, by decide +kernel, rfl, by decide +kernel, by decide +kernel⟩

def F_law_cell : Fs := fun args r => ∃ (s : List Int) (k : Int), args = [.scr s, .int k] ∧ r = .ok (.int (cell s k))
theorem df_law_cell {P : Program} {w : World} {K : Fg} {mg : Str → Option Value} {base : Heap} (T : Tx K mg) (U : Dn K mg "_law_cell" s_law_cell P_law_cell) : Df P w K mg base "_law_cell" 1 F_law_cell :=
  df_of 0 U sc_law_cell (fun _ _ ⟨_, _, h, _⟩ => by rw [h]; rfl) fun f cdv A outer s H E args r hr tk hp hF => by
    obtain ⟨xs, k, rfl, rfl⟩ := hF
    refine XF.rt ?_
    cases xs with
    | nil =>
      refine xss_cons (xs_no (xt_truth ((xv_var 0)).br) xss_nil) (xss_one ?_)
      exact xs_ret xv_int
    | cons x xs =>
      refine xss_stop (xs_yes (xt_truth ((xv_var 0)).br) (xss_one ?_))
      refine xs_ret (xv_ix ((xv_var 0)).br ((xv_mod ((xv_var 1)).br ((xv_len T.len ((xv_var 0)).br)).br (by first | omega | decide | (simp only [List.length_cons]; omega)))).br (?_))
      show (atI (x :: xs) _).map _ = _
      have h0 : (0 : Int) < ((x :: xs).length : Int) := by simp only [List.length_cons]; omega
      rw [atI_d 0 (Int.emod_nonneg _ (by omega)) (Int.emod_lt_of_pos _ h0)]
      rfl

abbrev s_law_mix : Stmt := top 30
abbrev N_law_mix : List Str := ["_law_script", "_law_k", "_law_number"]
abbrev P_law_mix : List Str := ["_law_script", "_law_k"]
theorem sc_law_mix : FnScope N_law_mix P_law_mix (defScope s_law_mix) := ⟨rfl, rfl, rfl, by decide +kernel, rfl, by decide +kernel, by decide +kernel⟩

def F_law_mix : Fs := fun args r => ∃ (s : List Int) (k : Int), args = [.scr s, .int k] ∧ r = .ok (.int (mix s k))
theorem df_law_mix {P : Program} {w : World} {K : Fg} {mg : Str → Option Value} {base : Heap} (T : Tx K mg) (U : Dn K mg "_law_mix" s_law_mix P_law_mix) (D__law_cell : Df P w K mg base "_law_cell" 1 F_law_cell) : Df P w K mg base "_law_mix" 2 F_law_mix :=
  df_of 1 U sc_law_mix (fun _ _ ⟨_, _, h, _⟩ => by rw [h]; rfl) fun f cdv A outer s H E args r hr tk hp hF => by
    obtain ⟨xs, k, rfl, rfl⟩ := hF
    have nd := sc_law_mix.nd
    unfold mix
    refine XF.rt ?_
    refine xss_cons (xs_set 2 nd (xv_mod ((xv_add ((xv_call D__law_cell (hr.mono (by decide)) tk (xa_cons (xv_var 0) (xa_cons (xv_var 1) xa_nil)) (by exact ⟨_, _, rfl, rfl⟩))).br ((xv_mul (xv_int).br ((xv_add ((xv_var 1)).br (xv_int).br)).br (by first | exact Or.inl ⟨by omega, by omega⟩ | exact Or.inr ⟨by omega, by omega⟩))).br)).br (xv_int).br (by first | omega | decide | (simp only [List.length_cons]; omega)))) ?_
    refine xss_cons (xs_set 2 nd (xv_mod ((xv_mul ((xv_var 2)).br (xv_int).br (by first | exact Or.inl ⟨by omega, by omega⟩ | exact Or.inr ⟨by omega, by omega⟩))).br (xv_int).br (by first | omega | decide | (simp only [List.length_cons]; omega)))) ?_
    exact xss_one (xs_ret (xv_mod ((xv_add ((xv_mul ((xv_div ((xv_var 2)).br (xv_int).br (by first | exact ⟨by omega, by omega⟩ | exact ⟨by decide, by decide⟩))).br (xv_int).br (by first | exact Or.inl ⟨by omega, by omega⟩ | exact Or.inr ⟨by omega, by omega⟩))).br ((xv_var 2)).br)).br (xv_int).br (by first | omega | decide | (simp only [List.length_cons]; omega))))

/-! the object of gains -/
noncomputable def nsM (ds : List Deed) : List Int := ((List.range ds.length).filter fun (k : Nat) => isR ds (src ds (k : Int))).map fun (k : Nat) => (k : Int)
theorem nsM_in {ds : List Deed} {e : Int} (h : e ∈ nsM ds) : (0 ≤ e ∧ e < ds.length) ∧ Reach ds (src ds e) := by
  unfold nsM at h
  obtain ⟨k, hk, rfl⟩ := List.mem_map.mp h
  rw [List.mem_filter, List.mem_range] at hk
  exact ⟨⟨by omega, by omega⟩, isR_iff.mp hk.2⟩
theorem nsM_of {ds : List Deed} {e : Int} (h0 : 0 ≤ e) (h1 : e < ds.length) (hr : Reach ds (src ds e)) : e ∈ nsM ds := by
  unfold nsM
  refine List.mem_map.mpr ⟨e.toNat, List.mem_filter.mpr ⟨List.mem_range.mpr (by omega), ?_⟩, by omega⟩
  rw [Int.toNat_of_nonneg h0]
  exact isR_iff.mpr hr
theorem nsM_edges {p kn : Int} {ds : List Deed} (h : goodM p kn ds = true) : Edges p ds (nsM ds) := fun e he => by
  obtain ⟨⟨h0, h1⟩, _⟩ := nsM_in he
  obtain ⟨_, _, _, g⟩ := goodM_d h
  have := g _ (dAt_mem h0 h1)
  exact ⟨this.1, this.2.1⟩
theorem nsM_len (ds : List Deed) : (nsM ds).length ≤ ds.length := by
  unfold nsM
  rw [List.length_map]
  have := List.length_filter_le (fun (k : Nat) => isR ds (src ds (k : Int))) (List.range ds.length)
  rw [List.length_range] at this
  exact this
noncomputable abbrev gF (p kn : Int) (ds : List Deed) (sm : List Int) : List (Str × D) := [("whole", eMach p kn ds), ("some", .lst (sm.map .int)), ("numbers", .lst ((nsM ds).map .int))]
theorem ix_wt {sm : List Int} {ds : List Deed} {e : Int} (hl : sm.length = ds.length) (h : 0 ≤ e ∧ e < ds.length) : ixD (.lst (sm.map .int)) e = some (.int (wt sm e)) := ix_map (atI_d 0 h.1 (by omega))
theorem ix_gI {l : List Int} {v p : Int} (hl : (l.length : Int) = p) (h : 0 ≤ v ∧ v < p) : ixD (.lst (l.map .int)) v = some (.int (gI l v)) := ix_map (atI_d 0 h.1 (by omega))
def oD : Option Int → D
  | none => .non
  | some i => .int i
theorem ix_gO {l : List (Option Int)} {v p : Int} (hl : (l.length : Int) = p) (h : 0 ≤ v ∧ v < p) : ixD (.lst (l.map oD)) v = some (oD (gO l v)) := ix_map (atI_d none h.1 (by omega))
theorem eqD_lst {α : Type} [DecidableEq α] {f : α → D} (hf : ∀ x y, eqD (f x) (f y) = decide (x = y)) : ∀ (xs ys : List α), eqD (.lst (xs.map f)) (.lst (ys.map f)) = decide (xs = ys)
  | [], [] => rfl
  | [], _ :: _ => rfl
  | _ :: _, [] => rfl
  | x :: xs, y :: ys => by
    have ih := eqD_lst hf xs ys
    show (eqD (f x) (f y) && eqD (.lst (xs.map f)) (.lst (ys.map f))) = _
    rw [ih, hf, Bool.eq_iff_iff]
    simp
theorem eqD_ints (xs ys : List Int) : eqD (.lst (xs.map .int)) (.lst (ys.map .int)) = decide (xs = ys) := eqD_lst (fun _ _ => rfl) xs ys
theorem rep_map {α : Type} (f : α → D) (x : α) : ∀ n : Nat, (List.replicate n [f x]).flatten = (List.replicate n x).map f
  | 0 => rfl
  | n + 1 => by rw [List.replicate_succ, List.flatten_cons, rep_map f x n, List.replicate_succ]; rfl
theorem wfix_stop {ds : List Deed} {sm ns x : List Int} (h : wround ds sm ns x = x) : ∀ n, wFix ds sm ns n x = x
  | 0 => rfl
  | n + 1 => by unfold wFix; rw [if_pos h]
theorem wfix_go {ds : List Deed} {sm ns x : List Int} {n : Nat} (h : ¬ wround ds sm ns x = x) : wFix ds sm ns (n + 1) x = wFix ds sm ns n (wround ds sm ns x) := by
  conv => lhs; unfold wFix
  rw [if_neg h]
/-! ways as a dict -/
def wD (ws : Ways) : List (Int × D) := ws.map fun x => (x.1, D.lst (x.2.map .int))
theorem wD_look {v : Int} : ∀ {ws : Ways}, (wD ws).lookup v = (ws.lookup v).map fun r => D.lst (r.map .int)
  | [] => rfl
  | (k, r) :: ws => by
    show List.lookup v ((k, D.lst (r.map .int)) :: wD ws) = _
    by_cases e : v = k
    · subst e; simp [List.lookup]
    · have : (v == k) = false := by simp [e]
      simp only [List.lookup, this]
      exact wD_look
theorem wD_has {ws : Ways} {v : Int} : ((wD ws).lookup v).isSome = wHas ws v := by rw [wD_look]; unfold wHas; cases ws.lookup v <;> rfl
theorem wD_at {ws : Ways} {v : Int} (h : wHas ws v = true) : (wD ws).lookup v = some (.lst ((wLook ws v).map .int)) := by
  obtain ⟨r, hr⟩ := Option.isSome_iff_exists.mp (show (ws.lookup v).isSome = true from h)
  rw [wD_look, hr]
  unfold wLook
  rw [hr]; rfl
theorem wD_no {ws : Ways} {v : Int} (h : wHas ws v = false) : (wD ws).lookup v = none := by
  rw [wD_look]
  unfold wHas at h
  cases e : ws.lookup v with
  | none => rfl
  | some r => rw [e] at h; cases h
theorem wD_len (ws : Ways) : (wD ws).length = ws.length := List.length_map _
theorem wD_app (ws : Ways) (v : Int) (r : List Int) : wD (ws ++ [(v, r)]) = wD ws ++ [(v, .lst (r.map .int))] := by unfold wD; rw [List.map_append]; rfl
/-- rows are short -/
def RLen (ws : Ways) : Prop := ∀ v, wHas ws v = true → (wLook ws v).length < ws.length
theorem rlen0 : RLen [(0, [])] := fun v h => by
  have : v = 0 := by simpa using has_mem.mp h
  subst this; exact Nat.zero_lt_one
theorem look_app {ws : Ways} {v u : Int} {r : List Int} : wLook (ws ++ [(u, r)]) v = if wHas ws v = true then wLook ws v else if v = u then r else [] := by
  unfold wLook wHas
  rw [lookup_app]
  split
  · rfl
  · split <;> rfl
theorem exEdge_rlen {ds : List Deed} {ok : Int → Bool} {here e : Int} {st : Ways × List Int} (hh : wHas st.1 here = true) (h : RLen st.1) : RLen (exEdge ds ok here st e).1 := by
  unfold exEdge
  split
  · intro v hv
    simp only at hv ⊢
    rw [look_app, List.length_append, List.length_singleton]
    split
    · rename_i q; have := h v q; omega
    · split
      · rw [List.length_append, List.length_singleton]
        have := h here hh
        omega
      · simp
  · exact h
theorem exEdge_no {ds : List Deed} {ok : Int → Bool} {here e : Int} {st : Ways × List Int} (h : ¬ (src ds e = here ∧ ok e = true ∧ wHas st.1 (dst ds e) = false)) : exEdge ds ok here st e = st := if_neg h
theorem exEdge_yes {ds : List Deed} {ok : Int → Bool} {here e : Int} {st : Ways × List Int} (h : src ds e = here ∧ ok e = true ∧ wHas st.1 (dst ds e) = false) : exEdge ds ok here st e = (st.1 ++ [(dst ds e, wLook st.1 here ++ [e])], st.2 ++ [dst ds e]) := if_pos h
/-- what the walk keeps -/
structure WK (p : Int) (ds : List Deed) (ok : Int → Bool) (ns : List Int) (st : Ways × List Int) : Prop where
  r : RLen st.1
  w : ∀ v, wHas st.1 v = true → 0 ≤ v ∧ v < p
  nd : (st.1.map (·.1)).Nodup
  lv : ∀ v ∈ st.2, wHas st.1 v = true
  z : wHas st.1 0 = true
  l : st.2.length ≤ st.1.length
theorem wk_edge {p : Int} {ds : List Deed} {ok : Int → Bool} {ns : List Int} {here e : Int} {st : Ways × List Int} (hE : Edges p ds ns) (he : e ∈ ns) (hh : wHas st.1 here = true) (I : WK p ds ok ns st) : WK p ds ok ns (exEdge ds ok here st e) ∧ ∀ v, wHas st.1 v = true → wHas (exEdge ds ok here st e).1 v = true := by
  by_cases h : src ds e = here ∧ ok e = true ∧ wHas st.1 (dst ds e) = false
  · have hr := exEdge_rlen (ds := ds) (ok := ok) (e := e) hh I.r
    rw [exEdge_yes h] at hr ⊢
    have up : ∀ v, wHas st.1 v = true → wHas (st.1 ++ [(dst ds e, wLook st.1 here ++ [e])]) v = true := fun v hv => by rw [has_app, hv]; rfl
    refine ⟨⟨hr, fun v hv => ?_, ?_, fun v hv => ?_, up 0 I.z, ?_⟩, up⟩
    · simp only at hv
      rw [has_app, Bool.or_eq_true] at hv
      rcases hv with hv | hv
      · exact I.w v hv
      · rw [of_decide_eq_true hv]; exact (hE e he).2
    · simp only [List.map_append, List.map_cons, List.map_nil]
      rw [List.nodup_append]
      refine ⟨I.nd, by simp, fun a ha b hb e1 => ?_⟩
      rw [List.mem_singleton] at hb
      rw [e1, hb] at ha
      rw [has_mem.mpr ha] at h
      cases h.2.2
    · rcases List.mem_append.mp hv with hv | hv
      · exact up v (I.lv v hv)
      · rw [List.mem_singleton] at hv; rw [hv, has_app]; simp
    · have := I.l
      simp only [List.length_append, List.length_singleton]; omega
  · rw [exEdge_no h]
    exact ⟨I, fun v h => h⟩
theorem wk_place {p : Int} {ds : List Deed} {ok : Int → Bool} {ns : List Int} {here : Int} (hE : Edges p ds ns) : ∀ (l : List Int) (st : Ways × List Int), (∀ e ∈ l, e ∈ ns) → wHas st.1 here = true → WK p ds ok ns st → WK p ds ok ns (exPlace ds ok l st here) ∧ ∀ v, wHas st.1 v = true → wHas (exPlace ds ok l st here).1 v = true
  | [], st, _, _, I => ⟨I, fun v h => h⟩
  | e :: l, st, hl, hh, I => by
    obtain ⟨a1, a2⟩ := wk_edge (ok := ok) hE (hl e List.mem_cons_self) hh I
    obtain ⟨b1, b2⟩ := wk_place hE l (exEdge ds ok here st e) (fun x hx => hl x (List.mem_cons_of_mem _ hx)) (a2 _ hh) a1
    exact ⟨b1, fun v h => b2 v (a2 v h)⟩
theorem wk_go {p : Int} {ds : List Deed} {ok : Int → Bool} {ns : List Int} {stop : Int → Bool} (hE : Edges p ds ns) : ∀ (lv : List Int) (st st' : Ways × List Int), (∀ v ∈ lv, wHas st.1 v = true) → WK p ds ok ns st → tGo ds ok ns stop lv st = .inr st' → WK p ds ok ns st'
  | [], st, st', _, I, h => by simp only [tGo] at h; cases h; exact I
  | here :: r, st, st', hl, I, h => by
    unfold tGo at h
    split at h
    · cases h
    · obtain ⟨a1, a2⟩ := wk_place (ok := ok) hE ns st (fun _ h => h) (hl here List.mem_cons_self) I
      exact wk_go hE r _ st' (fun v hv => a2 v (hl v (List.mem_cons_of_mem _ hv))) a1 h
theorem wk_fold {p : Int} {ds : List Deed} {ok : Int → Bool} {ns : List Int} (hE : Edges p ds ns) : ∀ (lv : List Int) (st : Ways × List Int), (∀ v ∈ lv, wHas st.1 v = true) → WK p ds ok ns st → WK p ds ok ns (lv.foldl (exPlace ds ok ns) st)
  | [], st, _, I => I
  | here :: r, st, hl, I => by
    obtain ⟨a1, a2⟩ := wk_place (ok := ok) hE ns st (fun _ h => h) (hl here List.mem_cons_self) I
    rw [List.foldl_cons]
    exact wk_fold hE r _ (fun v hv => a2 v (hl v (List.mem_cons_of_mem _ hv))) a1
theorem wk_len {p : Int} {ds : List Deed} {ok : Int → Bool} {ns : List Int} {st : Ways × List Int} (I : WK p ds ok ns st) : (st.1.length : Int) ≤ p := by
  apply Classical.byContradiction
  intro hc
  have hp : 0 < p := by have := I.w 0 I.z; omega
  obtain ⟨i, j, h1, h2, h3⟩ := pigeon p.toNat (fun i => (st.1.map (·.1)).getD i 0) (fun i hi => by
    have hl : i < (st.1.map (·.1)).length := by rw [List.length_map]; omega
    have hm : (st.1.map (·.1)).getD i 0 ∈ st.1.map (·.1) := by
      rw [List.getD_eq_getElem?_getD, List.getElem?_eq_getElem hl]
      exact List.getElem_mem _
    have := I.w _ (has_mem.mpr hm)
    omega)
  have li : i < (st.1.map (·.1)).length := by rw [List.length_map]; omega
  have lj : j < (st.1.map (·.1)).length := by rw [List.length_map]; omega
  rw [List.getD_eq_getElem?_getD, List.getD_eq_getElem?_getD, List.getElem?_eq_getElem li, List.getElem?_eq_getElem lj] at h3
  have nd := I.nd
  rw [List.nodup_iff_pairwise_ne, List.pairwise_iff_getElem] at nd
  exact nd i j li lj h1 (by simpa using h3)
theorem wk_next {p : Int} {ds : List Deed} {ok : Int → Bool} {ns : List Int} {st : Ways × List Int} (I : WK p ds ok ns st) : WK p ds ok ns (st.1, []) := ⟨I.r, I.w, I.nd, (fun v h => by cases h), I.z, Nat.zero_le _⟩
theorem wk_start {p : Int} {ds : List Deed} {ok : Int → Bool} {ns : List Int} (hp : 1 ≤ p) : WK p ds ok ns ([(0, [])], [0]) := by
  have h0 : ∀ v, wHas [(0, ([] : List Int))] v = true → v = 0 := fun v h => by simpa using has_mem.mp h
  exact ⟨rlen0, fun v h => by rw [h0 v h]; omega, by simp, fun v hv => by rw [List.mem_singleton] at hv; rw [hv]; rfl, rfl, Nat.le_refl _⟩
/-- one level -/
theorem tight_step {p : Int} {ds : List Deed} {ns sm W : List Int} {ok stop : Int → Bool} (hin : ∀ e ∈ ns, 0 ≤ e ∧ e < ds.length) (hE : Edges p ds ns) (hok : ∀ e ∈ ns, ok e = decide (gI W (src ds e) = wt sm e + gI W (dst ds e))) (hst : ∀ v, stop v = decide (gI W v = 0)) (hT : Tg ds sm ns W 0)
    {n : Nat} {ws : Ways} {lv : List Int} (hm : lmu p ws lv < n + 1) (I : BInv p ds ok ns (fun _ => False) (ws, lv)) (hz : ∀ v, wHas ws v = true → v ∈ lv ∨ gI W v ≠ 0) :
    (∃ r, tGo ds ok ns stop lv (ws, []) = .inl r) ∨ ∃ st, tGo ds ok ns stop lv (ws, []) = .inr st ∧ lmu p st.1 st.2 < n ∧ BInv p ds ok ns (fun _ => False) st ∧ ∀ v, wHas st.1 v = true → v ∈ st.2 ∨ gI W v ≠ 0 := by
  have hlv : lv ≠ [] := by
    intro e
    subst e
    have bad : ∀ v, Tg ds sm ns W v → wHas ws v = true → False := by
      intro v t
      induction t with
      | zero h =>
        intro hv
        rcases hz _ hv with q | q
        · cases q
        · exact q h
      | go he hw _ ih =>
        intro hv
        rcases I.cl _ he (by rw [hok _ he]; exact decide_eq_true hw) hv with q | q | q
        · cases q
        · exact ih q
        · exact q
    exact bad 0 hT I.z
  have q := tGo_spec (stop := stop) hin hE lv (ws, []) I.lv (lvl_start I)
  cases h : tGo ds ok ns stop lv (ws, []) with
  | inl r => exact .inl ⟨r, rfl⟩
  | inr st =>
    rw [h] at q
    obtain ⟨c1, c2, c3, c4⟩ := q
    have l1 := ways_len c1
    have l2 := ways_len I
    simp only [List.length_nil] at c3 l2
    refine .inr ⟨st, rfl, ?_, c1, fun v hv => ?_⟩
    · unfold lmu at hm ⊢
      rw [if_neg hlv] at hm
      split
      · omega
      · rename_i z
        have := List.length_pos_iff.mpr z
        omega
    · by_cases hw : wHas ws v = true
      · rcases hz v hw with q | q
        · right
          have := c4 v q
          rw [hst] at this
          exact of_decide_eq_false this
        · exact .inr q
      · left
        rcases tGo_new (ws := ws) lv (ws, []) st (fun v h => .inl h) h v hv with q | q
        · exact absurd q hw
        · exact q
theorem way_step {p : Int} {ds : List Deed} {ns : List Int} {ok : Int → Bool} {goal : Int} (hin : ∀ e ∈ ns, 0 ≤ e ∧ e < ds.length) (hE : Edges p ds ns) (hg : Rc ds ok ns goal) {n : Nat} {ws : Ways} {lv : List Int} (hm : lmu p ws lv < n + 1) (I : BInv p ds ok ns (fun _ => False) (ws, lv)) (hh : ¬ wHas ws goal = true) :
    lmu p (lv.foldl (exPlace ds ok ns) (ws, [])).1 (lv.foldl (exPlace ds ok ns) (ws, [])).2 < n ∧ BInv p ds ok ns (fun _ => False) (lv.foldl (exPlace ds ok ns) (ws, [])) := by
  have hlv : lv ≠ [] := by
    intro e
    subst e
    have all : ∀ v, Rc ds ok ns v → wHas ws v = true := by
      intro v t
      induction t with
      | zero => exact I.z
      | go he hw _ ih =>
        rcases I.cl _ he hw ih with q | q | q
        · cases q
        · exact q
        · exact q.elim
    exact hh (all goal hg)
  obtain ⟨c1, c2, c3⟩ := lvl_fold hin hE lv (ws, []) I.lv (lvl_start I)
  have l1 := ways_len c1
  have l2 := ways_len I
  simp only [List.length_nil] at c3 l2
  refine ⟨?_, c1⟩
  unfold lmu at hm ⊢
  rw [if_neg hlv] at hm
  split
  · omega
  · rename_i z
    have := List.length_pos_iff.mpr z
    omega
def okT (ds : List Deed) (sm W : List Int) (e : Int) : Bool := decide (gI W (src ds e) = wt sm e + gI W (dst ds e))
def stT (W : List Int) (v : Int) : Bool := decide (gI W v = 0)
def tightM (p : Int) (ds : List Deed) (sm ns W : List Int) : List Int := tightL ds (okT ds sm W) ns (stT W) (2 * p.toNat + 2) [(0, [])] [0]
def wayM (p : Int) (ds : List Deed) (ns : List Int) (goal : Int) : List Int := wayL ds (fun _ => true) ns goal (2 * p.toNat + 2) [(0, [])] [0]
theorem lmu0 {p : Int} : lmu p [(0, [])] [0] < 2 * p.toNat + 2 := by
  unfold lmu
  simp only [List.length_singleton]
  rw [if_neg (by simp)]
  omega
theorem tightM_spec {p : Int} {ds : List Deed} {ns sm W : List Int} (hp : 1 ≤ p) (hin : ∀ e ∈ ns, 0 ≤ e ∧ e < ds.length) (hE : Edges p ds ns) (hT : Tg ds sm ns W 0) : ∃ v, gI W v = 0 ∧ (0 ≤ v ∧ v < p) ∧ Row ds ns 0 v (tightM p ds sm ns W) ∧ ∀ e ∈ tightM p ds sm ns W, gI W (src ds e) = wt sm e + gI W (dst ds e) := by
  have h00 : ∀ v, wHas [(0, ([] : List Int))] v = true → v ∈ [(0 : Int)] ∨ gI W v ≠ 0 := fun v hv => by
    have : v = 0 := by simpa using has_mem.mp hv
    rw [this]
    exact .inl (List.mem_singleton_self _)
  obtain ⟨v, h1, h2, h3, h4⟩ := tightL_spec (ok := okT ds sm W) (stop := stT W) hin hE (fun _ _ => rfl) (fun _ => rfl) hT _ _ _ lmu0 (bstart (ok := okT ds sm W) hp) h00
  exact ⟨v, of_decide_eq_true h1, h2, h3, fun e he => of_decide_eq_true (h4 e he)⟩
theorem rc_of {ds : List Deed} {v : Int} (h : Reach ds v) : Rc ds (fun _ => true) (nsM ds) v := by
  induction h with
  | zero => exact .zero
  | @go d hd hr ih =>
    obtain ⟨k, hk, e⟩ := List.getElem_of_mem hd
    have e1 : dAt ds (k : Int) = d := by unfold dAt; rw [Int.toNat_natCast, List.getD_eq_getElem?_getD, List.getElem?_eq_getElem hk, e]; rfl
    have := Rc.go (ds := ds) (e := (k : Int)) (ok := fun _ => true) (nsM_of (ds := ds) (e := (k : Int)) (by omega) (by omega) (by unfold src; rw [e1]; exact hr)) rfl (by unfold src; rw [e1]; exact ih)
    unfold dst at this
    rw [e1] at this
    exact this
theorem wayM_spec {p : Int} {ds : List Deed} {goal : Int} (hp : 1 ≤ p) (hin : ∀ e ∈ nsM ds, 0 ≤ e ∧ e < ds.length) (hE : Edges p ds (nsM ds)) (hg : Reach ds goal) : Row ds (nsM ds) 0 goal (wayM p ds (nsM ds) goal) :=
  (wayL_spec (ok := fun _ => true) hin hE (rc_of hg) _ _ _ lmu0 (bstart hp)).1
theorem wayL_len {p : Int} {ds : List Deed} {ns : List Int} {goal : Int} (hin : ∀ e ∈ ns, 0 ≤ e ∧ e < ds.length) (hE : Edges p ds ns) (hg : Rc ds (fun _ => true) ns goal) : ∀ (n : Nat) (ws : Ways) (lv : List Int), lmu p ws lv < n → BInv p ds (fun _ => true) ns (fun _ => False) (ws, lv) → WK p ds (fun _ => true) ns (ws, lv) → ((wayL ds (fun _ => true) ns goal n ws lv).length : Int) < p
  | 0, _, _, h, _, _ => by omega
  | n + 1, ws, lv, hm, I, WKI => by
    by_cases hh : wHas ws goal = true
    · have e : wayL ds (fun _ => true) ns goal (n + 1) ws lv = wLook ws goal := by simp only [wayL, hh]; rfl
      rw [e]
      have := WKI.r goal hh
      have := wk_len WKI
      simp only at *
      omega
    · have hf : wHas ws goal = false := by simpa using hh
      have e : wayL ds (fun _ => true) ns goal (n + 1) ws lv = wayL ds (fun _ => true) ns goal n (lv.foldl (exPlace ds (fun _ => true) ns) (ws, [])).1 (lv.foldl (exPlace ds (fun _ => true) ns) (ws, [])).2 := by simp only [wayL, hf]; rfl
      rw [e]
      obtain ⟨h1, h2⟩ := way_step hin hE hg hm I hh
      exact wayL_len hin hE hg n _ _ h1 h2 (wk_fold hE lv (ws, []) WKI.lv (wk_next WKI))
theorem wayM_len {p : Int} {ds : List Deed} {goal : Int} (hp : 1 ≤ p) (hin : ∀ e ∈ nsM ds, 0 ≤ e ∧ e < ds.length) (hE : Edges p ds (nsM ds)) (hg : Reach ds goal) : ((wayM p ds (nsM ds) goal).length : Int) < p :=
  wayL_len hin hE (rc_of hg) _ _ _ lmu0 (bstart hp) (wk_start hp)

abbrev s_Gains___init__ : Stmt := inClass (top 14) 0
abbrev N_Gains___init__ : List Str := ["self", "machine", "some", "known", "k"]
abbrev P_Gains___init__ : List Str := ["self", "machine", "some"]
theorem sc_Gains___init__ : FnScope N_Gains___init__ P_Gains___init__ (defScope s_Gains___init__) := ⟨rfl, rfl, rfl, by decide +kernel, rfl, by decide +kernel, by decide +kernel⟩

def F_Gains_init : Ofs := fun args fs fs' d => ∃ (p kn : Int) (ds : List Deed) (sm : List Int), args = [eMach p kn ds, .lst (sm.map .int)] ∧ goodM p kn ds = true ∧ fs = [] ∧ fs' = allF (gF p kn ds sm) ∧ d = .non
theorem dc_Gains {P : Program} {w : World} {K : Fg} {mg : Str → Option Value} {base : Heap} {C cM : Addr} (T : Tx K mg) (K_Gains : Kc_Gains K C) (U : Cn K mg "Gains" "Gains.__init__" C s_Gains___init__ P_Gains___init__) (D_reached : Df P w K mg base "reached" 2 (F_reached cM)) :
    Dc P w K mg base "Gains" C 3 F_Gains_init :=
  dc_of 2 U sc_Gains___init__ (fun _ _ _ _ ⟨_, _, _, _, h, _⟩ => by rw [h]; rfl) fun f cdv A outer s H E a args fs fs' d hr tk hp hF => by
    obtain ⟨p, kn, ds, sm, rfl, hg, rfl, rfl, rfl⟩ := hF
    have nd := sc_Gains___init__.nd
    obtain ⟨p1, _, hl, g⟩ := goodM_d hg
    refine FO.nx (rest := [.fz (eMach p kn ds), .fz (.lst (sm.map .int)), .fz (.lst ((rB p ds).map .bl)), .no]) (xss_cons (xs_fld0 0 K_Gains.cl K_Gains.n_whole (FN := []) (he := (xv_var 1))) ?_)
    refine xss_cons (xs_fld0 0 K_Gains.cl K_Gains.n_some (FN := ["whole"]) (he := (xv_var 2))) ?_
    refine xss_cons (xs_set 3 nd (xv_call D_reached (hr.mono (by decide)) tk (xa_cons (xv_var 1) xa_nil) (⟨p, kn, ds, rfl, by unfold reachR; rw [hg, if_pos rfl]⟩))) ?_
    have hlen : (ds.map eDeed).length = ds.length := List.length_map _
    have hb : ∀ x ∈ List.range ((((ds.map eDeed).length : Nat) : Int).toNat), 0 ≤ (dAt ds (x : Int)).1 ∧ (dAt ds (x : Int)).1 < p := fun x hx => by
      rw [hlen, Int.toNat_natCast, List.mem_range] at hx
      exact (g _ (dAt_mem (by omega) (by omega))).1
    refine XSs.is (xss_one (xs_fld0 0 K_Gains.cl K_Gains.n_numbers (FN := ["whole", "some"]) (he := (XL.is (d' := (nsM ds).map .int) (xl_lc [("k", 4)] rfl nd (xi_range T.range (xv_len T.len ((xv_ix ((xv_var 1)).br (xv_int).br (by rfl))).br) (by omega) (by rw [hlen]; omega)) (blkOk_by (own := [("k", 4)]) (N := N_Gains___init__) (sc := defScope s_Gains___init__) (by decide +kernel)) ((lc_filter (p := fun (k : Nat) => isR ds (src ds (k : Int))) (f := fun (n : Nat) => D.int n) (g := fun (n : Nat) => D.int n) (List.range _) fun x hx => ⟨_, (fun _ _ _ _ _ => (xgw_name 4 nd)), (fun _ _ _ _ _ => (xts_one (xt_val (xv_ix ((xv_var 3)).br ((xv_ix ((xv_ix ((xv_ix ((xv_var 1)).br (xv_int).br (by rfl))).br ((xv_var 4)).br (ix_deed (by omega) (by have := List.mem_range.mp hx; omega)))).br (xv_int).br (by rfl))).br (rB_ix (hb x hx).1 (hb x hx).2))))), fun _ => (fun _ _ _ _ _ => (xv_var 4))⟩)) (by rw [rngD_F, rngF_len]; omega)) ?_).v))) ?_
    · rw [hlen, Int.toNat_natCast]
      unfold nsM
      rw [List.map_map]; rfl
    · rfl

abbrev s_Gains_wanted : Stmt := inClass (top 14) 1
abbrev N_Gains_wanted : List Str := ["self", "found", "before", "number", "one", "kind", "other", "cost"]
abbrev P_Gains_wanted : List Str := ["self"]
theorem sc_Gains_wanted : FnScope N_Gains_wanted P_Gains_wanted (defScope s_Gains_wanted) := ⟨rfl, rfl, rfl, by decide +kernel, rfl, by decide +kernel, by decide +kernel⟩

def F_Gains_wanted (C : Addr) : Fs := fun args r => ∃ (p kn : Int) (ds : List Deed) (sm : List Int), args = [.ins C (gF p kn ds sm)] ∧ goodM p kn ds = true ∧ sm.length = ds.length ∧ ringM p ds sm (nsM ds) = [] ∧ r = .ok (.lst ((wantedM p ds sm (nsM ds)).map .int))
theorem dm_Gains_wanted {P : Program} {w : World} {K : Fg} {mg : Str → Option Value} {base : Heap} {C : Addr} (T : Tx K mg) (K_Gains : Kc_Gains K C) (U : Mn K C "wanted" "Gains.wanted" s_Gains_wanted P_Gains_wanted) :
    Dm P w K mg base C "wanted" 1 (F_Gains_wanted C) :=
  dm_of 0 U sc_Gains_wanted (fun _ _ ⟨_, _, _, _, h, _⟩ => by rw [h]; rfl) fun f cdv A outer s H E args r hr tk hp hF => by
    obtain ⟨p, kn, ds, sm, rfl, hg, hl, h0, rfl⟩ := hF
    have nd := sc_Gains_wanted.nd
    have hu := hr.units
    obtain ⟨p1, _, hl6, g⟩ := goodM_d hg
    have hE := nsM_edges hg
    have W := wantedM_ok p1.1 (fun e he => (nsM_in he).1) hE h0
    refine XF.rt (xss_cons (xs_own 1 nd (xl_rep ((xl_lst (xa_cons xv_int xa_nil))).br ((xv_ix ((xv_fld 0 (xv_var 0) K_Gains.cl K_Gains.n_whole rfl nd_Gains)).br (xv_int).br (by rfl))).br (by omega) (by omega) (by simp; omega))) ?_)
    rw [rep_map D.int 0]
    refine xss_cons (xs_set 2 nd xv_non) ?_
    refine xss_whileX (Q := fun d1 => ∃ bf, d1 = [.fz (.ins C (gF p kn ds sm)), .ow ((wantedM p ds sm (nsM ds)).map .int), bf, .no, .no, .no, .no, .no]) hp ?_ ?_
    · suffices turn : ∀ (x : List Int) (bf : D), (x.length : Int) = p → XSs _ _ _ [.fz (.ins C (gF p kn ds sm)), .ow (x.map .int), .fz bf, .no, .no, .no, .no, .no] (.nx [.fz (.ins C (gF p kn ds sm)), .ow ((wround ds sm (nsM ds) x).map .int), .fz (.lst (x.map .int)), .no, .no, .no, .no, .no]) by
        have okx : ∀ x : List Int, okE (.lst (x.map .int)) = true := fun x => (okN_ints x).e
        suffices loop : ∀ (n : Nat) (x : List Int), (x.length : Int) = p → wround ds sm (nsM ds) (wFix ds sm (nsM ds) n x) = wFix ds sm (nsM ds) n x → ∃ k, Wh _ _ _ _ k [.fz (.ins C (gF p kn ds sm)), .ow ((wround ds sm (nsM ds) x).map .int), .fz (.lst (x.map .int)), .no, .no, .no, .no, .no] (.nx [.fz (.ins C (gF p kn ds sm)), .ow ((wFix ds sm (nsM ds) n x).map .int), .fz (.lst ((wFix ds sm (nsM ds) n x).map .int)), .no, .no, .no, .no, .no]) by
          have hl0 : ((List.replicate p.toNat (0 : Int)).length : Int) = p := by simp; omega
          obtain ⟨k, hw⟩ := loop _ _ hl0 W.fx
          exact ⟨k + 1, _, ⟨_, rfl⟩, .step (XT.is (xt_ne hu ((xv_var 2)).br (xb_own 1) (rfl) (okx _)) (rfl)) (turn _ _ hl0) rfl .refl hw⟩
        intro n
        induction n with
        | zero =>
          intro x hx hf
          rw [show wFix ds sm (nsM ds) 0 x = x from rfl] at hf ⊢
          rw [hf]
          exact ⟨0, .stop (XT.is (xt_ne hu ((xv_var 2)).br (xb_own 1) (okx _) (okx _)) (by rw [eqD_ints, decide_eq_true rfl]; rfl))⟩
        | succ n ih =>
          intro x hx hf
          by_cases h : wround ds sm (nsM ds) x = x
          · rw [wfix_stop h, h]
            exact ⟨0, .stop (XT.is (xt_ne hu ((xv_var 2)).br (xb_own 1) (okx _) (okx _)) (by rw [eqD_ints, decide_eq_true rfl]; rfl))⟩
          · rw [wfix_go h] at hf ⊢
            have hx2 := (wround_spec (sm := sm) hE hx).1
            obtain ⟨k, hw⟩ := ih _ hx2 hf
            exact ⟨k + 1, .step (XT.is (xt_ne hu ((xv_var 2)).br (xb_own 1) (okx _) (okx _)) (by rw [eqD_ints, decide_eq_false (fun z => h z.symm)]; rfl)) (turn _ _ hx2) rfl .refl hw⟩
      intro x bf hx
      refine xss_cons (xs_set 2 nd (xl_list T.list (xb_own 1)).v) (xss_one (xs_for hp rfl (xi_list (xv_fld 2 (xv_var 0) K_Gains.cl K_Gains.n_numbers rfl nd_Gains)) ?_))
      suffices inner : ∀ (l y : List Int), (∀ e ∈ l, e ∈ nsM ds) → (y.length : Int) = p → Fr _ _ _ _ (l.map .int) [.fz (.ins C (gF p kn ds sm)), .ow (y.map .int), .fz (.lst (x.map .int)), .no, .no, .no, .no, .no] (.nx [.fz (.ins C (gF p kn ds sm)), .ow ((l.foldl (wstep ds sm x) y).map .int), .fz (.lst (x.map .int)), .no, .no, .no, .no, .no]) by
        exact inner (nsM ds) x (fun _ h => h) hx
      intro l
      induction l with
      | nil => intro y _ _; exact .nil
      | cons e l ih =>
        intro y he hy
        have hen := he e List.mem_cons_self
        obtain ⟨⟨e0, e1⟩, _⟩ := nsM_in hen
        obtain ⟨es, ed⟩ := hE e hen
        have q := ih (wstep ds sm x y e) (fun c hc => he c (List.mem_cons_of_mem _ hc)) (by unfold wstep; simpa using hy)
        rw [show wstep ds sm x y e = y.set (src ds e).toNat (max (gI y (src ds e)) (wt sm e + gI x (dst ds e))) from rfl, List.map_set] at q
        rw [List.foldl_cons]
        exact .step (xg_name 3 nd) (xss_cons (xs_asg (xv_ix ((xv_ix ((xv_fld 0 (xv_var 0) K_Gains.cl K_Gains.n_whole rfl nd_Gains)).br (xv_int).br (by rfl))).br ((xv_var 3)).br (ix_deed e0 e1)) (xg_tup rfl (xgs_cons (xg_name 4 nd) (xgs_cons (xg_name 5 nd) (xgs_cons (xg_name 6 nd) (xgs_cons (xg_name 7 nd) xgs_nil)))))) (xss_one (xs_setix 1 (xv_max rfl T.max ((xv_ix (xb_own 1) ((xv_var 4)).br (ix_gI hy es))).br ((xv_add ((xv_ix ((xv_fld 1 (xv_var 0) K_Gains.cl K_Gains.n_some rfl nd_Gains)).br ((xv_var 3)).br (ix_wt hl ⟨e0, e1⟩))).br ((xv_ix ((xv_var 2)).br ((xv_var 6)).br (ix_gI hx ed))).br)).br) (xv_var 4) rfl (ixN_ge es.1 (by rw [List.length_map]; exact (hy.symm ▸ es.2)))))) rfl (Le.fg [3, 4, 5, 6, 7] rfl) q
    · rintro d1 ⟨bf, rfl⟩
      exact XSs.freeze 1 (xss_ret (xv_var 1))

abbrev s_Gains_ring : Stmt := inClass (top 14) 4
abbrev N_Gains_ring : List Str := ["self", "best", "last", "changed", "k", "number", "one", "kind", "other", "cost", "here", "found", "at"]
abbrev P_Gains_ring : List Str := ["self"]
theorem sc_Gains_ring : FnScope N_Gains_ring P_Gains_ring (defScope s_Gains_ring) := ⟨rfl, rfl, rfl, by decide +kernel, rfl, by decide +kernel, by decide +kernel⟩

def F_Gains_ring (C : Addr) : Fs := fun args r => ∃ (p kn : Int) (ds : List Deed) (sm : List Int), args = [.ins C (gF p kn ds sm)] ∧ goodM p kn ds = true ∧ sm.length = ds.length ∧ r = .ok (.lst ((ringM p ds sm (nsM ds)).map .int))
noncomputable abbrev stR (C : Addr) (p kn : Int) (ds : List Deed) (sm : List Int) (s : RSt) (here : Lay.It) (found at_ : Lay.It) : List Lay.It :=
  [.fz (.ins C (gF p kn ds sm)), .ow (s.1.map .int), .ow (s.2.1.map oD), .fz (oD s.2.2), .no, .no, .no, .no, .no, .no, here, found, at_]
theorem dm_Gains_ring {P : Program} {w : World} {K : Fg} {mg : Str → Option Value} {base : Heap} {C : Addr} (T : Tx K mg) (K_Gains : Kc_Gains K C) (U : Mn K C "ring" "Gains.ring" s_Gains_ring P_Gains_ring) :
    Dm P w K mg base C "ring" 1 (F_Gains_ring C) :=
  dm_of 0 U sc_Gains_ring (fun _ _ ⟨_, _, _, _, h, _⟩ => by rw [h]; rfl) fun f cdv A outer s H E args r hr tk hp hF => by
    obtain ⟨p, kn, ds, sm, rfl, hg, hl, rfl⟩ := hF
    have nd := sc_Gains_ring.nd
    have hu := hr.units
    obtain ⟨p1, _, hl6, g⟩ := goodM_d hg
    have hE := nsM_edges hg
    refine XF.rt (xss_cons (xs_own 1 nd (xl_rep ((xl_lst (xa_cons xv_int xa_nil))).br ((xv_ix ((xv_fld 0 (xv_var 0) K_Gains.cl K_Gains.n_whole rfl nd_Gains)).br (xv_int).br (by rfl))).br (by omega) (by omega) (by simp; omega))) ?_)
    rw [rep_map D.int 0]
    refine xss_cons (xs_own 2 nd (xl_rep ((xl_lst (xa_cons xv_non xa_nil))).br ((xv_ix ((xv_fld 0 (xv_var 0) K_Gains.cl K_Gains.n_whole rfl nd_Gains)).br (xv_int).br (by rfl))).br (by omega) (by omega) (by simp; omega))) ?_
    rw [show (D.non) = oD none from rfl, rep_map oD none]
    refine xss_cons (xs_set 3 nd xv_non) ?_
    have hl1 : ((rEnd p ds sm (nsM ds)).1.length : Int) = p := by obtain ⟨_, _, _, I⟩ := rEnd_inv (sm := sm) p1.1 hE; exact I.lb
    have hl2 : ((rEnd p ds sm (nsM ds)).2.1.length : Int) = p := by obtain ⟨_, _, _, I⟩ := rEnd_inv (sm := sm) p1.1 hE; exact I.ll
    have hl0 : ((rStart p).1.length : Int) = p ∧ ((rStart p).2.1.length : Int) = p := by unfold rStart; simp; omega
    refine xss_cons (ds1 := stR C p kn ds sm (rEnd p ds sm (nsM ds)) .no .no .no) (xs_for hp rfl (xi_range T.range (xv_add ((xv_ix ((xv_fld 0 (xv_var 0) K_Gains.cl K_Gains.n_whole rfl nd_Gains)).br (xv_int).br (by rfl))).br (xv_int).br) (by omega) (by omega)) ?_) ?_
    · rw [rngD_F, show (p + 1).toNat = p.toNat + 1 by omega]
      suffices loop : ∀ (m i : Nat) (s : RSt), (s.1.length : Int) = p → (s.2.1.length : Int) = p → Fr _ _ _ _ (rngF i m) (stR C p kn ds sm s .no .no .no) (.nx (stR C p kn ds sm (passes ds sm (nsM ds) m s) .no .no .no)) by
        exact loop _ 0 (rStart p) hl0.1 hl0.2
      intro m
      induction m with
      | zero => intro i s _ _; exact .nil
      | succ m ih =>
        intro i s h1 h2
        have key : ∀ (l : List Int) (s : RSt), (∀ e ∈ l, e ∈ nsM ds) → (s.1.length : Int) = p → (s.2.1.length : Int) = p → ((l.foldl (relax ds sm) s).1.length : Int) = p ∧ ((l.foldl (relax ds sm) s).2.1.length : Int) = p := by
          intro l
          induction l with
          | nil => intro s _ a b; exact ⟨a, b⟩
          | cons e l ih =>
            intro s he a b
            rw [List.foldl_cons]
            refine ih _ (fun c hc => he c (List.mem_cons_of_mem _ hc)) ?_ ?_
            · unfold relax; split <;> simpa using a
            · unfold relax; split <;> simpa using b
        obtain ⟨k1, k2⟩ := key (nsM ds) (s.1, s.2.1, none) (fun _ h => h) h1 h2
        have q := ih (i + 1) (pass ds sm (nsM ds) s) k1 k2
        rw [rngF_succ]
        refine .step (o' := .nx ((stR C p kn ds sm (pass ds sm (nsM ds) s) .no .no .no).set 4 (.fz (.int (i : Int))))) (xg_name 4 nd) (xss_cons (xs_set 3 nd xv_non) (xss_one (xs_for hp rfl (xi_list (xv_fld 2 (xv_var 0) K_Gains.cl K_Gains.n_numbers rfl nd_Gains)) ?_))) rfl (Le.fg [4] rfl) q
        clear q k1 k2 key ih
        suffices inner : ∀ (l : List Int) (s : RSt), (∀ e ∈ l, e ∈ nsM ds) → (s.1.length : Int) = p → (s.2.1.length : Int) = p → Fr _ _ _ _ (l.map .int) ((stR C p kn ds sm s .no .no .no).set 4 (.fz (.int (i : Int)))) (.nx ((stR C p kn ds sm (l.foldl (relax ds sm) s) .no .no .no).set 4 (.fz (.int (i : Int))))) by
          exact inner (nsM ds) (s.1, s.2.1, none) (fun _ h => h) h1 h2
        intro l
        induction l with
        | nil => intro s _ _ _; exact .nil
        | cons e l ih =>
          intro s he h1 h2
          have hen := he e List.mem_cons_self
          obtain ⟨⟨e0, e1⟩, _⟩ := nsM_in hen
          obtain ⟨es, ed⟩ := hE e hen
          obtain ⟨b, la, ch⟩ := s
          have h1 : (b.length : Int) = p := h1
          have h2 : (la.length : Int) = p := h2
          rw [List.foldl_cons]
          by_cases hc : gI b (dst ds e) < gI b (src ds e) + wt sm e
          · have er : relax ds sm (b, la, ch) e = (b.set (dst ds e).toNat (gI b (src ds e) + wt sm e), la.set (dst ds e).toNat (some e), some (dst ds e)) := if_pos hc
            have q := ih (relax ds sm (b, la, ch) e) (fun c hc => he c (List.mem_cons_of_mem _ hc)) (by rw [er]; simpa using h1) (by rw [er]; simpa using h2)
            rw [er] at q ⊢
            unfold stR at q
            rw [List.map_set, List.map_set] at q
            exact .step (xg_name 5 nd) (xss_cons (xs_asg (xv_ix ((xv_ix ((xv_fld 0 (xv_var 0) K_Gains.cl K_Gains.n_whole rfl nd_Gains)).br (xv_int).br (by rfl))).br ((xv_var 5)).br (ix_deed e0 e1)) (xg_tup rfl (xgs_cons (xg_name 6 nd) (xgs_cons (xg_name 7 nd) (xgs_cons (xg_name 8 nd) (xgs_cons (xg_name 9 nd) xgs_nil)))))) (xss_one (xs_yes (XT.is (xt_gt ((xv_add ((xv_ix (xb_own 1) ((xv_var 6)).br (ix_gI h1 es))).br ((xv_ix ((xv_fld 1 (xv_var 0) K_Gains.cl K_Gains.n_some rfl nd_Gains)).br ((xv_var 5)).br (ix_wt hl ⟨e0, e1⟩))).br)).br ((xv_ix (xb_own 1) ((xv_var 8)).br (ix_gI h1 ed))).br) (decide_eq_true hc))
              (xss_cons (xs_setix 1 (xv_add ((xv_ix (xb_own 1) ((xv_var 6)).br (ix_gI h1 es))).br ((xv_ix ((xv_fld 1 (xv_var 0) K_Gains.cl K_Gains.n_some rfl nd_Gains)).br ((xv_var 5)).br (ix_wt hl ⟨e0, e1⟩))).br) (xv_var 8) rfl (ixN_ge ed.1 (by rw [List.length_map]; exact (h1.symm ▸ ed.2))))
                (xss_cons (xs_setix 2 (xv_var 5) (xv_var 8) rfl (ixN_ge ed.1 (by rw [List.length_map]; exact (h2.symm ▸ ed.2)))) (xss_one (xs_set 3 nd (xv_var 8)))))))) rfl (Le.fg [5, 6, 7, 8, 9] rfl) q
          · have er : relax ds sm (b, la, ch) e = (b, la, ch) := if_neg hc
            have q := ih (relax ds sm (b, la, ch) e) (fun c hc => he c (List.mem_cons_of_mem _ hc)) (by rw [er]; exact h1) (by rw [er]; exact h2)
            rw [er] at q ⊢
            exact .step (xg_name 5 nd) (xss_cons (xs_asg (xv_ix ((xv_ix ((xv_fld 0 (xv_var 0) K_Gains.cl K_Gains.n_whole rfl nd_Gains)).br (xv_int).br (by rfl))).br ((xv_var 5)).br (ix_deed e0 e1)) (xg_tup rfl (xgs_cons (xg_name 6 nd) (xgs_cons (xg_name 7 nd) (xgs_cons (xg_name 8 nd) (xgs_cons (xg_name 9 nd) xgs_nil)))))) (xss_one (xs_no (XT.is (xt_gt ((xv_add ((xv_ix (xb_own 1) ((xv_var 6)).br (ix_gI h1 es))).br ((xv_ix ((xv_fld 1 (xv_var 0) K_Gains.cl K_Gains.n_some rfl nd_Gains)).br ((xv_var 5)).br (ix_wt hl ⟨e0, e1⟩))).br)).br ((xv_ix (xb_own 1) ((xv_var 8)).br (ix_gI h1 ed))).br) (decide_eq_false hc)) xss_nil))) rfl (Le.fg [5, 6, 7, 8, 9] rfl) q
    · have spec := fun v0 => ring_loop (sm := sm) (v0 := v0) p1.1 hE
      unfold ringM
      generalize rEnd p ds sm (nsM ds) = s at *
      obtain ⟨b, la, ch⟩ := s
      have hl2 : (la.length : Int) = p := hl2
      cases ch with
      | none => exact xss_yesS (XT.is (xt_isN ((xv_var 3)).br) (rfl)) (xss_ret (xl_lst xa_nil).v)
      | some v0 =>
        obtain ⟨go, hv, c, L⟩ := spec v0 rfl
        show XSs _ _ _ _ (.rt (.lst ((back ds la (prvN ds la p.toNat v0) p.toNat (prvN ds la p.toNat v0) []).map .int)))
        refine xss_no0 (XT.is (xt_isN ((xv_var 3)).br) (rfl)) ?_
        refine xss_cons (xs_set 10 nd (xv_var 3)) ?_
        have ixl : ∀ (v e : Int), gO la v = some e → (0 ≤ v ∧ v < p) → ixD (.lst (la.map oD)) v = some (.int e) := fun v e h hv => by rw [ix_gO hl2 hv, h]; rfl
        refine xss_cons (ds1 := stR C p kn ds sm (b, la, some v0) (.fz (.int (prvN ds la p.toNat v0))) .no .no) (xs_for hp rfl (xi_range T.range (xv_ix ((xv_fld 0 (xv_var 0) K_Gains.cl K_Gains.n_whole rfl nd_Gains)).br (xv_int).br (by rfl)) (by omega) (by omega)) ?_) ?_
        · rw [rngD_F]
          suffices loop : ∀ (m i : Nat) (v : Int), (0 ≤ v ∧ v < p) → (∀ j, j < m → ∃ e, gO la (prvN ds la j v) = some e ∧ e ∈ nsM ds) → Fr _ _ _ _ (rngF i m) (stR C p kn ds sm (b, la, some v0) (.fz (.int v)) .no .no) (.nx (stR C p kn ds sm (b, la, some v0) (.fz (.int (prvN ds la m v))) .no .no)) by
            exact loop _ 0 v0 hv fun j hj => go j (by omega)
          intro m
          induction m with
          | zero => intro i v _ _; exact .nil
          | succ m ih =>
            intro i v hv hgo
            obtain ⟨e, he, hen⟩ := hgo 0 (by omega)
            rw [prvN] at he
            obtain ⟨⟨e0, e1⟩, _⟩ := nsM_in hen
            have hpr : prv ds la v = src ds e := by unfold prv; rw [he]
            have q := ih (i + 1) (prv ds la v) (by rw [hpr]; exact (hE e hen).1) fun j hj => by
              have := hgo (j + 1) (by omega)
              rw [prvN] at this
              exact this
            rw [rngF_succ, prvN]
            rw [hpr] at q ⊢
            exact .step (xg_name 4 nd) (xss_one (xs_set 10 nd (xv_ix ((xv_ix ((xv_ix ((xv_fld 0 (xv_var 0) K_Gains.cl K_Gains.n_whole rfl nd_Gains)).br (xv_int).br (by rfl))).br ((xv_ix (xb_own 2) ((xv_var 10)).br (ixl v e he hv))).br (ix_deed e0 e1))).br (xv_int).br (by rfl)))) rfl (Le.fg [4] rfl) q
        · have hb := L.back
          have hs := L.some
          have hi := L.inR
          have hc1 := L.pos
          have hc2 := L.le
          clear L spec
          generalize prvN ds la p.toNat v0 = here at *
          refine xss_cons (xs_own 11 nd (xl_lst xa_nil)) (xss_cons (xs_set 12 nd (xv_var 10)) ?_)
          refine xss_whileX (Q := fun d1 => d1 = stR C p kn ds sm (b, la, some v0) (.fz (.int here)) (.ow ((back ds la here p.toNat here []).map .int)) (.fz (.int here))) hp ?_ ?_
          · suffices loop : ∀ (n : Nat) (v : Int) (found : List Int), (found = [] ∨ v ≠ here) → found.length + n ≤ 300 → (0 ≤ v ∧ v < p) → (∃ c, 1 ≤ c ∧ c ≤ n ∧ prvN ds la c v = here ∧ ∀ m, ∃ e, gO la (prvN ds la m v) = some e ∧ e ∈ nsM ds) →
                ∃ k, Wh _ _ _ _ k (stR C p kn ds sm (b, la, some v0) (.fz (.int here)) (.ow (found.map .int)) (.fz (.int v))) (.nx (stR C p kn ds sm (b, la, some v0) (.fz (.int here)) (.ow ((back ds la here n v found).map .int)) (.fz (.int here)))) by
              obtain ⟨k, hw⟩ := loop p.toNat here [] (.inl rfl) (by simp; omega) hi ⟨c, hc1, by omega, hb, fun m => by obtain ⟨e, a1, a2, _⟩ := hs m; exact ⟨e, a1, a2⟩⟩
              exact ⟨k, _, rfl, hw⟩
            intro n
            induction n with
            | zero => rintro v found _ _ _ ⟨c, h1, h2, _⟩; omega
            | succ n ih =>
              rintro v found ht hz hv ⟨c, c1, c2, c3, c4⟩
              obtain ⟨e, he, hen⟩ := c4 0
              rw [prvN] at he
              obtain ⟨⟨e0, e1⟩, _⟩ := nsM_in hen
              have hpr : prv ds la v = src ds e := by unfold prv; rw [he]
              have test : (!(!(found.map D.int).isEmpty) || !decide (v = here)) = true := by
                rcases ht with rfl | h
                · rfl
                · rw [decide_eq_false h]; simp
              have hbk : back ds la here (n + 1) v found = if src ds e = here then e :: found else back ds la here n (src ds e) (e :: found) := by simp only [back, he]
              by_cases hh : src ds e = here
              · rw [hbk, if_pos hh]
                refine ⟨1, .step (b := stR C p kn ds sm (b, la, some v0) (.fz (.int here)) (.ow ((e :: found).map .int)) (.fz (.int (src ds e)))) (XT.is ((xw_or (xt_not (xt_truth (xb_own 11))) (fun hk => (xw_and1 (xt_neI ((xv_var 12)).br ((xv_var 10)).br))))).t (test)) (xss_cons (xs_insert0 11 (xv_ix (xb_own 2) ((xv_var 12)).br (ixl v e he hv)) (by rfl) (by rw [List.length_map]; omega)) (xss_one (xs_set 12 nd (xv_ix ((xv_ix ((xv_ix ((xv_fld 0 (xv_var 0) K_Gains.cl K_Gains.n_whole rfl nd_Gains)).br (xv_int).br (by rfl))).br ((xv_ix (xb_own 2) ((xv_var 12)).br (ixl v e he hv))).br (ix_deed e0 e1))).br (xv_int).br (by rfl))))) rfl .refl ?_⟩
                rw [hh]
                exact .stop (XT.is ((xw_or (xt_not (xt_truth (xb_own 11))) (fun hk => (xw_and1 (xt_neI ((xv_var 12)).br ((xv_var 10)).br))))).t (by rw [decide_eq_true rfl]; rfl))
              · rw [hbk, if_neg hh]
                obtain ⟨k, hw⟩ := ih (src ds e) (e :: found) (.inr hh) (by simp; omega) (hE e hen).1 ⟨c - 1, by
                    have : c ≠ 1 := fun z => by rw [z] at c3; exact hh (by rw [← hpr]; exact c3)
                    omega, by omega, by
                    rw [show c = (c - 1) + 1 by omega, prvN, hpr] at c3
                    exact c3, fun m => by
                    have := c4 (m + 1)
                    rw [prvN, hpr] at this
                    exact this⟩
                exact ⟨k + 1, .step (XT.is ((xw_or (xt_not (xt_truth (xb_own 11))) (fun hk => (xw_and1 (xt_neI ((xv_var 12)).br ((xv_var 10)).br))))).t (test)) (xss_cons (xs_insert0 11 (xv_ix (xb_own 2) ((xv_var 12)).br (ixl v e he hv)) (by rfl) (by rw [List.length_map]; omega)) (xss_one (xs_set 12 nd (xv_ix ((xv_ix ((xv_ix ((xv_fld 0 (xv_var 0) K_Gains.cl K_Gains.n_whole rfl nd_Gains)).br (xv_int).br (by rfl))).br ((xv_ix (xb_own 2) ((xv_var 12)).br (ixl v e he hv))).br (ix_deed e0 e1))).br (xv_int).br (by rfl))))) rfl .refl hw⟩
          · rintro d1 rfl
            exact XSs.freeze 11 (xss_ret (xv_var 11))

abbrev s_Gains_tight : Stmt := inClass (top 14) 2
abbrev N_Gains_tight : List Str := ["self", "wanted", "ways", "level", "later", "here", "number", "one", "kind", "other", "cost", "is_tight"]
abbrev P_Gains_tight : List Str := ["self", "wanted"]
theorem sc_Gains_tight : FnScope N_Gains_tight P_Gains_tight (defScope s_Gains_tight) := ⟨rfl, rfl, rfl, by decide +kernel, rfl, by decide +kernel, by decide +kernel⟩

def F_Gains_tight (C : Addr) : Fs := fun args r => ∃ (p kn : Int) (ds : List Deed) (sm W : List Int), args = [.ins C (gF p kn ds sm), .lst (W.map .int)] ∧ goodM p kn ds = true ∧ sm.length = ds.length ∧ WOk p ds sm (nsM ds) W ∧ r = .ok (.lst ((tightM p ds sm (nsM ds) W).map .int))
noncomputable abbrev stTg (C : Addr) (p kn : Int) (ds : List Deed) (sm W : List Int) (ws : Ways) (level later here : Lay.It) : List Lay.It :=
  [.fz (.ins C (gF p kn ds sm)), .fz (.lst (W.map .int)), .dk (wD ws), level, later, here, .no, .no, .no, .no, .no, .no]
theorem dm_Gains_tight {P : Program} {w : World} {K : Fg} {mg : Str → Option Value} {base : Heap} {C : Addr} (T : Tx K mg) (K_Gains : Kc_Gains K C) (U : Mn K C "tight" "Gains.tight" s_Gains_tight P_Gains_tight) :
    Dm P w K mg base C "tight" 1 (F_Gains_tight C) :=
  dm_of 0 U sc_Gains_tight (fun _ _ ⟨_, _, _, _, _, h, _⟩ => by rw [h]; rfl) fun f cdv A outer s H E args r hr tk hp hF => by
    obtain ⟨p, kn, ds, sm, W, rfl, hg, hl, hW, rfl⟩ := hF
    have nd := sc_Gains_tight.nd
    have hu := hr.units
    obtain ⟨p1, _, hl6, g⟩ := goodM_d hg
    have hE := nsM_edges hg
    have hin : ∀ e ∈ nsM ds, 0 ≤ e ∧ e < ds.length := fun e he => (nsM_in he).1
    have hWl := hW.len
    have hT : Tg ds sm (nsM ds) W 0 := hW.tg 0 (by decide) (by omega)
    refine XF.rt (xss_cons (xs_dict1 2 nd xv_int (xl_lst xa_nil).v) ?_)
    refine xss_cons (xs_set 3 nd (xl_lst (xa_cons xv_int xa_nil)).v) ?_
    suffices walk : ∀ (level : Lay.It) (lv : List Int) (st : Ways × List Int), (∀ v ∈ lv, wHas st.1 v = true) → WK p ds (okT ds sm W) (nsM ds) st →
        Fr _ _ _ _ (lv.map D.int) (stTg C p kn ds sm W st.1 level (.ow (st.2.map .int)) .no) (match tGo ds (okT ds sm W) (nsM ds) (stT W) lv st with | .inl r => .rt (.lst (r.map .int)) | .inr st' => .nx (stTg C p kn ds sm W st'.1 level (.ow (st'.2.map .int)) .no)) by
      suffices loop : ∀ (n : Nat) (ws : Ways) (lv : List Int) (later : Lay.It), lmu p ws lv < n → BInv p ds (okT ds sm W) (nsM ds) (fun _ => False) (ws, lv) → WK p ds (okT ds sm W) (nsM ds) (ws, lv) → (∀ v, wHas ws v = true → v ∈ lv ∨ gI W v ≠ 0) →
          ∃ k, Wh _ _ _ _ k (stTg C p kn ds sm W ws (.fz (.lst (lv.map .int))) later .no) (.rt (.lst ((tightL ds (okT ds sm W) (nsM ds) (stT W) n ws lv).map .int))) by
        have h00 : ∀ v, wHas [(0, ([] : List Int))] v = true → v ∈ [(0 : Int)] ∨ gI W v ≠ 0 := fun v hv => by
          have : v = 0 := by simpa using has_mem.mp hv
          rw [this]
          exact .inl (List.mem_singleton_self _)
        obtain ⟨k, hw⟩ := loop (2 * p.toNat + 2) [(0, [])] [0] .no lmu0 (bstart p1.1) (wk_start p1.1) h00
        exact xss_stop (xs_while hp hw)
      intro n
      induction n with
      | zero => intro ws lv later h; omega
      | succ n ih =>
        intro ws lv later hm I WKI hz
        have fr := walk (.fz (.lst (lv.map .int))) lv (ws, []) WKI.lv (wk_next WKI)
        rcases tight_step (ok := okT ds sm W) (stop := stT W) hin hE (fun _ _ => rfl) (fun _ => rfl) hT hm I hz with ⟨r, hr⟩ | ⟨st, hst, h1, h2, h3⟩
        · have e : tightL ds (okT ds sm W) (nsM ds) (stT W) (n + 1) ws lv = r := by simp only [tightL, hr]
          rw [e]
          rw [hr] at fr
          exact ⟨0, Wh.out (ds := stTg C p kn ds sm W ws (.fz (.lst (lv.map .int))) later .no) (o := .rt (.lst (r.map .int))) (xt_val xv_bl) (xss_cons (xs_own 4 nd (xl_lst xa_nil)) (xss_stop (xs_for hp rfl (xi_list (xv_var 3)) fr))) rfl⟩
        · have e : tightL ds (okT ds sm W) (nsM ds) (stT W) (n + 1) ws lv = tightL ds (okT ds sm W) (nsM ds) (stT W) n st.1 st.2 := by simp only [tightL, hst]
          rw [e]
          rw [hst] at fr
          have wk := wk_go hE lv (ws, []) st WKI.lv (wk_next WKI) hst
          obtain ⟨k, hw⟩ := ih st.1 st.2 (.fz (.lst (st.2.map .int))) h1 h2 wk h3
          exact ⟨k + 1, .step (xt_val xv_bl) (xss_cons (xs_own 4 nd (xl_lst xa_nil)) (xss_cons (xs_for hp rfl (xi_list (xv_var 3)) fr) (XSs.freeze 4 (xss_one (xs_set 3 nd (xv_var 4)))))) rfl .refl hw⟩
    intro level lv
    induction lv with
    | nil => intro st _ _; exact .nil
    | cons here lv ih =>
      intro st hlv I
      have hh := hlv here List.mem_cons_self
      have hv := I.w here hh
      cases hs : stT W here with
      | true =>
        have e : tGo ds (okT ds sm W) (nsM ds) (stT W) (here :: lv) st = .inl (wLook st.1 here) := by simp only [tGo, hs]; rfl
        rw [e]
        exact Fr.out (o := .rt (.lst ((wLook st.1 here).map .int))) (xg_name 5 nd) (xss_yesS (XT.is (xt_eqI ((xv_ix ((xv_var 1)).br ((xv_var 5)).br (ix_gI hWl hv))).br (xv_int).br) (hs)) (xss_ret (xv_dget 2 hu (xv_var 5) (wD_at hh)))) rfl
      | false =>
        have e : tGo ds (okT ds sm W) (nsM ds) (stT W) (here :: lv) st = tGo ds (okT ds sm W) (nsM ds) (stT W) lv (exPlace ds (okT ds sm W) (nsM ds) st here) := by simp only [tGo, hs]; rfl
        rw [e]
        obtain ⟨I2, up⟩ := wk_place (ok := okT ds sm W) hE (nsM ds) st (fun _ h => h) hh I
        have q := ih (exPlace ds (okT ds sm W) (nsM ds) st here) (fun v hv => up v (hlv v (List.mem_cons_of_mem _ hv))) I2
        refine .step (o' := .nx (stTg C p kn ds sm W (exPlace ds (okT ds sm W) (nsM ds) st here).1 level (.ow ((exPlace ds (okT ds sm W) (nsM ds) st here).2.map .int)) (.fz (.int here)))) (xg_name 5 nd) (xss_no0 (XT.is (xt_eqI ((xv_ix ((xv_var 1)).br ((xv_var 5)).br (ix_gI hWl hv))).br (xv_int).br) (hs)) (xss_one (xs_for hp rfl (xi_list (xv_fld 2 (xv_var 0) K_Gains.cl K_Gains.n_numbers rfl nd_Gains)) ?_))) rfl (Le.fg [5] rfl) q
        clear q ih I2 up hlv
        suffices inner : ∀ (l : List Int) (st : Ways × List Int), (∀ e ∈ l, e ∈ nsM ds) → wHas st.1 here = true → WK p ds (okT ds sm W) (nsM ds) st → Fr _ _ _ _ (l.map .int) (stTg C p kn ds sm W st.1 level (.ow (st.2.map .int)) (.fz (.int here)))
            (.nx (stTg C p kn ds sm W (exPlace ds (okT ds sm W) l st here).1 level (.ow ((exPlace ds (okT ds sm W) l st here).2.map .int)) (.fz (.int here)))) by
          exact inner (nsM ds) st (fun _ h => h) hh I
        clear I hh st hs e
        intro l
        induction l with
        | nil => intro st _ _ _; exact .nil
        | cons e l ih =>
          intro st he hh I
          have hen := he e List.mem_cons_self
          obtain ⟨⟨e0, e1⟩, _⟩ := nsM_in hen
          obtain ⟨es, ed⟩ := hE e hen
          obtain ⟨I2, up⟩ := wk_edge (ok := okT ds sm W) hE hen hh I
          have q := ih (exEdge ds (okT ds sm W) here st e) (fun c hc => he c (List.mem_cons_of_mem _ hc)) (up _ hh) I2
          rw [show exPlace ds (okT ds sm W) (e :: l) st here = exPlace ds (okT ds sm W) l (exEdge ds (okT ds sm W) here st e) here from rfl]
          have hlen := wk_len I
          have hb : D.bl (decide (src ds e = here) && decide (gI W here = wt sm e + gI W (dst ds e))) = D.bl (decide (src ds e = here ∧ okT ds sm W e = true)) := by
            congr 1
            rw [Bool.eq_iff_iff]
            unfold okT
            simp only [Bool.and_eq_true, decide_eq_true_eq]
            constructor
            · rintro ⟨rfl, h⟩; exact ⟨rfl, h⟩
            · rintro ⟨rfl, h⟩; exact ⟨rfl, h⟩
          by_cases hc : src ds e = here ∧ okT ds sm W e = true ∧ wHas st.1 (dst ds e) = false
          · rw [exEdge_yes hc] at q ⊢
            unfold stTg at q
            rw [wD_app, List.map_append, List.map_append] at q
            have hr := I.r here hh
            have hl2 := I.l
            have ht : (decide (src ds e = here ∧ okT ds sm W e = true) && !((wD st.1).lookup (dst ds e)).isSome) = true := by rw [decide_eq_true ⟨hc.1, hc.2.1⟩, wD_has, hc.2.2]; rfl
            exact .step (xg_name 6 nd) (xss_cons (xs_asg (xv_ix ((xv_ix ((xv_fld 0 (xv_var 0) K_Gains.cl K_Gains.n_whole rfl nd_Gains)).br (xv_int).br (by rfl))).br ((xv_var 6)).br (ix_deed e0 e1)) (xg_tup rfl (xgs_cons (xg_name 7 nd) (xgs_cons (xg_name 8 nd) (xgs_cons (xg_name 9 nd) (xgs_cons (xg_name 10 nd) xgs_nil)))))) (xss_cons (xs_set 11 nd (XV.is (xv_and (xv_eqI ((xv_var 7)).br ((xv_var 5)).br) (fun hk => (xv_one (xv_eqI ((xv_ix ((xv_var 1)).br ((xv_var 5)).br (ix_gI hWl hv))).br ((xv_add ((xv_ix ((xv_fld 1 (xv_var 0) K_Gains.cl K_Gains.n_some rfl nd_Gains)).br ((xv_var 6)).br (ix_wt hl ⟨e0, e1⟩))).br ((xv_ix ((xv_var 1)).br ((xv_var 9)).br (ix_gI hWl ed))).br)).br)))) (hb)))
              (xss_one (xs_yes (XT.is ((xw_and (xt_val (xv_var 11)) (fun hk => (xw_and1 (xt_dnin 2 hu (xv_var 9)))))).t (ht)) (xss_cons (xs_dput 2 hu (xl_cat ((xv_dget 2 hu (xv_var 5) (wD_at hh))).br ((xl_lst (xa_cons (xv_var 6) xa_nil))).br (by rw [List.length_map, List.length_singleton]; omega)).v (xv_var 9) (wD_no hc.2.2) (by rw [wD_len]; omega)) (xss_one (xs_append 4 (xv_var 9) (by rfl) (by rw [List.length_map]; omega)))))))) rfl (Le.fg [6, 7, 8, 9, 10, 11] rfl) q
          · rw [exEdge_no hc] at q ⊢
            have ht : (decide (src ds e = here ∧ okT ds sm W e = true) && !((wD st.1).lookup (dst ds e)).isSome) = false := by
              rw [wD_has, Bool.eq_false_iff]
              intro z
              simp only [Bool.and_eq_true, decide_eq_true_eq, Bool.not_eq_true'] at z
              exact hc ⟨z.1.1, z.1.2, z.2⟩
            exact .step (xg_name 6 nd) (xss_cons (xs_asg (xv_ix ((xv_ix ((xv_fld 0 (xv_var 0) K_Gains.cl K_Gains.n_whole rfl nd_Gains)).br (xv_int).br (by rfl))).br ((xv_var 6)).br (ix_deed e0 e1)) (xg_tup rfl (xgs_cons (xg_name 7 nd) (xgs_cons (xg_name 8 nd) (xgs_cons (xg_name 9 nd) (xgs_cons (xg_name 10 nd) xgs_nil)))))) (xss_cons (xs_set 11 nd (XV.is (xv_and (xv_eqI ((xv_var 7)).br ((xv_var 5)).br) (fun hk => (xv_one (xv_eqI ((xv_ix ((xv_var 1)).br ((xv_var 5)).br (ix_gI hWl hv))).br ((xv_add ((xv_ix ((xv_fld 1 (xv_var 0) K_Gains.cl K_Gains.n_some rfl nd_Gains)).br ((xv_var 6)).br (ix_wt hl ⟨e0, e1⟩))).br ((xv_ix ((xv_var 1)).br ((xv_var 9)).br (ix_gI hWl ed))).br)).br)))) (hb)))
              (xss_one (xs_no (XT.is ((xw_and (xt_val (xv_var 11)) (fun hk => (xw_and1 (xt_dnin 2 hu (xv_var 9)))))).t (ht)) xss_nil)))) rfl (Le.fg [6, 7, 8, 9, 10, 11] rfl) q

abbrev s_Gains_way_to : Stmt := inClass (top 14) 3
abbrev N_Gains_way_to : List Str := ["self", "goal", "ways", "level", "later", "here", "number", "one", "kind", "other", "cost"]
abbrev P_Gains_way_to : List Str := ["self", "goal"]
theorem sc_Gains_way_to : FnScope N_Gains_way_to P_Gains_way_to (defScope s_Gains_way_to) := ⟨rfl, rfl, rfl, by decide +kernel, rfl, by decide +kernel, by decide +kernel⟩

def F_Gains_way_to (C : Addr) : Fs := fun args r => ∃ (p kn : Int) (ds : List Deed) (sm : List Int) (goal : Int), args = [.ins C (gF p kn ds sm), .int goal] ∧ goodM p kn ds = true ∧ Reach ds goal ∧ r = .ok (.lst ((wayM p ds (nsM ds) goal).map .int))
noncomputable abbrev stWy (C : Addr) (p kn : Int) (ds : List Deed) (sm : List Int) (goal : Int) (ws : Ways) (level later here : Lay.It) : List Lay.It :=
  [.fz (.ins C (gF p kn ds sm)), .fz (.int goal), .dk (wD ws), level, later, here, .no, .no, .no, .no, .no]
theorem dm_Gains_way_to {P : Program} {w : World} {K : Fg} {mg : Str → Option Value} {base : Heap} {C : Addr} (T : Tx K mg) (K_Gains : Kc_Gains K C) (U : Mn K C "way_to" "Gains.way_to" s_Gains_way_to P_Gains_way_to) :
    Dm P w K mg base C "way_to" 1 (F_Gains_way_to C) :=
  dm_of 0 U sc_Gains_way_to (fun _ _ ⟨_, _, _, _, _, h, _⟩ => by rw [h]; rfl) fun f cdv A outer s H E args r hr tk hp hF => by
    obtain ⟨p, kn, ds, sm, goal, rfl, hg, hgo, rfl⟩ := hF
    have nd := sc_Gains_way_to.nd
    have hu := hr.units
    obtain ⟨p1, _, hl6, g⟩ := goodM_d hg
    have hE := nsM_edges hg
    have hin : ∀ e ∈ nsM ds, 0 ≤ e ∧ e < ds.length := fun e he => (nsM_in he).1
    refine XF.rt (xss_cons (xs_dict1 2 nd xv_int (xl_lst xa_nil).v) ?_)
    refine xss_cons (xs_set 3 nd (xl_lst (xa_cons xv_int xa_nil)).v) ?_
    suffices walk : ∀ (level : Lay.It) (lv : List Int) (st : Ways × List Int), (∀ v ∈ lv, wHas st.1 v = true) → WK p ds (fun _ => true) (nsM ds) st →
        Fr _ _ _ _ (lv.map D.int) (stWy C p kn ds sm goal st.1 level (.ow (st.2.map .int)) .no) (.nx (stWy C p kn ds sm goal (lv.foldl (exPlace ds (fun _ => true) (nsM ds)) st).1 level (.ow ((lv.foldl (exPlace ds (fun _ => true) (nsM ds)) st).2.map .int)) .no)) by
      refine xss_whileX (Q := fun d1 => ∃ ws level later, d1 = stWy C p kn ds sm goal ws level later .no ∧ (wD ws).lookup goal = some (.lst ((wayM p ds (nsM ds) goal).map .int))) hp ?_ ?_
      · suffices loop : ∀ (n : Nat) (ws : Ways) (lv : List Int) (later : Lay.It), lmu p ws lv < n → BInv p ds (fun _ => true) (nsM ds) (fun _ => False) (ws, lv) → WK p ds (fun _ => true) (nsM ds) (ws, lv) →
            ∃ k ws' level later', (wD ws').lookup goal = some (.lst ((wayL ds (fun _ => true) (nsM ds) goal n ws lv).map .int)) ∧ Wh _ _ _ _ k (stWy C p kn ds sm goal ws (.fz (.lst (lv.map .int))) later .no) (.nx (stWy C p kn ds sm goal ws' level later' .no)) by
          obtain ⟨k, ws', level, later', h1, hw⟩ := loop (2 * p.toNat + 2) [(0, [])] [0] .no lmu0 (bstart p1.1) (wk_start p1.1)
          exact ⟨k, _, ⟨ws', level, later', rfl, h1⟩, hw⟩
        intro n
        induction n with
        | zero => intro ws lv later h; omega
        | succ n ih =>
          intro ws lv later hm I WKI
          by_cases hh : wHas ws goal = true
          · have e : wayL ds (fun _ => true) (nsM ds) goal (n + 1) ws lv = wLook ws goal := by simp only [wayL, hh]; rfl
            rw [e]
            exact ⟨0, ws, _, _, wD_at hh, .stop (XT.is (xt_dnin 2 hu (xv_var 1)) (by rw [wD_has, hh]; rfl))⟩
          · have hf : wHas ws goal = false := by simpa using hh
            have e : wayL ds (fun _ => true) (nsM ds) goal (n + 1) ws lv = wayL ds (fun _ => true) (nsM ds) goal n (lv.foldl (exPlace ds (fun _ => true) (nsM ds)) (ws, [])).1 (lv.foldl (exPlace ds (fun _ => true) (nsM ds)) (ws, [])).2 := by simp only [wayL, hf]; rfl
            rw [e]
            have fr := walk (.fz (.lst (lv.map .int))) lv (ws, []) WKI.lv (wk_next WKI)
            obtain ⟨h1, h2⟩ := way_step hin hE (rc_of hgo) hm I hh
            have wk := wk_fold hE lv (ws, []) WKI.lv (wk_next WKI)
            obtain ⟨k, ws', level, later', h3, hw⟩ := ih _ _ (.fz (.lst ((lv.foldl (exPlace ds (fun _ => true) (nsM ds)) (ws, [])).2.map .int))) h1 h2 wk
            exact ⟨k + 1, ws', level, later', h3, .step (XT.is (xt_dnin 2 hu (xv_var 1)) (by rw [wD_has, hf]; rfl)) (xss_cons (xs_own 4 nd (xl_lst xa_nil)) (xss_cons (xs_for hp rfl (xi_list (xv_var 3)) fr) (XSs.freeze 4 (xss_one (xs_set 3 nd (xv_var 4)))))) rfl .refl hw⟩
      · rintro d1 ⟨ws, level, later, rfl, h⟩
        exact xss_ret (xv_dget 2 hu (xv_var 1) (h))
    intro level lv
    induction lv with
    | nil => intro st _ _; exact .nil
    | cons here lv ih =>
      intro st hlv I
      have hh := hlv here List.mem_cons_self
      rw [List.foldl_cons]
      obtain ⟨I2, up⟩ := wk_place (ok := fun _ => true) hE (nsM ds) st (fun _ h => h) hh I
      have q := ih (exPlace ds (fun _ => true) (nsM ds) st here) (fun v hv => up v (hlv v (List.mem_cons_of_mem _ hv))) I2
      refine .step (o' := .nx (stWy C p kn ds sm goal (exPlace ds (fun _ => true) (nsM ds) st here).1 level (.ow ((exPlace ds (fun _ => true) (nsM ds) st here).2.map .int)) (.fz (.int here)))) (xg_name 5 nd) (xss_one (xs_for hp rfl (xi_list (xv_fld 2 (xv_var 0) K_Gains.cl K_Gains.n_numbers rfl nd_Gains)) ?_)) rfl (Le.fg [5] rfl) q
      clear q ih I2 up hlv
      suffices inner : ∀ (l : List Int) (st : Ways × List Int), (∀ e ∈ l, e ∈ nsM ds) → wHas st.1 here = true → WK p ds (fun _ => true) (nsM ds) st → Fr _ _ _ _ (l.map .int) (stWy C p kn ds sm goal st.1 level (.ow (st.2.map .int)) (.fz (.int here)))
          (.nx (stWy C p kn ds sm goal (exPlace ds (fun _ => true) l st here).1 level (.ow ((exPlace ds (fun _ => true) l st here).2.map .int)) (.fz (.int here)))) by
        exact inner (nsM ds) st (fun _ h => h) hh I
      clear I hh st
      intro l
      induction l with
      | nil => intro st _ _ _; exact .nil
      | cons e l ih =>
        intro st he hh I
        have hen := he e List.mem_cons_self
        obtain ⟨⟨e0, e1⟩, _⟩ := nsM_in hen
        obtain ⟨es, ed⟩ := hE e hen
        obtain ⟨I2, up⟩ := wk_edge (ok := fun _ => true) hE hen hh I
        have q := ih (exEdge ds (fun _ => true) here st e) (fun c hc => he c (List.mem_cons_of_mem _ hc)) (up _ hh) I2
        rw [show exPlace ds (fun _ => true) (e :: l) st here = exPlace ds (fun _ => true) l (exEdge ds (fun _ => true) here st e) here from rfl]
        have hlen := wk_len I
        by_cases hc : src ds e = here ∧ (fun _ : Int => true) e = true ∧ wHas st.1 (dst ds e) = false
        · rw [exEdge_yes hc] at q ⊢
          unfold stWy at q
          rw [wD_app, List.map_append, List.map_append] at q
          have hr := I.r here hh
          have hl2 := I.l
          have ht : (decide (src ds e = here) && !((wD st.1).lookup (dst ds e)).isSome) = true := by rw [decide_eq_true hc.1, wD_has, hc.2.2]; rfl
          exact .step (xg_name 6 nd) (xss_cons (xs_asg (xv_ix ((xv_ix ((xv_fld 0 (xv_var 0) K_Gains.cl K_Gains.n_whole rfl nd_Gains)).br (xv_int).br (by rfl))).br ((xv_var 6)).br (ix_deed e0 e1)) (xg_tup rfl (xgs_cons (xg_name 7 nd) (xgs_cons (xg_name 8 nd) (xgs_cons (xg_name 9 nd) (xgs_cons (xg_name 10 nd) xgs_nil))))))
            (xss_one (xs_yes (XT.is ((xw_and (xt_eqI ((xv_var 7)).br ((xv_var 5)).br) (fun hk => (xw_and1 (xt_dnin 2 hu (xv_var 9)))))).t (ht)) (xss_cons (xs_dput 2 hu (xl_cat ((xv_dget 2 hu (xv_var 5) (wD_at hh))).br ((xl_lst (xa_cons (xv_var 6) xa_nil))).br (by rw [List.length_map, List.length_singleton]; omega)).v (xv_var 9) (wD_no hc.2.2) (by rw [wD_len]; omega)) (xss_one (xs_append 4 (xv_var 9) (by rfl) (by rw [List.length_map]; omega))))))) rfl (Le.fg [6, 7, 8, 9, 10] rfl) q
        · rw [exEdge_no hc] at q ⊢
          have ht : (decide (src ds e = here) && !((wD st.1).lookup (dst ds e)).isSome) = false := by
            rw [wD_has, Bool.eq_false_iff]
            intro z
            simp only [Bool.and_eq_true, decide_eq_true_eq, Bool.not_eq_true'] at z
            exact hc ⟨z.1, rfl, z.2⟩
          exact .step (xg_name 6 nd) (xss_cons (xs_asg (xv_ix ((xv_ix ((xv_fld 0 (xv_var 0) K_Gains.cl K_Gains.n_whole rfl nd_Gains)).br (xv_int).br (by rfl))).br ((xv_var 6)).br (ix_deed e0 e1)) (xg_tup rfl (xgs_cons (xg_name 7 nd) (xgs_cons (xg_name 8 nd) (xgs_cons (xg_name 9 nd) (xgs_cons (xg_name 10 nd) xgs_nil))))))
            (xss_one (xs_no (XT.is ((xw_and (xt_eqI ((xv_var 7)).br ((xv_var 5)).br) (fun hk => (xw_and1 (xt_dnin 2 hu (xv_var 9)))))).t (ht)) xss_nil))) rfl (Le.fg [6, 7, 8, 9, 10] rfl) q

/-! prices and purses -/
def okPr (kn : Int) (pr : List Int) : Bool := decide ((pr.length : Int) = kn) && pr.all fun x => decide (0 ≤ x) && decide (x ≤ 1000)
theorem okPr_d {kn : Int} {pr : List Int} (h : okPr kn pr = true) : (pr.length : Int) = kn ∧ ∀ x ∈ pr, 0 ≤ x ∧ x ≤ 1000 := by
  unfold okPr at h
  simp only [Bool.and_eq_true, decide_eq_true_eq, List.all_eq_true] at h
  exact ⟨h.1, fun x hx => h.2 x hx⟩
/-- a deed is paid -/
def paid (pr pu : List Int) (d : Deed) : Bool := !decide (gI pu d.1 + gI pr d.2.1 < d.2.2.2 + gI pu d.2.2.1)
noncomputable def paysB (p : Int) (ds : List Deed) (pr pu : List Int) : Bool := (decide ((pu.length : Int) = p) && (decide (gI pu 0 = 0) && decide (0 ≤ lmin pu))) && ds.all fun d => !isR ds d.1 || paid pr pu d
def priceL (ds : List Deed) (pr : List Int) (row : List Int) : Int := (row.map fun n => gI pr (dAt ds n).2.1).sum
/-- the place behind a row -/
def behindL (l : List Int) (k : Nat) : Int := l.getD k 0
def breaksB (ds : List Deed) (pr way ring : List Int) (many : Int) (l : List Int) : Bool :=
  (decide (0 ≤ many) && (ring.isEmpty || decide ((0 :: l).getLast?.getD 0 = (0 :: l).getD way.length 0))) && decide (0 < costL ds way - priceL ds pr way + many * (costL ds (way ++ ring) - costL ds way - priceL ds pr ring))
def smL (ds : List Deed) (pr : List Int) : List Int := ds.map fun d => d.2.2.2 - gI pr d.2.1
theorem smL_len (ds : List Deed) (pr : List Int) : (smL ds pr).length = ds.length := List.length_map _
theorem smL_wt {ds : List Deed} {pr : List Int} {e : Int} (h : 0 ≤ e ∧ e < ds.length) : wt (smL ds pr) e = (dAt ds e).2.2.2 - gI pr (dAt ds e).2.1 := by
  unfold wt smL dAt
  rw [List.getD_eq_getElem?_getD, List.getElem?_map, List.getD_eq_getElem?_getD, List.getElem?_eq_getElem (by omega)]; rfl
theorem goneL_app {ds : List Deed} : ∀ (a b : List Int) (here : Int) (l : List Int), goneL ds here (a ++ b) = some l → ∃ l1 l2, goneL ds here a = some l1 ∧ goneL ds ((here :: l1).getLast (by simp)) b = some l2 ∧ l = l1 ++ l2
  | [], b, here, l, h => ⟨[], l, rfl, h, rfl⟩
  | n :: a, b, here, l, h => by
    rw [List.cons_append] at h
    cases e : step ds here n with
    | none => rw [goneL_none e] at h; cases h
    | some h2 =>
      rw [goneL_some e] at h
      cases e2 : goneL ds h2 (a ++ b) with
      | none => rw [e2] at h; cases h
      | some l0 =>
        rw [e2] at h
        cases h
        obtain ⟨l1, l2, q1, q2, q3⟩ := goneL_app a b h2 l0 e2
        refine ⟨h2 :: l1, l2, by rw [goneL_some e, q1]; rfl, ?_, by rw [q3]; rfl⟩
        rw [List.getLast_cons_cons]
        exact q2
theorem goneL_join {ds : List Deed} : ∀ (a b : List Int) (here there : Int) (l1 l2 : List Int), goneL ds here a = some l1 → (here :: l1).getLast? = some there → goneL ds there b = some l2 → goneL ds here (a ++ b) = some (l1 ++ l2)
  | [], b, here, there, l1, l2, h, hl, h2 => by
    cases h
    have e : here = there := by simpa using hl
    rw [List.nil_append, List.nil_append, e]; exact h2
  | n :: a, b, here, there, l1, l2, h, hl, h2 => by
    cases e : step ds here n with
    | none => rw [goneL_none e] at h; cases h
    | some h0 =>
      rw [goneL_some e] at h
      cases e2 : goneL ds h0 a with
      | none => rw [e2] at h; cases h
      | some l0 =>
        rw [e2] at h
        cases h
        rw [List.cons_append, goneL_some e, goneL_join a b h0 there l0 l2 e2 (by rw [List.getLast?_cons_cons] at hl; exact hl) h2]
        rfl
theorem costL_app (ds : List Deed) (a b : List Int) : costL ds (a ++ b) = costL ds a + costL ds b := by
  unfold costL
  rw [List.map_append, List.sum_append]
theorem priceL_app (ds : List Deed) (pr : List Int) (a b : List Int) : priceL ds pr (a ++ b) = priceL ds pr a + priceL ds pr b := by
  unfold priceL
  rw [List.map_append, List.sum_append]
theorem wsum_gain {ds : List Deed} {pr : List Int} : ∀ {row : List Int}, (∀ e ∈ row, 0 ≤ e ∧ e < ds.length) → wsum (smL ds pr) row = costL ds row - priceL ds pr row
  | [], _ => rfl
  | e :: row, h => by
    have ih := wsum_gain (pr := pr) (row := row) fun c hc => h c (List.mem_cons_of_mem _ hc)
    rw [wsum_cons, smL_wt (h e List.mem_cons_self), ih, costL_cons]
    unfold priceL
    rw [List.map_cons, List.sum_cons]
    omega
theorem back_len {ds : List Deed} {l : List (Option Int)} {here : Int} : ∀ (n : Nat) (v : Int) (found : List Int), (back ds l here n v found).length ≤ n + found.length
  | 0, v, found => by simp [back]
  | n + 1, v, found => by
    unfold back
    split
    · omega
    · split
      · simp; omega
      · rename_i e _ _
        have := back_len (ds := ds) (l := l) (here := here) n (src ds e) (e :: found)
        simp only [List.length_cons] at this
        omega
theorem ringM_len (p : Int) (ds : List Deed) (sm ns : List Int) : (ringM p ds sm ns).length ≤ p.toNat := by
  unfold ringM
  split
  · simp
  · rename_i v _
    have := back_len (ds := ds) (l := (rEnd p ds sm ns).2.1) (here := prvN ds (rEnd p ds sm ns).2.1 p.toNat v) p.toNat (prvN ds (rEnd p ds sm ns).2.1 p.toNat v) []
    simpa using this
theorem wsum_bd {sm : List Int} {B : Int} (hB : 0 ≤ B) (h : ∀ e, wt sm e ≤ B) : ∀ row : List Int, wsum sm row ≤ row.length * B
  | [] => by simp [wsum]
  | e :: row => by
    have ih := wsum_bd hB h row
    have := h e
    rw [wsum_cons, List.length_cons]
    push_cast
    rw [Int.add_mul]
    omega
theorem smL_bd {p kn : Int} {ds : List Deed} {pr : List Int} (hg : goodM p kn ds = true) (hp : okPr kn pr = true) (e : Int) : wt (smL ds pr) e ≤ 1000 := by
  unfold wt smL
  rw [List.getD_eq_getElem?_getD, List.getElem?_map]
  cases h : ds[e.toNat]? with
  | none => simp
  | some d =>
    obtain ⟨_, _, _, g⟩ := goodM_d hg
    obtain ⟨hl, hb⟩ := okPr_d hp
    obtain ⟨q1, q2, q3, q4⟩ := g d (List.mem_of_getElem? h)
    have := hb _ (gI_mem (l := pr) (v := d.2.1) q3.1 (by omega))
    simp only [Option.map_some, Option.getD_some]
    omega
/-- what least_purse tells -/
noncomputable def manyM (sm way ring : List Int) : Int := max 0 (-wsum sm way / wsum sm ring + 1)
noncomputable def leastD (p : Int) (ds : List Deed) (pr : List Int) : D :=
  let sm := smL ds pr
  let ns := nsM ds
  match ringM p ds sm ns with
  | e :: r => .tup [.str "row", .lst ((wayM p ds ns (src ds e)).map .int), .lst ((e :: r).map .int), .int (manyM sm (wayM p ds ns (src ds e)) (e :: r))]
  | [] => if 0 < gI (wantedM p ds sm ns) 0 then .tup [.str "row", .lst ((tightM p ds sm ns (wantedM p ds sm ns)).map .int), .lst [], .int 0] else .tup [.str "purse", .lst ((wantedM p ds sm ns).map .int)]

abbrev s_look_prices : Stmt := top 17
abbrev N_look_prices : List Str := ["machine", "prices", "price"]
abbrev P_look_prices : List Str := ["machine", "prices"]
theorem sc_look_prices : FnScope N_look_prices P_look_prices (defScope s_look_prices) := ⟨rfl, rfl, rfl, by decide +kernel, rfl, by decide +kernel, by decide +kernel⟩

noncomputable def lpR (cM cP : Addr) (p kn : Int) (ds : List Deed) (pr : List Int) : Res := if goodM p kn ds then (if okPr kn pr then .ok .non else .er cP) else .er cM
def F_look_prices (cM cP : Addr) : Fs := fun args r => ∃ (p kn : Int) (ds : List Deed) (pr : List Int), args = [eMach p kn ds, .lst (pr.map .int)] ∧ pr.length ≤ 1000 ∧ r = lpR cM cP p kn ds pr
theorem df_look_prices {P : Program} {w : World} {K : Fg} {mg : Str → Option Value} {base : Heap} {cM cP : Addr} (T : Tx K mg) (U : Dn K mg "look_prices" s_look_prices P_look_prices) (EP : EC K mg "BadPrices" cP) (c_MOST_PRICE : ∃ t, mg "MOST_PRICE" = some (.int 1000 t)) (D_look_machine : Df P w K mg base "look_machine" 1 (F_look_machine cM)) :
    Df P w K mg base "look_prices" 2 (F_look_prices cM cP) :=
  df_of 1 U sc_look_prices (fun _ _ ⟨_, _, _, _, h, _⟩ => by rw [h]; rfl) fun f cdv A outer s H E args r hr tk hp hF => by
    obtain ⟨p, kn, ds, pr, rfl, hlen, rfl⟩ := hF
    have nd := sc_look_prices.nd
    unfold lpR
    cases hg : goodM p kn ds with
    | false =>
      rw [if_neg Bool.false_ne_true]
      exact XF.er (xss_stop (xs_exprR (xr_call D_look_machine hr tk (xa_cons (xv_var 0) xa_nil) ⟨p, kn, ds, rfl, by rw [hg]; rfl⟩))).er
    | true =>
      rw [if_pos rfl]
      refine XF.mk (if okPr kn pr = true then .nx [.fz (eMach p kn ds), .fz (.lst (pr.map .int)), .no] else .er cP) ?_ (by split <;> rfl)
      refine xss_cons (xs_expr (xv_call D_look_machine (hr.mono (by decide)) tk (xa_cons (xv_var 0) xa_nil) (⟨p, kn, ds, rfl, by rw [hg]; rfl⟩))) ?_
      have hall : (pr.map fun x => D.bl (cmpI .LtE 0 x && cmpI .LtE x 1000)) = (pr.map fun x => decide (0 ≤ x) && decide (x ≤ 1000)).map D.bl := by rw [List.map_map]; rfl
      refine xss_one (xs_if (XT.is ((xw_or (xt_neI ((xv_len T.len ((xv_var 1)).br)).br ((xv_ix ((xv_var 0)).br (xv_int).br (by rfl))).br) (fun hk => (xw_and1 (xt_not (xt_val (xv_all rfl T.all ((xl_lc [("price", 2)] rfl nd (xi_list (xv_var 1)) (blkOk_by (own := [("price", 2)]) (N := N_look_prices) (sc := defScope s_look_prices) (by decide +kernel)) (lc_map (g := fun x => D.bl (cmpI .LtE 0 x && cmpI .LtE x 1000)) pr fun x hx => ⟨_, (fun _ _ _ _ _ => (xgw_name 2 nd)), (fun _ _ _ _ _ => (xv_chain (xv_int).br ((xv_var 2)).br ((xv_glob c_MOST_PRICE)).br))⟩) (by rw [List.length_map]; omega))).br (congrArg D.lst hall)))))))).t (show _ = !okPr kn pr by
        unfold okPr
        rw [List.length_map, List.all_map, Bool.not_and]; rfl)) (fun hk => ?_) fun hk => ?_)
      · rw [show okPr kn pr = false by simpa using hk, if_neg Bool.false_ne_true]
        exact xss_raise rfl tk EP
      · rw [show okPr kn pr = true by simpa using hk, if_pos rfl]
        exact xss_nil

abbrev s_pays : Stmt := top 18
abbrev N_pays : List Str := ["machine", "prices", "purse", "some", "one", "kind", "other", "cost"]
abbrev P_pays : List Str := ["machine", "prices", "purse"]
theorem sc_pays : FnScope N_pays P_pays (defScope s_pays) := ⟨rfl, rfl, rfl, by decide +kernel, rfl, by decide +kernel, by decide +kernel⟩

noncomputable def paysR (cM cP : Addr) (p kn : Int) (ds : List Deed) (pr pu : List Int) : Res := if goodM p kn ds then (if okPr kn pr then .ok (.bl (paysB p ds pr pu)) else .er cP) else .er cM
def F_pays (cM cP : Addr) : Fs := fun args r => ∃ (p kn : Int) (ds : List Deed) (pr pu : List Int), args = [eMach p kn ds, .lst (pr.map .int), .lst (pu.map .int)] ∧ pr.length ≤ 1000 ∧ pu.length ≤ 1000 ∧ r = paysR cM cP p kn ds pr pu
theorem df_pays {P : Program} {w : World} {K : Fg} {mg : Str → Option Value} {base : Heap} {cM cP : Addr} (T : Tx K mg) (U : Dn K mg "pays" s_pays P_pays) (D_look_prices : Df P w K mg base "look_prices" 2 (F_look_prices cM cP)) (D_reached : Df P w K mg base "reached" 2 (F_reached cM)) :
    Df P w K mg base "pays" 3 (F_pays cM cP) :=
  df_of 2 U sc_pays (fun _ _ ⟨_, _, _, _, _, h, _⟩ => by rw [h]; rfl) fun f cdv A outer s H E args r hr tk hp hF => by
    obtain ⟨p, kn, ds, pr, pu, rfl, hlen, hlu, rfl⟩ := hF
    have nd := sc_pays.nd
    have call : ∀ r, r = lpR cM cP p kn ds pr → F_look_prices cM cP [eMach p kn ds, .lst (pr.map .int)] r := fun r h => ⟨p, kn, ds, pr, rfl, hlen, h⟩
    unfold paysR
    cases hg : goodM p kn ds with
    | false =>
      rw [if_neg Bool.false_ne_true]
      exact XF.er (xss_stop (xs_exprR (xr_call D_look_prices hr tk (xa_cons (xv_var 0) (xa_cons (xv_var 1) xa_nil)) (call _ (by unfold lpR; rw [hg]; rfl))))).er
    | true =>
      rw [if_pos rfl]
      cases ho : okPr kn pr with
      | false =>
        rw [if_neg Bool.false_ne_true]
        exact XF.er (xss_stop (xs_exprR (xr_call D_look_prices hr tk (xa_cons (xv_var 0) (xa_cons (xv_var 1) xa_nil)) (call _ (by unfold lpR; rw [hg, ho]; rfl))))).er
      | true =>
        rw [if_pos rfl]
        obtain ⟨p1, k1, hl, g⟩ := goodM_d hg
        obtain ⟨hpl, hpb⟩ := okPr_d ho
        refine XF.rt (xss_cons (xs_expr (xv_call D_look_prices (hr.mono (by decide)) tk (xa_cons (xv_var 0) (xa_cons (xv_var 1) xa_nil)) (call _ (by unfold lpR; rw [hg, ho]; rfl)))) ?_)
        unfold paysB
        have ne : ∀ {h : (!decide ((((pu.map D.int).length : Nat) : Int) = p)) = false}, pu ≠ [] ∧ (pu.length : Int) = p := fun {h} => by
          rw [List.length_map] at h
          have : (pu.length : Int) = p := by simpa using h
          exact ⟨fun z => by rw [z] at this; simp at this; omega, this⟩
        refine xss_if (XT.is ((xw_or (xt_neI ((xv_len T.len ((xv_var 2)).br)).br ((xv_ix ((xv_var 0)).br (xv_int).br (by rfl))).br) (fun hk => (xw_or (xt_neI ((xv_ix ((xv_var 2)).br (xv_int).br (ix_gI (ne (h := hk)).2 ⟨by decide, by omega⟩))).br (xv_int).br) (fun hk => (xw_and1 (xt_lt ((xv_minL rfl T.min ((xv_var 2)).br (rfl) ((ne (h := by assumption)).1))).br (xv_int).br))))))).t (show _ = !(decide ((pu.length : Int) = p) && (decide (gI pu 0 = 0) && decide (0 ≤ lmin pu))) by
          rw [List.length_map, Bool.not_and, Bool.not_and]
          congr 2
          rw [← decide_not]; exact decide_eq_decide.mpr (by omega))) (fun hk ht => ?_) fun hk ht => ?_
        · rw [show (decide ((pu.length : Int) = p) && (decide (gI pu 0 = 0) && decide (0 ≤ lmin pu))) = false from (Bool.not_eq_true' _).mp hk, Bool.false_and]
          exact xss_yesS ht (xss_ret xv_bl)
        · have hk' : (decide ((pu.length : Int) = p) && (decide (gI pu 0 = 0) && decide (0 ≤ lmin pu))) = true := (Bool.not_eq_false' _).mp hk
          rw [hk', Bool.true_and]
          have hpu : (pu.length : Int) = p := by
            rw [Bool.and_eq_true] at hk'
            exact of_decide_eq_true hk'.1
          refine xss_no0 ht ?_
          refine xss_cons (xs_set 3 nd (xv_call D_reached (hr.mono (by decide)) tk (xa_cons (xv_var 0) xa_nil) (⟨p, kn, ds, rfl, by unfold reachR; rw [hg, if_pos rfl]⟩))) ?_
          refine xss_then (o1 := if ds.all (fun d => !isR ds d.1 || paid pr pu d) = true then .nx [.fz (eMach p kn ds), .fz (.lst (pr.map .int)), .fz (.lst (pu.map .int)), .fz (.lst ((rB p ds).map .bl)), .no, .no, .no, .no] else .rt (.bl false)) (xs_for hp rfl (xi_list (xv_ix ((xv_var 0)).br (xv_int).br (by rfl))) ?_) ?_ ?_
          · suffices loop : ∀ (l : List Deed), (∀ d ∈ l, d ∈ ds) → Fr _ _ _ _ (l.map eDeed) [.fz (eMach p kn ds), .fz (.lst (pr.map .int)), .fz (.lst (pu.map .int)), .fz (.lst ((rB p ds).map .bl)), .no, .no, .no, .no]
                (if l.all (fun d => !isR ds d.1 || paid pr pu d) = true then .nx [.fz (eMach p kn ds), .fz (.lst (pr.map .int)), .fz (.lst (pu.map .int)), .fz (.lst ((rB p ds).map .bl)), .no, .no, .no, .no] else .rt (.bl false)) by
              exact loop ds fun d h => h
            intro l
            induction l with
            | nil => intro _; exact .nil
            | cons d l ih =>
              intro hm
              obtain ⟨q1, q2, q3, q4⟩ := g d (hm d List.mem_cons_self)
              have q := ih fun c hc => hm c (List.mem_cons_of_mem _ hc)
              rw [List.all_cons]
              refine Fr.chk (!isR ds d.1 || paid pr pu d) (xg_tup rfl (xgs_cons (xg_name 4 nd) (xgs_cons (xg_name 5 nd) (xgs_cons (xg_name 6 nd) (xgs_cons (xg_name 7 nd) xgs_nil))))) (a := [.fz (eMach p kn ds), .fz (.lst (pr.map .int)), .fz (.lst (pu.map .int)), .fz (.lst ((rB p ds).map .bl)), .fz (.int d.1), .fz (.int d.2.1), .fz (.int d.2.2.1), .fz (.int d.2.2.2)]) (o1 := .rt (.bl false)) ?_ (Le.fg [4, 5, 6, 7] rfl) rfl (fun hc => by rw [hc, Bool.true_and]; exact q) (fun hc => by rw [hc, Bool.false_and]; rfl)
              refine xss_if (XT.is ((xw_and (xt_val (xv_ix ((xv_var 3)).br ((xv_var 4)).br (rB_ix q1.1 q1.2))) (fun hk => (xw_and1 (xt_lt ((xv_add ((xv_ix ((xv_var 2)).br ((xv_var 4)).br (ix_gI hpu q1))).br ((xv_ix ((xv_var 1)).br ((xv_var 5)).br (ix_gI hpl q3))).br)).br ((xv_add ((xv_var 7)).br ((xv_ix ((xv_var 2)).br ((xv_var 6)).br (ix_gI hpu q2))).br)).br))))).t (show _ = !(!isR ds d.1 || paid pr pu d) by unfold paid; rw [Bool.not_or, Bool.not_not, Bool.not_not])) (fun hk ht => ?_) fun hk ht => ?_
              · rw [show (!isR ds d.1 || paid pr pu d) = false from (Bool.not_eq_true' _).mp hk, if_neg Bool.false_ne_true]
                exact xss_yesS ht (xss_ret xv_bl)
              · rw [show (!isR ds d.1 || paid pr pu d) = true from (Bool.not_eq_false' _).mp hk, if_pos rfl]
                exact xss_no0 ht xss_nil
          · intro ds1 h1
            split at h1
            · rename_i e
              cases h1
              rw [e]
              exact xss_ret xv_bl
            · cases h1
          · intro h1
            split at h1
            · cases h1
            · rename_i e
              rw [if_neg e, show (ds.all fun d => !isR ds d.1 || paid pr pu d) = false by simpa using e]

abbrev s_least_purse : Stmt := top 19
abbrev N_least_purse : List Str := ["machine", "prices", "gains", "one", "kind", "other", "cost", "ring", "way", "ahead", "number", "more", "wanted"]
abbrev P_least_purse : List Str := ["machine", "prices"]
theorem sc_least_purse : FnScope N_least_purse P_least_purse (defScope s_least_purse) := ⟨rfl, rfl, rfl, by decide +kernel, rfl, by decide +kernel, by decide +kernel⟩

noncomputable def leastR (cM cP : Addr) (p kn : Int) (ds : List Deed) (pr : List Int) : Res := if goodM p kn ds then (if okPr kn pr then .ok (leastD p ds pr) else .er cP) else .er cM
def F_least_purse (cM cP : Addr) : Fs := fun args r => ∃ (p kn : Int) (ds : List Deed) (pr : List Int), args = [eMach p kn ds, .lst (pr.map .int)] ∧ pr.length ≤ 1000 ∧ r = leastR cM cP p kn ds pr
theorem df_least_purse {P : Program} {w : World} {K : Fg} {mg : Str → Option Value} {base : Heap} {C cM cP : Addr} (T : Tx K mg) (K_Gains : Kc_Gains K C) (U : Dn K mg "least_purse" s_least_purse P_least_purse) (D_look_prices : Df P w K mg base "look_prices" 2 (F_look_prices cM cP)) (D_Gains : Dc P w K mg base "Gains" C 3 F_Gains_init)
    (D_Gains_wanted : Dm P w K mg base C "wanted" 1 (F_Gains_wanted C)) (D_Gains_ring : Dm P w K mg base C "ring" 1 (F_Gains_ring C)) (D_Gains_tight : Dm P w K mg base C "tight" 1 (F_Gains_tight C)) (D_Gains_way_to : Dm P w K mg base C "way_to" 1 (F_Gains_way_to C)) :
    Df P w K mg base "least_purse" 5 (F_least_purse cM cP) :=
  df_of 4 U sc_least_purse (fun _ _ ⟨_, _, _, _, h, _⟩ => by rw [h]; rfl) fun f cdv A outer s H E args r hr tk hp hF => by
    obtain ⟨p, kn, ds, pr, rfl, hlen, rfl⟩ := hF
    have nd := sc_least_purse.nd
    have call : ∀ r, r = lpR cM cP p kn ds pr → F_look_prices cM cP [eMach p kn ds, .lst (pr.map .int)] r := fun r h => ⟨p, kn, ds, pr, rfl, hlen, h⟩
    unfold leastR
    cases hg : goodM p kn ds with
    | false =>
      rw [if_neg Bool.false_ne_true]
      exact XF.er (xss_stop (xs_exprR (xr_call D_look_prices (hr.mono (by decide)) tk (xa_cons (xv_var 0) (xa_cons (xv_var 1) xa_nil)) (call _ (by unfold lpR; rw [hg]; rfl))))).er
    | true =>
      rw [if_pos rfl]
      cases ho : okPr kn pr with
      | false =>
        rw [if_neg Bool.false_ne_true]
        exact XF.er (xss_stop (xs_exprR (xr_call D_look_prices (hr.mono (by decide)) tk (xa_cons (xv_var 0) (xa_cons (xv_var 1) xa_nil)) (call _ (by unfold lpR; rw [hg, ho]; rfl))))).er
      | true =>
        rw [if_pos rfl]
        obtain ⟨p1, k1, hl, g⟩ := goodM_d hg
        obtain ⟨hpl, hpb⟩ := okPr_d ho
        have hsl := smL_len ds pr
        have hE := nsM_edges hg
        have hin : ∀ e ∈ nsM ds, 0 ≤ e ∧ e < ds.length := fun e he => (nsM_in he).1
        refine XF.rt (xss_cons (xs_expr (xv_call D_look_prices (hr.mono (by decide)) tk (xa_cons (xv_var 0) (xa_cons (xv_var 1) xa_nil)) (call _ (by unfold lpR; rw [hg, ho]; rfl)))) ?_)
        have hsm : D.lst (ds.map fun d => D.int (d.2.2.2 - gI pr d.2.1)) = .lst ((smL ds pr).map .int) := by unfold smL; rw [List.map_map]; rfl
        refine xss_cons (xs_set 2 nd (XO.v (xo_make D_Gains (hr.mono (by decide)) (xa_cons (xv_var 0) (xa_cons ((xl_lc [("one", 3), ("kind", 4), ("other", 5), ("cost", 6)] rfl nd (xi_list (xv_ix ((xv_var 0)).br (xv_int).br (by rfl))) (blkOk_by (own := [("one", 3), ("kind", 4), ("other", 5), ("cost", 6)]) (N := N_least_purse) (sc := defScope s_least_purse) (by decide +kernel)) (lc_map (f := eDeed) (g := fun d => D.int (d.2.2.2 - gI pr d.2.1)) ds fun x hx => ⟨_, (fun _ _ _ _ _ => (xgw_tup rfl (xgws_cons (xgw_name 3 nd) (xgws_cons (xgw_name 4 nd) (xgws_cons (xgw_name 5 nd) (xgws_cons (xgw_name 6 nd) xgws_nil)))))), (fun _ _ _ _ _ => (xv_sub ((xv_var 6)).br ((xv_ix ((xv_var 1)).br ((xv_var 4)).br (ix_gI hpl (g x hx).2.2.1))).br))⟩) (by rw [List.length_map]; omega))).v xa_nil)) (⟨p, kn, ds, smL ds pr, by rw [hsm], hg, rfl, rfl, rfl⟩)))) ?_
        refine xss_cons (xs_set 7 nd (xv_meth0 (FN := FN_Gains) D_Gains_ring K_Gains.cl (hr.mono (by decide)) (xv_var 2) (⟨p, kn, ds, smL ds pr, rfl, hg, hsl, rfl⟩))) ?_
        unfold leastD
        simp only
        have hrl := ringM_len p ds (smL ds pr) (nsM ds)
        have hspec := ringM_spec (sm := smL ds pr) p1.1 hin hE
        cases hrg : ringM p ds (smL ds pr) (nsM ds) with
        | nil =>
          have W := wantedM_ok p1.1 hin hE hrg
          have hWl := W.len
          refine xss_no0 (XT.is (xt_truth ((xv_var 7)).br (rfl)) (rfl)) ?_
          refine xss_cons (xs_set 12 nd (xv_meth0 (FN := FN_Gains) D_Gains_wanted K_Gains.cl (hr.mono (by decide)) (xv_var 2) (⟨p, kn, ds, smL ds pr, rfl, hg, hsl, hrg, rfl⟩))) ?_
          by_cases hc : 0 < gI (wantedM p ds (smL ds pr) (nsM ds)) 0
          · rw [if_pos hc]
            exact xss_yesS (XT.is (xt_gt ((xv_ix ((xv_var 12)).br (xv_int).br (ix_gI hWl ⟨by decide, by omega⟩))).br (xv_int).br) (decide_eq_true hc)) (xss_ret (xv_tup (xa_cons xv_str (xa_cons (xv_meth (FN := FN_Gains) D_Gains_tight K_Gains.cl (hr.mono (by decide)) (xv_var 2) (xa_cons (xv_var 12) xa_nil) (⟨p, kn, ds, smL ds pr, _, rfl, hg, hsl, W, rfl⟩)) (xa_cons ((xl_lst xa_nil)).v (xa_cons xv_int xa_nil))))))
          · rw [if_neg hc]
            exact xss_no0 (XT.is (xt_gt ((xv_ix ((xv_var 12)).br (xv_int).br (ix_gI hWl ⟨by decide, by omega⟩))).br (xv_int).br) (decide_eq_false hc)) (xss_ret (xv_tup (xa_cons xv_str (xa_cons (xv_var 12) xa_nil))))
        | cons e rr =>
          rw [hrg] at hspec hrl
          rcases hspec with ⟨h, _⟩ | ⟨_, hpos, here, hh, hrow⟩
          · cases h
          have hmem : ∀ x ∈ e :: rr, x ∈ nsM ds := hrow.1
          obtain ⟨he0, hre⟩ := nsM_in (hmem e List.mem_cons_self)
          have hway := wayM_spec p1.1 hin hE hre
          have hwi : ∀ x ∈ wayM p ds (nsM ds) (src ds e), 0 ≤ x ∧ x < (ds.length : Int) := fun x hx => hin x (hway.1 x hx)
          have hri : ∀ x ∈ e :: rr, 0 ≤ x ∧ x < (ds.length : Int) := fun x hx => hin x (hmem x hx)
          have hwl : (wayM p ds (nsM ds) (src ds e)).length ≤ 1000 := by have := wayM_len p1.1 hin hE hre; omega
          have sumE : ∀ row : List Int, D.lst (row.map fun n => D.int (wt (smL ds pr) n)) = .lst ((row.map fun n => wt (smL ds pr) n).map .int) := fun row => by rw [List.map_map]; rfl
          have hix0 : ixD (.lst ((e :: rr).map .int)) 0 = some (.int e) := ix_map (f := D.int) (atI_ge (xs := e :: rr) (i := 0) (by decide) (by simp))
          refine xss_yesS (XT.is (xt_truth ((xv_var 7)).br (rfl)) (rfl)) ?_
          refine xss_cons (xs_set 8 nd (xv_meth (FN := FN_Gains) D_Gains_way_to K_Gains.cl (hr.mono (by decide)) (xv_var 2) (xa_cons (xv_ix ((xv_ix ((xv_ix ((xv_var 0)).br (xv_int).br (by rfl))).br ((xv_ix ((xv_var 7)).br (xv_int).br (hix0))).br (ix_deed he0.1 he0.2))).br (xv_int).br (by rfl)) xa_nil) (⟨p, kn, ds, smL ds pr, _, rfl, hg, hre, rfl⟩))) ?_
          refine xss_cons (xs_set (d := .int (wsum (smL ds pr) (wayM p ds (nsM ds) (src ds e)))) 9 nd (xv_sum rfl T.sum ((xl_lc [("number", 10)] rfl nd (xi_list (xv_var 8)) (blkOk_by (own := [("number", 10)]) (N := N_least_purse) (sc := defScope s_least_purse) (by decide +kernel)) (lc_map (g := fun n => D.int (wt (smL ds pr) n)) (wayM p ds (nsM ds) (src ds e)) fun x hx => ⟨_, (fun _ _ _ _ _ => (xgw_name 10 nd)), (fun _ _ _ _ _ => (xv_ix ((xv_fld 1 (xv_var 2) K_Gains.cl K_Gains.n_some rfl nd_Gains)).br ((xv_var 10)).br (ix_wt hsl (hwi x hx))))⟩) (by rw [List.length_map]; omega))).br (sumE _))) ?_
          refine xss_cons (xs_set (d := .int (wsum (smL ds pr) (e :: rr))) 11 nd (xv_sum rfl T.sum ((xl_lc [("number", 10)] rfl nd (xi_list (xv_var 7)) (blkOk_by (own := [("number", 10)]) (N := N_least_purse) (sc := defScope s_least_purse) (by decide +kernel)) (lc_map (g := fun n => D.int (wt (smL ds pr) n)) (e :: rr) fun x hx => ⟨_, (fun _ _ _ _ _ => (xgw_name 10 nd)), (fun _ _ _ _ _ => (xv_ix ((xv_fld 1 (xv_var 2) K_Gains.cl K_Gains.n_some rfl nd_Gains)).br ((xv_var 10)).br (ix_wt hsl (hri x hx))))⟩) (by rw [List.length_map]; omega))).br (sumE _))) ?_
          have hbd := wsum_bd (by decide : (0 : Int) ≤ 1000) (smL_bd hg ho) (e :: rr)
          have hb2 : wsum (smL ds pr) (e :: rr) < 1073741824 := by
            have : ((e :: rr).length : Int) ≤ 200 := by omega
            have := Int.mul_le_mul_of_nonneg_right this (by decide : (0 : Int) ≤ 1000)
            omega
          exact xss_ret (xv_tup (xa_cons xv_str (xa_cons (xv_var 8) (xa_cons (xv_var 7) (xa_cons (xv_max rfl T.max (xv_int).br ((xv_add ((xv_div ((xv_neg ((xv_var 9)).br)).br ((xv_var 11)).br (⟨hpos, hb2⟩))).br (xv_int).br)).br) xa_nil)))))

/-! the law's own walk -/
theorem inF_ints {a : Int} : ∀ {xs : List Int}, inF (.int a) (xs.map .int) = decide (a ∈ xs)
  | [] => rfl
  | x :: xs => by
    show (eqF (.int x) (.int a) || inF (.int a) (xs.map .int)) = _
    rw [inF_ints, eqF_int, Bool.eq_iff_iff]
    simp only [Bool.or_eq_true, decide_eq_true_eq, List.mem_cons]
    constructor
    · rintro (h | h)
      · exact .inl h.symm
      · exact .inr h
    · rintro (h | h)
      · exact .inl h.symm
      · exact .inr h
theorem flat_ints : ∀ (xs : List Int), (xs.map D.int).all flatD = true
  | [] => rfl
  | x :: xs => flat_ints xs
def lrEdge (v : Int) (fd : List Int) (d : Deed) : List Int := if d.1 = v ∧ d.2.2.1 ∉ fd then fd ++ [d.2.2.1] else fd
def lrAll (v : Int) (ds : List Deed) (fd : List Int) : List Int := ds.foldl (lrEdge v) fd
def lrGo (ds : List Deed) : Nat → Nat → List Int → List Int
  | 0, _, fd => fd
  | n + 1, k, fd => if k < fd.length then lrGo ds n (k + 1) (lrAll (fd.getD k 0) ds fd) else fd
def lrM (p : Int) (ds : List Deed) : List Int := lrGo ds (p.toNat + 1) 0 [0]
structure LInv (p : Int) (ds : List Deed) (cl : Int → Prop) (fd : List Int) : Prop where
  nd : fd.Nodup
  ok : ∀ x ∈ fd, (0 ≤ x ∧ x < p) ∧ Reach ds x
  z : (0 : Int) ∈ fd
  c : ∀ d ∈ ds, d.1 ∈ fd → cl d.1 ∨ d.2.2.1 ∈ fd
theorem lrEdge_inv {p : Int} {ds : List Deed} {v : Int} {cl : Int → Prop} {fd : List Int} {d : Deed} (hd : d ∈ ds) (hb : 0 ≤ d.2.2.1 ∧ d.2.2.1 < p) (hv : v ∈ fd) (ncl : ∀ x, x ∉ fd → cl x) (I : LInv p ds cl fd) :
    LInv p ds cl (lrEdge v fd d) ∧ (∃ r, lrEdge v fd d = fd ++ r) ∧ (d.1 = v → d.2.2.1 ∈ lrEdge v fd d) := by
  unfold lrEdge
  split
  · rename_i h
    refine ⟨⟨?_, fun x hx => ?_, List.mem_append_left _ I.z, fun c hc hx => ?_⟩, ⟨_, rfl⟩, fun _ => List.mem_append_right _ (List.mem_singleton_self _)⟩
    · rw [List.nodup_append]
      refine ⟨I.nd, by simp, fun a ha b hb e => ?_⟩
      rw [List.mem_singleton] at hb
      exact h.2 (by rw [← hb, ← e]; exact ha)
    · rcases List.mem_append.mp hx with hx | hx
      · exact I.ok x hx
      · rw [List.mem_singleton] at hx
        rw [hx]
        exact ⟨hb, .go hd (by rw [h.1]; exact (I.ok v hv).2)⟩
    · by_cases q : c.1 ∈ fd
      · rcases I.c c hc q with w | w
        · exact .inl w
        · exact .inr (List.mem_append_left _ w)
      · exact .inl (ncl _ q)
  · rename_i h
    refine ⟨I, ⟨[], by rw [List.append_nil]⟩, fun e => ?_⟩
    apply Classical.byContradiction
    intro q
    exact h ⟨e, q⟩
theorem lrAll_inv {p : Int} {ds : List Deed} {v : Int} {cl : Int → Prop} (hb : ∀ d ∈ ds, 0 ≤ d.2.2.1 ∧ d.2.2.1 < p) : ∀ (l : List Deed) (fd : List Int), (∀ d ∈ l, d ∈ ds) → v ∈ fd → (∀ x, x ∉ fd → cl x) → LInv p ds cl fd →
    LInv p ds cl (lrAll v l fd) ∧ (∃ r, lrAll v l fd = fd ++ r) ∧ (∀ d ∈ l, d.1 = v → d.2.2.1 ∈ lrAll v l fd)
  | [], fd, _, _, _, I => ⟨I, ⟨[], by unfold lrAll; simp⟩, fun d h => by cases h⟩
  | d :: l, fd, hl, hv, hn, I => by
    obtain ⟨I1, ⟨r1, e1⟩, m1⟩ := lrEdge_inv (hl d List.mem_cons_self) (hb d (hl d List.mem_cons_self)) hv hn I
    obtain ⟨I2, ⟨r2, e2⟩, m2⟩ := lrAll_inv hb l (lrEdge v fd d) (fun c hc => hl c (List.mem_cons_of_mem _ hc)) (by rw [e1]; exact List.mem_append_left _ hv) (fun x hx => hn x fun q => hx (by rw [e1]; exact List.mem_append_left _ q)) I1
    refine ⟨I2, ⟨r1 ++ r2, ?_⟩, fun c hc e => ?_⟩
    · show lrAll v l (lrEdge v fd d) = _
      rw [e2, e1, List.append_assoc]
    · rcases List.mem_cons.mp hc with rfl | hc
      · show _ ∈ lrAll v l (lrEdge v fd c)
        rw [e2]
        exact List.mem_append_left _ (m1 e)
      · exact m2 c hc e
/-- behind k turns: what stands ahead of k is closed -/
abbrev LK (p : Int) (ds : List Deed) (k : Nat) (fd : List Int) : Prop := LInv p ds (fun x => x ∉ fd.take k) fd ∧ k ≤ fd.length
theorem lr_len {p : Int} {ds : List Deed} {cl : Int → Prop} {fd : List Int} (I : LInv p ds cl fd) : (fd.length : Int) ≤ p := by
  apply Classical.byContradiction
  intro hc
  have hp : 0 < p := by have := (I.ok 0 I.z).1; omega
  obtain ⟨i, j, h1, h2, h3⟩ := pigeon p.toNat (fun i => fd.getD i 0) (fun i hi => by
    have hl : i < fd.length := by omega
    have hm : fd.getD i 0 ∈ fd := by
      rw [List.getD_eq_getElem?_getD, List.getElem?_eq_getElem hl]
      exact List.getElem_mem _
    have := (I.ok _ hm).1
    omega)
  have li : i < fd.length := by omega
  have lj : j < fd.length := by omega
  rw [List.getD_eq_getElem?_getD, List.getD_eq_getElem?_getD, List.getElem?_eq_getElem li, List.getElem?_eq_getElem lj] at h3
  have nd := I.nd
  rw [List.nodup_iff_pairwise_ne, List.pairwise_iff_getElem] at nd
  exact nd i j li lj h1 (by simpa using h3)
theorem lr_turn {p : Int} {ds : List Deed} {k : Nat} {fd : List Int} (hb : ∀ d ∈ ds, 0 ≤ d.2.2.1 ∧ d.2.2.1 < p) (h : k < fd.length) (I : LK p ds k fd) : LK p ds (k + 1) (lrAll (fd.getD k 0) ds fd) ∧ ∃ r, lrAll (fd.getD k 0) ds fd = fd ++ r := by
  have e0 : fd.getD k 0 = fd[k] := by rw [List.getD_eq_getElem?_getD, List.getElem?_eq_getElem h]; rfl
  rw [e0]
  have hv : fd[k] ∈ fd := List.getElem_mem h
  obtain ⟨I1, ⟨r, e⟩, m⟩ := lrAll_inv (v := fd[k]) hb ds fd (fun _ h => h) hv (fun x hx => fun q => hx (List.mem_of_mem_take q)) I.1
  refine ⟨⟨⟨I1.nd, I1.ok, I1.z, fun d hd hx => ?_⟩, by rw [e, List.length_append]; omega⟩, r, e⟩
  by_cases q : d.1 = fd[k]
  · exact .inr (m d hd q)
  · rcases I1.c d hd hx with w | w
    · left
      intro z
      rw [e, List.take_append_of_le_length (by omega), List.take_succ_eq_append_getElem h, List.mem_append, List.mem_singleton] at z
      rcases z with z | z
      · exact w z
      · exact q z
    · exact .inr w
theorem lr_start {p : Int} {ds : List Deed} (hp : 1 ≤ p) : LK p ds 0 [0] := ⟨⟨by simp, fun x hx => by rw [List.mem_singleton] at hx; subst hx; exact ⟨⟨by decide, by omega⟩, .zero⟩, by simp, fun d hd hx => .inl (by simp)⟩, by simp⟩
theorem lrGo_inv {p : Int} {ds : List Deed} (hb : ∀ d ∈ ds, 0 ≤ d.2.2.1 ∧ d.2.2.1 < p) : ∀ (n k : Nat) (fd : List Int), LK p ds k fd → p.toNat < n + k → LInv p ds (fun _ => False) (lrGo ds n k fd)
  | 0, k, fd, I, h => by have := lr_len I.1; have := I.2; omega
  | n + 1, k, fd, I, h => by
    unfold lrGo
    split
    · rename_i hk
      exact lrGo_inv hb n (k + 1) _ (lr_turn hb hk I).1 (by omega)
    · rename_i hk
      have e : k = fd.length := by have := I.2; omega
      subst e
      refine ⟨I.1.nd, I.1.ok, I.1.z, fun d hd hx => ?_⟩
      rcases I.1.c d hd hx with w | w
      · rw [List.take_length] at w; exact absurd hx w
      · exact .inr w
theorem lrM_mem {p : Int} {ds : List Deed} (hp : 1 ≤ p) (hb : ∀ d ∈ ds, 0 ≤ d.2.2.1 ∧ d.2.2.1 < p) (x : Int) : x ∈ lrM p ds ↔ Reach ds x := by
  have I := lrGo_inv hb (p.toNat + 1) 0 [0] (lr_start hp) (by omega)
  constructor
  · exact fun h => (I.ok x h).2
  · intro h
    induction h with
    | zero => exact I.z
    | go hd _ ih =>
      rcases I.c _ hd ih with w | w
      · exact w.elim
      · exact w
theorem lrM_dec {p : Int} {ds : List Deed} (hp : 1 ≤ p) (hb : ∀ d ∈ ds, 0 ≤ d.2.2.1 ∧ d.2.2.1 < p) (x : Int) : decide (x ∈ lrM p ds) = isR ds x := by
  refine isR_of ?_
  rw [decide_eq_true_eq]
  exact lrM_mem hp hb x
theorem lrM_len {p : Int} {ds : List Deed} (hp : 1 ≤ p) (hb : ∀ d ∈ ds, 0 ≤ d.2.2.1 ∧ d.2.2.1 < p) : ((lrM p ds).length : Int) ≤ p := lr_len (lrGo_inv hb (p.toNat + 1) 0 [0] (lr_start hp) (by omega))

/-! what a way and a ring gain, deed by deed -/
def gnF (ds : List Deed) (pr : List Int) (wl : Nat) (many : Int) : Nat → List Int → Int
  | _, [] => 0
  | i, n :: r => ((dAt ds n).2.2.2 - gI pr (dAt ds n).2.1) * (if i < wl then 1 else many) + gnF ds pr wl many (i + 1) r
theorem gnF_app (ds : List Deed) (pr : List Int) (wl : Nat) (many : Int) : ∀ (a b : List Int) (i : Nat), gnF ds pr wl many i (a ++ b) = gnF ds pr wl many i a + gnF ds pr wl many (i + a.length) b
  | [], b, i => by simp [gnF]
  | n :: a, b, i => by
    rw [List.cons_append, gnF, gnF, gnF_app ds pr wl many a b (i + 1), List.length_cons, show i + 1 + a.length = i + (a.length + 1) by omega]
    omega
theorem gnF_way (ds : List Deed) (pr : List Int) (wl : Nat) (many : Int) : ∀ (a : List Int) (i : Nat), i + a.length ≤ wl → gnF ds pr wl many i a = costL ds a - priceL ds pr a
  | [], i, _ => rfl
  | n :: a, i, h => by
    rw [List.length_cons] at h
    rw [gnF, gnF_way ds pr wl many a (i + 1) (by omega), if_pos (by omega), costL_cons]
    unfold priceL
    rw [List.map_cons, List.sum_cons]
    omega
theorem gnF_ring (ds : List Deed) (pr : List Int) (wl : Nat) (many : Int) : ∀ (a : List Int) (i : Nat), wl ≤ i → gnF ds pr wl many i a = many * (costL ds a - priceL ds pr a)
  | [], i, _ => by simp [gnF, costL, priceL]
  | n :: a, i, h => by
    rw [gnF, gnF_ring ds pr wl many a (i + 1) (by omega), if_neg (by omega), costL_cons]
    unfold priceL
    rw [List.map_cons, List.sum_cons]
    grind
theorem gnF_all (ds : List Deed) (pr way ring : List Int) (many : Int) : gnF ds pr way.length many 0 (way ++ ring) = costL ds way - priceL ds pr way + many * (costL ds (way ++ ring) - costL ds way - priceL ds pr ring) := by
  rw [gnF_app, gnF_way _ _ _ _ _ _ (by omega), gnF_ring _ _ _ _ _ _ (by omega), costL_app]
  rw [show costL ds way + costL ds ring - costL ds way - priceL ds pr ring = costL ds ring - priceL ds pr ring by omega]
theorem tGo_len {p : Int} {ds : List Deed} {ok : Int → Bool} {ns : List Int} {stop : Int → Bool} (hE : Edges p ds ns) : ∀ (lv : List Int) (st : Ways × List Int) (r : List Int), (∀ v ∈ lv, wHas st.1 v = true) → WK p ds ok ns st → tGo ds ok ns stop lv st = .inl r → (r.length : Int) < p
  | [], st, r, _, I, h => by simp only [tGo] at h; cases h
  | here :: lv, st, r, hl, I, h => by
    unfold tGo at h
    split at h
    · cases h
      have := I.r here (hl here List.mem_cons_self)
      have := wk_len I
      omega
    · obtain ⟨a1, a2⟩ := wk_place (ok := ok) hE ns st (fun _ h => h) (hl here List.mem_cons_self) I
      exact tGo_len hE lv _ r (fun v hv => a2 v (hl v (List.mem_cons_of_mem _ hv))) a1 h
theorem tightL_len {p : Int} {ds : List Deed} {ns sm W : List Int} {ok stop : Int → Bool} (hp : 1 ≤ p) (hin : ∀ e ∈ ns, 0 ≤ e ∧ e < ds.length) (hE : Edges p ds ns) : ∀ (n : Nat) (ws : Ways) (lv : List Int), WK p ds ok ns (ws, lv) → ((tightL ds ok ns stop n ws lv).length : Int) < p
  | 0, ws, lv, _ => by simp [tightL]; omega
  | n + 1, ws, lv, I => by
    unfold tightL
    cases h : tGo ds ok ns stop lv (ws, []) with
    | inl r => exact tGo_len hE lv (ws, []) r I.lv (wk_next I) h
    | inr st => exact tightL_len (sm := sm) (W := W) hp hin hE n st.1 st.2 (wk_go hE lv (ws, []) st I.lv (wk_next I) h)
theorem leastD_cases {p kn : Int} {ds : List Deed} {pr : List Int} (hg : goodM p kn ds = true) (ho : okPr kn pr = true) : (∃ W : List Int, leastD p ds pr = .tup [.str "purse", .lst (W.map .int)] ∧ (W.length : Int) = p) ∨
    ∃ (way ring : List Int) (many : Int), leastD p ds pr = .tup [.str "row", .lst (way.map .int), .lst (ring.map .int), .int many] ∧ way.length + ring.length ≤ 1000 := by
  obtain ⟨p1, k1, hl, g⟩ := goodM_d hg
  have hE := nsM_edges hg
  have hin : ∀ e ∈ nsM ds, 0 ≤ e ∧ e < ds.length := fun e he => (nsM_in he).1
  have hrl := ringM_len p ds (smL ds pr) (nsM ds)
  have hspec := ringM_spec (sm := smL ds pr) p1.1 hin hE
  unfold leastD
  simp only
  cases hrg : ringM p ds (smL ds pr) (nsM ds) with
  | nil =>
    have W := wantedM_ok p1.1 hin hE hrg
    by_cases hc : 0 < gI (wantedM p ds (smL ds pr) (nsM ds)) 0
    · right
      rw [if_pos hc]
      have := tightL_len (ok := okT ds (smL ds pr) (wantedM p ds (smL ds pr) (nsM ds))) (stop := stT (wantedM p ds (smL ds pr) (nsM ds))) (sm := smL ds pr) (W := wantedM p ds (smL ds pr) (nsM ds)) p1.1 hin hE (2 * p.toNat + 2) _ _ (wk_start p1.1)
      refine ⟨_, [], 0, rfl, ?_⟩
      unfold tightM
      simp only [List.length_nil]
      omega
    · left
      rw [if_neg hc]
      exact ⟨_, rfl, W.len⟩
  | cons e rr =>
    right
    rw [hrg] at hspec hrl
    rcases hspec with ⟨h, _⟩ | ⟨_, hpos, here, hh, hrow⟩
    · cases h
    obtain ⟨he0, hre⟩ := nsM_in (hrow.1 e List.mem_cons_self)
    have := wayM_len p1.1 hin hE hre
    exact ⟨_, e :: rr, _, rfl, by omega⟩
def prM (ns : List Int) (k m c : Int) : List Int := (List.range c.toNat).map fun (j : Nat) => mix ns (k + j) % m
theorem prM_len {ns : List Int} {k m c : Int} (h : 0 ≤ c) : ((prM ns k m c).length : Int) = c := by unfold prM; simp; omega
theorem prM_bd {ns : List Int} {k m c : Int} (hm : 0 < m) : ∀ x ∈ prM ns k m c, 0 ≤ x ∧ x < m := fun x hx => by
  unfold prM at hx
  obtain ⟨j, _, rfl⟩ := List.mem_map.mp hx
  exact ⟨Int.emod_nonneg _ (by omega), Int.emod_lt_of_pos _ hm⟩
theorem okPr_of {kn : Int} {pr : List Int} (h : (pr.length : Int) = kn) (hb : ∀ x ∈ pr, 0 ≤ x ∧ x ≤ 1000) : okPr kn pr = true := by
  unfold okPr
  simp only [Bool.and_eq_true, decide_eq_true_eq, List.all_eq_true]
  exact ⟨h, fun x hx => hb x hx⟩
theorem eqS_no : eqD (.str "row") (.str "purse") = false := by decide +kernel
theorem eqS_no2 : eqD (.str "purse") (.str "row") = false := by decide +kernel
theorem okE_purse : okE (.str "purse") = true := by decide +kernel
theorem okE_row : okE (.str "row") = true := by decide +kernel

/-! what least_purse tells is so -/
theorem lmin_nn {l : List Int} (h : ∀ x ∈ l, 0 ≤ x) : 0 ≤ lmin l := by
  by_cases e : l = []
  · subst e; decide
  · exact h _ (lmin_spec e).1
theorem mem_gI {l : List Int} {x : Int} (h : x ∈ l) : ∃ v : Int, 0 ≤ v ∧ v < l.length ∧ gI l v = x := by
  obtain ⟨i, hi, e⟩ := List.getElem_of_mem h
  refine ⟨(i : Int), by omega, by omega, ?_⟩
  unfold gI
  rw [Int.toNat_natCast, List.getD_eq_getElem?_getD, List.getElem?_eq_getElem hi, e]; rfl
theorem at_deed {ds : List Deed} {d : Deed} (h : d ∈ ds) : ∃ k : Int, 0 ≤ k ∧ k < ds.length ∧ dAt ds k = d := by
  obtain ⟨i, hi, e⟩ := List.getElem_of_mem h
  refine ⟨(i : Int), by omega, by omega, ?_⟩
  unfold dAt
  rw [Int.toNat_natCast, List.getD_eq_getElem?_getD, List.getElem?_eq_getElem hi, e]; rfl
theorem wok_paid {p : Int} {ds : List Deed} {pr W : List Int} (I : WOk p ds (smL ds pr) (nsM ds) W) {d : Deed} (hd : d ∈ ds) (hr : Reach ds d.1) : gI W d.2.2.1 + d.2.2.2 ≤ gI W d.1 + gI pr d.2.1 := by
  obtain ⟨k, h0, h1, e⟩ := at_deed hd
  have hm : k ∈ nsM ds := nsM_of h0 h1 (by unfold src; rw [e]; exact hr)
  have := I.up k hm
  rw [smL_wt ⟨h0, h1⟩] at this
  unfold src dst at this
  rw [e] at this
  omega
theorem paysB_true {p kn : Int} {ds : List Deed} {pr W : List Int} (hg : goodM p kn ds = true) (I : WOk p ds (smL ds pr) (nsM ds) W) (h0 : ¬ 0 < gI W 0) : paysB p ds pr W = true := by
  obtain ⟨p1, _, _, g⟩ := goodM_d hg
  have hl := I.len
  have z := I.pos 0 (by decide) (by omega)
  unfold paysB
  simp only [Bool.and_eq_true, decide_eq_true_eq, List.all_eq_true]
  refine ⟨⟨hl, by omega, lmin_nn fun x hx => ?_⟩, fun d hd => ?_⟩
  · obtain ⟨v, v0, v1, e⟩ := mem_gI hx
    rw [← e]; exact I.pos v v0 (by omega)
  · cases hr : isR ds d.1 with
    | false => rfl
    | true =>
      have := wok_paid I hd (isR_iff.mp hr)
      unfold paid
      rw [decide_eq_false (by omega)]; rfl
/-- nothing where none comes -/
theorem wok_zero {p : Int} {ds : List Deed} {sm W : List Int} (I : WOk p ds sm (nsM ds) W) {v : Int} (h0 : 0 ≤ v) (h1 : v < p) (hr : ¬ Reach ds v) : gI W v = 0 := by
  have key : ∀ u, Tg ds sm (nsM ds) W u → ¬ Reach ds u → gI W u = 0 := by
    intro u t
    cases t with
    | zero h => exact fun _ => h
    | go he _ _ => exact fun q => absurd (nsM_in he).2 q
  exact key v (I.tg v h0 h1) hr
theorem wsum_tight {ds : List Deed} {sm W : List Int} : ∀ (row : List Int) (a b : Int) (l : List Int), goneL ds a row = some l → (a :: l).getLast? = some b → (∀ e ∈ row, gI W (src ds e) = wt sm e + gI W (dst ds e)) → wsum sm row = gI W a - gI W b
  | [], a, b, l, h, hl, _ => by
    cases h
    have e : a = b := by simpa using hl
    subst e
    simp [wsum]
  | n :: row, a, b, l, h, hl, ht => by
    obtain ⟨⟨_, _, e1⟩, l2, h2, e2⟩ := goneL_cons h
    subst e2
    rw [List.getLast?_cons_cons] at hl
    have ih := wsum_tight row (dAt ds n).2.2.1 b l2 h2 hl fun e he => ht e (List.mem_cons_of_mem _ he)
    have h3 := ht n List.mem_cons_self
    rw [wsum_cons, ih]
    unfold src dst at h3
    rw [e1] at h3
    omega
theorem div_beats {a m : Int} (h : 0 < m) : 0 < a + max 0 (-a / m + 1) * m := by
  have h1 : -a < (-a / m + 1) * m := Int.lt_ediv_add_one_mul_self (-a) h
  rcases Int.le_total 0 (-a / m + 1) with z | z
  · rw [Int.max_eq_right z]; omega
  · rw [Int.max_eq_left z]
    have : (-a / m + 1) * m ≤ 0 := Int.mul_nonpos_of_nonpos_of_nonneg z (by omega)
    omega
theorem breaksB_ring {p kn : Int} {ds : List Deed} {pr : List Int} {e : Int} {rr : List Int} (hg : goodM p kn ds = true) (h : ringM p ds (smL ds pr) (nsM ds) = e :: rr) :
    ∃ l, goneL ds 0 (wayM p ds (nsM ds) (src ds e) ++ (e :: rr)) = some l ∧ breaksB ds pr (wayM p ds (nsM ds) (src ds e)) (e :: rr) (manyM (smL ds pr) (wayM p ds (nsM ds) (src ds e)) (e :: rr)) l = true := by
  obtain ⟨p1, _, _, g⟩ := goodM_d hg
  have hE := nsM_edges hg
  have hin : ∀ e ∈ nsM ds, 0 ≤ e ∧ e < ds.length := fun e he => (nsM_in he).1
  have hspec := ringM_spec (sm := smL ds pr) p1.1 hin hE
  rw [h] at hspec
  rcases hspec with ⟨h, _⟩ | ⟨_, hpos, here, hh, hrow⟩
  · cases h
  obtain ⟨he0, hre⟩ := nsM_in (hrow.1 e List.mem_cons_self)
  have hway := wayM_spec p1.1 hin hE hre
  generalize wayM p ds (nsM ds) (src ds e) = way at *
  obtain ⟨wm, l1, w1, w2⟩ := hway
  obtain ⟨rm, l2, r1, r2⟩ := hrow
  obtain ⟨⟨_, _, q3⟩, l3, q4, q5⟩ := goneL_cons r1
  have hs : src ds e = here := q3
  rw [hs] at w2
  have hj := goneL_join way (e :: rr) 0 here l1 l2 w1 w2 r1
  refine ⟨l1 ++ l2, hj, ?_⟩
  have hl1 := goneL_len ds way 0 l1 w1
  have hwi : ∀ x ∈ way, 0 ≤ x ∧ x < (ds.length : Int) := fun x hx => hin x (wm x hx)
  have hri : ∀ x ∈ e :: rr, 0 ≤ x ∧ x < (ds.length : Int) := fun x hx => hin x (rm x hx)
  have g1 := wsum_gain (pr := pr) hwi
  have g2 := wsum_gain (pr := pr) hri
  unfold breaksB
  simp only [Bool.and_eq_true, Bool.or_eq_true, decide_eq_true_eq]
  refine ⟨⟨?_, .inr ?_⟩, ?_⟩
  · unfold manyM; omega
  · have a1 : (0 :: (l1 ++ l2)).getLast? = some here := by
      rw [q5] at r2 ⊢
      rw [List.getLast?_cons_cons] at r2
      rw [show 0 :: (l1 ++ (dAt ds e).2.2.1 :: l3) = (0 :: l1) ++ ((dAt ds e).2.2.1 :: l3) from rfl, List.getLast?_append, r2]; rfl
    have a2 : (0 :: (l1 ++ l2)).getD way.length 0 = here := by
      rw [List.getLast?_eq_getElem?] at w2
      rw [List.length_cons, Nat.add_sub_cancel, hl1] at w2
      rw [List.getD_eq_getElem?_getD, show 0 :: (l1 ++ l2) = (0 :: l1) ++ l2 from rfl, List.getElem?_append_left (by simp; omega), w2]; rfl
    rw [a1, a2]; rfl
  · have := div_beats (a := wsum (smL ds pr) way) (m := wsum (smL ds pr) (e :: rr)) hpos
    unfold manyM
    rw [costL_app, show costL ds way + costL ds (e :: rr) - costL ds way - priceL ds pr (e :: rr) = wsum (smL ds pr) (e :: rr) by omega, ← g1]
    exact this
theorem breaksB_tight {p kn : Int} {ds : List Deed} {pr : List Int} (hg : goodM p kn ds = true) (h : ringM p ds (smL ds pr) (nsM ds) = []) (h0 : 0 < gI (wantedM p ds (smL ds pr) (nsM ds)) 0) :
    ∃ l, goneL ds 0 (tightM p ds (smL ds pr) (nsM ds) (wantedM p ds (smL ds pr) (nsM ds)) ++ []) = some l ∧ breaksB ds pr (tightM p ds (smL ds pr) (nsM ds) (wantedM p ds (smL ds pr) (nsM ds))) [] 0 l = true := by
  obtain ⟨p1, _, _, g⟩ := goodM_d hg
  have hE := nsM_edges hg
  have hin : ∀ e ∈ nsM ds, 0 ≤ e ∧ e < ds.length := fun e he => (nsM_in he).1
  have I := wantedM_ok p1.1 hin hE h
  obtain ⟨v, hv, _, hrow, ht⟩ := tightM_spec p1.1 hin hE (I.tg 0 (by decide) (by omega))
  generalize tightM p ds (smL ds pr) (nsM ds) (wantedM p ds (smL ds pr) (nsM ds)) = way at *
  obtain ⟨wm, l1, w1, w2⟩ := hrow
  rw [List.append_nil]
  refine ⟨l1, w1, ?_⟩
  have g1 := wsum_gain (pr := pr) (row := way) fun x hx => hin x (wm x hx)
  have g2 := wsum_tight way 0 v l1 w1 w2 ht
  unfold breaksB
  simp only [Bool.and_eq_true, Bool.or_eq_true, decide_eq_true_eq]
  refine ⟨⟨by decide, .inl rfl⟩, ?_⟩
  rw [Int.zero_mul]
  omega
theorem many_bd {p kn : Int} {ds : List Deed} {pr : List Int} (hg : goodM p kn ds = true) (ho : okPr kn pr = true) {way ring : List Int} (hl : way.length ≤ 1000) (hw : ∀ x ∈ way, 0 ≤ x ∧ x < (ds.length : Int)) (hm : 0 < wsum (smL ds pr) ring) : 0 ≤ manyM (smL ds pr) way ring ∧ manyM (smL ds pr) way ring < 2 ^ 64 := by
  have low : ∀ row : List Int, (∀ x ∈ row, 0 ≤ x ∧ x < (ds.length : Int)) → -(row.length * 1000 : Int) ≤ wsum (smL ds pr) row := by
    intro row
    induction row with
    | nil => intro _; simp [wsum]
    | cons e row ih =>
      intro h
      have := ih fun x hx => h x (List.mem_cons_of_mem _ hx)
      have he := h e List.mem_cons_self
      obtain ⟨_, _, _, g⟩ := goodM_d hg
      obtain ⟨hpl, hb⟩ := okPr_d ho
      have q := g _ (dAt_mem he.1 he.2)
      have := hb _ (gI_mem (l := pr) (v := (dAt ds e).2.1) q.2.2.1.1 (by omega))
      rw [wsum_cons, smL_wt he, List.length_cons]
      push_cast
      omega
  have hlow := low way hw
  refine ⟨by unfold manyM; omega, ?_⟩
  unfold manyM
  have : -wsum (smL ds pr) way / wsum (smL ds pr) ring ≤ 1000000 := by
    rcases Int.le_total 0 (-wsum (smL ds pr) way) with z | z
    · have h1 := Int.ediv_le_self (wsum (smL ds pr) ring) z
      omega
    · have := Int.ediv_nonpos_of_nonpos_of_neg z hm
      omega
  omega
/-- what leastD tells -/
theorem leastD_spec {p kn : Int} {ds : List Deed} {pr : List Int} (hg : goodM p kn ds = true) (ho : okPr kn pr = true) :
    (∃ W : List Int, leastD p ds pr = .tup [.str "purse", .lst (W.map .int)] ∧ WOk p ds (smL ds pr) (nsM ds) W ∧ ¬ 0 < gI W 0) ∨
    ∃ (way ring : List Int) (many : Int) (l : List Int), leastD p ds pr = .tup [.str "row", .lst (way.map .int), .lst (ring.map .int), .int many] ∧ way.length + ring.length ≤ 1000 ∧ (0 ≤ many ∧ many < 2 ^ 64) ∧ goneL ds 0 (way ++ ring) = some l ∧ breaksB ds pr way ring many l = true := by
  obtain ⟨p1, k1, hl, g⟩ := goodM_d hg
  have hE := nsM_edges hg
  have hin : ∀ e ∈ nsM ds, 0 ≤ e ∧ e < ds.length := fun e he => (nsM_in he).1
  have hrl := ringM_len p ds (smL ds pr) (nsM ds)
  have hspec := ringM_spec (sm := smL ds pr) p1.1 hin hE
  unfold leastD
  simp only
  cases hrg : ringM p ds (smL ds pr) (nsM ds) with
  | nil =>
    have W := wantedM_ok p1.1 hin hE hrg
    by_cases hc : 0 < gI (wantedM p ds (smL ds pr) (nsM ds)) 0
    · right
      rw [if_pos hc]
      obtain ⟨l, q1, q2⟩ := breaksB_tight hg hrg hc
      have := tightL_len (ok := okT ds (smL ds pr) (wantedM p ds (smL ds pr) (nsM ds))) (stop := stT (wantedM p ds (smL ds pr) (nsM ds))) (sm := smL ds pr) (W := wantedM p ds (smL ds pr) (nsM ds)) p1.1 hin hE (2 * p.toNat + 2) _ _ (wk_start p1.1)
      refine ⟨_, [], 0, l, rfl, ?_, by decide, q1, q2⟩
      unfold tightM
      simp only [List.length_nil]
      omega
    · left
      rw [if_neg hc]
      exact ⟨_, rfl, W, hc⟩
  | cons e rr =>
    right
    rw [hrg] at hspec hrl
    rcases hspec with ⟨h, _⟩ | ⟨_, hpos, here, hh, hrow⟩
    · cases h
    obtain ⟨he0, hre⟩ := nsM_in (hrow.1 e List.mem_cons_self)
    have hwl := wayM_len p1.1 hin hE hre
    have hway := wayM_spec p1.1 hin hE hre
    obtain ⟨l, q1, q2⟩ := breaksB_ring hg hrg
    exact ⟨_, e :: rr, _, l, rfl, by omega, many_bd hg ho (by omega) (fun x hx => hin x (hway.1 x hx)) hpos, q1, q2⟩
/-- behind a row: what is left is no less than the purse there -/
theorem row_paid {p : Int} {ds : List Deed} {pr W : List Int} (I : WOk p ds (smL ds pr) (nsM ds) W) : ∀ (row : List Int) (a b : Int) (l : List Int), Reach ds a → goneL ds a row = some l → (a :: l).getLast? = some b → gI W b - gI W a ≤ priceL ds pr row - costL ds row ∧ Reach ds b
  | [], a, b, l, hr, h, hl => by
    cases h
    have e : a = b := by simpa using hl
    subst e
    exact ⟨by simp [priceL, costL], hr⟩
  | n :: row, a, b, l, hr, h, hl => by
    obtain ⟨⟨n0, n1, e1⟩, l2, h2, e2⟩ := goneL_cons h
    subst e2
    rw [List.getLast?_cons_cons] at hl
    have hd := dAt_mem n0 n1
    have hp := wok_paid I hd (by rw [e1]; exact hr)
    obtain ⟨ih, hb⟩ := row_paid I row (dAt ds n).2.2.1 b l2 (.go hd (by rw [e1]; exact hr)) h2 hl
    refine ⟨?_, hb⟩
    rw [costL_cons]
    unfold priceL at ih ⊢
    rw [List.map_cons, List.sum_cons]
    rw [e1] at hp
    omega
/-! tight ways, by their length -/
inductive Tgn (ds : List Deed) (sm W : List Int) : Nat → Int → Prop where
  | zero {v : Int} : gI W v = 0 → Tgn ds sm W 0 v
  | go {n : Nat} {e : Int} : (0 ≤ e ∧ e < ds.length) → gI W (src ds e) = wt sm e + gI W (dst ds e) → Tgn ds sm W n (dst ds e) → Tgn ds sm W (n + 1) (src ds e)
theorem tgn_of {ds : List Deed} {sm W : List Int} {v : Int} (h : Tg ds sm (nsM ds) W v) : ∃ n, Tgn ds sm W n v := by
  induction h with
  | zero h => exact ⟨0, .zero h⟩
  | go he hw _ ih => obtain ⟨n, h⟩ := ih; exact ⟨n + 1, .go (nsM_in he).1 hw h⟩
theorem tgn_min {ds : List Deed} {sm W : List Int} : ∀ (n : Nat) (v : Int), Tgn ds sm W n v → ∃ m, Tgn ds sm W m v ∧ ∀ k, k < m → ¬ Tgn ds sm W k v := by
  intro n
  induction n using Nat.strongRecOn with
  | ind n ih =>
    intro v h
    by_cases q : ∃ k, k < n ∧ Tgn ds sm W k v
    · obtain ⟨k, hk, h2⟩ := q
      exact ih k hk v h2
    · exact ⟨n, h, fun k hk z => q ⟨k, hk, z⟩⟩
theorem tgn_nodes {p : Int} {ds : List Deed} {sm W : List Int} (hb : ∀ d ∈ ds, (0 ≤ d.1 ∧ d.1 < p) ∧ (0 ≤ d.2.2.1 ∧ d.2.2.1 < p)) : ∀ (n : Nat) (v : Int), (0 ≤ v ∧ v < p) → Tgn ds sm W n v → (∀ k, k < n → ¬ Tgn ds sm W k v) → ∃ f : Nat → Int, ∀ i, i ≤ n → (0 ≤ f i ∧ f i < p) ∧ Tgn ds sm W i (f i) ∧ ∀ k, k < i → ¬ Tgn ds sm W k (f i) := by
  intro n
  induction n with
  | zero =>
    intro v hv h hm
    exact ⟨fun _ => v, fun i hi => by rw [show i = 0 by omega]; exact ⟨hv, h, hm⟩⟩
  | succ n ih =>
    intro v hv h hm
    cases h with
    | @go _ e he hw ht =>
      obtain ⟨f, hf⟩ := ih (dst ds e) (hb _ (dAt_mem he.1 he.2)).2 ht fun k hk z => hm (k + 1) (by omega) (.go he hw z)
      refine ⟨fun i => if i = n + 1 then src ds e else f i, fun i hi => ?_⟩
      by_cases z : i = n + 1
      · subst z
        simp only [if_pos]
        exact ⟨hv, .go he hw ht, hm⟩
      · simp only [if_neg z]
        exact hf i (by omega)
theorem tgn_short {p : Int} {ds : List Deed} {sm W : List Int} (hb : ∀ d ∈ ds, (0 ≤ d.1 ∧ d.1 < p) ∧ (0 ≤ d.2.2.1 ∧ d.2.2.1 < p)) {n : Nat} {v : Int} (hv : 0 ≤ v ∧ v < p) (h : Tgn ds sm W n v) : ∃ m : Nat, (m : Int) < p ∧ Tgn ds sm W m v := by
  obtain ⟨m, h1, h2⟩ := tgn_min n v h
  refine ⟨m, ?_, h1⟩
  apply Classical.byContradiction
  intro hc
  obtain ⟨f, hf⟩ := tgn_nodes hb m v hv h1 h2
  obtain ⟨i, j, q1, q2, q3⟩ := pigeon p.toNat f fun i hi => by
    have := (hf i (by omega)).1
    omega
  have := (hf j (by omega)).2.2 i q1
  rw [← q3] at this
  exact this (hf i (by omega)).2.1

/-! purses that are known -/
def Pays (ds : List Deed) (pr B : List Int) : Prop := ∀ d ∈ ds, Reach ds d.1 → gI B d.2.2.1 + d.2.2.2 ≤ gI B d.1 + gI pr d.2.1
theorem pay_row {ds : List Deed} {pr B : List Int} (h : Pays ds pr B) : ∀ (row : List Int) (a b : Int) (l : List Int), Reach ds a → goneL ds a row = some l → (a :: l).getLast? = some b → gI B b - gI B a ≤ priceL ds pr row - costL ds row ∧ Reach ds b
  | [], a, b, l, hr, h0, hl => by
    cases h0
    have e : a = b := by simpa using hl
    subst e
    exact ⟨by simp [priceL, costL], hr⟩
  | n :: row, a, b, l, hr, h0, hl => by
    obtain ⟨⟨n0, n1, e1⟩, l2, h2, e2⟩ := goneL_cons h0
    subst e2
    rw [List.getLast?_cons_cons] at hl
    have hd := dAt_mem n0 n1
    have hp := h _ hd (by rw [e1]; exact hr)
    obtain ⟨ih, hb⟩ := pay_row h row (dAt ds n).2.2.1 b l2 (.go hd (by rw [e1]; exact hr)) h2 hl
    refine ⟨?_, hb⟩
    rw [costL_cons]
    unfold priceL at ih ⊢
    rw [List.map_cons, List.sum_cons]
    rw [e1] at hp
    omega
theorem last_app {a : Int} {l1 l2 : List Int} {m : Int} (h : (a :: l1).getLast? = some m) : (a :: (l1 ++ l2)).getLast? = (m :: l2).getLast? := by
  cases l2 with
  | nil => rw [List.append_nil, h]; rfl
  | cons c l2 =>
    rw [show a :: (l1 ++ c :: l2) = (a :: l1) ++ c :: l2 from rfl, List.getLast?_append, List.getLast?_cons_cons, List.getLast?_eq_some_getLast (l := c :: l2) (by simp)]; rfl
theorem no_break {p kn : Int} {ds : List Deed} {pr B way ring l : List Int} {many : Int} (hg : goodM p kn ds = true) (h : Pays ds pr B) (h0 : gI B 0 = 0) (hB : ∀ v, 0 ≤ v → v < p → 0 ≤ gI B v) (hl : goneL ds 0 (way ++ ring) = some l) : breaksB ds pr way ring many l = false := by
  obtain ⟨p1, _, _, g⟩ := goodM_d hg
  rw [Bool.eq_false_iff]
  intro z
  unfold breaksB at z
  simp only [Bool.and_eq_true, decide_eq_true_eq] at z
  obtain ⟨⟨hm, hr⟩, hpos⟩ := z
  obtain ⟨l1, l2, g1, g2, el⟩ := goneL_app way ring 0 l hl
  have q1 : ((0 : Int) :: l1).getLast? = some (((0 : Int) :: l1).getLast (by simp)) := List.getLast?_eq_some_getLast (by simp)
  generalize ((0 : Int) :: l1).getLast (by simp) = mid at *
  obtain ⟨c1, r1⟩ := pay_row h way 0 mid l1 .zero g1 q1
  have bm : 0 ≤ gI B mid := by
    have : 0 ≤ mid ∧ mid < p := by
      cases r1 with
      | zero => omega
      | go hd _ => exact (g _ hd).2.1
    exact hB mid this.1 this.2
  obtain ⟨b, q2⟩ : ∃ b, (mid :: l2).getLast? = some b := ⟨_, List.getLast?_eq_some_getLast (by simp)⟩
  obtain ⟨c2, _⟩ := pay_row h ring mid b l2 r1 g2 q2
  have hlen1 := goneL_len ds way 0 l1 g1
  have ha : costL ds (way ++ ring) - costL ds way = costL ds ring := by rw [costL_app]; omega
  rw [ha] at hpos
  have hring : costL ds ring ≤ priceL ds pr ring := by
    rcases Bool.or_eq_true_iff.mp hr with hr | hr
    · have e : ring = [] := by simpa using hr
      subst e
      simp [costL, priceL]
    · have e := of_decide_eq_true hr
      have e1 : ((0 : Int) :: l).getLast?.getD 0 = b := by rw [el, last_app q1, q2]; rfl
      have e2 : ((0 : Int) :: l).getD way.length 0 = mid := by
        rw [el, List.getD_eq_getElem?_getD, show (0 : Int) :: (l1 ++ l2) = (0 :: l1) ++ l2 from rfl, List.getElem?_append_left (by rw [List.length_cons, hlen1]; omega)]
        rw [List.getLast?_eq_getElem?] at q1
        rw [show ((0 : Int) :: l1).length - 1 = way.length by rw [List.length_cons, hlen1]; omega] at q1
        rw [q1]; rfl
      rw [e1, e2] at e
      subst e
      omega
  have := Int.mul_nonpos_of_nonneg_of_nonpos hm (show costL ds ring - priceL ds pr ring ≤ 0 by omega)
  omega
theorem purse_le {p kn : Int} {ds : List Deed} {pr W B : List Int} (hg : goodM p kn ds = true) (I : WOk p ds (smL ds pr) (nsM ds) W) (h : Pays ds pr B) (hB : ∀ v, 0 ≤ v → v < p → 0 ≤ gI B v) {v : Int} (h0 : 0 ≤ v) (h1 : v < p) : gI W v ≤ gI B v := by
  obtain ⟨p1, _, _, g⟩ := goodM_d hg
  have key : ∀ u, Tg ds (smL ds pr) (nsM ds) W u → (0 ≤ u ∧ u < p) → gI W u ≤ gI B u := by
    intro u t
    induction t with
    | zero hz => intro hu; rw [hz]; exact hB _ hu.1 hu.2
    | @go e he hw _ ih =>
      intro hu
      obtain ⟨⟨e0, e1⟩, hr⟩ := nsM_in he
      have hd := dAt_mem e0 e1
      have q := h _ hd hr
      have r := ih (g _ hd).2.1
      rw [smL_wt ⟨e0, e1⟩] at hw
      show gI W (dAt ds e).1 ≤ gI B (dAt ds e).1
      unfold src dst at hw
      unfold dst at r
      omega
  exact key v (I.tg v h0 h1) ⟨h0, h1⟩
theorem least_known {p kn : Int} {ds : List Deed} {pr B : List Int} (hg : goodM p kn ds = true) (ho : okPr kn pr = true) (h : Pays ds pr B) (h0 : gI B 0 = 0) (hB : ∀ v, 0 ≤ v → v < p → 0 ≤ gI B v) :
    ∃ W : List Int, leastD p ds pr = .tup [.str "purse", .lst (W.map .int)] ∧ WOk p ds (smL ds pr) (nsM ds) W ∧ ¬ 0 < gI W 0 ∧ ∀ v, 0 ≤ v → v < p → gI W v ≤ gI B v := by
  rcases leastD_spec hg ho with ⟨W, e, I, hz⟩ | ⟨way, ring, many, l, _, _, _, hl, hb⟩
  · exact ⟨W, e, I, hz, fun v v0 v1 => purse_le hg I h hB v0 v1⟩
  · rw [no_break hg h h0 hB hl] at hb; cases hb
theorem least_row {p kn : Int} {ds : List Deed} {pr row l : List Int} (hg : goodM p kn ds = true) (ho : okPr kn pr = true) (hl : goneL ds 0 row = some l) (hc : priceL ds pr row < costL ds row) :
    ∃ (way ring : List Int) (many : Int), leastD p ds pr = .tup [.str "row", .lst (way.map .int), .lst (ring.map .int), .int many] := by
  rcases leastD_spec hg ho with ⟨W, e, I, hz⟩ | ⟨way, ring, many, l, e, _⟩
  · obtain ⟨p1, _, _, g⟩ := goodM_d hg
    obtain ⟨b, q⟩ : ∃ b, ((0 : Int) :: l).getLast? = some b := ⟨_, List.getLast?_eq_some_getLast (by simp)⟩
    obtain ⟨c, rb⟩ := row_paid I row 0 b l .zero hl q
    have hb : 0 ≤ b ∧ b < p := by
      cases rb with
      | zero => omega
      | go hd _ => exact (g _ hd).2.1
    have w0 := I.pos 0 (by decide) (by omega)
    have wb := I.pos b hb.1 hb.2
    omega
  · exact ⟨way, ring, many, e⟩
theorem pays_of {p kn : Int} {ds : List Deed} {pr W : List Int} (I : WOk p ds (smL ds pr) (nsM ds) W) : Pays ds pr W := fun d hd hr => wok_paid I hd hr
/-! two side by side -/
def sumsM (W1 W2 : List Int) : List Int := W1.flatMap fun a => W2.map fun b => a + b
theorem sums_len (W2 : List Int) : ∀ W1 : List Int, (sumsM W1 W2).length = W1.length * W2.length
  | [] => by simp [sumsM]
  | a :: W1 => by
    have ih := sums_len W2 W1
    unfold sumsM at ih ⊢
    rw [List.flatMap_cons, List.length_append, ih, List.length_map, List.length_cons, Nat.succ_mul]; omega
theorem sums_at {W2 : List Int} {j : Nat} (hj : j < W2.length) : ∀ (W1 : List Int) (i : Nat), i < W1.length → (sumsM W1 W2).getD (i * W2.length + j) 0 = W1.getD i 0 + W2.getD j 0
  | [], i, h => by simp at h
  | a :: W1, 0, _ => by
    unfold sumsM
    rw [List.flatMap_cons, Nat.zero_mul, Nat.zero_add, List.getD_eq_getElem?_getD, List.getElem?_append_left (by rw [List.length_map]; exact hj), List.getElem?_map, List.getD_eq_getElem?_getD, List.getD_eq_getElem?_getD, List.getElem?_eq_getElem hj]; rfl
  | a :: W1, i + 1, h => by
    have ih := sums_at hj W1 i (by rw [List.length_cons] at h; omega)
    unfold sumsM at ih ⊢
    rw [List.flatMap_cons, List.getD_eq_getElem?_getD, List.getElem?_append_right (by rw [List.length_map, Nat.succ_mul]; omega), List.length_map, show (i + 1) * W2.length + j - W2.length = i * W2.length + j by rw [Nat.succ_mul]; omega, ← List.getD_eq_getElem?_getD, ih]
    rfl
section
variable {p k p' k' : Int} {ds ds' : List Deed} {pr pr' W W' V : List Int}
theorem in_b1 {d : Deed} (hd : d ∈ ds) {q : Int} (q0 : 0 ≤ q) (q1 : q < p') : bD1 p' d q ∈ bDs p k ds p' ds' := by
  refine (isrt_perm _).mem_iff.mpr (List.mem_append_left _ (List.mem_flatMap.mpr ⟨d, hd, List.mem_map.mpr ⟨q.toNat, List.mem_range.mpr (by omega), ?_⟩⟩))
  rw [show ((q.toNat : Nat) : Int) = q by omega]
theorem in_b2 {d : Deed} (hd : d ∈ ds') {x : Int} (x0 : 0 ≤ x) (x1 : x < p) : bD2 k p' d x ∈ bDs p k ds p' ds' := by
  refine (isrt_perm _).mem_iff.mpr (List.mem_append_right _ (List.mem_flatMap.mpr ⟨d, hd, List.mem_map.mpr ⟨x.toNat, List.mem_range.mpr (by omega), ?_⟩⟩))
  rw [show ((x.toNat : Nat) : Int) = x by omega]
theorem b_cases {d : Deed} (h : d ∈ bDs p k ds p' ds') : (∃ c ∈ ds, ∃ q : Int, (0 ≤ q ∧ q < p') ∧ d = bD1 p' c q) ∨ ∃ c ∈ ds', ∃ x : Int, (0 ≤ x ∧ x < p) ∧ d = bD2 k p' c x := by
  rcases List.mem_append.mp ((isrt_perm _).mem_iff.mp h) with h | h
  · obtain ⟨c, hc, h⟩ := List.mem_flatMap.mp h
    obtain ⟨q, hq, rfl⟩ := List.mem_map.mp h
    have := List.mem_range.mp hq
    exact .inl ⟨c, hc, (q : Int), ⟨by omega, by omega⟩, rfl⟩
  · obtain ⟨c, hc, h⟩ := List.mem_flatMap.mp h
    obtain ⟨q, hq, rfl⟩ := List.mem_map.mp h
    have := List.mem_range.mp hq
    exact .inr ⟨c, hc, (q : Int), ⟨by omega, by omega⟩, rfl⟩
theorem reach_b (hg' : goodM p' k' ds' = true) (hg : goodM p k ds = true) {i j : Int} (hi : Reach ds i) (hj : Reach ds' j) : Reach (bDs p k ds p' ds') (i * p' + j) := by
  obtain ⟨p1, _, _, g⟩ := goodM_d hg
  obtain ⟨p2, _, _, g'⟩ := goodM_d hg'
  have hi0 : 0 ≤ i ∧ i < p := by
    cases hi with
    | zero => omega
    | go hd _ => exact (g _ hd).2.1
  have one : ∀ i, Reach ds i → Reach (bDs p k ds p' ds') (i * p' + 0) := by
    intro i h
    induction h with
    | zero => rw [Int.zero_mul]; exact .zero
    | @go d hd hr ih => exact .go (in_b1 (q := 0) hd (by decide) (by omega)) ih
  induction hj with
  | zero => exact one i hi
  | @go d hd hr ih => exact .go (in_b2 hd hi0.1 hi0.2) ih
theorem sums_gI (hl : (W'.length : Int) = p') (hw : (W.length : Int) = p) {i j : Int} (hi : 0 ≤ i ∧ i < p) (hj : 0 ≤ j ∧ j < p') : gI (sumsM W W') (i * p' + j) = gI W i + gI W' j := by
  have q := sums_at (W2 := W') (j := j.toNat) (by omega) W i.toNat (by omega)
  unfold gI
  have e : (i * p' + j).toNat = i.toNat * W'.length + j.toNat := by
    have : ((i.toNat * W'.length + j.toNat : Nat) : Int) = i * p' + j := by
      rw [Int.natCast_add, Int.natCast_mul, hl]
      rw [show ((i.toNat : Nat) : Int) = i by omega, show ((j.toNat : Nat) : Int) = j by omega]
    omega
  rw [e]; exact q
theorem gI_app1 {v : Int} (h0 : 0 ≤ v) (h1 : v < pr.length) : gI (pr ++ pr') v = gI pr v := by
  unfold gI
  rw [List.getD_eq_getElem?_getD, List.getElem?_append_left (by omega), List.getD_eq_getElem?_getD]
theorem gI_app2 {v : Int} (h0 : 0 ≤ v) : gI (pr ++ pr') ((pr.length : Int) + v) = gI pr' v := by
  unfold gI
  rw [List.getD_eq_getElem?_getD, List.getElem?_append_right (by omega), List.getD_eq_getElem?_getD, show ((pr.length : Int) + v).toNat - pr.length = v.toNat by omega]
theorem sums_known (hg : goodM p k ds = true) (hg' : goodM p' k' ds' = true) (hgb : goodM (p * p') (k + k') (bDs p k ds p' ds') = true) (hpr : (pr.length : Int) = k) (hpr' : (pr'.length : Int) = k')
    (hr : ∀ v, 0 ≤ v → v < p → Reach ds v) (hr' : ∀ v, 0 ≤ v → v < p' → Reach ds' v) (I : WOk p ds (smL ds pr) (nsM ds) W) (I' : WOk p' ds' (smL ds' pr') (nsM ds') W') :
    Pays (bDs p k ds p' ds') (pr ++ pr') (sumsM W W') ∧ (∀ v, 0 ≤ v → v < p * p' → 0 ≤ gI (sumsM W W') v) ∧ ∀ V, WOk (p * p') (bDs p k ds p' ds') (smL (bDs p k ds p' ds') (pr ++ pr')) (nsM (bDs p k ds p' ds')) V → V = sumsM W W' := by
  obtain ⟨p1, k1, _, g⟩ := goodM_d hg
  obtain ⟨p2, k2, _, g'⟩ := goodM_d hg'
  have hl := I.len
  have hl' := I'.len
  have split : ∀ v, 0 ≤ v → v < p * p' → ∃ i j, (0 ≤ i ∧ i < p) ∧ (0 ≤ j ∧ j < p') ∧ v = i * p' + j := fun v v0 v1 => by
    refine ⟨v / p', v % p', ⟨Int.ediv_nonneg v0 (by omega), Int.ediv_lt_of_lt_mul (by omega) v1⟩, ⟨Int.emod_nonneg _ (by omega), Int.emod_lt_of_pos _ (by omega)⟩, ?_⟩
    rw [Int.mul_comm]; exact (Int.mul_ediv_add_emod v p').symm
  have hpay : Pays (bDs p k ds p' ds') (pr ++ pr') (sumsM W W') := fun d hd _ => by
    rcases b_cases hd with ⟨c, hc, q, hq, rfl⟩ | ⟨c, hc, x, hx, rfl⟩
    · obtain ⟨c1, c2, c3, _⟩ := g c hc
      show gI (sumsM W W') (c.2.2.1 * p' + q) + c.2.2.2 ≤ gI (sumsM W W') (c.1 * p' + q) + gI (pr ++ pr') c.2.1
      rw [sums_gI hl' hl c2 hq, sums_gI hl' hl c1 hq, gI_app1 c3.1 (by omega)]
      have := wok_paid I hc (hr _ c1.1 c1.2)
      omega
    · obtain ⟨c1, c2, c3, _⟩ := g' c hc
      show gI (sumsM W W') (x * p' + c.2.2.1) + c.2.2.2 ≤ gI (sumsM W W') (x * p' + c.1) + gI (pr ++ pr') (k + c.2.1)
      rw [sums_gI hl' hl hx c2, sums_gI hl' hl hx c1, ← hpr, gI_app2 c3.1]
      have := wok_paid I' hc (hr' _ c1.1 c1.2)
      omega
  have hnn : ∀ v, 0 ≤ v → v < p * p' → 0 ≤ gI (sumsM W W') v := fun v v0 v1 => by
    obtain ⟨i, j, hi, hj, rfl⟩ := split v v0 v1
    rw [sums_gI hl' hl hi hj]
    have := I.pos i hi.1 hi.2
    have := I'.pos j hj.1 hj.2
    omega
  refine ⟨hpay, hnn, fun V IV => ?_⟩
  have inn : ∀ {i j : Int}, (0 ≤ i ∧ i < p) → (0 ≤ j ∧ j < p') → 0 ≤ i * p' + j ∧ i * p' + j < p * p' := fun {i j} hi hj => by
    have a := Int.mul_nonneg hi.1 (show 0 ≤ p' by omega)
    have b := Int.mul_le_mul_of_nonneg_right (show i + 1 ≤ p by omega) (show 0 ≤ p' by omega)
    rw [Int.add_mul] at b
    omega
  have payV := pays_of (kn := k) IV
  have low2 : ∀ j, Tg ds' (smL ds' pr') (nsM ds') W' j → (0 ≤ j ∧ j < p') → ∀ i, (0 ≤ i ∧ i < p) → gI W' j ≤ gI V (i * p' + j) := by
    intro j t
    induction t with
    | zero hz => intro hj i hi; rw [hz]; have := inn hi hj; exact IV.pos _ this.1 this.2
    | @go e he hw _ ih =>
      intro hj i hi
      obtain ⟨⟨e0, e1⟩, hre⟩ := nsM_in he
      have hd := dAt_mem e0 e1
      obtain ⟨c1, c2, c3, _⟩ := g' _ hd
      rw [smL_wt ⟨e0, e1⟩] at hw
      have q := payV _ (in_b2 (k := k) (ds := ds) hd hi.1 hi.2) (reach_b hg' hg (hr i hi.1 hi.2) hre)
      have q' : gI V (i * p' + (dAt ds' e).2.2.1) + (dAt ds' e).2.2.2 ≤ gI V (i * p' + (dAt ds' e).1) + gI (pr ++ pr') (k + (dAt ds' e).2.1) := q
      rw [← hpr, gI_app2 c3.1] at q'
      have r := ih c2 i hi
      unfold src dst at hw
      unfold dst at r
      show gI W' (dAt ds' e).1 ≤ gI V (i * p' + (dAt ds' e).1)
      omega
  have low1 : ∀ i, Tg ds (smL ds pr) (nsM ds) W i → (0 ≤ i ∧ i < p) → ∀ j, (0 ≤ j ∧ j < p') → gI W i + gI W' j ≤ gI V (i * p' + j) := by
    intro i t
    induction t with
    | zero hz =>
      intro hi j hj
      rw [hz]
      have := low2 j (I'.tg j hj.1 hj.2) hj _ hi
      omega
    | @go e he hw _ ih =>
      intro hi j hj
      obtain ⟨⟨e0, e1⟩, hre⟩ := nsM_in he
      have hd := dAt_mem e0 e1
      obtain ⟨c1, c2, c3, _⟩ := g _ hd
      rw [smL_wt ⟨e0, e1⟩] at hw
      have q := payV _ (in_b1 (k := k) (p := p) (ds' := ds') hd hj.1 hj.2) (reach_b hg' hg hre (hr' j hj.1 hj.2))
      have q' : gI V ((dAt ds e).2.2.1 * p' + j) + (dAt ds e).2.2.2 ≤ gI V ((dAt ds e).1 * p' + j) + gI (pr ++ pr') (dAt ds e).2.1 := q
      rw [gI_app1 c3.1 (by omega)] at q'
      have r := ih c2 j hj
      unfold src dst at hw
      unfold dst at r
      show gI W (dAt ds e).1 + gI W' j ≤ gI V ((dAt ds e).1 * p' + j)
      omega
  by_cases hne : sumsM W W' = V
  · exact hne.symm
  · exfalso
    have hlV := IV.len
    have hls : ((sumsM W W').length : Int) = p * p' := by rw [sums_len, Int.natCast_mul, hl, hl']
    obtain ⟨v, hv, hvv⟩ := list_diff (x := V) (y := sumsM W W') (n := V.length) rfl (by omega) hne
    obtain ⟨i, j, hi, hj, e⟩ := split (v : Int) (by omega) (by omega)
    have up := purse_le hgb IV hpay hnn (v := (v : Int)) (by omega) (by omega)
    have lo := low1 i (I.tg i hi.1 hi.2) hi j hj
    rw [e, sums_gI hl' hl hi hj] at up hvv
    omega
end

/-! fractions -/
abbrev Fr2 := Int × Int
def eF (x : Fr2) : D := .tup [.int x.1, .int x.2]
def partM (t u : Int) : Fr2 := (t / (Int.gcd t u : Int), u / (Int.gcd t u : Int))
theorem part_d {t u : Int} (h : 0 < u) : 0 < (Int.gcd t u : Int) ∧ (Int.gcd t u : Int) ≤ u ∧ (Int.gcd t u : Int) * (partM t u).1 = t ∧ (Int.gcd t u : Int) * (partM t u).2 = u ∧ 0 < (partM t u).2 ∧ (partM t u).2 ≤ u ∧ Int.gcd (partM t u).1 (partM t u).2 = 1 := by
  have g0 : 0 < Int.gcd t u := Int.gcd_pos_of_ne_zero_right t (by omega)
  have e1 : (Int.gcd t u : Int) * (t / (Int.gcd t u : Int)) = t := Int.mul_ediv_cancel' (Int.gcd_dvd_left t u)
  have e2 : (Int.gcd t u : Int) * (u / (Int.gcd t u : Int)) = u := Int.mul_ediv_cancel' (Int.gcd_dvd_right t u)
  have hle : (Int.gcd t u : Int) ≤ u := Int.le_of_dvd h (Int.gcd_dvd_right t u)
  have gp : 0 < (Int.gcd t u : Int) := by omega
  have up : 0 < u / (Int.gcd t u : Int) := by
    rcases (show 0 < u / (Int.gcd t u : Int) ∨ u / (Int.gcd t u : Int) ≤ 0 by omega) with z | z
    · exact z
    · have := Int.mul_nonpos_of_nonneg_of_nonpos (Int.le_of_lt gp) z
      omega
  refine ⟨gp, hle, e1, e2, up, ?_, Int.gcd_ediv_gcd_ediv_gcd g0⟩
  have := Int.mul_le_mul_of_nonneg_right (show 1 ≤ (Int.gcd t u : Int) by omega) (Int.le_of_lt up)
  show u / (Int.gcd t u : Int) ≤ u
  omega
theorem part_num {t u : Int} (h : 0 < u) : (partM t u).1.natAbs ≤ t.natAbs := by
  obtain ⟨g0, _, e1, _⟩ := part_d (t := t) h
  generalize partM t u = x at *
  have e : t.natAbs = Int.gcd t u * x.1.natAbs := by
    conv => lhs; rw [← e1, Int.natAbs_mul]
    rw [Int.natAbs_natCast]
  rw [e]
  exact Nat.le_mul_of_pos_left _ (by omega)
/-- cross-multiplied -/
theorem part_cross {t u : Int} (h : 0 < u) : (partM t u).1 * u = t * (partM t u).2 := by
  obtain ⟨g0, _, e1, e2, _⟩ := part_d (t := t) h
  generalize partM t u = x at *
  generalize (Int.gcd t u : Int) = g at *
  rw [← e1, ← e2]
  grind
theorem part_less {t u t' u' : Int} (h : 0 < u) (h' : 0 < u') : (partM t u).1 * (partM t' u').2 < (partM t' u').1 * (partM t u).2 ↔ t * u' < t' * u := by
  obtain ⟨g0, _, e1, e2, p1, _⟩ := part_d (t := t) h
  obtain ⟨g0', _, e1', e2', p1', _⟩ := part_d (t := t') h'
  generalize partM t u = x at *
  generalize partM t' u' = y at *
  generalize (Int.gcd t u : Int) = g at *
  generalize (Int.gcd t' u' : Int) = g' at *
  have a1 : t * u' = (g * g') * (x.1 * y.2) := by rw [← e1, ← e2']; grind
  have a2 : t' * u = (g * g') * (y.1 * x.2) := by rw [← e1', ← e2]; grind
  have gg : 0 < g * g' := Int.mul_pos g0 g0'
  rw [a1, a2]
  exact (Int.mul_lt_mul_left gg).symm
theorem lowest_eq {n d n' d' : Int} (hd : 0 < d) (hd' : 0 < d') (g : Int.gcd n d = 1) (g' : Int.gcd n' d' = 1) (h : n * d' = n' * d) : n = n' ∧ d = d' := by
  have c1 : d.natAbs ∣ d'.natAbs := by
    have hh : n.natAbs * d'.natAbs = n'.natAbs * d.natAbs := by rw [← Int.natAbs_mul, ← Int.natAbs_mul, h]
    have cop : Nat.Coprime d.natAbs n.natAbs := by
      have : Nat.gcd n.natAbs d.natAbs = 1 := g
      rw [Nat.Coprime, Nat.gcd_comm]; exact this
    exact cop.dvd_of_dvd_mul_left (by rw [hh]; exact Nat.dvd_mul_left _ _)
  have c2 : d'.natAbs ∣ d.natAbs := by
    have hh : n.natAbs * d'.natAbs = n'.natAbs * d.natAbs := by rw [← Int.natAbs_mul, ← Int.natAbs_mul, h]
    have cop : Nat.Coprime d'.natAbs n'.natAbs := by
      have : Nat.gcd n'.natAbs d'.natAbs = 1 := g'
      rw [Nat.Coprime, Nat.gcd_comm]; exact this
    exact cop.dvd_of_dvd_mul_left (by rw [← hh]; exact Nat.dvd_mul_left _ _)
  have e := Nat.dvd_antisymm c1 c2
  have e2 : d = d' := by omega
  subst e2
  exact ⟨Int.eq_of_mul_eq_mul_right (by omega) h, rfl⟩
/-- a fraction in lowest terms -/
def Low (x : Fr2) : Prop := 0 < x.2 ∧ Int.gcd x.1 x.2 = 1
theorem part_low {t u : Int} (h : 0 < u) : Low (partM t u) := by
  obtain ⟨_, _, _, _, a, _, b⟩ := part_d (t := t) h
  exact ⟨a, b⟩
theorem part_eq {t u : Int} {x : Fr2} (h : 0 < u) (l : Low x) : partM t u = x ↔ t * x.2 = x.1 * u := by
  obtain ⟨a, b⟩ := part_low (t := t) h
  constructor
  · intro e
    have := part_cross (t := t) h
    rw [e] at this
    exact this.symm
  · intro e
    have c := part_cross (t := t) h
    have hc : (partM t u).1 * x.2 = x.1 * (partM t u).2 := by
      have h1 : (partM t u).1 * x.2 * u = x.1 * (partM t u).2 * u := by
        have : (partM t u).1 * u * x.2 = t * (partM t u).2 * x.2 := by rw [c]
        grind
      exact Int.eq_of_mul_eq_mul_right (by omega) h1
    obtain ⟨q1, q2⟩ := lowest_eq a l.1 b l.2 hc
    exact Prod.ext q1 q2
theorem part_zero {u : Int} (h : 0 < u) : partM 0 u = (0, 1) := (part_eq h ⟨by decide, rfl⟩).mpr (by simp)
/-! Euclid -/
theorem gcd_step {a b : Int} (ha : 0 ≤ a) (hb : 0 < b) : Int.gcd b (a % b) = Int.gcd a b := by
  show Nat.gcd b.natAbs (a % b).natAbs = Nat.gcd a.natAbs b.natAbs
  have e : (a % b).natAbs = a.natAbs % b.natAbs := Int.natAbs_emod_of_nonneg ha b
  rw [e, Nat.gcd_comm b.natAbs, ← Nat.gcd_rec, Nat.gcd_comm]
theorem gcd_zero {a : Int} (ha : 0 ≤ a) : (Int.gcd a 0 : Int) = a := by
  show ((Nat.gcd a.natAbs 0 : Nat) : Int) = a
  rw [Nat.gcd_zero_right]
  omega
def plusM (x y : Fr2) : Fr2 := partM (x.1 * y.2 + y.1 * x.2) (x.2 * y.2)
def lessB (x y : Fr2) : Bool := decide (x.1 * y.2 < y.1 * x.2)
theorem plus_less {x y x' y' : Fr2} (h1 : 0 < x.2) (h2 : 0 < y.2) (h3 : 0 < x'.2) (h4 : 0 < y'.2) : lessB (plusM x y) (plusM x' y') = decide ((x.1 * y.2 + y.1 * x.2) * (x'.2 * y'.2) < (x'.1 * y'.2 + y'.1 * x'.2) * (x.2 * y.2)) :=
  decide_eq_decide.mpr (part_less (Int.mul_pos h1 h2) (Int.mul_pos h3 h4))
theorem okN_F (x : Fr2) : okN 1 (eF x) := okN_intsT [x.1, x.2]
theorem eqD_F (x y : Fr2) : eqD (eF x) (eF y) = decide (x = y) := by
  obtain ⟨a, b⟩ := x
  obtain ⟨c, d⟩ := y
  show ((a == c) && ((b == d) && true)) = _
  rw [Bool.eq_iff_iff]
  simp [Prod.ext_iff]
theorem ix_F1 (x : Fr2) : ixD (eF x) 0 = some (.int x.1) := rfl
theorem ix_F2 (x : Fr2) : ixD (eF x) 1 = some (.int x.2) := rfl

/-! states, numbered as they are come to -/
structure En {α : Type} [DecidableEq α] (e : α → D) : Prop where
  ok : ∀ a, okN 1 (e a)
  eq : ∀ a b, eqD (e a) (e b) = decide (a = b)
theorem enI : En D.int := ⟨fun _ => okN_int, fun _ _ => eqD_int⟩
theorem enF : En eF := ⟨okN_F, eqD_F⟩
section
variable {α : Type} [DecidableEq α]
abbrev Ns (α : Type) := List α × List Deed
def posN (s : α) : List α → Nat
  | [] => 0
  | x :: xs => if x = s then 0 else posN s xs + 1
def hasN (s : α) : List α → Bool
  | [] => false
  | x :: xs => if x = s then true else hasN s xs
def putN (s : α) (xs : List α) : List α := if hasN s xs then xs else xs ++ [s]
def addN (at_ kind : Int) (s : α) (cost : Int) (x : Ns α) : Ns α := (putN s x.1, x.2 ++ [(at_, kind, (posN s (putN s x.1) : Int), cost)])
/-- the deeds from one state -/
abbrev Mv (α : Type) := Int × α × Int
def addsN (at_ : Int) (ms : List (Mv α)) (x : Ns α) : Ns α := ms.foldl (fun x m => addN at_ m.1 m.2.1 m.2.2 x) x
def runN (mv : α → List (Mv α)) : Nat → Nat → Ns α → Option (Ns α)
  | 0, at_, x => if x.1.length ≤ at_ then some x else none
  | n + 1, at_, x => match x.1[at_]? with
    | none => some x
    | some s => runN mv n (at_ + 1) (addsN at_ (mv s) x)
theorem hasN_mem {s : α} : ∀ {xs : List α}, hasN s xs = decide (s ∈ xs)
  | [] => rfl
  | x :: xs => by
    unfold hasN
    by_cases h : x = s
    · rw [if_pos h, h]; simp
    · rw [if_neg h, hasN_mem]
      refine decide_eq_decide.mpr ⟨fun q => List.mem_cons_of_mem _ q, fun q => ?_⟩
      rcases List.mem_cons.mp q with q | q
      · exact absurd q.symm h
      · exact q
theorem posN_at {s : α} : ∀ {xs : List α}, s ∈ xs → xs[posN s xs]? = some s
  | [], h => by cases h
  | x :: xs, h => by
    unfold posN
    by_cases q : x = s
    · rw [if_pos q, q]; rfl
    · rw [if_neg q, List.getElem?_cons_succ]
      rcases List.mem_cons.mp h with w | w
      · exact absurd w.symm q
      · exact posN_at w
theorem posN_no {s : α} : ∀ {xs : List α} {m : Nat} {z : α}, m < posN s xs → xs[m]? = some z → z ≠ s
  | [], m, z, _, h => by cases h
  | x :: xs, m, z, hm, h => by
    unfold posN at hm
    by_cases q : x = s
    · rw [if_pos q] at hm; omega
    · rw [if_neg q] at hm
      cases m with
      | zero => cases h; exact q
      | succ m => rw [List.getElem?_cons_succ] at h; exact posN_no (xs := xs) (m := m) (by omega) h
theorem putN_mem {s : α} {xs : List α} : s ∈ putN s xs := by
  unfold putN
  rw [hasN_mem]
  by_cases h : s ∈ xs
  · rw [if_pos (decide_eq_true h)]; exact h
  · rw [if_neg (by simpa using h)]; simp
theorem putN_len {s : α} {xs : List α} : xs.length ≤ (putN s xs).length ∧ (putN s xs).length ≤ xs.length + 1 := by
  unfold putN
  split <;> simp
theorem inD_en {e : α → D} (E : En e) {s : α} : ∀ {xs : List α}, inD (e s) (xs.map e) = hasN s xs
  | [] => rfl
  | x :: xs => by
    have ih := inD_en E (s := s) (xs := xs)
    show (eqD (e x) (e s) || inD (e s) (xs.map e)) = hasN s (x :: xs)
    rw [ih, E.eq]
    show _ = if x = s then true else hasN s xs
    by_cases h : x = s
    · rw [if_pos h, decide_eq_true h]; rfl
    · rw [if_neg h, decide_eq_false h]; rfl
theorem okE_en {e : α → D} (E : En e) (xs : List α) : okE (.lst (xs.map e)) = true := (okN_lst (n := 1) fun x hx => by obtain ⟨a, _, rfl⟩ := List.mem_map.mp hx; exact E.ok a).e
theorem idx_en {e : α → D} (E : En e) {s : α} {xs : List α} (m : Nat) (z' : D) (hm : m < posN s xs) (hz : (xs.map e)[m]? = some z') : eqD z' (e s) = false := by
  rw [List.getElem?_map] at hz
  cases w : xs[m]? with
  | none => rw [w] at hz; cases hz
  | some c =>
    rw [w] at hz
    cases hz
    rw [E.eq]
    exact decide_eq_false (posN_no hm w)
theorem posN_atD {e : α → D} {s : α} {xs : List α} (h : s ∈ xs) : (xs.map e)[posN s xs]? = some (e s) := by rw [List.getElem?_map, posN_at h]; rfl
theorem map_put {e : α → D} (s : α) (xs : List α) : (if hasN s xs then xs.map e else xs.map e ++ [e s]) = (putN s xs).map e := by
  unfold putN
  split
  · rfl
  · rw [List.map_append]; rfl
theorem addsN_len (at_ : Int) : ∀ (ms : List (Mv α)) (x : Ns α), (addsN at_ ms x).1.length ≤ x.1.length + ms.length ∧ (addsN at_ ms x).2.length = x.2.length + ms.length
  | [], x => by simp [addsN]
  | m :: ms, x => by
    have ih := addsN_len at_ ms (addN at_ m.1 m.2.1 m.2.2 x)
    have h1 := putN_len (s := m.2.1) (xs := x.1)
    have h2 : (addN at_ m.1 m.2.1 m.2.2 x).1.length = (putN m.2.1 x.1).length := rfl
    have h3 : (addN at_ m.1 m.2.1 m.2.2 x).2.length = x.2.length + 1 := by unfold addN; simp
    show (addsN at_ ms (addN at_ m.1 m.2.1 m.2.2 x)).1.length ≤ _ ∧ (addsN at_ ms (addN at_ m.1 m.2.1 m.2.2 x)).2.length = _
    rw [List.length_cons]
    omega
end
def modD {α : Type} (e : α → D) (R : Ns α) : D := .tup [eMach R.1.length 2 (isrt R.2), .lst (R.1.map e)]
def goodR {α : Type} (R : Ns α) : Bool := goodM R.1.length 2 (isrt R.2)
theorem goodR_bd {α : Type} {R : Ns α} (h : goodR R = true) : ∀ d ∈ R.2, BdB 65536 d := fun d hd => by
  obtain ⟨p1, _, _, g⟩ := goodM_d h
  have q := g d ((isrt_perm R.2).mem_iff.mpr hd)
  intro m hm
  simp only [dl, List.mem_cons, List.not_mem_nil, or_false] at hm
  rcases hm with rfl | rfl | rfl | rfl <;> omega
theorem ix_at {α : Type} {e : α → D} {xs : List α} {k : Nat} {a : α} (h : xs[k]? = some a) : ixD (.lst (xs.map e)) (k : Int) = some (e a) := by
  obtain ⟨hlt, rfl⟩ := List.getElem?_eq_some_iff.mp h
  exact ix_map (by rw [atI_ge (by omega) (by omega)]; rfl)
/-! the three models -/
def okShelf (m g s : Int) : Bool := !(!(decide (1 ≤ m) && decide (m ≤ 30)) || (!(decide (2 ≤ g) && decide (g ≤ 4)) || (!decide (s = 0) && !(decide (g ≤ s) && decide (s ≤ 9)))))
def shLess (s i p : Int) : Bool := decide (s > 0) && (decide (p > 1) && decide ((i - 1) * s ≤ p))
def shelfMv (m g s : Int) (st : Fr2) : List (Mv Fr2) :=
  (if st.1 < m then [if st.1 = st.2 then (0, (st.1 + 1, st.2 * g), st.1 + 1) else (0, (st.1 + 1, st.2), 1)] else []) ++
  (if 0 < st.1 then [if shLess s st.1 st.2 = true then (1, (st.1 - 1, st.2 / g), st.1) else (1, (st.1 - 1, st.2), 1)] else [])
def tbM : Nat → Int → Int → Int → Int
  | 0, _, _, f => f
  | n + 1, a, b, f => if 0 < a ∨ 0 < b then tbM n (a / 2) (b / 2) (f + if a % 2 = b % 2 then 0 else 1) else f
def tb (a b : Int) : Int := tbM (a.toNat + b.toNat + 1) a b 0
def pw2 (b : Int) : Int := [1, 2, 4, 8, 16, 32, 64].getD b.toNat 0
def okCnt (b : Int) : Bool := decide (1 ≤ b) && decide (b ≤ 6)
def cntMv (b : Int) (down : Bool) (h : Int) : List (Mv Int) := (if h + 1 < pw2 b then [(0, h + 1, tb h (h + 1))] else []) ++ (if (down && decide (0 < h)) = true then [(1, h - 1, tb h (h - 1))] else [])
def okQue (m : Int) : Bool := decide (1 ≤ m) && decide (m ≤ 15)
def queMv (m : Int) (st : Fr2) : List (Mv Fr2) := (if st.1 + st.2 < m then [(0, (st.1 + 1, st.2), 1)] else []) ++ (if 0 < st.2 then [(1, (st.1, st.2 - 1), 1)] else if 0 < st.1 then [(1, (0, st.1 - 1), 2 * st.1 + 1)] else [])
theorem okShelf_d {m g s : Int} (h : okShelf m g s = true) : (1 ≤ m ∧ m ≤ 30) ∧ (2 ≤ g ∧ g ≤ 4) ∧ (0 ≤ s ∧ s ≤ 9) := by
  simp only [okShelf, Bool.not_or, Bool.not_and, Bool.not_not, Bool.and_eq_true, Bool.or_eq_true, decide_eq_true_eq] at h
  omega
theorem addsN_app {α : Type} [DecidableEq α] (at_ : Int) (ms ms' : List (Mv α)) (x : Ns α) : addsN at_ (ms ++ ms') x = addsN at_ ms' (addsN at_ ms x) := by
  unfold addsN
  rw [List.foldl_append]
theorem runN_stop {α : Type} [DecidableEq α] {mv : α → List (Mv α)} {n at_ : Nat} {x R : Ns α} (h : runN mv n at_ x = some R) (h0 : x.1[at_]? = none) : x = R := by
  cases n with
  | zero =>
    unfold runN at h
    split at h
    · cases h; rfl
    · cases h
  | succ n =>
    unfold runN at h
    rw [h0] at h
    cases h; rfl
theorem runN_go {α : Type} [DecidableEq α] {mv : α → List (Mv α)} {n at_ : Nat} {x R : Ns α} {s : α} (h : runN mv n at_ x = some R) (h0 : x.1[at_]? = some s) : ∃ m, n = m + 1 ∧ runN mv m (at_ + 1) (addsN at_ (mv s) x) = some R := by
  cases n with
  | zero =>
    have := (List.getElem?_eq_some_iff.mp h0).1
    unfold runN at h
    rw [if_neg (by omega)] at h
    cases h
  | succ n =>
    unfold runN at h
    rw [h0] at h
    exact ⟨n, rfl, h⟩

structure Kc_Numbering (K : Fg) (C : Addr) : Prop where
  cl : Cls K C
  n_states : NoAttr K C "states"
  n_deeds : NoAttr K C "deeds"
abbrev FN_Numbering : List Str := ["states", "deeds"]
theorem nd_Numbering : FN_Numbering.Nodup := by decide +kernel

abbrev s_Numbering___init__ : Stmt := inClass (top 23) 0
abbrev N_Numbering___init__ : List Str := ["self", "first"]
abbrev P_Numbering___init__ : List Str := ["self", "first"]
theorem sc_Numbering___init__ : FnScope N_Numbering___init__ P_Numbering___init__ (defScope s_Numbering___init__) := ⟨rfl, rfl, rfl, by decide +kernel, rfl, by decide +kernel, by decide +kernel⟩

def nF (xs : List D) (T : List Deed) : List (Str × FI) := [("states", .ow none xs), ("deeds", .ow none (T.map eDeed))]
def F_Numbering_init : Ofs := fun args fs fs' d => ∃ s : D, args = [s] ∧ fs = [] ∧ fs' = nF [s] [] ∧ d = .non
theorem dc_Numbering {P : Program} {w : World} {K : Fg} {mg : Str → Option Value} {base : Heap} {C : Addr} (T : Tx K mg) (K_Numbering : Kc_Numbering K C) (U : Cn K mg "Numbering" "Numbering.__init__" C s_Numbering___init__ P_Numbering___init__) :
    Dc P w K mg base "Numbering" C 1 F_Numbering_init :=
  dc_of 0 U sc_Numbering___init__ (fun _ _ _ _ ⟨_, h, _⟩ => by rw [h]; rfl) fun f cdv A outer s H E a args fs fs' d hr tk hp hF => by
    obtain ⟨s, rfl, rfl, rfl, rfl⟩ := hF
    have nd := sc_Numbering___init__.nd
    refine FO.nx (rest := [.fz s]) (xss_cons (xs_fldL0 0 K_Numbering.cl K_Numbering.n_states (FN := []) (he := (xl_lst (xa_cons (xv_var 1) xa_nil)))) ?_)
    refine XSs.is (xss_one (xs_fldL0 0 K_Numbering.cl K_Numbering.n_deeds (FN := ["states"]) (he := (xl_lst xa_nil)))) ?_
    rfl

abbrev s_Numbering_add : Stmt := inClass (top 23) 1
abbrev N_Numbering_add : List Str := ["self", "at", "kind", "state", "cost"]
abbrev P_Numbering_add : List Str := ["self", "at", "kind", "state", "cost"]
theorem sc_Numbering_add : FnScope N_Numbering_add P_Numbering_add (defScope s_Numbering_add) := ⟨rfl, rfl, rfl, by decide +kernel, rfl, by decide +kernel, by decide +kernel⟩

def putD (s : D) (xs : List D) : List D := if inD s xs then xs else xs ++ [s]
def F_Numbering_add : Ofs := fun args fs fs' d => ∃ (xs : List D) (T : List Deed) (a k c : Int) (s : D) (j : Nat) (z : D), args = [.int a, .int k, s, .int c] ∧ (okE s = true ∧ okE (.lst xs) = true ∧ okE (.lst (putD s xs)) = true) ∧
  ((putD s xs)[j]? = some z ∧ eqD z s = true ∧ ∀ (m : Nat) (z' : D), m < j → (putD s xs)[m]? = some z' → eqD z' s = false) ∧ (xs.length < 90000 ∧ T.length < 90000) ∧ fs = nF xs T ∧ fs' = nF (putD s xs) (T ++ [(a, k, (j : Int), c)]) ∧ d = .non
theorem do_Numbering_add {P : Program} {w : World} {K : Fg} {mg : Str → Option Value} {base : Heap} {C : Addr} (T : Tx K mg) (K_Numbering : Kc_Numbering K C) (U : Mn K C "add" "Numbering.add" s_Numbering_add P_Numbering_add) :
    Do P w K mg base C "add" 2 F_Numbering_add :=
  do_of 1 U sc_Numbering_add (fun _ _ _ _ ⟨_, _, _, _, _, _, _, _, h, _⟩ => by rw [h]; rfl) fun f cdv A outer s H E a args fs fs' d hr tk hp hF => by
    obtain ⟨xs, T0, at_, k, c, st, j, z, rfl, ⟨ok1, ok2, ok3⟩, ⟨hj, hz, hn⟩, ⟨hl1, hl2⟩, rfl, rfl, rfl⟩ := hF
    have nd := sc_Numbering_add.nd
    have hu : (A.deeper (PyProof.Rows.envOfC (Str.ofString "Numbering.add") (defScope s_Numbering_add) s.heap.objs.size f cdv)).units + 65 < cLine := by have := hr.un; omega
    have e1 : (T0 ++ [(at_, k, (j : Int), c)]).map eDeed = T0.map eDeed ++ [eDeed (at_, k, (j : Int), c)] := by rw [List.map_append]; rfl
    refine FO.nx (rest := [.fz (.int at_), .fz (.int k), .fz st, .fz (.int c)]) ?_
    unfold nF
    rw [e1]
    cases hin : inD st xs with
    | true =>
      have e : putD st xs = xs := by unfold putD; rw [hin]; rfl
      rw [e] at hj hn ok3 ⊢
      exact xss_no0 (XT.is (xt_ninD hu ((xv_var 3)).br (xb_fldO 0 0 K_Numbering.cl K_Numbering.n_states rfl rfl nd_Numbering) ok1 ok2) (by rw [hin]; rfl)) (XSs.is (xss_one (xs_fldApp 0 1 (xv_tup (xa_cons (xv_var 1) (xa_cons (xv_var 2) (xa_cons (xv_indexD hu (xb_fldO 0 0 K_Numbering.cl K_Numbering.n_states rfl rfl nd_Numbering) ((xv_var 3)).br ok3 ok1 hj hz hn) (xa_cons (xv_var 4) xa_nil))))) K_Numbering.cl K_Numbering.n_deeds (by rw [List.length_map]; omega) rfl rfl nd_Numbering)) rfl)
    | false =>
      have e : putD st xs = xs ++ [st] := by unfold putD; rw [hin]; rfl
      rw [e] at hj hn ok3 ⊢
      exact xss_yes (XT.is (xt_ninD hu ((xv_var 3)).br (xb_fldO 0 0 K_Numbering.cl K_Numbering.n_states rfl rfl nd_Numbering) ok1 ok2) (by rw [hin]; rfl)) (xss_one (xs_fldApp 0 0 (xv_var 3) K_Numbering.cl K_Numbering.n_states (by omega) rfl rfl nd_Numbering)) (XSs.is (xss_one (xs_fldApp 0 1 (xv_tup (xa_cons (xv_var 1) (xa_cons (xv_var 2) (xa_cons (xv_indexD hu (xb_fldO 0 0 K_Numbering.cl K_Numbering.n_states rfl rfl nd_Numbering) ((xv_var 3)).br ok3 ok1 hj hz hn) (xa_cons (xv_var 4) xa_nil))))) K_Numbering.cl K_Numbering.n_deeds (by rw [List.length_map]; omega) rfl rfl nd_Numbering)) rfl)
theorem add_en {α : Type} [DecidableEq α] {e : α → D} (E : En e) {a k c : Int} {s : α} {x : Ns α} (h1 : x.1.length < 90000) (h2 : x.2.length < 90000) : F_Numbering_add [.int a, .int k, e s, .int c] (nF (x.1.map e) x.2) (nF ((addN a k s c x).1.map e) (addN a k s c x).2) .non := by
  have e1 : putD (e s) (x.1.map e) = (putN s x.1).map e := by unfold putD; rw [inD_en E]; exact map_put s x.1
  refine ⟨x.1.map e, x.2, a, k, c, e s, posN s (putN s x.1), e s, rfl, ⟨(E.ok s).e, okE_en E _, by rw [e1]; exact okE_en E _⟩, ⟨by rw [e1]; exact posN_atD putN_mem, eqD_refl (E.ok s).e, fun m z' hm hz => ?_⟩, ⟨by rw [List.length_map]; exact h1, h2⟩, rfl, ?_, rfl⟩
  · rw [e1] at hz
    exact idx_en E m z' hm hz
  · rw [e1]; rfl

abbrev s_Numbering_machine : Stmt := inClass (top 23) 2
abbrev N_Numbering_machine : List Str := ["self", "kinds"]
abbrev P_Numbering_machine : List Str := ["self", "kinds"]
theorem sc_Numbering_machine : FnScope N_Numbering_machine P_Numbering_machine (defScope s_Numbering_machine) := ⟨rfl, rfl, rfl, by decide +kernel, rfl, by decide +kernel, by decide +kernel⟩

def F_Numbering_machine : Ofs := fun args fs fs' d => ∃ (xs : List D) (T : List Deed), args = [.int 2] ∧ (∀ d ∈ T, BdB 65536 d) ∧ fs = nF xs T ∧ fs' = nF xs T ∧ d = .tup [eMach xs.length 2 (isrt T), .lst xs]
theorem do_Numbering_machine {P : Program} {w : World} {K : Fg} {mg : Str → Option Value} {base : Heap} {C : Addr} (T : Tx K mg) (K_Numbering : Kc_Numbering K C) (U : Mn K C "machine" "Numbering.machine" s_Numbering_machine P_Numbering_machine) :
    Do P w K mg base C "machine" 1 F_Numbering_machine :=
  do_of 0 U sc_Numbering_machine (fun _ _ _ _ ⟨_, _, h, _⟩ => by rw [h]; rfl) fun f cdv A outer s H E a args fs fs' d hr tk hp hF => by
    obtain ⟨xs, T0, rfl, hb, rfl, rfl, rfl⟩ := hF
    have nd := sc_Numbering_machine.nd
    have e1 : T0.map eDeed = (T0.map dl).map eT := by rw [List.map_map]; rfl
    have e2 : (isrt T0).map eDeed = ((isrt T0).map dl).map eT := by rw [List.map_map]; rfl
    have hs1 : ∀ x ∈ T0.map dl, x.length = 4 ∧ TS.Bd 65536 x := fun x hx => by
      obtain ⟨d, hd, rfl⟩ := List.mem_map.mp hx
      exact ⟨rfl, hb d hd⟩
    have hs2 : ((isrt T0).map dl).Pairwise fun a b => TS.code 65536 a ≤ TS.code 65536 b := by
      rw [List.pairwise_map]; exact isrt_rise _ hb
    have hs3 : ((isrt T0).map dl).Perm (T0.map dl) := (isrt_perm _).map _
    exact FO.rs (xss_one (xs_retS (XV.is (xv_tup (xa_cons (xv_tup (xa_cons (xv_len T.len (xb_fldO 0 0 K_Numbering.cl K_Numbering.n_states rfl rfl nd_Numbering)) (xa_cons (xv_var 1) (xa_cons ((XL.is (xl_sortA 4 65536 T.sorted (xb_fldO 0 1 K_Numbering.cl K_Numbering.n_deeds rfl rfl nd_Numbering) (congrArg D.lst e1) (by decide) hs1 hs2 hs3) e2.symm).v) xa_nil)))) (xa_cons ((xl_list T.list (xb_fldO 0 0 K_Numbering.cl K_Numbering.n_states rfl rfl nd_Numbering))).v xa_nil))) rfl)))
theorem mach_en {α : Type} [DecidableEq α] {e : α → D} {x : Ns α} (h : goodR x = true) : F_Numbering_machine [.int 2] (nF (x.1.map e) x.2) (nF (x.1.map e) x.2) (modD e x) :=
  ⟨x.1.map e, x.2, rfl, goodR_bd h, rfl, rfl, by rw [List.length_map]; rfl⟩

abbrev s_turned_bits : Stmt := top 25
abbrev N_turned_bits : List Str := ["one", "other", "found"]
abbrev P_turned_bits : List Str := ["one", "other"]
theorem sc_turned_bits : FnScope N_turned_bits P_turned_bits (defScope s_turned_bits) := ⟨rfl, rfl, rfl, by decide +kernel, rfl, by decide +kernel, by decide +kernel⟩

def F_turned_bits : Fs := fun args r => ∃ a b : Int, args = [.int a, .int b] ∧ r = .ok (.int (tb a b))
theorem df_turned_bits {P : Program} {w : World} {K : Fg} {mg : Str → Option Value} {base : Heap} (T : Tx K mg) (U : Dn K mg "turned_bits" s_turned_bits P_turned_bits) : Df P w K mg base "turned_bits" 1 F_turned_bits :=
  df_of 0 U sc_turned_bits (fun _ _ ⟨_, _, h, _⟩ => by rw [h]; rfl) fun f cdv A outer s H E args r hr tk hp hF => by
    obtain ⟨a, b, rfl, rfl⟩ := hF
    have nd := sc_turned_bits.nd
    refine XF.rt (xss_cons (xs_set 2 nd xv_int) ?_)
    refine xss_whileX (Q := fun d1 => ∃ a' b' : Int, d1 = [.fz (.int a'), .fz (.int b'), .fz (.int (tb a b))]) hp ?_ ?_
    · suffices loop : ∀ (n : Nat) (a' b' f : Int), a'.toNat + b'.toNat < n → ∃ k a2 b2, Wh _ _ _ _ k [.fz (.int a'), .fz (.int b'), .fz (.int f)] (.nx [.fz (.int a2), .fz (.int b2), .fz (.int (tbM n a' b' f))]) by
        obtain ⟨k, a2, b2, hw⟩ := loop (a.toNat + b.toNat + 1) a b 0 (by omega)
        exact ⟨k, _, ⟨a2, b2, rfl⟩, hw⟩
      intro n
      induction n with
      | zero => intro a' b' f h; omega
      | succ n ih =>
        intro a' b' f h
        by_cases hc : 0 < a' ∨ 0 < b'
        · obtain ⟨k, a2, b2, hw⟩ := ih (a' / 2) (b' / 2) (f + if a' % 2 = b' % 2 then 0 else 1) (by omega)
          have ht : (decide (a' > 0) || decide (b' > 0)) = true := by simpa using hc
          have hi : D.int (f + if (!decide (a' % 2 = b' % 2)) = true then 1 else 0) = .int (f + if a' % 2 = b' % 2 then 0 else 1) := by
            by_cases q : a' % 2 = b' % 2 <;> simp [q]
          unfold tbM
          rw [if_pos hc]
          exact ⟨k + 1, a2, b2, .step (XT.is ((xw_or (xt_gt ((xv_var 0)).br (xv_int).br) (fun hk => (xw_and1 (xt_gt ((xv_var 1)).br (xv_int).br))))).t (ht)) (xss_cons (xs_set 2 nd (XV.is (xv_add ((xv_var 2)).br ((xv_int1 T.int ((xv_neI ((xv_mod ((xv_var 0)).br (xv_int).br (by first | omega | decide | (simp only [List.length_cons]; omega)))).br ((xv_mod ((xv_var 1)).br (xv_int).br (by first | omega | decide | (simp only [List.length_cons]; omega)))).br)).br)).br) hi)) (xss_cons (xs_set 0 nd (xv_div ((xv_var 0)).br (xv_int).br (by first | exact ⟨by omega, by omega⟩ | exact ⟨by decide, by decide⟩))) (xss_one (xs_set 1 nd (xv_div ((xv_var 1)).br (xv_int).br (by first | exact ⟨by omega, by omega⟩ | exact ⟨by decide, by decide⟩)))))) rfl .refl hw⟩
        · have ht : (decide (a' > 0) || decide (b' > 0)) = false := by simpa using hc
          unfold tbM
          rw [if_neg hc]
          exact ⟨0, _, _, .stop (XT.is ((xw_or (xt_gt ((xv_var 0)).br (xv_int).br) (fun hk => (xw_and1 (xt_gt ((xv_var 1)).br (xv_int).br))))).t (ht))⟩
    · rintro d1 ⟨a', b', rfl⟩
      exact xss_ret (xv_var 2)

abbrev s_shelf : Stmt := top 24
abbrev N_shelf : List Str := ["most", "grow", "shrink", "found", "at", "items", "places"]
abbrev P_shelf : List Str := ["most", "grow", "shrink"]
theorem sc_shelf : FnScope N_shelf P_shelf (defScope s_shelf) := ⟨rfl, rfl, rfl, by decide +kernel, rfl, by decide +kernel, by decide +kernel⟩

def F_shelf (cO : Addr) : Fs := fun args r => ∃ m g s : Int, args = [.int m, .int g, .int s] ∧ ((okShelf m g s = false ∧ r = .er cO) ∨ (okShelf m g s = true ∧ ∃ R, runN (shelfMv m g s) 200 0 ([(0, 1)], []) = some R ∧ goodR R = true ∧ r = .ok (modD eF R)))
abbrev stSh (C : Addr) (m g s : Int) (x : Ns Fr2) (at_ i p : Lay.It) : List Lay.It := [.fz (.int m), .fz (.int g), .fz (.int s), .ob C none (nF (x.1.map eF) x.2), at_, i, p]
theorem df_shelf {P : Program} {w : World} {K : Fg} {mg : Str → Option Value} {base : Heap} {C cO : Addr} (T : Tx K mg) (K_Numbering : Kc_Numbering K C) (U : Dn K mg "shelf" s_shelf P_shelf) (EM : EC K mg "BadModel" cO) (c_MOST_ITEMS : ∃ t, mg "MOST_ITEMS" = some (.int 30 t))
    (D_Numbering : Dc P w K mg base "Numbering" C 1 F_Numbering_init) (D_Numbering_add : Do P w K mg base C "add" 2 F_Numbering_add) (D_Numbering_machine : Do P w K mg base C "machine" 1 F_Numbering_machine) : Df P w K mg base "shelf" 3 (F_shelf cO) :=
  df_of 2 U sc_shelf (fun _ _ ⟨_, _, _, h, _⟩ => by rw [h]; rfl) fun f cdv A outer s0 H E args r hr tk hp hF => by
    obtain ⟨m, g, s, rfl, hF⟩ := hF
    have nd := sc_shelf.nd
    have hc : (!(cmpI .LtE 1 m && cmpI .LtE m 30) || (!(cmpI .LtE 2 g && cmpI .LtE g 4) || (!decide (s = 0) && !(cmpI .LtE g s && cmpI .LtE s 9)))) = !(okShelf m g s) := by unfold okShelf; rw [Bool.not_not]; rfl
    rcases hF with ⟨hk, rfl⟩ | ⟨hk, R, hR, hgR, rfl⟩
    · refine XF.er ?_
      exact (xss_yesS (XT.is ((xw_or (xt_not (xt_chain (xv_int).br ((xv_var 0)).br ((xv_glob c_MOST_ITEMS)).br)) (fun hk => (xw_or (xt_not (xt_chain (xv_int).br ((xv_var 1)).br (xv_int).br)) (fun hk => (xw_and1 ((xw_and (xt_neI ((xv_var 2)).br (xv_int).br) (fun hk => (xw_and1 (xt_not (xt_chain ((xv_var 1)).br ((xv_var 2)).br (xv_int).br)))))).t)))))).t (hc.trans (by rw [hk]; rfl))) (xss_raise rfl tk EM))
    obtain ⟨m1, g1, s1⟩ := okShelf_d hk
    refine XF.rt (xss_no0 (XT.is ((xw_or (xt_not (xt_chain (xv_int).br ((xv_var 0)).br ((xv_glob c_MOST_ITEMS)).br)) (fun hk => (xw_or (xt_not (xt_chain (xv_int).br ((xv_var 1)).br (xv_int).br)) (fun hk => (xw_and1 ((xw_and (xt_neI ((xv_var 2)).br (xv_int).br) (fun hk => (xw_and1 (xt_not (xt_chain ((xv_var 1)).br ((xv_var 2)).br (xv_int).br)))))).t)))))).t (hc.trans (by rw [hk]; rfl))) ?_)
    refine xss_cons (xs_ownO 3 nd (xo_make D_Numbering (hr.mono (by decide)) (xa_cons (xv_tup (xa_cons xv_int (xa_cons xv_int xa_nil))) xa_nil) (⟨eF (0, 1), rfl, rfl, rfl, rfl⟩))) (xss_cons (xs_set 4 nd xv_int) ?_)
    refine xss_whileX (Q := fun d1 => ∃ a i p, d1 = stSh C m g s R a i p) hp ?_ ?_
    · suffices loop : ∀ (n at_ : Nat) (x : Ns Fr2) (i p : Lay.It), at_ + n = 200 → x.1.length ≤ 1 + 2 * at_ → x.2.length ≤ 2 * at_ → runN (shelfMv m g s) n at_ x = some R → ∃ k a' i' p', Wh _ _ _ _ k (stSh C m g s x (.fz (.int at_)) i p) (.nx (stSh C m g s R a' i' p')) by
        obtain ⟨k, a', i', p', hw⟩ := loop 200 0 ([(0, 1)], []) .no .no rfl (by decide) (by decide) hR
        exact ⟨k, _, ⟨a', i', p', rfl⟩, hw⟩
      intro n
      induction n with
      | zero =>
        intro at_ x i p hn hl1 hl2 hr0
        cases hx : x.1[at_]? with
        | none => 
          have e := runN_stop hr0 hx
          subst e
          have hlt := List.getElem?_eq_none_iff.mp hx
          exact ⟨0, _, _, _, .stop (XT.is (xt_lt ((xv_var 4)).br ((xv_len T.len (xb_fldO 3 0 K_Numbering.cl K_Numbering.n_states rfl rfl nd_Numbering))).br) (decide_eq_false (by rw [List.length_map]; omega)))⟩
        | some st => obtain ⟨_, e, _⟩ := runN_go hr0 hx; cases e
      | succ n ih =>
        intro at_ x i p hn hl1 hl2 hr0
        cases hx : x.1[at_]? with
        | none => 
          have e := runN_stop hr0 hx
          subst e
          have hlt := List.getElem?_eq_none_iff.mp hx
          exact ⟨0, _, _, _, .stop (XT.is (xt_lt ((xv_var 4)).br ((xv_len T.len (xb_fldO 3 0 K_Numbering.cl K_Numbering.n_states rfl rfl nd_Numbering))).br) (decide_eq_false (by rw [List.length_map]; omega)))⟩
        | some st =>
          have hlt := (List.getElem?_eq_some_iff.mp hx).1
          obtain ⟨n', e, hr1⟩ := runN_go hr0 hx
          cases e
          have hl := addsN_len (at_ : Int) (shelfMv m g s st) x
          have hmv : (shelfMv m g s st).length ≤ 2 := by
            unfold shelfMv
            by_cases h1 : st.1 < m <;> by_cases h2 : 0 < st.1 <;> simp [h1, h2]
          obtain ⟨k, a', i', p', hw⟩ := ih (at_ + 1) _ (.fz (.int st.1)) (.fz (.int st.2)) (by omega) (by omega) (by omega) hr1
          rw [show ((at_ + 1 : Nat) : Int) = (at_ : Int) + 1 by omega] at hw
          refine ⟨k + 1, a', i', p', .step (o' := .nx (stSh C m g s (addsN (at_ : Int) (shelfMv m g s st) x) (.fz (.int ((at_ : Int) + 1))) (.fz (.int st.1)) (.fz (.int st.2)))) (XT.is (xt_lt ((xv_var 4)).br ((xv_len T.len (xb_fldO 3 0 K_Numbering.cl K_Numbering.n_states rfl rfl nd_Numbering))).br) (decide_eq_true (by rw [List.length_map]; omega))) (xss_cons (xs_asg (xv_ix (xb_fldO 3 0 K_Numbering.cl K_Numbering.n_states rfl rfl nd_Numbering) ((xv_var 4)).br (ix_at hx)) (xg_tup rfl (xgs_cons (xg_name 5 nd) (xgs_cons (xg_name 6 nd) xgs_nil)))) ?_) rfl .refl hw⟩
          unfold shelfMv
          rw [addsN_app]
          have cg : CMul st.2 g := Or.inr (by omega)
          have cs : CMul (st.1 - 1) s := Or.inr (by omega)
          refine xss_cons (ds1 := stSh C m g s (addsN (at_ : Int) (if st.1 < m then [if st.1 = st.2 then (0, (st.1 + 1, st.2 * g), st.1 + 1) else (0, (st.1 + 1, st.2), 1)] else []) x) (.fz (.int at_)) (.fz (.int st.1)) (.fz (.int st.2))) ?_ ?_
          · by_cases h1 : st.1 < m
            · rw [if_pos h1]
              by_cases h2 : st.1 = st.2
              · rw [if_pos h2]
                exact xs_yes (XT.is (xt_lt ((xv_var 5)).br ((xv_var 0)).br) (decide_eq_true h1)) (xss_one (xs_yes (XT.is (xt_eqI ((xv_var 5)).br ((xv_var 6)).br) (decide_eq_true h2)) (xss_one (xs_exprM (xm_meth (FN := FN_Numbering) 3 D_Numbering_add K_Numbering.cl (hr.mono (by decide)) (xa_cons (xv_var 4) (xa_cons xv_int (xa_cons (xv_tup (xa_cons (xv_add ((xv_var 5)).br (xv_int).br) (xa_cons (xv_mul ((xv_var 6)).br ((xv_var 1)).br (cg)) xa_nil))) (xa_cons (xv_add ((xv_var 5)).br (xv_int).br) xa_nil)))).xm (add_en enF (s := (st.1 + 1, st.2 * g)) (by omega) (by omega)))))))
              · rw [if_neg h2]
                exact xs_yes (XT.is (xt_lt ((xv_var 5)).br ((xv_var 0)).br) (decide_eq_true h1)) (xss_one (xs_no (XT.is (xt_eqI ((xv_var 5)).br ((xv_var 6)).br) (decide_eq_false h2)) (xss_one (xs_exprM (xm_meth (FN := FN_Numbering) 3 D_Numbering_add K_Numbering.cl (hr.mono (by decide)) (xa_cons (xv_var 4) (xa_cons xv_int (xa_cons (xv_tup (xa_cons (xv_add ((xv_var 5)).br (xv_int).br) (xa_cons (xv_var 6) xa_nil))) (xa_cons xv_int xa_nil)))).xm (add_en enF (s := (st.1 + 1, st.2)) (by omega) (by omega)))))))
            · rw [if_neg h1]
              exact xs_no (XT.is (xt_lt ((xv_var 5)).br ((xv_var 0)).br) (decide_eq_false h1)) xss_nil
          · have hl0 := addsN_len (at_ : Int) (if st.1 < m then [if st.1 = st.2 then (0, (st.1 + 1, st.2 * g), st.1 + 1) else (0, (st.1 + 1, st.2), 1)] else []) x
            have hmv0 : (if st.1 < m then [if st.1 = st.2 then ((0 : Int), ((st.1 + 1, st.2 * g) : Fr2), st.1 + 1) else (0, (st.1 + 1, st.2), 1)] else []).length ≤ 1 := by split <;> simp
            generalize addsN (at_ : Int) (if st.1 < m then [if st.1 = st.2 then (0, (st.1 + 1, st.2 * g), st.1 + 1) else (0, (st.1 + 1, st.2), 1)] else []) x = y at *
            refine xss_cons (ds1 := stSh C m g s (addsN (at_ : Int) (if 0 < st.1 then [if shLess s st.1 st.2 = true then (1, (st.1 - 1, st.2 / g), st.1) else (1, (st.1 - 1, st.2), 1)] else []) y) (.fz (.int at_)) (.fz (.int st.1)) (.fz (.int st.2))) ?_ (xss_one (xs_set 4 nd (xv_add ((xv_var 4)).br (xv_int).br)))
            by_cases h1 : 0 < st.1
            · rw [if_pos h1]
              cases h2 : shLess s st.1 st.2 with
              | true =>
                rw [if_pos rfl]
                exact xs_yes (XT.is (xt_gt ((xv_var 5)).br (xv_int).br) (decide_eq_true h1)) (xss_one (xs_yes (XT.is ((xw_and (xt_gt ((xv_var 2)).br (xv_int).br) (fun hk => (xw_and (xt_gt ((xv_var 6)).br (xv_int).br) (fun hk => (xw_and1 (xt_le ((xv_mul ((xv_sub ((xv_var 5)).br (xv_int).br)).br ((xv_var 2)).br (cs))).br ((xv_var 6)).br))))))).t (h2)) (xss_one (xs_exprM (xm_meth (FN := FN_Numbering) 3 D_Numbering_add K_Numbering.cl (hr.mono (by decide)) (xa_cons (xv_var 4) (xa_cons xv_int (xa_cons (xv_tup (xa_cons (xv_sub ((xv_var 5)).br (xv_int).br) (xa_cons (xv_div ((xv_var 6)).br ((xv_var 1)).br (⟨by omega, by omega⟩)) xa_nil))) (xa_cons (xv_var 5) xa_nil)))).xm (add_en enF (s := (st.1 - 1, st.2 / g)) (by omega) (by omega)))))))
              | false =>
                rw [if_neg Bool.false_ne_true]
                exact xs_yes (XT.is (xt_gt ((xv_var 5)).br (xv_int).br) (decide_eq_true h1)) (xss_one (xs_no (XT.is ((xw_and (xt_gt ((xv_var 2)).br (xv_int).br) (fun hk => (xw_and (xt_gt ((xv_var 6)).br (xv_int).br) (fun hk => (xw_and1 (xt_le ((xv_mul ((xv_sub ((xv_var 5)).br (xv_int).br)).br ((xv_var 2)).br (cs))).br ((xv_var 6)).br))))))).t (h2)) (xss_one (xs_exprM (xm_meth (FN := FN_Numbering) 3 D_Numbering_add K_Numbering.cl (hr.mono (by decide)) (xa_cons (xv_var 4) (xa_cons xv_int (xa_cons (xv_tup (xa_cons (xv_sub ((xv_var 5)).br (xv_int).br) (xa_cons (xv_var 6) xa_nil))) (xa_cons xv_int xa_nil)))).xm (add_en enF (s := (st.1 - 1, st.2)) (by omega) (by omega)))))))
            · rw [if_neg h1]
              exact xs_no (XT.is (xt_gt ((xv_var 5)).br (xv_int).br) (decide_eq_false h1)) xss_nil
    · rintro d1 ⟨a, i, p, rfl⟩
      exact xss_one (xs_retM (xm_meth (FN := FN_Numbering) 3 D_Numbering_machine K_Numbering.cl (hr.mono (by decide)) (xa_cons xv_int xa_nil).xm (mach_en hgR)))

abbrev s_counter : Stmt := top 26
abbrev N_counter : List Str := ["bits", "down", "found", "at", "here"]
abbrev P_counter : List Str := ["bits", "down"]
theorem sc_counter : FnScope N_counter P_counter (defScope s_counter) := ⟨rfl, rfl, rfl, by decide +kernel, rfl, by decide +kernel, by decide +kernel⟩

def F_counter (cO : Addr) : Fs := fun args r => ∃ (b : Int) (dn : Bool), args = [.int b, .bl dn] ∧ ((okCnt b = false ∧ r = .er cO) ∨ (okCnt b = true ∧ ∃ R, runN (cntMv b dn) 200 0 ([0], []) = some R ∧ goodR R = true ∧ r = .ok (modD D.int R)))
abbrev stCn (C : Addr) (b : Int) (dn : Bool) (x : Ns Int) (at_ h : Lay.It) : List Lay.It := [.fz (.int b), .fz (.bl dn), .ob C none (nF (x.1.map D.int) x.2), at_, h]
theorem pw2_ix {b : Int} (h : okCnt b = true) : ixD (.lst [.int 1, .int 2, .int 4, .int 8, .int 16, .int 32, .int 64]) b = some (.int (pw2 b)) := by
  simp only [okCnt, Bool.and_eq_true, decide_eq_true_eq] at h
  have : b = 1 ∨ b = 2 ∨ b = 3 ∨ b = 4 ∨ b = 5 ∨ b = 6 := by omega
  rcases this with rfl | rfl | rfl | rfl | rfl | rfl <;> rfl
theorem df_counter {P : Program} {w : World} {K : Fg} {mg : Str → Option Value} {base : Heap} {C cO : Addr} (T : Tx K mg) (K_Numbering : Kc_Numbering K C) (U : Dn K mg "counter" s_counter P_counter) (EM : EC K mg "BadModel" cO) (c_MOST_BITS : ∃ t, mg "MOST_BITS" = some (.int 6 t)) (D_turned_bits : Df P w K mg base "turned_bits" 1 F_turned_bits)
    (D_Numbering : Dc P w K mg base "Numbering" C 1 F_Numbering_init) (D_Numbering_add : Do P w K mg base C "add" 2 F_Numbering_add) (D_Numbering_machine : Do P w K mg base C "machine" 1 F_Numbering_machine) : Df P w K mg base "counter" 3 (F_counter cO) :=
  df_of 2 U sc_counter (fun _ _ ⟨_, _, h, _⟩ => by rw [h]; rfl) fun f cdv A outer s0 H E args r hr tk hp hF => by
    obtain ⟨b, dn, rfl, hF⟩ := hF
    have nd := sc_counter.nd
    have hc : (!(cmpI .LtE 1 b && cmpI .LtE b 6)) = !(okCnt b) := rfl
    rcases hF with ⟨hk, rfl⟩ | ⟨hk, R, hR, hgR, rfl⟩
    · refine XF.er ?_
      exact xss_yesS (XT.is (xt_not (xt_chain (xv_int).br ((xv_var 0)).br ((xv_glob c_MOST_BITS)).br)) (hc.trans (by rw [hk]; rfl))) (xss_raise rfl tk EM)
    refine XF.rt (xss_no0 (XT.is (xt_not (xt_chain (xv_int).br ((xv_var 0)).br ((xv_glob c_MOST_BITS)).br)) (hc.trans (by rw [hk]; rfl))) ?_)
    refine xss_cons (xs_ownO 2 nd (xo_make D_Numbering (hr.mono (by decide)) (xa_cons xv_int xa_nil) (⟨.int 0, rfl, rfl, rfl, rfl⟩))) (xss_cons (xs_set 3 nd xv_int) ?_)
    refine xss_whileX (Q := fun d1 => ∃ a h, d1 = stCn C b dn R a h) hp ?_ ?_
    · suffices loop : ∀ (n at_ : Nat) (x : Ns Int) (i : Lay.It), at_ + n = 200 → x.1.length ≤ 1 + 2 * at_ → x.2.length ≤ 2 * at_ → runN (cntMv b dn) n at_ x = some R → ∃ k a' i', Wh _ _ _ _ k (stCn C b dn x (.fz (.int at_)) i) (.nx (stCn C b dn R a' i')) by
        obtain ⟨k, a', i', hw⟩ := loop 200 0 ([0], []) .no rfl (by decide) (by decide) hR
        exact ⟨k, _, ⟨a', i', rfl⟩, hw⟩
      intro n
      induction n with
      | zero =>
        intro at_ x i hn hl1 hl2 hr0
        cases hx : x.1[at_]? with
        | none => 
          have e := runN_stop hr0 hx
          subst e
          have hlt := List.getElem?_eq_none_iff.mp hx
          exact ⟨0, _, _, .stop (XT.is (xt_lt ((xv_var 3)).br ((xv_len T.len (xb_fldO 2 0 K_Numbering.cl K_Numbering.n_states rfl rfl nd_Numbering))).br) (decide_eq_false (by rw [List.length_map]; omega)))⟩
        | some st => obtain ⟨_, e, _⟩ := runN_go hr0 hx; cases e
      | succ n ih =>
        intro at_ x i hn hl1 hl2 hr0
        cases hx : x.1[at_]? with
        | none => 
          have e := runN_stop hr0 hx
          subst e
          have hlt := List.getElem?_eq_none_iff.mp hx
          exact ⟨0, _, _, .stop (XT.is (xt_lt ((xv_var 3)).br ((xv_len T.len (xb_fldO 2 0 K_Numbering.cl K_Numbering.n_states rfl rfl nd_Numbering))).br) (decide_eq_false (by rw [List.length_map]; omega)))⟩
        | some st =>
          have hlt := (List.getElem?_eq_some_iff.mp hx).1
          obtain ⟨n', e, hr1⟩ := runN_go hr0 hx
          cases e
          have hl := addsN_len (at_ : Int) (cntMv b dn st) x
          have hmv : (cntMv b dn st).length ≤ 2 := by
            unfold cntMv
            by_cases h1 : st + 1 < pw2 b <;> by_cases h2 : (dn && decide (0 < st)) = true <;> simp [h1, h2]
          obtain ⟨k, a', i', hw⟩ := ih (at_ + 1) _ (.fz (.int st)) (by omega) (by omega) (by omega) hr1
          rw [show ((at_ + 1 : Nat) : Int) = (at_ : Int) + 1 by omega] at hw
          refine ⟨k + 1, a', i', .step (o' := .nx (stCn C b dn (addsN (at_ : Int) (cntMv b dn st) x) (.fz (.int ((at_ : Int) + 1))) (.fz (.int st)))) (XT.is (xt_lt ((xv_var 3)).br ((xv_len T.len (xb_fldO 2 0 K_Numbering.cl K_Numbering.n_states rfl rfl nd_Numbering))).br) (decide_eq_true (by rw [List.length_map]; omega))) (xss_cons (xs_set 4 nd (xv_ix (xb_fldO 2 0 K_Numbering.cl K_Numbering.n_states rfl rfl nd_Numbering) ((xv_var 3)).br (ix_at hx))) ?_) rfl .refl hw⟩
          unfold cntMv
          rw [addsN_app]
          refine xss_cons (ds1 := stCn C b dn (addsN (at_ : Int) (if st + 1 < pw2 b then [(0, st + 1, tb st (st + 1))] else []) x) (.fz (.int at_)) (.fz (.int st))) ?_ ?_
          · by_cases h1 : st + 1 < pw2 b
            · rw [if_pos h1]
              exact xs_yes (XT.is (xt_lt ((xv_add ((xv_var 4)).br (xv_int).br)).br ((xv_ix ((xl_lst (xa_cons xv_int (xa_cons xv_int (xa_cons xv_int (xa_cons xv_int (xa_cons xv_int (xa_cons xv_int (xa_cons xv_int xa_nil))))))))).br ((xv_var 0)).br (pw2_ix hk))).br) (decide_eq_true h1)) (xss_one (xs_exprM (xm_meth (FN := FN_Numbering) 2 D_Numbering_add K_Numbering.cl (hr.mono (by decide)) (xa_cons (xv_var 3) (xa_cons xv_int (xa_cons (xv_add ((xv_var 4)).br (xv_int).br) (xa_cons (xv_call D_turned_bits (hr.mono (by decide)) tk (xa_cons (xv_var 4) (xa_cons (xv_add ((xv_var 4)).br (xv_int).br) xa_nil)) (⟨_, _, rfl, rfl⟩)) xa_nil)))).xm (add_en enI (s := st + 1) (by omega) (by omega)))))
            · rw [if_neg h1]
              exact xs_no (XT.is (xt_lt ((xv_add ((xv_var 4)).br (xv_int).br)).br ((xv_ix ((xl_lst (xa_cons xv_int (xa_cons xv_int (xa_cons xv_int (xa_cons xv_int (xa_cons xv_int (xa_cons xv_int (xa_cons xv_int xa_nil))))))))).br ((xv_var 0)).br (pw2_ix hk))).br) (decide_eq_false h1)) xss_nil
          · have hl0 := addsN_len (at_ : Int) (if st + 1 < pw2 b then [(0, st + 1, tb st (st + 1))] else []) x
            have hmv0 : (if st + 1 < pw2 b then [((0 : Int), st + 1, tb st (st + 1))] else []).length ≤ 1 := by split <;> simp
            generalize addsN (at_ : Int) (if st + 1 < pw2 b then [(0, st + 1, tb st (st + 1))] else []) x = y at *
            refine xss_cons (ds1 := stCn C b dn (addsN (at_ : Int) (if (dn && decide (0 < st)) = true then [(1, st - 1, tb st (st - 1))] else []) y) (.fz (.int at_)) (.fz (.int st))) ?_ (xss_one (xs_set 3 nd (xv_add ((xv_var 3)).br (xv_int).br)))
            cases h1 : (dn && decide (0 < st)) with
            | true =>
              rw [if_pos rfl]
              exact xs_yes (XT.is ((xw_and (xt_val (xv_var 1)) (fun hk => (xw_and1 (xt_gt ((xv_var 4)).br (xv_int).br))))).t (h1)) (xss_one (xs_exprM (xm_meth (FN := FN_Numbering) 2 D_Numbering_add K_Numbering.cl (hr.mono (by decide)) (xa_cons (xv_var 3) (xa_cons xv_int (xa_cons (xv_sub ((xv_var 4)).br (xv_int).br) (xa_cons (xv_call D_turned_bits (hr.mono (by decide)) tk (xa_cons (xv_var 4) (xa_cons (xv_sub ((xv_var 4)).br (xv_int).br) xa_nil)) (⟨_, _, rfl, rfl⟩)) xa_nil)))).xm (add_en enI (s := st - 1) (by omega) (by omega)))))
            | false =>
              rw [if_neg Bool.false_ne_true]
              exact xs_no (XT.is ((xw_and (xt_val (xv_var 1)) (fun hk => (xw_and1 (xt_gt ((xv_var 4)).br (xv_int).br))))).t (h1)) xss_nil
    · rintro d1 ⟨a, i, rfl⟩
      exact xss_one (xs_retM (xm_meth (FN := FN_Numbering) 2 D_Numbering_machine K_Numbering.cl (hr.mono (by decide)) (xa_cons xv_int xa_nil).xm (mach_en hgR)))

abbrev s_queue : Stmt := top 27
abbrev N_queue : List Str := ["most", "found", "at", "behind", "ahead"]
abbrev P_queue : List Str := ["most"]
theorem sc_queue : FnScope N_queue P_queue (defScope s_queue) := ⟨rfl, rfl, rfl, by decide +kernel, rfl, by decide +kernel, by decide +kernel⟩

def F_queue (cO : Addr) : Fs := fun args r => ∃ m : Int, args = [.int m] ∧ ((okQue m = false ∧ r = .er cO) ∨ (okQue m = true ∧ ∃ R, runN (queMv m) 200 0 ([(0, 0)], []) = some R ∧ goodR R = true ∧ r = .ok (modD eF R)))
abbrev stQu (C : Addr) (m : Int) (x : Ns Fr2) (at_ i p : Lay.It) : List Lay.It := [.fz (.int m), .ob C none (nF (x.1.map eF) x.2), at_, i, p]
theorem df_queue {P : Program} {w : World} {K : Fg} {mg : Str → Option Value} {base : Heap} {C cO : Addr} (T : Tx K mg) (K_Numbering : Kc_Numbering K C) (U : Dn K mg "queue" s_queue P_queue) (EM : EC K mg "BadModel" cO) (c_MOST_ITEMS : ∃ t, mg "MOST_ITEMS" = some (.int 30 t))
    (D_Numbering : Dc P w K mg base "Numbering" C 1 F_Numbering_init) (D_Numbering_add : Do P w K mg base C "add" 2 F_Numbering_add) (D_Numbering_machine : Do P w K mg base C "machine" 1 F_Numbering_machine) : Df P w K mg base "queue" 3 (F_queue cO) :=
  df_of 2 U sc_queue (fun _ _ ⟨_, h, _⟩ => by rw [h]; rfl) fun f cdv A outer s0 H E args r hr tk hp hF => by
    obtain ⟨m, rfl, hF⟩ := hF
    have nd := sc_queue.nd
    have hc : (!(cmpI .LtE 1 m && cmpI .LtE m ((30 : Int) / 2))) = !(okQue m) := rfl
    rcases hF with ⟨hk, rfl⟩ | ⟨hk, R, hR, hgR, rfl⟩
    · refine XF.er ?_
      exact xss_yesS (XT.is (xt_not (xt_chain (xv_int).br ((xv_var 0)).br ((xv_div ((xv_glob c_MOST_ITEMS)).br (xv_int).br (by first | exact ⟨by omega, by omega⟩ | exact ⟨by decide, by decide⟩))).br)) (hc.trans (by rw [hk]; rfl))) (xss_raise rfl tk EM)
    refine XF.rt (xss_no0 (XT.is (xt_not (xt_chain (xv_int).br ((xv_var 0)).br ((xv_div ((xv_glob c_MOST_ITEMS)).br (xv_int).br (by first | exact ⟨by omega, by omega⟩ | exact ⟨by decide, by decide⟩))).br)) (hc.trans (by rw [hk]; rfl))) ?_)
    refine xss_cons (xs_ownO 1 nd (xo_make D_Numbering (hr.mono (by decide)) (xa_cons (xv_tup (xa_cons xv_int (xa_cons xv_int xa_nil))) xa_nil) (⟨eF (0, 0), rfl, rfl, rfl, rfl⟩))) (xss_cons (xs_set 2 nd xv_int) ?_)
    refine xss_whileX (Q := fun d1 => ∃ a i p, d1 = stQu C m R a i p) hp ?_ ?_
    · suffices loop : ∀ (n at_ : Nat) (x : Ns Fr2) (i p : Lay.It), at_ + n = 200 → x.1.length ≤ 1 + 2 * at_ → x.2.length ≤ 2 * at_ → runN (queMv m) n at_ x = some R → ∃ k a' i' p', Wh _ _ _ _ k (stQu C m x (.fz (.int at_)) i p) (.nx (stQu C m R a' i' p')) by
        obtain ⟨k, a', i', p', hw⟩ := loop 200 0 ([(0, 0)], []) .no .no rfl (by decide) (by decide) hR
        exact ⟨k, _, ⟨a', i', p', rfl⟩, hw⟩
      intro n
      induction n with
      | zero =>
        intro at_ x i p hn hl1 hl2 hr0
        cases hx : x.1[at_]? with
        | none => 
          have e := runN_stop hr0 hx
          subst e
          have hlt := List.getElem?_eq_none_iff.mp hx
          exact ⟨0, _, _, _, .stop (XT.is (xt_lt ((xv_var 2)).br ((xv_len T.len (xb_fldO 1 0 K_Numbering.cl K_Numbering.n_states rfl rfl nd_Numbering))).br) (decide_eq_false (by rw [List.length_map]; omega)))⟩
        | some st => obtain ⟨_, e, _⟩ := runN_go hr0 hx; cases e
      | succ n ih =>
        intro at_ x i p hn hl1 hl2 hr0
        cases hx : x.1[at_]? with
        | none => 
          have e := runN_stop hr0 hx
          subst e
          have hlt := List.getElem?_eq_none_iff.mp hx
          exact ⟨0, _, _, _, .stop (XT.is (xt_lt ((xv_var 2)).br ((xv_len T.len (xb_fldO 1 0 K_Numbering.cl K_Numbering.n_states rfl rfl nd_Numbering))).br) (decide_eq_false (by rw [List.length_map]; omega)))⟩
        | some st =>
          have hlt := (List.getElem?_eq_some_iff.mp hx).1
          obtain ⟨n', e, hr1⟩ := runN_go hr0 hx
          cases e
          have hl := addsN_len (at_ : Int) (queMv m st) x
          have hmv : (queMv m st).length ≤ 2 := by
            unfold queMv
            by_cases h1 : st.1 + st.2 < m <;> by_cases h2 : 0 < st.2 <;> by_cases h3 : 0 < st.1 <;> simp [h1, h2, h3]
          obtain ⟨k, a', i', p', hw⟩ := ih (at_ + 1) _ (.fz (.int st.1)) (.fz (.int st.2)) (by omega) (by omega) (by omega) hr1
          rw [show ((at_ + 1 : Nat) : Int) = (at_ : Int) + 1 by omega] at hw
          refine ⟨k + 1, a', i', p', .step (o' := .nx (stQu C m (addsN (at_ : Int) (queMv m st) x) (.fz (.int ((at_ : Int) + 1))) (.fz (.int st.1)) (.fz (.int st.2)))) (XT.is (xt_lt ((xv_var 2)).br ((xv_len T.len (xb_fldO 1 0 K_Numbering.cl K_Numbering.n_states rfl rfl nd_Numbering))).br) (decide_eq_true (by rw [List.length_map]; omega))) (xss_cons (xs_asg (xv_ix (xb_fldO 1 0 K_Numbering.cl K_Numbering.n_states rfl rfl nd_Numbering) ((xv_var 2)).br (ix_at hx)) (xg_tup rfl (xgs_cons (xg_name 3 nd) (xgs_cons (xg_name 4 nd) xgs_nil)))) ?_) rfl .refl hw⟩
          unfold queMv
          rw [addsN_app]
          refine xss_cons (ds1 := stQu C m (addsN (at_ : Int) (if st.1 + st.2 < m then [(0, (st.1 + 1, st.2), 1)] else []) x) (.fz (.int at_)) (.fz (.int st.1)) (.fz (.int st.2))) ?_ ?_
          · by_cases h1 : st.1 + st.2 < m
            · rw [if_pos h1]
              exact xs_yes (XT.is (xt_lt ((xv_add ((xv_var 3)).br ((xv_var 4)).br)).br ((xv_var 0)).br) (decide_eq_true h1)) (xss_one (xs_exprM (xm_meth (FN := FN_Numbering) 1 D_Numbering_add K_Numbering.cl (hr.mono (by decide)) (xa_cons (xv_var 2) (xa_cons xv_int (xa_cons (xv_tup (xa_cons (xv_add ((xv_var 3)).br (xv_int).br) (xa_cons (xv_var 4) xa_nil))) (xa_cons xv_int xa_nil)))).xm (add_en enF (s := (st.1 + 1, st.2)) (by omega) (by omega)))))
            · rw [if_neg h1]
              exact xs_no (XT.is (xt_lt ((xv_add ((xv_var 3)).br ((xv_var 4)).br)).br ((xv_var 0)).br) (decide_eq_false h1)) xss_nil
          · have hl0 := addsN_len (at_ : Int) (if st.1 + st.2 < m then [(0, (st.1 + 1, st.2), 1)] else []) x
            have hmv0 : (if st.1 + st.2 < m then [((0 : Int), ((st.1 + 1, st.2) : Fr2), (1 : Int))] else []).length ≤ 1 := by split <;> simp
            generalize addsN (at_ : Int) (if st.1 + st.2 < m then [(0, (st.1 + 1, st.2), 1)] else []) x = y at *
            refine xss_cons (ds1 := stQu C m (addsN (at_ : Int) (if 0 < st.2 then [(1, (st.1, st.2 - 1), 1)] else if 0 < st.1 then [(1, (0, st.1 - 1), 2 * st.1 + 1)] else []) y) (.fz (.int at_)) (.fz (.int st.1)) (.fz (.int st.2))) ?_ (xss_one (xs_set 2 nd (xv_add ((xv_var 2)).br (xv_int).br)))
            by_cases h1 : 0 < st.2
            · rw [if_pos h1]
              exact xs_yes (XT.is (xt_gt ((xv_var 4)).br (xv_int).br) (decide_eq_true h1)) (xss_one (xs_exprM (xm_meth (FN := FN_Numbering) 1 D_Numbering_add K_Numbering.cl (hr.mono (by decide)) (xa_cons (xv_var 2) (xa_cons xv_int (xa_cons (xv_tup (xa_cons (xv_var 3) (xa_cons (xv_sub ((xv_var 4)).br (xv_int).br) xa_nil))) (xa_cons xv_int xa_nil)))).xm (add_en enF (s := (st.1, st.2 - 1)) (by omega) (by omega)))))
            · rw [if_neg h1]
              by_cases h2 : 0 < st.1
              · rw [if_pos h2]
                have c2 : CMul 2 st.1 := Or.inl (by decide)
                exact xs_no (XT.is (xt_gt ((xv_var 4)).br (xv_int).br) (decide_eq_false h1)) (xss_one (xs_yes (XT.is (xt_gt ((xv_var 3)).br (xv_int).br) (decide_eq_true h2)) (xss_one (xs_exprM (xm_meth (FN := FN_Numbering) 1 D_Numbering_add K_Numbering.cl (hr.mono (by decide)) (xa_cons (xv_var 2) (xa_cons xv_int (xa_cons (xv_tup (xa_cons xv_int (xa_cons (xv_sub ((xv_var 3)).br (xv_int).br) xa_nil))) (xa_cons (xv_add ((xv_mul (xv_int).br ((xv_var 3)).br (c2))).br (xv_int).br) xa_nil)))).xm (add_en enF (s := (0, st.1 - 1)) (by omega) (by omega)))))))
              · rw [if_neg h2]
                exact xs_no (XT.is (xt_gt ((xv_var 4)).br (xv_int).br) (decide_eq_false h1)) (xss_one (xs_no (XT.is (xt_gt ((xv_var 3)).br (xv_int).br) (decide_eq_false h2)) xss_nil))
    · rintro d1 ⟨a, i, p, rfl⟩
      exact xss_one (xs_retM (xm_meth (FN := FN_Numbering) 1 D_Numbering_machine K_Numbering.cl (hr.mono (by decide)) (xa_cons xv_int xa_nil).xm (mach_en hgR)))

abbrev s_beside : Stmt := top 12
abbrev N_beside : List Str := ["one", "other", "many", "deeds", "first", "kind", "last", "cost", "place", "found"]
abbrev P_beside : List Str := ["one", "other"]
theorem sc_beside : FnScope N_beside P_beside (defScope s_beside) := ⟨rfl, rfl, rfl, by decide +kernel, rfl, by decide +kernel, by decide +kernel⟩

def besR (cM : Addr) (p k : Int) (ds : List Deed) (p' k' : Int) (ds' : List Deed) : Res := match besideM p k ds p' k' ds' with | some m => .ok (eMach m.1 m.2.1 m.2.2) | none => .er cM
def F_beside (cM : Addr) : Fs := fun args r => ∃ (p k : Int) (ds : List Deed) (p' k' : Int) (ds' : List Deed), args = [eMach p k ds, eMach p' k' ds'] ∧ bSmall p ds p' ds' ∧ r = besR cM p k ds p' k' ds'
theorem df_beside {P : Program} {w : World} {K : Fg} {mg : Str → Option Value} {base : Heap} {cM : Addr} (T : Tx K mg) (U : Dn K mg "beside" s_beside P_beside) (D_look_machine : Df P w K mg base "look_machine" 1 (F_look_machine cM)) : Df P w K mg base "beside" 2 (F_beside cM) :=
  df_of 1 U sc_beside (fun _ _ ⟨_, _, _, _, _, _, h, _⟩ => by rw [h]; rfl) fun f cdv A outer s H E args r hr tk hp hF => by
    obtain ⟨p, k, ds, p', k', ds', rfl, hsm, rfl⟩ := hF
    have nd := sc_beside.nd
    unfold besR besideM
    cases hg : goodM p k ds with
    | false => exact XF.er (xss_stop (xs_exprR (xr_call D_look_machine hr tk (xa_cons (xv_var 0) xa_nil) ⟨p, k, ds, rfl, by rw [hg]; rfl⟩))).er
    | true =>
    cases hg' : goodM p' k' ds' with
    | false => exact XF.er (xss_cons (xs_expr (xv_call D_look_machine (hr.mono (by decide)) tk (xa_cons (xv_var 0) xa_nil) (⟨p, k, ds, rfl, by rw [hg]; rfl⟩))) (xss_stop (xs_exprR (xr_call D_look_machine hr tk (xa_cons (xv_var 1) xa_nil) ⟨p', k', ds', rfl, by rw [hg']; rfl⟩))).er)
    | true =>
    obtain ⟨p1, k1, _, g⟩ := goodM_d hg
    obtain ⟨p2, k2, _, g'⟩ := goodM_d hg'
    unfold bSmall at hsm
    have hl1 := bR1_len p' ds
    have hl2 := bR2_len p k p' ds'
    have pre : ∀ {o : Ou}, XSs (cxOf (L2.CX P w) P w K mg base N_beside "beside" (defScope s_beside) f cdv A outer s H E) (fun cls d _ H => E cls d H) ((defBody s_beside).drop 6) [.fz (eMach p k ds), .fz (eMach p' k' ds'), .fz (.int p'), .ow ((bRaw p k ds p' ds').map eDeed), .no, .no, .no, .no, .no, .no] o →
        XSs (cxOf (L2.CX P w) P w K mg base N_beside "beside" (defScope s_beside) f cdv A outer s H E) (fun cls d _ H => E cls d H) (defBody s_beside) [.fz (eMach p k ds), .fz (eMach p' k' ds'), .no, .no, .no, .no, .no, .no, .no, .no] o := by
      intro o rest
      refine xss_cons (xs_expr (xv_call D_look_machine (hr.mono (by decide)) tk (xa_cons (xv_var 0) xa_nil) (⟨p, k, ds, rfl, by rw [hg]; rfl⟩))) ?_
      refine xss_cons (xs_expr (xv_call D_look_machine (hr.mono (by decide)) tk (xa_cons (xv_var 1) xa_nil) (⟨p', k', ds', rfl, by rw [hg']; rfl⟩))) ?_
      refine xss_cons (xs_set 2 nd (xv_ix ((xv_var 1)).br (xv_int).br (by rfl))) (xss_cons (xs_own 3 nd (xl_lst xa_nil)) ?_)
      refine xss_then (o1 := .nx [.fz (eMach p k ds), .fz (eMach p' k' ds'), .fz (.int p'), .ow ((ds.flatMap (bR1 p')).map eDeed), .no, .no, .no, .no, .no, .no]) (xs_for hp rfl (xi_list (xv_ix ((xv_var 0)).br (xv_int).br (by rfl))) ?_) (fun dd h => ?_) (by intro h; cases h)
      · suffices loop : ∀ (l acc : List Deed), (∀ d ∈ l, d ∈ ds) → acc.length + l.length * p'.toNat ≤ 10000 → Fr _ _ _ _ (l.map eDeed) [.fz (eMach p k ds), .fz (eMach p' k' ds'), .fz (.int p'), .ow (acc.map eDeed), .no, .no, .no, .no, .no, .no] (.nx [.fz (eMach p k ds), .fz (eMach p' k' ds'), .fz (.int p'), .ow ((acc ++ l.flatMap (bR1 p')).map eDeed), .no, .no, .no, .no, .no, .no]) by
          exact loop ds [] (fun d hd => hd) (by simp; omega)
        intro l
        induction l with
        | nil => intro acc _ _; rw [List.flatMap_nil, List.append_nil]; exact .nil
        | cons d l ih =>
          intro acc hm hz
          obtain ⟨⟨d1, d2⟩, ⟨d3, d4⟩, d5, d6⟩ := g d (hm d List.mem_cons_self)
          have hlen : (bR1 p' d).length = p'.toNat := by simp [bR1]
          rw [List.length_cons, Nat.add_mul, Nat.one_mul] at hz
          have q := ih (acc ++ bR1 p' d) (fun x hx => hm x (List.mem_cons_of_mem _ hx)) (by rw [List.length_append, hlen]; omega)
          rw [List.append_assoc, ← List.flatMap_cons, List.map_append] at q
          refine .step (xg_tup rfl (xgs_cons (xg_name 4 nd) (xgs_cons (xg_name 5 nd) (xgs_cons (xg_name 6 nd) (xgs_cons (xg_name 7 nd) xgs_nil))))) (xss_one (xs_extend 3 (xl_lc [("place", 8)] rfl nd (xi_range T.range (xv_var 2) (by omega) (by omega)) (blkOk_by (own := [("place", 8)]) (N := N_beside) (sc := defScope s_beside) (by decide +kernel)) ((lc_map (f := fun (q : Nat) => D.int q) (g := fun (q : Nat) => eDeed (bD1 p' d (q : Int))) (List.range p'.toNat) fun x hx => ⟨_, (fun _ _ _ _ _ => (xgw_name 8 nd)), (fun _ _ _ _ _ => (xv_tup (xa_cons (xv_add ((xv_mul ((xv_var 4)).br ((xv_var 2)).br (by first | exact Or.inl ⟨by omega, by omega⟩ | exact Or.inr ⟨by omega, by omega⟩))).br ((xv_var 8)).br) (xa_cons (xv_var 5) (xa_cons (xv_add ((xv_mul ((xv_var 6)).br ((xv_var 2)).br (by first | exact Or.inl ⟨by omega, by omega⟩ | exact Or.inr ⟨by omega, by omega⟩))).br ((xv_var 8)).br) (xa_cons (xv_var 7) xa_nil))))))⟩).is (zs := (bR1 p' d).map eDeed) (by unfold bR1; rw [List.map_map]; rfl)) (by rw [rngD_F, rngF_len]; omega)) (by rfl) (by rw [List.length_map, List.length_map, hlen]; omega))) rfl (Le.fg [4, 5, 6, 7] rfl) q
      cases h
      refine xss_then (o1 := .nx [.fz (eMach p k ds), .fz (eMach p' k' ds'), .fz (.int p'), .ow ((bRaw p k ds p' ds').map eDeed), .no, .no, .no, .no, .no, .no]) (xs_for hp rfl (xi_list (xv_ix ((xv_var 1)).br (xv_int).br (by rfl))) ?_) (fun dd h => by cases h; exact rest) (by intro h; cases h)
      suffices loop : ∀ (l acc : List Deed), (∀ d ∈ l, d ∈ ds') → acc.length + l.length * p.toNat ≤ 20000 → Fr _ _ _ _ (l.map eDeed) [.fz (eMach p k ds), .fz (eMach p' k' ds'), .fz (.int p'), .ow (acc.map eDeed), .no, .no, .no, .no, .no, .no] (.nx [.fz (eMach p k ds), .fz (eMach p' k' ds'), .fz (.int p'), .ow ((acc ++ l.flatMap (bR2 p k p')).map eDeed), .no, .no, .no, .no, .no, .no]) by
        have q := loop ds' (ds.flatMap (bR1 p')) (fun d hd => hd) (by omega)
        exact q
      intro l
      induction l with
      | nil => intro acc _ _; rw [List.flatMap_nil, List.append_nil]; exact .nil
      | cons d l ih =>
        intro acc hm hz
        obtain ⟨⟨d1, d2⟩, ⟨d3, d4⟩, d5, d6⟩ := g' d (hm d List.mem_cons_self)
        have hlen : (bR2 p k p' d).length = p.toNat := by simp [bR2]
        rw [List.length_cons, Nat.add_mul, Nat.one_mul] at hz
        have q := ih (acc ++ bR2 p k p' d) (fun x hx => hm x (List.mem_cons_of_mem _ hx)) (by rw [List.length_append, hlen]; omega)
        rw [List.append_assoc, ← List.flatMap_cons] at q
        refine .step (xg_tup rfl (xgs_cons (xg_name 4 nd) (xgs_cons (xg_name 5 nd) (xgs_cons (xg_name 6 nd) (xgs_cons (xg_name 7 nd) xgs_nil))))) (xss_one (xs_for hp rfl (xi_range T.range (xv_ix ((xv_var 0)).br (xv_int).br (by rfl)) (by omega) (by omega)) (o := .nx [.fz (eMach p k ds), .fz (eMach p' k' ds'), .fz (.int p'), .ow ((acc ++ bR2 p k p' d).map eDeed), .fz (.int d.1), .fz (.int d.2.1), .fz (.int d.2.2.1), .fz (.int d.2.2.2), .no, .no]) ?_)) rfl (Le.fg [4, 5, 6, 7, 8] rfl) q
        rw [rngD_F]
        suffices inner : ∀ (m i : Nat), i + m = p.toNat → Fr _ _ _ _ (rngF i m) [.fz (eMach p k ds), .fz (eMach p' k' ds'), .fz (.int p'), .ow ((acc ++ (List.range i).map fun (x : Nat) => bD2 k p' d (x : Int)).map eDeed), .fz (.int d.1), .fz (.int d.2.1), .fz (.int d.2.2.1), .fz (.int d.2.2.2), .no, .no] (.nx [.fz (eMach p k ds), .fz (eMach p' k' ds'), .fz (.int p'), .ow ((acc ++ bR2 p k p' d).map eDeed), .fz (.int d.1), .fz (.int d.2.1), .fz (.int d.2.2.1), .fz (.int d.2.2.2), .no, .no]) by
          have q := inner p.toNat 0 (by omega)
          rw [List.range_zero, List.map_nil, List.append_nil] at q
          exact q
        intro m
        induction m with
        | zero =>
          intro i hi
          have e : i = p.toNat := by omega
          subst e
          exact .nil
        | succ m ihm =>
          intro i hi
          have qi := ihm (i + 1) (by omega)
          have e : (acc ++ (List.range (i + 1)).map fun (x : Nat) => bD2 k p' d (x : Int)).map eDeed = (acc ++ (List.range i).map fun (x : Nat) => bD2 k p' d (x : Int)).map eDeed ++ [eDeed (bD2 k p' d (i : Int))] := by
            rw [List.range_succ, List.map_append, List.map_append, List.map_append, List.map_append, List.append_assoc]; rfl
          rw [e] at qi
          rw [rngF_succ]
          exact .step (xg_name 8 nd) (xss_one (xs_append 3 (xv_tup (xa_cons (xv_add ((xv_mul ((xv_var 8)).br ((xv_var 2)).br (by first | exact Or.inl ⟨by omega, by omega⟩ | exact Or.inr ⟨by omega, by omega⟩))).br ((xv_var 4)).br) (xa_cons (xv_add ((xv_ix ((xv_var 0)).br (xv_int).br (by rfl))).br ((xv_var 5)).br) (xa_cons (xv_add ((xv_mul ((xv_var 8)).br ((xv_var 2)).br (by first | exact Or.inl ⟨by omega, by omega⟩ | exact Or.inr ⟨by omega, by omega⟩))).br ((xv_var 6)).br) (xa_cons (xv_var 7) xa_nil))))) (by rfl) (by simp; omega))) rfl (Le.fg [8] rfl) qi
    have hbd := bRaw_bd hg hg'
    have hlen : (bRaw p k ds p' ds').length ≤ 10000 := by unfold bRaw; rw [List.length_append, hl1, hl2]; omega
    have m1 := mul_le (a := p) (b := p') (m := 200) (n := 200) (by omega) (by omega) (by omega) (by omega)
    have e1 : (bRaw p k ds p' ds').map eDeed = ((bRaw p k ds p' ds').map dl).map eT := by rw [List.map_map]; rfl
    have e2 : (bDs p k ds p' ds').map eDeed = ((bDs p k ds p' ds').map dl).map eT := by rw [List.map_map]; rfl
    have hs1 : ∀ x ∈ (bRaw p k ds p' ds').map dl, x.length = 4 ∧ TS.Bd 65536 x := fun x hx => by
      obtain ⟨d, hd, rfl⟩ := List.mem_map.mp hx
      exact ⟨rfl, hbd d hd⟩
    have hs2 : ((bDs p k ds p' ds').map dl).Pairwise fun a b => TS.code 65536 a ≤ TS.code 65536 b := by
      rw [List.pairwise_map]; exact isrt_rise _ hbd
    have hs3 : ((bDs p k ds p' ds').map dl).Perm ((bRaw p k ds p' ds').map dl) := (isrt_perm _).map _
    cases hf : goodM (p * p') (k + k') (bDs p k ds p' ds') with
    | false =>
      refine XF.er (pre (xss_cons (xs_set 9 nd (xv_tup (xa_cons (xv_mul ((xv_ix ((xv_var 0)).br (xv_int).br (by rfl))).br ((xv_var 2)).br (by first | exact Or.inl ⟨by omega, by omega⟩ | exact Or.inr ⟨by omega, by omega⟩)) (xa_cons (xv_add ((xv_ix ((xv_var 0)).br (xv_int).br (by rfl))).br ((xv_ix ((xv_var 1)).br (xv_int).br (by rfl))).br) (xa_cons ((XL.is (xl_sortA 4 65536 T.sorted (xb_own 3) (congrArg D.lst e1) (by decide) hs1 hs2 hs3) e2.symm).v) xa_nil))))) ?_))
      exact (xss_stop (xs_exprR (xr_call D_look_machine hr tk (xa_cons (xv_var 9) xa_nil) ⟨p * p', k + k', bDs p k ds p' ds', rfl, by rw [hf]; rfl⟩))).er
    | true =>
      refine XF.rt (pre (xss_cons (xs_set 9 nd (xv_tup (xa_cons (xv_mul ((xv_ix ((xv_var 0)).br (xv_int).br (by rfl))).br ((xv_var 2)).br (by first | exact Or.inl ⟨by omega, by omega⟩ | exact Or.inr ⟨by omega, by omega⟩)) (xa_cons (xv_add ((xv_ix ((xv_var 0)).br (xv_int).br (by rfl))).br ((xv_ix ((xv_var 1)).br (xv_int).br (by rfl))).br) (xa_cons ((XL.is (xl_sortA 4 65536 T.sorted (xb_own 3) (congrArg D.lst e1) (by decide) hs1 hs2 hs3) e2.symm).v) xa_nil))))) ?_))
      refine xss_cons (xs_expr (xv_call D_look_machine (hr.mono (by decide)) tk (xa_cons (xv_var 9) xa_nil) (⟨p * p', k + k', bDs p k ds p' ds', rfl, by rw [hf]; rfl⟩))) ?_
      exact xss_ret (xv_var 9)

/-! the models of the law, and their purses -/
def popM : Nat → Int → Int → Int
  | 0, _, f => f
  | n + 1, s, f => if 0 < s then popM n (s / 2) (f + s % 2) else f
def pop (s : Int) : Int := popM (s.toNat + 1) s 0
def mostQ (st : Fr2) : Int := 2 * st.1
def mostS (st : Fr2) : Int := max 0 (2 * st.1 - st.2)
def runR {α : Type} [DecidableEq α] (mv : α → List (Mv α)) (s : α) : Ns α := (runN mv 200 0 ([s], [])).getD ([], [])
abbrev dsR {α : Type} (R : Ns α) : List Deed := isrt R.2
def eMR {α : Type} (R : Ns α) : D := eMach R.1.length 2 (isrt R.2)
def chkK {α : Type} [DecidableEq α] (mv : α → List (Mv α)) (s : α) (f : α → Int) (pr : List Int) : Bool :=
  (runN mv 200 0 ([s], [])).isSome && (goodR (runR mv s) && ((dsR (runR mv s)).all (paid pr ((runR mv s).1.map f)) && (decide (gI ((runR mv s).1.map f) 0 = 0) && ((runR mv s).1.map f).all fun x => decide (0 ≤ x))))
def rowK {α : Type} (R : Ns α) (pr row : List Int) : Bool := (goneL (dsR R) 0 row).isSome && decide (priceL (dsR R) pr row < costL (dsR R) row)
def reachK {α : Type} (R : Ns α) : Bool := (List.range R.1.length).all fun (v : Nat) => decide ((v : Int) ∈ lrM R.1.length (dsR R))
structure KnF {α : Type} [DecidableEq α] (mv : α → List (Mv α)) (s : α) (f : α → Int) (pr : List Int) : Prop where
  run : runN mv 200 0 ([s], []) = some (runR mv s)
  good : goodR (runR mv s) = true
  pays : Pays (dsR (runR mv s)) pr ((runR mv s).1.map f)
  z : gI ((runR mv s).1.map f) 0 = 0
  nn : ∀ v, 0 ≤ v → v < ((runR mv s).1.length : Int) → 0 ≤ gI ((runR mv s).1.map f) v
  pb : paysB (runR mv s).1.length (dsR (runR mv s)) pr ((runR mv s).1.map f) = true
theorem chkK_d {α : Type} [DecidableEq α] {mv : α → List (Mv α)} {s : α} {f : α → Int} {pr : List Int} (h : chkK mv s f pr = true) : KnF mv s f pr := by
  unfold chkK at h
  simp only [Bool.and_eq_true, decide_eq_true_eq, List.all_eq_true] at h
  obtain ⟨h1, h2, h3, h4, h5⟩ := h
  refine ⟨?_, h2, fun d hd _ => ?_, h4, fun v v0 v1 => ?_, ?_⟩
  · obtain ⟨R, hR⟩ := Option.isSome_iff_exists.mp h1
    unfold runR
    rw [hR]; rfl
  · have := h3 d hd
    unfold paid at this
    have := of_decide_eq_false ((Bool.not_eq_true' _).mp this)
    omega
  · exact h5 _ (gI_mem v0 (by rw [List.length_map]; exact v1))
  · unfold paysB
    simp only [Bool.and_eq_true, decide_eq_true_eq, List.all_eq_true]
    exact ⟨⟨by rw [List.length_map], h4, lmin_nn fun x hx => h5 x hx⟩, fun d hd => by rw [h3 d hd, Bool.or_true]⟩
theorem cntK_all : ∀ b : Fin 5, chkK (cntMv ((b.val : Nat) + 1 : Int) false) 0 pop [2, 0] = true ∧ (2 < (runR (cntMv ((b.val : Nat) + 1 : Int) false) 0).1.length → rowK (runR (cntMv ((b.val : Nat) + 1 : Int) false) 0) [1, 0] [0, 1] = true) := by decide +kernel
theorem queK_all : ∀ m : Fin 8, chkK (queMv ((m.val : Nat) + 1 : Int)) (0, 0) mostQ [3, 1] = true ∧ (3 < (runR (queMv ((m.val : Nat) + 1 : Int)) (0, 0)).1.length → rowK (runR (queMv ((m.val : Nat) + 1 : Int)) (0, 0)) [2, 1] [0, 2] = true) := by decide +kernel
theorem shlK_all : ∀ (m : Fin 12) (g : Fin 3), chkK (shelfMv ((m.val : Nat) + 1 : Int) ((g.val : Nat) + 2 : Int) 0) (0, 1) mostS [3, 1] = true := by decide +kernel
theorem besK_all : ∀ (m b : Fin 3), (reachK (runR (queMv ((m.val : Nat) + 1 : Int)) (0, 0)) && reachK (runR (cntMv ((b.val : Nat) + 1 : Int) false) 0)) && (goodM ((runR (queMv ((m.val : Nat) + 1 : Int)) (0, 0)).1.length * (runR (cntMv ((b.val : Nat) + 1 : Int) false) 0).1.length) (2 + 2) (bDs (runR (queMv ((m.val : Nat) + 1 : Int)) (0, 0)).1.length 2 (dsR (runR (queMv ((m.val : Nat) + 1 : Int)) (0, 0))) (runR (cntMv ((b.val : Nat) + 1 : Int) false) 0).1.length (dsR (runR (cntMv ((b.val : Nat) + 1 : Int) false) 0))) &&
    decide ((dsR (runR (queMv ((m.val : Nat) + 1 : Int)) (0, 0))).length * ((runR (cntMv ((b.val : Nat) + 1 : Int) false) 0).1.length : Int).toNat + (dsR (runR (cntMv ((b.val : Nat) + 1 : Int) false) 0)).length * ((runR (queMv ((m.val : Nat) + 1 : Int)) (0, 0)).1.length : Int).toNat ≤ 10000)) = true := by decide +kernel
theorem cntK {b : Int} (h0 : 1 ≤ b) (h1 : b ≤ 5) : KnF (cntMv b false) 0 pop [2, 0] ∧ (2 < (runR (cntMv b false) 0).1.length → rowK (runR (cntMv b false) 0) [1, 0] [0, 1] = true) := by
  have q := cntK_all ⟨(b - 1).toNat, by omega⟩
  rw [show (((b - 1).toNat : Nat) : Int) + 1 = b by omega] at q
  exact ⟨chkK_d q.1, q.2⟩
theorem queK {m : Int} (h0 : 1 ≤ m) (h1 : m ≤ 8) : KnF (queMv m) (0, 0) mostQ [3, 1] ∧ (3 < (runR (queMv m) (0, 0)).1.length → rowK (runR (queMv m) (0, 0)) [2, 1] [0, 2] = true) := by
  have q := queK_all ⟨(m - 1).toNat, by omega⟩
  rw [show (((m - 1).toNat : Nat) : Int) + 1 = m by omega] at q
  exact ⟨chkK_d q.1, q.2⟩
theorem shlK {m g : Int} (h0 : 1 ≤ m) (h1 : m ≤ 12) (h2 : 2 ≤ g) (h3 : g ≤ 4) : KnF (shelfMv m g 0) (0, 1) mostS [3, 1] := by
  have q := shlK_all ⟨(m - 1).toNat, by omega⟩ ⟨(g - 2).toNat, by omega⟩
  rw [show (((m - 1).toNat : Nat) : Int) + 1 = m by omega, show (((g - 2).toNat : Nat) : Int) + 2 = g by omega] at q
  exact chkK_d q
theorem reachK_d {α : Type} {R : Ns α} (hg : goodR R = true) (h : reachK R = true) : ∀ v, 0 ≤ v → v < (R.1.length : Int) → Reach (dsR R) v := fun v v0 v1 => by
  obtain ⟨p1, _, _, g⟩ := goodM_d hg
  unfold reachK at h
  have q := of_decide_eq_true (List.all_eq_true.mp h v.toNat (List.mem_range.mpr (by omega)))
  rw [show ((v.toNat : Nat) : Int) = v by omega] at q
  exact (lrM_mem p1.1 (fun d hd => (g d hd).2.1) v).mp q
theorem rowK_d {α : Type} {R : Ns α} {pr row : List Int} (hg : goodR R = true) (ho : okPr 2 pr = true) (h : rowK R pr row = true) : ∃ (way ring : List Int) (many : Int), leastD R.1.length (dsR R) pr = .tup [.str "row", .lst (way.map .int), .lst (ring.map .int), .int many] := by
  unfold rowK at h
  rw [Bool.and_eq_true, decide_eq_true_eq] at h
  obtain ⟨l, hl⟩ := Option.isSome_iff_exists.mp h.1
  exact least_row hg ho hl h.2

abbrev s_law_most : Stmt := top 31
abbrev N_law_most : List Str := ["_law_way", "_law_state", "_law_found"]
abbrev P_law_most : List Str := ["_law_way", "_law_state"]
theorem sc_law_most : FnScope N_law_most P_law_most (defScope s_law_most) := ⟨rfl, rfl, rfl, by decide +kernel, rfl, by decide +kernel, by decide +kernel⟩

def F_law_most : Fs := fun args r => (∃ h : Int, args = [.int 0, .int h] ∧ r = .ok (.int (pop h))) ∨ (∃ st : Fr2, args = [.int 1, eF st] ∧ r = .ok (.int (mostQ st))) ∨ ∃ st : Fr2, args = [.int 2, eF st] ∧ r = .ok (.int (mostS st))
theorem df_law_most {P : Program} {w : World} {K : Fg} {mg : Str → Option Value} {base : Heap} (T : Tx K mg) (U : Dn K mg "_law_most" s_law_most P_law_most) : Df P w K mg base "_law_most" 1 F_law_most :=
  df_of 0 U sc_law_most (fun _ _ h => by rcases h with ⟨_, h, _⟩ | ⟨_, h, _⟩ | ⟨_, h, _⟩ <;> (rw [h]; rfl)) fun f cdv A outer s0 H E args r hr tk hp hF => by
    have nd := sc_law_most.nd
    have c2 : ∀ i : Int, CMul 2 i := fun i => Or.inl (by decide)
    rcases hF with ⟨h, rfl, rfl⟩ | ⟨st, rfl, rfl⟩ | ⟨st, rfl, rfl⟩
    · refine XF.rt (xss_yesS (XT.is (xt_eqI ((xv_var 0)).br (xv_int).br) (rfl)) (xss_cons (xs_set 2 nd xv_int) ?_))
      refine xss_whileX (Q := fun d1 => ∃ a' : Int, d1 = [.fz (.int 0), .fz (.int a'), .fz (.int (pop h))]) hp ?_ ?_
      · suffices loop : ∀ (n : Nat) (a' f : Int), a'.toNat < n → ∃ k a2, Wh _ _ _ _ k [.fz (.int 0), .fz (.int a'), .fz (.int f)] (.nx [.fz (.int 0), .fz (.int a2), .fz (.int (popM n a' f))]) by
          obtain ⟨k, a2, hw⟩ := loop (h.toNat + 1) h 0 (by omega)
          exact ⟨k, _, ⟨a2, rfl⟩, hw⟩
        intro n
        induction n with
        | zero => intro a' f h; omega
        | succ n ih =>
          intro a' f hn
          unfold popM
          by_cases hc : 0 < a'
          · obtain ⟨k, a2, hw⟩ := ih (a' / 2) (f + a' % 2) (by omega)
            rw [if_pos hc]
            exact ⟨k + 1, a2, .step (XT.is (xt_gt ((xv_var 1)).br (xv_int).br) (decide_eq_true hc)) (xss_cons (xs_set 2 nd (xv_add ((xv_var 2)).br ((xv_mod ((xv_var 1)).br (xv_int).br (by first | omega | decide | (simp only [List.length_cons]; omega)))).br)) (xss_one (xs_set 1 nd (xv_div ((xv_var 1)).br (xv_int).br (by first | exact ⟨by omega, by omega⟩ | exact ⟨by decide, by decide⟩))))) rfl .refl hw⟩
          · rw [if_neg hc]
            exact ⟨0, _, .stop (XT.is (xt_gt ((xv_var 1)).br (xv_int).br) (decide_eq_false hc))⟩
      · rintro d1 ⟨a', rfl⟩
        exact xss_ret (xv_var 2)
    · exact XF.rt (xss_no0 (XT.is (xt_eqI ((xv_var 0)).br (xv_int).br) (rfl)) (xss_ret (xv_if (XT.is (xt_eqI ((xv_var 0)).br (xv_int).br) (rfl)) (fun _ => (xv_mul (xv_int).br ((xv_ix ((xv_var 1)).br (xv_int).br (ix_F1 _))).br (c2 _))) (fun h => by cases h))))
    · exact XF.rt (xss_no0 (XT.is (xt_eqI ((xv_var 0)).br (xv_int).br) (rfl)) (xss_ret (xv_if (XT.is (xt_eqI ((xv_var 0)).br (xv_int).br) (rfl)) (fun h => by cases h) (fun _ => (xv_max rfl T.max (xv_int).br ((xv_sub ((xv_mul (xv_int).br ((xv_ix ((xv_var 1)).br (xv_int).br (ix_F1 _))).br (c2 _))).br ((xv_ix ((xv_var 1)).br (xv_int).br (ix_F2 _))).br)).br)))))

abbrev s_law_sums : Stmt := top 33
abbrev N_law_sums : List Str := ["_law_first", "_law_second", "_law_found", "_law_one", "_law_other"]
abbrev P_law_sums : List Str := ["_law_first", "_law_second"]
theorem sc_law_sums : FnScope N_law_sums P_law_sums (defScope s_law_sums) := ⟨rfl, rfl, rfl, by decide +kernel, rfl, by decide +kernel, by decide +kernel⟩

def F_law_sums : Fs := fun args r => ∃ W1 W2 : List Int, args = [.lst (W1.map .int), .lst (W2.map .int)] ∧ W1.length * W2.length ≤ 90000 ∧ W2.length ≤ 1000 ∧ r = .ok (.lst ((sumsM W1 W2).map .int))
theorem df_law_sums {P : Program} {w : World} {K : Fg} {mg : Str → Option Value} {base : Heap} (T : Tx K mg) (U : Dn K mg "_law_sums" s_law_sums P_law_sums) : Df P w K mg base "_law_sums" 1 F_law_sums :=
  df_of 0 U sc_law_sums (fun _ _ ⟨_, _, h, _⟩ => by rw [h]; rfl) fun f cdv A outer s0 H E args r hr tk hp hF => by
    obtain ⟨W1, W2, rfl, hl, hl2, rfl⟩ := hF
    have nd := sc_law_sums.nd
    refine XF.rt (xss_cons (xs_own 2 nd (xl_lst xa_nil)) ?_)
    suffices loop : ∀ (l : List Int) (acc : List Int), acc.length + l.length * W2.length ≤ 90000 → Fr _ _ _ _ (l.map .int) [.fz (.lst (W1.map .int)), .fz (.lst (W2.map .int)), .ow (acc.map .int), .no, .no] (.nx [.fz (.lst (W1.map .int)), .fz (.lst (W2.map .int)), .ow ((acc ++ sumsM l W2).map .int), .no, .no]) by
      have q := loop W1 [] (by simpa using hl)
      rw [List.nil_append] at q
      exact xss_cons (xs_for hp rfl (xi_list (xv_var 0)) q) (XSs.freeze 2 (xss_ret (xv_var 2)))
    intro l
    induction l with
    | nil => intro acc _; rw [show sumsM [] W2 = [] from rfl, List.append_nil]; exact .nil
    | cons a l ih =>
      intro acc hal
      rw [List.length_cons, Nat.succ_mul] at hal
      have q := ih (acc ++ W2.map fun b => a + b) (by rw [List.length_append, List.length_map]; omega)
      rw [show acc ++ sumsM (a :: l) W2 = acc ++ (W2.map fun b => a + b) ++ sumsM l W2 by rw [List.append_assoc]; rfl]
      have e1 : (W2.map fun b => D.int (a + b)) = (W2.map fun b => a + b).map .int := by rw [List.map_map]; rfl
      rw [List.map_append] at q
      exact .step (xg_name 3 nd) (xss_one (xs_own 2 nd (xl_cat (xb_own 2) ((xl_lc [("_law_other", 4)] rfl nd (xi_list (xv_var 1)) (blkOk_by (own := [("_law_other", 4)]) (N := N_law_sums) (sc := defScope s_law_sums) (by decide +kernel)) ((lc_map (f := D.int) (g := fun b => D.int (a + b)) W2 fun x_1 hx_1 => ⟨_, (fun _ _ _ _ _ => (xgw_name 4 nd)), (fun _ _ _ _ _ => (xv_add ((xv_var 3)).br ((xv_var 4)).br))⟩).is e1) (by rw [List.length_map]; omega))).br (by rw [List.length_map, List.length_map, List.length_map]; omega)))) rfl (Le.fg [3] rfl) q

abbrev s_law_model : Stmt := top 32
abbrev N_law_model : List Str := ["_law_script", "_law_k", "_law_way", "_law_number", "_law_machine", "_law_states"]
abbrev P_law_model : List Str := ["_law_script", "_law_k"]
theorem sc_law_model : FnScope N_law_model P_law_model (defScope s_law_model) := ⟨rfl, rfl, rfl, by decide +kernel, rfl, by decide +kernel, by decide +kernel⟩

def modelD (ns : List Int) (k : Int) : D :=
  if mix ns k % 3 = 0 then .tup [.int 0, eMR (runR (cntMv (1 + mix ns (k + 1) % 5) false) 0), .lst ((runR (cntMv (1 + mix ns (k + 1) % 5) false) 0).1.map .int), .lst [.int 2, .int 0]]
  else if mix ns k % 3 = 1 then .tup [.int 1, eMR (runR (queMv (1 + mix ns (k + 1) % 8)) (0, 0)), .lst ((runR (queMv (1 + mix ns (k + 1) % 8)) (0, 0)).1.map eF), .lst [.int 3, .int 1]]
  else .tup [.int 2, eMR (runR (shelfMv (1 + mix ns (k + 1) % 12) (2 + mix ns (k + 1) / 16 % 3) 0) (0, 1)), .lst ((runR (shelfMv (1 + mix ns (k + 1) % 12) (2 + mix ns (k + 1) / 16 % 3) 0) (0, 1)).1.map eF), .lst [.int 3, .int 1]]
theorem okShelf0 {m g : Int} (h : 1 ≤ m ∧ m ≤ 30) (h' : 2 ≤ g ∧ g ≤ 4) : okShelf m g 0 = true := by
  unfold okShelf
  rw [decide_eq_true h.1, decide_eq_true h.2, decide_eq_true h'.1, decide_eq_true h'.2]; rfl
def F_law_model : Fs := fun args r => ∃ (ns : List Int) (k : Int), args = [.scr ns, .int k] ∧ (0 ≤ k ∧ k ≤ 1000) ∧ r = .ok (modelD ns k)
theorem df_law_model {P : Program} {w : World} {K : Fg} {mg : Str → Option Value} {base : Heap} {cO : Addr} (T : Tx K mg) (U : Dn K mg "_law_model" s_law_model P_law_model) (D__law_mix : Df P w K mg base "_law_mix" 2 F_law_mix) (D_shelf : Df P w K mg base "shelf" 3 (F_shelf cO)) (D_counter : Df P w K mg base "counter" 3 (F_counter cO)) (D_queue : Df P w K mg base "queue" 3 (F_queue cO)) :
    Df P w K mg base "_law_model" 4 F_law_model :=
  df_of 3 U sc_law_model (fun _ _ ⟨_, _, h, _⟩ => by rw [h]; rfl) fun f cdv A outer s0 H E args r hr tk hp hF => by
    obtain ⟨ns, k, rfl, hk, rfl⟩ := hF
    have nd := sc_law_model.nd
    refine XF.rt (xss_cons (xs_set 2 nd (xv_mod ((xv_call D__law_mix (hr.mono (by decide)) tk (xa_cons (xv_var 0) (xa_cons (xv_var 1) xa_nil)) (by exact ⟨_, _, rfl, rfl⟩))).br (xv_int).br (by first | omega | decide | (simp only [List.length_cons]; omega)))) (xss_cons (xs_set 3 nd (xv_call D__law_mix (hr.mono (by decide)) tk (xa_cons (xv_var 0) (xa_cons (xv_add ((xv_var 1)).br (xv_int).br) xa_nil)) (by exact ⟨_, _, rfl, rfl⟩))) ?_))
    have n0 := mix_nonneg ns (k + 1)
    have n1 := mix_nonneg ns k
    unfold modelD
    generalize mix ns (k + 1) = n at *
    generalize mix ns k = m at *
    by_cases h0 : m % 3 = 0
    · rw [if_pos h0]
      rw [h0]
      have q := (cntK (b := 1 + n % 5) (by omega) (by omega)).1
      have hc : F_counter cO [.int (1 + n % 5), .bl false] (.ok (modD D.int (runR (cntMv (1 + n % 5) false) 0))) := ⟨_, _, rfl, .inr ⟨by simp only [okCnt, Bool.and_eq_true, decide_eq_true_eq]; omega, _, q.run, q.good, rfl⟩⟩
      generalize runR (cntMv (1 + n % 5) false) 0 = R at *
      exact xss_yesS (XT.is (xt_eqI ((xv_var 2)).br (xv_int).br) (rfl)) (xss_cons (xs_asg (xv_call D_counter (hr.mono (by decide)) tk (xa_cons (xv_add (xv_int).br ((xv_mod ((xv_var 3)).br (xv_int).br (by first | omega | decide | (simp only [List.length_cons]; omega)))).br) (xa_cons xv_bl xa_nil)) (hc)) (xg_tup rfl (xgs_cons (xg_name 4 nd) (xgs_cons (xg_name 5 nd) xgs_nil)))) (xss_ret (xv_tup (xa_cons (xv_var 2) (xa_cons (xv_var 4) (xa_cons (xv_var 5) (xa_cons ((xl_lst (xa_cons xv_int (xa_cons xv_int xa_nil)))).v xa_nil)))))))
    rw [if_neg h0]
    refine xss_no0 (XT.is (xt_eqI ((xv_var 2)).br (xv_int).br) (decide_eq_false h0)) ?_
    by_cases h1 : m % 3 = 1
    · rw [if_pos h1]
      rw [h1]
      have q := (queK (m := 1 + n % 8) (by omega) (by omega)).1
      have hc : F_queue cO [.int (1 + n % 8)] (.ok (modD eF (runR (queMv (1 + n % 8)) (0, 0)))) := ⟨_, rfl, .inr ⟨by simp only [okQue, Bool.and_eq_true, decide_eq_true_eq]; omega, _, q.run, q.good, rfl⟩⟩
      generalize runR (queMv (1 + n % 8)) (0, 0) = R at *
      exact xss_yesS (XT.is (xt_eqI ((xv_var 2)).br (xv_int).br) (rfl)) (xss_cons (xs_asg (xv_call D_queue (hr.mono (by decide)) tk (xa_cons (xv_add (xv_int).br ((xv_mod ((xv_var 3)).br (xv_int).br (by first | omega | decide | (simp only [List.length_cons]; omega)))).br) xa_nil) (hc)) (xg_tup rfl (xgs_cons (xg_name 4 nd) (xgs_cons (xg_name 5 nd) xgs_nil)))) (xss_ret (xv_tup (xa_cons (xv_var 2) (xa_cons (xv_var 4) (xa_cons (xv_var 5) (xa_cons ((xl_lst (xa_cons xv_int (xa_cons xv_int xa_nil)))).v xa_nil)))))))
    rw [if_neg h1]
    have h2 : m % 3 = 2 := by omega
    rw [h2]
    refine xss_no0 (XT.is (xt_eqI ((xv_var 2)).br (xv_int).br) (rfl)) ?_
    have q := shlK (m := 1 + n % 12) (g := 2 + n / 16 % 3) (by omega) (by omega) (by omega) (by omega)
    have hc : F_shelf cO [.int (1 + n % 12), .int (2 + n / 16 % 3), .int 0] (.ok (modD eF (runR (shelfMv (1 + n % 12) (2 + n / 16 % 3) 0) (0, 1)))) := ⟨_, _, _, rfl, .inr ⟨okShelf0 (by omega) (by omega), _, q.run, q.good, rfl⟩⟩
    generalize runR (shelfMv (1 + n % 12) (2 + n / 16 % 3) 0) (0, 1) = R at *
    exact xss_cons (xs_asg (xv_call D_shelf (hr.mono (by decide)) tk (xa_cons (xv_add (xv_int).br ((xv_mod ((xv_var 3)).br (xv_int).br (by first | omega | decide | (simp only [List.length_cons]; omega)))).br) (xa_cons (xv_add (xv_int).br ((xv_mod ((xv_div ((xv_var 3)).br (xv_int).br (by first | exact ⟨by omega, by omega⟩ | exact ⟨by decide, by decide⟩))).br (xv_int).br (by first | omega | decide | (simp only [List.length_cons]; omega)))).br) (xa_cons xv_int xa_nil))) (hc)) (xg_tup rfl (xgs_cons (xg_name 4 nd) (xgs_cons (xg_name 5 nd) xgs_nil)))) (xss_ret (xv_tup (xa_cons (xv_var 2) (xa_cons (xv_var 4) (xa_cons (xv_var 5) (xa_cons ((xl_lst (xa_cons xv_int (xa_cons xv_int xa_nil)))).v xa_nil))))))

abbrev s_law : Stmt := top 34
abbrev N_law : List Str := ["_law_script", "_law_way", "_law_machine", "_law_states", "_law_prices", "_law_word", "_law_purse", "_law_bounds", "_law_state", "_law_k", "_law_small", "_law_first", "_law_second", "_law_both"]
abbrev P_law : List Str := ["_law_script"]
theorem sc_law : FnScope N_law P_law (defScope s_law) := ⟨rfl, rfl, rfl, by decide +kernel, rfl, by decide +kernel, by decide +kernel⟩

theorem least_word {p kn : Int} {ds : List Deed} {pr : List Int} (hg : goodM p kn ds = true) (ho : okPr kn pr = true) : ∃ (w : Str) (rest : List D), leastD p ds pr = .tup (.str w :: rest) ∧ okE (.str w) = true := by
  rcases leastD_spec hg ho with ⟨W, e, _⟩ | ⟨way, ring, many, l, e, _⟩
  · exact ⟨_, _, e, okE_purse⟩
  · exact ⟨_, _, e, okE_row⟩
theorem ix_0t {d : D} {r : List D} : ixD (.tup (d :: r)) 0 = some d := by
  show atI (d :: r) 0 = some d
  rw [atI_ge (by decide) (by rw [List.length_cons]; omega)]; rfl
theorem ok_law {P : Program} {w : World} {K : Fg} {mg : Str → Option Value} {base : Heap} {f : Addr} {fd : FuncData} {cM cP cO : Addr} (T : Tx K mg) (U : Fun K "law" "law" s_law f fd)
    (D__law_mix : Df P w K mg base "_law_mix" 2 F_law_mix) (D__law_model : Df P w K mg base "_law_model" 4 F_law_model) (D__law_most : Df P w K mg base "_law_most" 1 F_law_most) (D__law_sums : Df P w K mg base "_law_sums" 1 F_law_sums)
    (D_least_purse : Df P w K mg base "least_purse" 5 (F_least_purse cM cP)) (D_pays : Df P w K mg base "pays" 3 (F_pays cM cP)) (D_beside : Df P w K mg base "beside" 2 (F_beside cM)) (D_queue : Df P w K mg base "queue" 3 (F_queue cO)) (D_counter : Df P w K mg base "counter" 3 (F_counter cO)) : FnOk P w K mg base (L2.CX P w) 9 f fd P_law (spF K F_law) :=
  fnl_of 8 U sc_law (fun _ _ ⟨_, h, _⟩ => by rw [h]; rfl) fun cdv A outer s0 H E args r hr tk hp hF => by
    obtain ⟨ns, rfl, hlen, rfl⟩ := hF
    have nd := sc_law.nd
    have hu := hr.units
    have n0 := fun k => mix_nonneg ns k
    refine XF.rt ?_
    suffices main : ∀ {α : Type} [DecidableEq α] (e : α → D) (mv : α → List (Mv α)) (s : α) (fm : α → Int) (pr : List Int) (wy : Int), KnF mv s fm pr → okPr 2 pr = true → (∀ st, F_law_most [.int wy, e st] (.ok (.int (fm st)))) →
        (wy = 1 → 3 < (runR mv s).1.length → rowK (runR mv s) [2, 1] [0, 2] = true) → (wy = 0 → 2 < (runR mv s).1.length → rowK (runR mv s) [1, 0] [0, 1] = true) →
        XSs _ _ _ [.fz (.scr ns), .fz (.int wy), .fz (eMR (runR mv s)), .fz (.lst ((runR mv s).1.map e)), .fz (.lst (pr.map .int)), .no, .no, .no, .no, .no, .no, .no, .no, .no] (.rt (.bl true)) by
      by_cases h0 : mix ns 0 % 3 = 0
      · have q := cntK (b := 1 + mix ns (0 + 1) % 5) (by have := n0 (0 + 1); omega) (by omega)
        refine xss_cons (xs_asg (XV.is (xv_call D__law_model (hr.mono (by decide)) tk (xa_cons (xv_var 0) (xa_cons xv_int xa_nil)) (⟨ns, 0, rfl, by decide, rfl⟩)) (by unfold modelD; rw [if_pos h0])) (xg_tup rfl (xgs_cons (xg_name 1 nd) (xgs_cons (xg_name 2 nd) (xgs_cons (xg_name 3 nd) (xgs_cons (xg_name 4 nd) xgs_nil)))))) ?_
        exact main D.int _ 0 pop [2, 0] 0 q.1 (by decide) (fun st => .inl ⟨st, rfl, rfl⟩) (fun h => by cases h) (fun _ h => q.2 h)
      · by_cases h1 : mix ns 0 % 3 = 1
        · have q := queK (m := 1 + mix ns (0 + 1) % 8) (by have := n0 (0 + 1); omega) (by omega)
          refine xss_cons (xs_asg (XV.is (xv_call D__law_model (hr.mono (by decide)) tk (xa_cons (xv_var 0) (xa_cons xv_int xa_nil)) (⟨ns, 0, rfl, by decide, rfl⟩)) (by unfold modelD; rw [if_neg h0, if_pos h1])) (xg_tup rfl (xgs_cons (xg_name 1 nd) (xgs_cons (xg_name 2 nd) (xgs_cons (xg_name 3 nd) (xgs_cons (xg_name 4 nd) xgs_nil)))))) ?_
          exact main eF _ (0, 0) mostQ [3, 1] 1 q.1 (by decide) (fun st => .inr (.inl ⟨st, rfl, rfl⟩)) (fun _ h => q.2 h) (fun h => by cases h)
        · have q := shlK (m := 1 + mix ns (0 + 1) % 12) (g := 2 + mix ns (0 + 1) / 16 % 3) (by have := n0 (0 + 1); omega) (by omega) (by have := n0 (0 + 1); omega) (by omega)
          refine xss_cons (xs_asg (XV.is (xv_call D__law_model (hr.mono (by decide)) tk (xa_cons (xv_var 0) (xa_cons xv_int xa_nil)) (⟨ns, 0, rfl, by decide, rfl⟩)) (by unfold modelD; rw [if_neg h0, if_neg h1])) (xg_tup rfl (xgs_cons (xg_name 1 nd) (xgs_cons (xg_name 2 nd) (xgs_cons (xg_name 3 nd) (xgs_cons (xg_name 4 nd) xgs_nil)))))) ?_
          exact main eF _ (0, 1) mostS [3, 1] 2 q (by decide) (fun st => .inr (.inr ⟨st, rfl, rfl⟩)) (fun h => by cases h) (fun h => by cases h)
    intro α _ e mv s fm pr wy K0 ho hmost hrow1 hrow0
    obtain ⟨W, hW, I, hz, hle⟩ := least_known K0.good ho K0.pays K0.z K0.nn
    have hpb := K0.pb
    have hg : goodM (runR mv s).1.length 2 (isrt (runR mv s).2) = true := K0.good
    obtain ⟨p1, _⟩ := goodM_d hg
    have hWl := I.len
    generalize hR : runR mv s = R at *
    have hpl : pr.length = 2 := by have := (okPr_d ho).1; omega
    have hLP : F_least_purse cM cP [eMR R, .lst (pr.map .int)] (.ok (.tup [.str "purse", .lst (W.map .int)])) := ⟨_, _, _, pr, rfl, by omega, by unfold leastR; rw [hg, if_pos rfl, ho, if_pos rfl]; exact congrArg Res.ok hW.symm⟩
    refine xss_cons (xs_asg (xv_call D_least_purse (hr.mono (by decide)) tk (xa_cons (xv_var 2) (xa_cons (xv_var 4) xa_nil)) (hLP)) (xg_tup rfl (xgs_cons (xg_name 5 nd) (xgs_cons (xg_name 6 nd) xgs_nil)))) ?_
    have hP1 : F_pays cM cP [eMR R, .lst (pr.map .int), .lst (W.map .int)] (.ok (.bl true)) := ⟨_, _, _, pr, W, rfl, by omega, by omega, by unfold paysR; rw [hg, if_pos rfl, ho, if_pos rfl]; exact congrArg (fun b => Res.ok (D.bl b)) (paysB_true hg I hz).symm⟩
    have hP2 : F_pays cM cP [eMR R, .lst (pr.map .int), .lst ((R.1.map fm).map .int)] (.ok (.bl true)) := ⟨_, _, _, pr, R.1.map fm, rfl, by omega, by rw [List.length_map]; omega, by unfold paysR; rw [hg, if_pos rfl, ho, if_pos rfl]; exact congrArg (fun b => Res.ok (D.bl b)) hpb.symm⟩
    refine xss_no0 (XT.is ((xw_or (xt_ne hu ((xv_var 5)).br (xv_str).br (okE_purse) (okE_purse)) (fun hk => (xw_and1 (xt_not (xt_val (xv_call D_pays (hr.mono (by decide)) tk (xa_cons (xv_var 2) (xa_cons (xv_var 4) (xa_cons (xv_var 6) xa_nil))) (hP1)))))))).t (by rw [eqD_refl okE_purse]; rfl)) ?_
    have e1 : (R.1.map fun st => D.int (fm st)) = (R.1.map fm).map .int := by rw [List.map_map]; rfl
    refine xss_cons (xs_own 7 nd (xl_lc [("_law_state", 8)] rfl nd (xi_list (xv_var 3)) (blkOk_by (own := [("_law_state", 8)]) (N := N_law) (sc := defScope s_law) (by decide +kernel)) ((lc_map (f := e) (g := fun st => D.int (fm st)) R.1 fun x_1 hx_1 => ⟨_, (fun _ _ _ _ _ => (xgw_name 8 nd)), (fun _ _ _ _ _ => (xv_call D__law_most (hr.mono (by decide)) takes0 (xa_cons (xv_var 1) (xa_cons (xv_var 8) xa_nil)) (hmost x_1)))⟩).is e1) (by rw [List.length_map]; omega))) (XSs.freeze 7 ?_)
    have hBl : ((R.1.map fm).length : Int) = (R.1.length : Int) := by rw [List.length_map]
    have hlS : (R.1.map e).length = R.1.length := List.length_map _
    have hrg : ∀ x : Nat, x ∈ List.range (((R.1.map e).length : Nat) : Int).toNat → 0 ≤ (x : Int) ∧ (x : Int) < (R.1.length : Int) := fun x hx => by
      rw [hlS, Int.toNat_natCast] at hx
      have := List.mem_range.mp hx; omega
    have hanyE : D.lst ((List.range (((R.1.map e).length : Nat) : Int).toNat).map fun (x : Nat) => D.bl (decide (gI W (x : Int) > gI (R.1.map fm) (x : Int)))) = .lst (((List.range (((R.1.map e).length : Nat) : Int).toNat).map fun (x : Nat) => decide (gI W (x : Int) > gI (R.1.map fm) (x : Int))).map .bl) := by rw [List.map_map]; rfl
    have hanyT : (((List.range (((R.1.map e).length : Nat) : Int).toNat).map fun (x : Nat) => decide (gI W (x : Int) > gI (R.1.map fm) (x : Int))).any id) = false := by
      rw [List.any_map, List.any_eq_false]
      intro x hx
      have h := hrg x hx
      have := hle (x : Int) h.1 h.2
      show ¬ decide (gI W (x : Int) > gI (R.1.map fm) (x : Int)) = true
      rw [decide_eq_true_eq]; omega
    refine xss_no0 (XT.is ((xw_or (xt_not (xt_val (xv_call D_pays (hr.mono (by decide)) tk (xa_cons (xv_var 2) (xa_cons (xv_var 4) (xa_cons (xv_var 7) xa_nil))) (hP2)))) (fun hk => (xw_and1 (xt_val (xv_any rfl T.any ((xl_lc [("_law_k", 9)] rfl nd (xi_range T.range (xv_len T.len ((xv_var 3)).br) (by omega) (by omega)) (blkOk_by (own := [("_law_k", 9)]) (N := N_law) (sc := defScope s_law) (by decide +kernel)) (lc_map (f := fun (n : Nat) => D.int n) (g := fun (x : Nat) => D.bl (decide (gI W (x : Int) > gI (R.1.map fm) (x : Int)))) (List.range _) fun x hx => ⟨_, (fun _ _ _ _ _ => (xgw_name 9 nd)), (fun _ _ _ _ _ => (xv_gt ((xv_ix ((xv_var 6)).br ((xv_var 9)).br (ix_gI hWl (hrg x hx)))).br ((xv_ix ((xv_var 7)).br ((xv_var 9)).br (ix_gI hBl (hrg x hx)))).br))⟩) (by rw [rngD_F, rngF_len]; omega))).br (hanyE))))))).t (by rw [hanyT]; rfl)) ?_
    obtain ⟨w1, rest1, hD1, ok1⟩ := least_word hg (show okPr 2 [2, 1] = true by decide)
    obtain ⟨w2, rest2, hD2, ok2⟩ := least_word hg (show okPr 2 [1, 0] = true by decide)
    have hL1 : F_least_purse cM cP [eMR R, .lst [.int 2, .int 1]] (.ok (.tup (.str w1 :: rest1))) := ⟨_, _, _, [2, 1], rfl, by decide, by unfold leastR; rw [hg, if_pos rfl, show okPr 2 [2, 1] = true from by decide, if_pos rfl]; exact congrArg Res.ok hD1.symm⟩
    have hL2 : F_least_purse cM cP [eMR R, .lst [.int 1, .int 0]] (.ok (.tup (.str w2 :: rest2))) := ⟨_, _, _, [1, 0], rfl, by decide, by unfold leastR; rw [hg, if_pos rfl, show okPr 2 [1, 0] = true from by decide, if_pos rfl]; exact congrArg Res.ok hD2.symm⟩
    have hc1 : (decide (wy = 1) && (decide ((((R.1.map e).length : Nat) : Int) > 3) && !eqD (.str w1) (.str "row"))) = false := by
      rw [hlS]
      by_cases a : wy = 1
      · by_cases b : (R.1.length : Int) > 3
        · obtain ⟨_, _, _, q⟩ := rowK_d (R := R) hg (by decide) (hrow1 a (by omega))
          rw [hD1] at q
          injection q with q
          injection q with q1 q2
          rw [q1, eqD_refl okE_row, Bool.not_true, Bool.and_false, Bool.and_false]
        · rw [decide_eq_false b, Bool.false_and, Bool.and_false]
      · rw [decide_eq_false a, Bool.false_and]
    have hc2 : (decide (wy = 0) && (decide ((((R.1.map e).length : Nat) : Int) > 2) && !eqD (.str w2) (.str "row"))) = false := by
      rw [hlS]
      by_cases a : wy = 0
      · by_cases b : (R.1.length : Int) > 2
        · obtain ⟨_, _, _, q⟩ := rowK_d (R := R) hg (by decide) (hrow0 a (by omega))
          rw [hD2] at q
          injection q with q
          injection q with q1 q2
          rw [q1, eqD_refl okE_row, Bool.not_true, Bool.and_false, Bool.and_false]
        · rw [decide_eq_false b, Bool.false_and, Bool.and_false]
      · rw [decide_eq_false a, Bool.false_and]
    refine xss_no0 (XT.is ((xw_and (xt_eqI ((xv_var 1)).br (xv_int).br) (fun hk => (xw_and (xt_gt ((xv_len T.len ((xv_var 3)).br)).br (xv_int).br) (fun hk => (xw_and1 (xt_ne hu ((xv_ix ((xv_call D_least_purse (hr.mono (by decide)) tk (xa_cons (xv_var 2) (xa_cons ((xl_lst (xa_cons xv_int (xa_cons xv_int xa_nil)))).v xa_nil)) (hL1))).br (xv_int).br (ix_0t))).br (xv_str).br (ok1) (okE_row)))))))).t (hc1)) ?_
    refine xss_no0 (XT.is ((xw_and (xt_eqI ((xv_var 1)).br (xv_int).br) (fun hk => (xw_and (xt_gt ((xv_len T.len ((xv_var 3)).br)).br (xv_int).br) (fun hk => (xw_and1 (xt_ne hu ((xv_ix ((xv_call D_least_purse (hr.mono (by decide)) tk (xa_cons (xv_var 2) (xa_cons ((xl_lst (xa_cons xv_int (xa_cons xv_int xa_nil)))).v xa_nil)) (hL2))).br (xv_int).br (ix_0t))).br (xv_str).br (ok2) (okE_row)))))))).t (hc2)) ?_
    by_cases h9 : mix ns 9 % 4 > 0
    · exact xss_yesS (XT.is (xt_gt ((xv_mod ((xv_call D__law_mix (hr.mono (by decide)) tk (xa_cons (xv_var 0) (xa_cons xv_int xa_nil)) (by exact ⟨_, _, rfl, rfl⟩))).br (xv_int).br (by first | omega | decide | (simp only [List.length_cons]; omega)))).br (xv_int).br) (decide_eq_true h9)) (xss_ret xv_bl)
    refine xss_no0 (XT.is (xt_gt ((xv_mod ((xv_call D__law_mix (hr.mono (by decide)) tk (xa_cons (xv_var 0) (xa_cons xv_int xa_nil)) (by exact ⟨_, _, rfl, rfl⟩))).br (xv_int).br (by first | omega | decide | (simp only [List.length_cons]; omega)))).br (xv_int).br) (decide_eq_false h9)) ?_
    clear hc1 hc2 hL1 hL2 hD1 hD2 hanyE hanyT hrg e1 hP1 hP2 hLP
    have g5 := n0 5
    have g6 := n0 6
    have qa := (queK (m := 1 + mix ns 5 % 3) (by omega) (by omega)).1
    have qb := (cntK (b := 1 + mix ns 6 % 3) (by omega) (by omega)).1
    have qc := besK_all ⟨(mix ns 5 % 3).toNat, by omega⟩ ⟨(mix ns 6 % 3).toNat, by omega⟩
    rw [show (((mix ns 5 % 3).toNat : Nat) : Int) + 1 = 1 + mix ns 5 % 3 by omega, show (((mix ns 6 % 3).toNat : Nat) : Int) + 1 = 1 + mix ns 6 % 3 by omega] at qc
    have hQ : F_queue cO [.int (1 + mix ns 5 % 3)] (.ok (modD eF (runR (queMv (1 + mix ns 5 % 3)) (0, 0)))) := ⟨_, rfl, .inr ⟨by simp only [okQue, Bool.and_eq_true, decide_eq_true_eq]; omega, _, qa.run, qa.good, rfl⟩⟩
    have hC : F_counter cO [.int (1 + mix ns 6 % 3), .bl false] (.ok (modD D.int (runR (cntMv (1 + mix ns 6 % 3) false) 0))) := ⟨_, _, rfl, .inr ⟨by simp only [okCnt, Bool.and_eq_true, decide_eq_true_eq]; omega, _, qb.run, qb.good, rfl⟩⟩
    obtain ⟨W1, hW1, I1, hz1, _⟩ := least_known qa.good (show okPr 2 [3, 1] = true by decide) qa.pays qa.z qa.nn
    obtain ⟨W2, hW2, I2, hz2, _⟩ := least_known qb.good (show okPr 2 [2, 0] = true by decide) qb.pays qb.z qb.nn
    have ga := qa.good
    have gb := qb.good
    clear qa qb
    generalize runR (queMv (1 + mix ns 5 % 3)) (0, 0) = R1 at *
    generalize runR (cntMv (1 + mix ns 6 % 3) false) 0 = R2 at *
    simp only [Bool.and_eq_true, decide_eq_true_eq] at qc
    obtain ⟨⟨ra, rb⟩, gab, hsm⟩ := qc
    have ga' : goodM R1.1.length 2 (isrt R1.2) = true := ga
    have gb' : goodM R2.1.length 2 (isrt R2.2) = true := gb
    obtain ⟨pa, _⟩ := goodM_d ga'
    obtain ⟨pb, _⟩ := goodM_d gb'
    refine xss_cons (xs_own 10 nd (xl_lst (xa_cons (xv_ix ((xv_call D_queue (hr.mono (by decide)) tk (xa_cons (xv_add (xv_int).br ((xv_mod ((xv_call D__law_mix (hr.mono (by decide)) tk (xa_cons (xv_var 0) (xa_cons xv_int xa_nil)) (by exact ⟨_, _, rfl, rfl⟩))).br (xv_int).br (by first | omega | decide | (simp only [List.length_cons]; omega)))).br) xa_nil) (hQ))).br (xv_int).br (rfl)) (xa_cons (xv_ix ((xv_call D_counter (hr.mono (by decide)) tk (xa_cons (xv_add (xv_int).br ((xv_mod ((xv_call D__law_mix (hr.mono (by decide)) tk (xa_cons (xv_var 0) (xa_cons xv_int xa_nil)) (by exact ⟨_, _, rfl, rfl⟩))).br (xv_int).br (by first | omega | decide | (simp only [List.length_cons]; omega)))).br) (xa_cons xv_bl xa_nil)) (hC))).br (xv_int).br (rfl)) xa_nil)))) (XSs.freeze 10 ?_)
    have hL1 : F_least_purse cM cP [eMach R1.1.length 2 (isrt R1.2), .lst [.int 3, .int 1]] (.ok (.tup [.str "purse", .lst (W1.map .int)])) := ⟨_, _, _, [3, 1], rfl, by decide, by unfold leastR; rw [ga', if_pos rfl, show okPr 2 [3, 1] = true from by decide, if_pos rfl]; exact congrArg Res.ok hW1.symm⟩
    have hL2 : F_least_purse cM cP [eMach R2.1.length 2 (isrt R2.2), .lst [.int 2, .int 0]] (.ok (.tup [.str "purse", .lst (W2.map .int)])) := ⟨_, _, _, [2, 0], rfl, by decide, by unfold leastR; rw [gb', if_pos rfl, show okPr 2 [2, 0] = true from by decide, if_pos rfl]; exact congrArg Res.ok hW2.symm⟩
    refine xss_cons (xs_set 11 nd (xv_ix ((xv_call D_least_purse (hr.mono (by decide)) tk (xa_cons (xv_ix ((xv_var 10)).br (xv_int).br (rfl)) (xa_cons ((xl_lst (xa_cons xv_int (xa_cons xv_int xa_nil)))).v xa_nil)) (hL1))).br (xv_int).br (rfl))) (xss_cons (xs_set 12 nd (xv_ix ((xv_call D_least_purse (hr.mono (by decide)) tk (xa_cons (xv_ix ((xv_var 10)).br (xv_int).br (rfl)) (xa_cons ((xl_lst (xa_cons xv_int (xa_cons xv_int xa_nil)))).v xa_nil)) (hL2))).br (xv_int).br (rfl))) ?_)
    have hl1 := I1.len
    have hl2 := I2.len
    obtain ⟨hpay, hnn, huniq⟩ := sums_known ga' gb' gab rfl rfl (reachK_d ga ra) (reachK_d gb rb) I1 I2
    have hz0 : gI (sumsM W1 W2) 0 = 0 := by
      have q := sums_gI hl2 hl1 (i := 0) (j := 0) (by omega) (by omega)
      rw [show (0 : Int) * (R2.1.length : Int) + 0 = 0 by omega] at q
      have a1 := I1.pos 0 (by decide) (by omega)
      have a2 := I2.pos 0 (by decide) (by omega)
      omega
    have oP : okPr (2 + 2) ([3, 1] ++ [2, 0]) = true := by decide
    obtain ⟨V, hV, IV, _, _⟩ := least_known gab oP hpay hz0 hnn
    have eV := huniq V IV
    rw [eV] at hV
    have hB : F_beside cM [eMach R1.1.length 2 (isrt R1.2), eMach R2.1.length 2 (isrt R2.2)] (.ok (eMach ((R1.1.length : Int) * (R2.1.length : Int)) (2 + 2) (bDs R1.1.length 2 (isrt R1.2) R2.1.length (isrt R2.2)))) := ⟨_, _, _, _, _, _, rfl, hsm, by unfold besR besideM; rw [ga', gb', gab]; rfl⟩
    have hL3 : F_least_purse cM cP [eMach ((R1.1.length : Int) * (R2.1.length : Int)) (2 + 2) (bDs R1.1.length 2 (isrt R1.2) R2.1.length (isrt R2.2)), .lst [.int 3, .int 1, .int 2, .int 0]] (.ok (.tup [.str "purse", .lst ((sumsM W1 W2).map .int)])) := ⟨_, _, _, [3, 1, 2, 0], rfl, by decide, by unfold leastR; rw [gab, if_pos rfl, show okPr (2 + 2) [3, 1, 2, 0] = true from by decide, if_pos rfl]; exact congrArg Res.ok hV.symm⟩
    refine xss_cons (xs_asg (xv_call D_least_purse (hr.mono (by decide)) tk (xa_cons (xv_call D_beside (hr.mono (by decide)) tk (xa_cons (xv_ix ((xv_var 10)).br (xv_int).br (rfl)) (xa_cons (xv_ix ((xv_var 10)).br (xv_int).br (rfl)) xa_nil)) (hB)) (xa_cons ((xl_lst (xa_cons xv_int (xa_cons xv_int (xa_cons xv_int (xa_cons xv_int xa_nil)))))).v xa_nil)) (hL3)) (xg_tup rfl (xgs_cons (xg_name 5 nd) (xgs_cons (xg_name 13 nd) xgs_nil)))) ?_
    have hS : F_law_sums [.lst (W1.map .int), .lst (W2.map .int)] (.ok (.lst ((sumsM W1 W2).map .int))) := ⟨W1, W2, rfl, by have := Nat.mul_le_mul (show W1.length ≤ 200 by omega) (show W2.length ≤ 200 by omega); omega, by omega, rfl⟩
    refine xss_ret (XV.is (xv_and (xv_eq hu ((xv_var 5)).br (xv_str).br (okE_purse) (okE_purse)) (fun hk => (xv_one (xv_eq hu ((xv_var 13)).br ((xv_call D__law_sums (hr.mono (by decide)) tk (xa_cons (xv_var 11) (xa_cons (xv_var 12) xa_nil)) (hS))).br ((okN_ints _).e) ((okN_ints _).e))))) ?_)
    rw [eqD_refl okE_purse, eqD_refl (okN_ints _).e]
    rfl

theorem all_mk {P : Program} {w : World} {K : Fg} {mg : Str → Option Value} {fa : Addr} {a_Gains : Addr} {a_Numbering : Addr} {a_BadMachine : Addr} {a_BadPrices : Addr} {a_BadModel : Addr} 
    (TX : Tx K mg ∧ mg "ValueError" = none)
    (c_MOST_PLACES : ∃ t, mg "MOST_PLACES" = some (.int 200 t))
    (c_MOST_DEEDS : ∃ t, mg "MOST_DEEDS" = some (.int 600 t))
    (c_MOST_KINDS : ∃ t, mg "MOST_KINDS" = some (.int 8 t))
    (c_MOST_COST : ∃ t, mg "MOST_COST" = some (.int 1000 t))
    (c_MOST_PRICE : ∃ t, mg "MOST_PRICE" = some (.int 1000 t))
    (c_MOST_ITEMS : ∃ t, mg "MOST_ITEMS" = some (.int 30 t))
    (c_MOST_BITS : ∃ t, mg "MOST_BITS" = some (.int 6 t))
    (EC_BadMachine : EC K mg "BadMachine" a_BadMachine)
    (EC_BadPrices : EC K mg "BadPrices" a_BadPrices)
    (EC_BadModel : EC K mg "BadModel" a_BadModel)
    (KN_Gains : Cn K mg "Gains" "Gains.__init__" a_Gains s_Gains___init__ P_Gains___init__)
    (n_Gains_whole : NoAttr K a_Gains "whole")
    (n_Gains_some : NoAttr K a_Gains "some")
    (n_Gains_numbers : NoAttr K a_Gains "numbers")
    (U_Gains_wanted : Mn K a_Gains "wanted" "Gains.wanted" s_Gains_wanted P_Gains_wanted)
    (U_Gains_tight : Mn K a_Gains "tight" "Gains.tight" s_Gains_tight P_Gains_tight)
    (U_Gains_way_to : Mn K a_Gains "way_to" "Gains.way_to" s_Gains_way_to P_Gains_way_to)
    (U_Gains_ring : Mn K a_Gains "ring" "Gains.ring" s_Gains_ring P_Gains_ring)
    (KN_Numbering : Cn K mg "Numbering" "Numbering.__init__" a_Numbering s_Numbering___init__ P_Numbering___init__)
    (n_Numbering_states : NoAttr K a_Numbering "states")
    (n_Numbering_deeds : NoAttr K a_Numbering "deeds")
    (U_Numbering_add : Mn K a_Numbering "add" "Numbering.add" s_Numbering_add P_Numbering_add)
    (U_Numbering_machine : Mn K a_Numbering "machine" "Numbering.machine" s_Numbering_machine P_Numbering_machine)
    (U_look_machine : Dn K mg "look_machine" s_look_machine P_look_machine)
    (U_reached : Dn K mg "reached" s_reached P_reached)
    (U_beside : Dn K mg "beside" s_beside P_beside)
    (U_look_prices : Dn K mg "look_prices" s_look_prices P_look_prices)
    (U_pays : Dn K mg "pays" s_pays P_pays)
    (U_least_purse : Dn K mg "least_purse" s_least_purse P_least_purse)
    (U_shelf : Dn K mg "shelf" s_shelf P_shelf)
    (U_turned_bits : Dn K mg "turned_bits" s_turned_bits P_turned_bits)
    (U_counter : Dn K mg "counter" s_counter P_counter)
    (U_queue : Dn K mg "queue" s_queue P_queue)
    (U__law_cell : Dn K mg "_law_cell" s_law_cell P_law_cell)
    (U__law_mix : Dn K mg "_law_mix" s_law_mix P_law_mix)
    (U__law_most : Dn K mg "_law_most" s_law_most P_law_most)
    (U__law_model : Dn K mg "_law_model" s_law_model P_law_model)
    (U__law_sums : Dn K mg "_law_sums" s_law_sums P_law_sums)
    (L : Dl K s_law fa) :
    ∃ fd : FuncData, (∀ (s : Shared) (v : Value), BindsTo s fd ⟨[v], []⟩ [("_law_script", v)]) ∧ ∀ base : Heap, K.In base → base.Ns mainGlobals mg → FnOk P w K mg base (L2.CX P w) 9 fa fd P_law (spF K F_law) := by
  obtain ⟨fd, UL, hb⟩ := L.ex
  obtain ⟨T, hVE⟩ := TX
  refine ⟨fd, hb, fun base _ _ => ?_⟩
  have K_Gains : Kc_Gains K a_Gains := ⟨KN_Gains.cl, n_Gains_whole, n_Gains_some, n_Gains_numbers⟩
  have K_Numbering : Kc_Numbering K a_Numbering := ⟨KN_Numbering.cl, n_Numbering_states, n_Numbering_deeds⟩
  have D_look_machine := df_look_machine (P := P) (w := w) (base := base) T U_look_machine EC_BadMachine c_MOST_PLACES c_MOST_DEEDS c_MOST_KINDS c_MOST_COST
  have D_reached := df_reached T U_reached D_look_machine
  have D_Gains := dc_Gains T K_Gains KN_Gains D_reached
  have D_Gains_wanted := dm_Gains_wanted (P := P) (w := w) (base := base) T K_Gains U_Gains_wanted
  have D_Gains_ring := dm_Gains_ring (P := P) (w := w) (base := base) T K_Gains U_Gains_ring
  have D_Gains_tight := dm_Gains_tight (P := P) (w := w) (base := base) T K_Gains U_Gains_tight
  have D_Gains_way_to := dm_Gains_way_to (P := P) (w := w) (base := base) T K_Gains U_Gains_way_to
  have D_look_prices := df_look_prices T U_look_prices EC_BadPrices c_MOST_PRICE D_look_machine
  have D_pays := df_pays T U_pays D_look_prices D_reached
  have D_least_purse := df_least_purse T K_Gains U_least_purse D_look_prices D_Gains D_Gains_wanted D_Gains_ring D_Gains_tight D_Gains_way_to
  have D_Numbering := dc_Numbering (P := P) (w := w) (base := base) T K_Numbering KN_Numbering
  have D_Numbering_add := do_Numbering_add (P := P) (w := w) (base := base) T K_Numbering U_Numbering_add
  have D_Numbering_machine := do_Numbering_machine (P := P) (w := w) (base := base) T K_Numbering U_Numbering_machine
  have D_turned_bits := df_turned_bits (P := P) (w := w) (base := base) T U_turned_bits
  have D_shelf := df_shelf T K_Numbering U_shelf EC_BadModel c_MOST_ITEMS D_Numbering D_Numbering_add D_Numbering_machine
  have D_counter := df_counter T K_Numbering U_counter EC_BadModel c_MOST_BITS D_turned_bits D_Numbering D_Numbering_add D_Numbering_machine
  have D_queue := df_queue T K_Numbering U_queue EC_BadModel c_MOST_ITEMS D_Numbering D_Numbering_add D_Numbering_machine
  have D_beside := df_beside T U_beside D_look_machine
  have D__law_cell := df_law_cell (P := P) (w := w) (base := base) T U__law_cell
  have D__law_mix := df_law_mix T U__law_mix D__law_cell
  have D__law_most := df_law_most (P := P) (w := w) (base := base) T U__law_most
  have D__law_sums := df_law_sums (P := P) (w := w) (base := base) T U__law_sums
  have D__law_model := df_law_model T U__law_model D__law_mix D_shelf D_counter D_queue
  exact ok_law T UL D__law_mix D__law_model D__law_most D__law_sums D_least_purse D_pays D_beside D_queue D_counter

end Prog
open PySem PySem.W PyProof.Rows
theorem PySem.Challenge.cw_pursehall_k31_whole_known_purses_holds : PySem.Challenge.rw_pursehall_k31_whole_known_purses.Holds := by
  w_on; o_law; k_head; (case hw => w_witness2)
  k_fill
  refine Lay.walk_F (l := PySem.Challenge.rw_pursehall_k31_whole_known_purses) 9 rfl rfl ⟨rfl, by decide, by decide⟩ (fun w h Y => PySem.W.kIn_of Y) ?F
  case F =>
    intro w mg fa h KX G hmg
    open Lay in
    refine' Prog.all_mk ?TX ?c_MOST_PLACES ?c_MOST_DEEDS ?c_MOST_KINDS ?c_MOST_COST ?c_MOST_PRICE ?c_MOST_ITEMS ?c_MOST_BITS ?EC_BadMachine ?EC_BadPrices ?EC_BadModel ?KN_Gains ?n_Gains_whole ?n_Gains_some ?n_Gains_numbers ?U_Gains_wanted ?U_Gains_tight ?U_Gains_way_to ?U_Gains_ring ?KN_Numbering ?n_Numbering_states ?n_Numbering_deeds ?U_Numbering_add ?U_Numbering_machine ?U_look_machine ?U_reached ?U_beside ?U_look_prices ?U_pays ?U_least_purse ?U_shelf ?U_turned_bits ?U_counter ?U_queue ?U__law_cell ?U__law_mix ?U__law_most ?U__law_model ?U__law_sums ?L
    open Lay in
    (case TX => refine' tx_mk KX G ?yz0 ?yz1 ?yz2 ?yz3 ?yz4 ?yz5 ?yz6 ?yz7 ?yz8 ?yz9 ?yz10 ?yz11 ?yz12 ?yz13 ?yz14 ?yz15; (case yz0 => k_is); (case yz1 => k_is); (case yz2 => k_is); (case yz3 => k_is); (case yz4 => k_is); (case yz5 => k_is); (case yz6 => k_is); (case yz7 => k_is); (case yz8 => k_is); (case yz9 => k_is); (case yz10 => k_is); (case yz11 => k_is); (case yz12 => k_is); (case yz13 => k_is); (case yz14 => k_is); (case yz15 => k_is))
    open Lay in
    (case c_MOST_PLACES => refine' c_mk KX G ?ya; (case ya => k_is))
    open Lay in
    (case c_MOST_DEEDS => refine' c_mk KX G ?ya; (case ya => k_is))
    open Lay in
    (case c_MOST_KINDS => refine' c_mk KX G ?ya; (case ya => k_is))
    open Lay in
    (case c_MOST_COST => refine' c_mk KX G ?ya; (case ya => k_is))
    open Lay in
    (case c_MOST_PRICE => refine' c_mk KX G ?ya; (case ya => k_is))
    open Lay in
    (case c_MOST_ITEMS => refine' c_mk KX G ?ya; (case ya => k_is))
    open Lay in
    (case c_MOST_BITS => refine' c_mk KX G ?ya; (case ya => k_is))
    open Lay in
    (case EC_BadMachine => refine' ec_mk KX G ?ya ?yq ?ykp ?yb ?yt; (case ya => k_is); (case yq => k_exc); (case ykp => k_is); (case yb => k_is); (case yt => k_is))
    open Lay in
    (case EC_BadPrices => refine' ec_mk KX G ?ya ?yq ?ykp ?yb ?yt; (case ya => k_is); (case yq => k_exc); (case ykp => k_is); (case yb => k_is); (case yt => k_is))
    open Lay in
    (case EC_BadModel => refine' ec_mk KX G ?ya ?yq ?ykp ?yb ?yt; (case ya => k_is); (case yq => k_exc); (case ykp => k_is); (case yb => k_is); (case yt => k_is))
    open Lay in
    (case KN_Gains => refine' cn_mk KX G ?yaC ?ya ?yi ?yl ?yc ?yk (fun _ _ _ _ _ _ us hl => match us, hl with | [_, _, _], _ => rfl) ?ypg ?yhd ?ypo ?ysa ?ymk ?ykc; (case yaC => k_is); (case ya => k_is); (case yi => k_is); (case yl => k_is); (case yc => k_is); (case yk => k_is); (case ypg => k_is); (case yhd => k_is); (case ypo => k_is); (case ysa => k_is); (case ymk => k_is); (case ykc => k_is))
    open Lay in
    (case n_Gains_whole => refine' na_mk ?ya; (case ya => k_is))
    open Lay in
    (case n_Gains_some => refine' na_mk ?ya; (case ya => k_is))
    open Lay in
    (case n_Gains_numbers => refine' na_mk ?ya; (case ya => k_is))
    open Lay in
    (case U_Gains_wanted => refine' mn_mk ?ya ?yi ?yl ?yc ?yk (fun _ _ _ _ _ _ us hl => match us, hl with | [_], _ => rfl); (case ya => k_is); (case yi => k_is); (case yl => k_is); (case yc => k_is); (case yk => k_is))
    open Lay in
    (case U_Gains_tight => refine' mn_mk ?ya ?yi ?yl ?yc ?yk (fun _ _ _ _ _ _ us hl => match us, hl with | [_, _], _ => rfl); (case ya => k_is); (case yi => k_is); (case yl => k_is); (case yc => k_is); (case yk => k_is))
    open Lay in
    (case U_Gains_way_to => refine' mn_mk ?ya ?yi ?yl ?yc ?yk (fun _ _ _ _ _ _ us hl => match us, hl with | [_, _], _ => rfl); (case ya => k_is); (case yi => k_is); (case yl => k_is); (case yc => k_is); (case yk => k_is))
    open Lay in
    (case U_Gains_ring => refine' mn_mk ?ya ?yi ?yl ?yc ?yk (fun _ _ _ _ _ _ us hl => match us, hl with | [_], _ => rfl); (case ya => k_is); (case yi => k_is); (case yl => k_is); (case yc => k_is); (case yk => k_is))
    open Lay in
    (case KN_Numbering => refine' cn_mk KX G ?yaC ?ya ?yi ?yl ?yc ?yk (fun _ _ _ _ _ _ us hl => match us, hl with | [_, _], _ => rfl) ?ypg ?yhd ?ypo ?ysa ?ymk ?ykc; (case yaC => k_is); (case ya => k_is); (case yi => k_is); (case yl => k_is); (case yc => k_is); (case yk => k_is); (case ypg => k_is); (case yhd => k_is); (case ypo => k_is); (case ysa => k_is); (case ymk => k_is); (case ykc => k_is))
    open Lay in
    (case n_Numbering_states => refine' na_mk ?ya; (case ya => k_is))
    open Lay in
    (case n_Numbering_deeds => refine' na_mk ?ya; (case ya => k_is))
    open Lay in
    (case U_Numbering_add => refine' mn_mk ?ya ?yi ?yl ?yc ?yk (fun _ _ _ _ _ _ us hl => match us, hl with | [_, _, _, _, _], _ => rfl); (case ya => k_is); (case yi => k_is); (case yl => k_is); (case yc => k_is); (case yk => k_is))
    open Lay in
    (case U_Numbering_machine => refine' mn_mk ?ya ?yi ?yl ?yc ?yk (fun _ _ _ _ _ _ us hl => match us, hl with | [_, _], _ => rfl); (case ya => k_is); (case yi => k_is); (case yl => k_is); (case yc => k_is); (case yk => k_is))
    open Lay in
    (case U_look_machine => refine' dn_mk KX G ?ya ?yl ?yc ?yk (fun _ _ _ _ _ _ us hl => match us, hl with | [_], _ => rfl); (case ya => k_is); (case yl => k_is); (case yc => k_is); (case yk => k_is))
    open Lay in
    (case U_reached => refine' dn_mk KX G ?ya ?yl ?yc ?yk (fun _ _ _ _ _ _ us hl => match us, hl with | [_], _ => rfl); (case ya => k_is); (case yl => k_is); (case yc => k_is); (case yk => k_is))
    open Lay in
    (case U_beside => refine' dn_mk KX G ?ya ?yl ?yc ?yk (fun _ _ _ _ _ _ us hl => match us, hl with | [_, _], _ => rfl); (case ya => k_is); (case yl => k_is); (case yc => k_is); (case yk => k_is))
    open Lay in
    (case U_look_prices => refine' dn_mk KX G ?ya ?yl ?yc ?yk (fun _ _ _ _ _ _ us hl => match us, hl with | [_, _], _ => rfl); (case ya => k_is); (case yl => k_is); (case yc => k_is); (case yk => k_is))
    open Lay in
    (case U_pays => refine' dn_mk KX G ?ya ?yl ?yc ?yk (fun _ _ _ _ _ _ us hl => match us, hl with | [_, _, _], _ => rfl); (case ya => k_is); (case yl => k_is); (case yc => k_is); (case yk => k_is))
    open Lay in
    (case U_least_purse => refine' dn_mk KX G ?ya ?yl ?yc ?yk (fun _ _ _ _ _ _ us hl => match us, hl with | [_, _], _ => rfl); (case ya => k_is); (case yl => k_is); (case yc => k_is); (case yk => k_is))
    open Lay in
    (case U_shelf => refine' dn_mk KX G ?ya ?yl ?yc ?yk (fun _ _ _ _ _ _ us hl => match us, hl with | [_, _, _], _ => rfl); (case ya => k_is); (case yl => k_is); (case yc => k_is); (case yk => k_is))
    open Lay in
    (case U_turned_bits => refine' dn_mk KX G ?ya ?yl ?yc ?yk (fun _ _ _ _ _ _ us hl => match us, hl with | [_, _], _ => rfl); (case ya => k_is); (case yl => k_is); (case yc => k_is); (case yk => k_is))
    open Lay in
    (case U_counter => refine' dn_mk KX G ?ya ?yl ?yc ?yk (fun _ _ _ _ _ _ us hl => match us, hl with | [_, _], _ => rfl); (case ya => k_is); (case yl => k_is); (case yc => k_is); (case yk => k_is))
    open Lay in
    (case U_queue => refine' dn_mk KX G ?ya ?yl ?yc ?yk (fun _ _ _ _ _ _ us hl => match us, hl with | [_], _ => rfl); (case ya => k_is); (case yl => k_is); (case yc => k_is); (case yk => k_is))
    open Lay in
    (case U__law_cell => refine' dn_mk KX G ?ya ?yl ?yc ?yk (fun _ _ _ _ _ _ us hl => match us, hl with | [_, _], _ => rfl); (case ya => k_is); (case yl => k_is); (case yc => k_is); (case yk => k_is))
    open Lay in
    (case U__law_mix => refine' dn_mk KX G ?ya ?yl ?yc ?yk (fun _ _ _ _ _ _ us hl => match us, hl with | [_, _], _ => rfl); (case ya => k_is); (case yl => k_is); (case yc => k_is); (case yk => k_is))
    open Lay in
    (case U__law_most => refine' dn_mk KX G ?ya ?yl ?yc ?yk (fun _ _ _ _ _ _ us hl => match us, hl with | [_, _], _ => rfl); (case ya => k_is); (case yl => k_is); (case yc => k_is); (case yk => k_is))
    open Lay in
    (case U__law_model => refine' dn_mk KX G ?ya ?yl ?yc ?yk (fun _ _ _ _ _ _ us hl => match us, hl with | [_, _], _ => rfl); (case ya => k_is); (case yl => k_is); (case yc => k_is); (case yk => k_is))
    open Lay in
    (case U__law_sums => refine' dn_mk KX G ?ya ?yl ?yc ?yk (fun _ _ _ _ _ _ us hl => match us, hl with | [_, _], _ => rfl); (case ya => k_is); (case yl => k_is); (case yc => k_is); (case yk => k_is))
    open Lay in
    (case L => refine' dl_mk KX G hmg ?ya ?yl ?yc ?yk (fun _ _ _ _ _ _ _ => rfl); (case ya => k_is); (case yl => k_is); (case yc => k_is); (case yk => k_is))
