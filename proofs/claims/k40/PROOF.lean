import PyProof.Rows.All
import Wide.All
import OpenK.AllK
import Wide.FinOn
import PyProof.EqAt
import PyProof.EqKinds
import PyProof.TupleCall
import HandS.ForMost
import HandS.ForExc
import HandS.IsInst
import HandS.TupAny
import HandS.TupMul
import HandS.Wide
import HandS.More
import HandS.Flow
import HandS.Deep
import HandS.TupSets
import HandS.ExcIs
import HandS.SetFor
import HandS.SortRule
import HandS.Style
import HandS.DeepEq
import HandS.Strs
import PySem.Challenge.RW_pursehall_k40_whole_lines_settled
set_option Elab.async false
set_option autoImplicit false
set_option linter.all false
set_option maxRecDepth 100000
set_option maxHeartbeats 4000000
/-! Lay1: data-level judgements over the hand layer: what stands in the slots, what an expression gives. -/
namespace Lay
open PySem L2
abbrev Fg := PySem.W.Frag

/-! ### growth -/
structure Gr (S H S' H' : Hp) : Prop where
  s : Same S S'
  h : Same H H'
  sh : Same S' H'
  old : ∀ a, H a ≠ none → S' a = S a
theorem Gr.refl {S H : Hp} (h : Same S H) : Gr S H S H := ⟨Same.refl _, Same.refl _, h, fun _ _ => rfl⟩
theorem nn_of {H : Hp} {a : Addr} {o : HO} (h : H a = some o) : H a ≠ none := by rw [h]; exact fun z => by cases z
theorem some_nn {H : Hp} {a : Addr} (h : H a ≠ none) : ∃ o, H a = some o := by
  cases e : H a with
  | none => exact absurd e h
  | some o => exact ⟨o, rfl⟩
theorem Same.nn {H H' : Hp} (k : Same H H') {a : Addr} (h : H a ≠ none) : H' a ≠ none := by
  obtain ⟨o, e⟩ := some_nn h
  rw [k _ _ e]; exact fun z => by cases z
theorem Gr.trans {S H S1 H1 S2 H2 : Hp} (a : Gr S H S1 H1) (b : Gr S1 H1 S2 H2) : Gr S H S2 H2 :=
  ⟨a.s.trans b.s, a.h.trans b.h, b.sh, fun x hx => (b.old x (Same.nn a.h hx)).trans (a.old x hx)⟩
theorem same_new {H : Hp} {p : Addr} {o : HO} (hp : H p = none) : Same H (upd H p o) := fun b u e => by
  rw [upd_ne (ne_of_none e hp)]; exact e
/-- a new object, frozen -/
theorem Gr.new {S H : Hp} {p : Addr} {o : HO} (h : Same S H) (hp : H p = none) : Gr S H (upd S p o) (upd H p o) := by
  have hs : S p = none := h.free hp
  refine ⟨same_new hs, same_new hp, fun b u e => ?_, fun b hb => ?_⟩
  · by_cases z : b = p
    · subst z; rw [upd_same] at e ⊢; exact e
    · rw [upd_ne z] at e ⊢; exact h _ _ e
  · have z : b ≠ p := fun z => hb (by rw [z]; exact hp)
    rw [upd_ne z]
/-- a new object, not frozen -/
theorem Gr.newH {S H : Hp} {p : Addr} {o : HO} (h : Same S H) (hp : H p = none) : Gr S H S (upd H p o) :=
  ⟨Same.refl _, same_new hp, h.trans (same_new hp), fun _ _ => rfl⟩
/-- an object that is new since H becomes frozen as it stands -/
theorem Gr.freeze {S H S' H' : Hp} {p : Addr} {o : HO} (g : Gr S H S' H') (hp : H p = none) (e : H' p = some o) (hs : S' p = none) : Gr S H (upd S' p o) H' := by
  refine ⟨fun b u q => ?_, g.h, fun b u q => ?_, fun b hb => ?_⟩
  · rw [upd_ne (fun z => by subst z; rw [g.s _ _ q] at hs; cases hs)]; exact g.s _ _ q
  · by_cases z : b = p
    · subst z; rw [upd_same] at q; cases q; exact e
    · rw [upd_ne z] at q; exact g.sh _ _ q
  · have z : b ≠ p := fun z => hb (by rw [z]; exact hp)
    rw [upd_ne z]; exact g.old b hb

theorem same_rd {S S' : Hp} (k : Same S S') {a : Addr} {u : HO} (h : Rd S a u) : Rd S' a u := by
  rcases h with h | ⟨o, h⟩
  · exact .inl (k _ _ h)
  · exact .inr ⟨o, k _ _ h⟩
theorem same_l {K : Fg} {S S' : Hp} (k : Same S S') {a : Addr} {xs : List V} (h : SqL K S a xs) : SqL K S' a xs := by
  rcases h with h | h
  · exact .inl (same_rd k h)
  · exact .inr h
theorem same_t {K : Fg} {S S' : Hp} (k : Same S S') {a : Addr} {xs : List V} (h : SqT K S a xs) : SqT K S' a xs := by
  rcases h with h | h
  · exact .inl (same_rd k h)
  · exact .inr h
/-- a caught exception of the class at c -/
def ExT (c a : Addr) : HO := .ext fun h => ∃ (oe : Obj) (vs : Array Value), h.get? a = some oe ∧ Zc (.ref c) none oe ∧ oe.data = .fields vs
/-- data: what a value is, told without the heap. scr: the law's script; exc: a caught exception of the class at c; ins: an instance that changes no more -/
inductive D where
  | non
  | bl (b : Bool)
  | int (i : Int)
  | str (x : Str)
  | lst (ds : List D)
  | tup (ds : List D)
  | scr (ns : List Int)
  | exc (c : Addr)
  | ins (C : Addr) (fs : List (Str × D))
mutual
inductive Rp (K : Fg) (S : Hp) : V → D → Prop where
  | non : Rp K S .non .non
  | bl (b : Bool) : Rp K S (.bl b) (.bl b)
  | int (i : Int) : Rp K S (.int i) (.int i)
  | str (x : Str) : Rp K S (.str x) (.str x)
  | lst {a : Addr} {xs : List V} {ds : List D} : S a = some (.lst xs) → RpA K S xs ds → Rp K S (.ref a) (.lst ds)
  | tup {a : Addr} {xs : List V} {ds : List D} : S a = some (.tup xs) → RpA K S xs ds → Rp K S (.ref a) (.tup ds)
  | scr {a : Addr} {ns : List Int} : SqL K S a (ns.map V.int) → Rp K S (.ref a) (.scr ns)
  | exc {a c : Addr} : S a = some (ExT c a) → Rp K S (.ref a) (.exc c)
  | ins {a C dx : Addr} {fv : List (Str × V)} {fs : List (Str × D)} : S a = some (.ins C dx fv) → RpF K S fv fs → Rp K S (.ref a) (.ins C fs)
inductive RpA (K : Fg) (S : Hp) : List V → List D → Prop where
  | nil : RpA K S [] []
  | cons {v : V} {d : D} {vs : List V} {ds : List D} : Rp K S v d → RpA K S vs ds → RpA K S (v :: vs) (d :: ds)
inductive RpF (K : Fg) (S : Hp) : List (Str × V) → List (Str × D) → Prop where
  | nil : RpF K S [] []
  | cons {n : Str} {v : V} {d : D} {vs : List (Str × V)} {ds : List (Str × D)} : Rp K S v d → RpF K S vs ds → RpF K S ((n, v) :: vs) ((n, d) :: ds)
end
mutual
theorem dp_same {K : Fg} {S S' : Hp} (k : Same S S') : ∀ {v : V} {d : D}, Rp K S v d → Rp K S' v d
  | _, _, .non => .non
  | _, _, .bl b => .bl b
  | _, _, .int i => .int i
  | _, _, .str x => .str x
  | _, _, .lst h a => .lst (k _ _ h) (da_same k a)
  | _, _, .tup h a => .tup (k _ _ h) (da_same k a)
  | _, _, .scr h => .scr (same_l k h)
  | _, _, .exc h => .exc (k _ _ h)
  | _, _, .ins h a => .ins (k _ _ h) (df_same k a)
theorem da_same {K : Fg} {S S' : Hp} (k : Same S S') : ∀ {vs : List V} {ds : List D}, RpA K S vs ds → RpA K S' vs ds
  | _, _, .nil => .nil
  | _, _, .cons h a => .cons (dp_same k h) (da_same k a)
theorem df_same {K : Fg} {S S' : Hp} (k : Same S S') : ∀ {vs : List (Str × V)} {ds : List (Str × D)}, RpF K S vs ds → RpF K S' vs ds
  | _, _, .nil => .nil
  | _, _, .cons h a => .cons (dp_same k h) (df_same k a)
end
theorem da_len {K : Fg} {S : Hp} : ∀ {vs : List V} {ds : List D}, RpA K S vs ds → vs.length = ds.length
  | _, _, .nil => rfl
  | _, _, .cons _ a => by simp only [List.length_cons, da_len a]
theorem da_get {K : Fg} {S : Hp} : ∀ {vs : List V} {ds : List D} {i : Nat} {d : D}, RpA K S vs ds → ds[i]? = some d → ∃ v, vs[i]? = some v ∧ Rp K S v d
  | _, _, _, _, .nil, e => by simp at e
  | _, _, 0, _, .cons h _, e => by simp at e; subst e; exact ⟨_, rfl, h⟩
  | _, _, i + 1, _, .cons _ a, e => by
    obtain ⟨v, h1, h2⟩ := da_get (i := i) a (by simpa using e)
    exact ⟨v, by simpa using h1, h2⟩
theorem da_get' {K : Fg} {S : Hp} {vs : List V} {ds : List D} {i : Nat} {v : V} (h : RpA K S vs ds) (e : vs[i]? = some v) : ∃ d, ds[i]? = some d ∧ Rp K S v d := by
  have hi : i < ds.length := by rw [← da_len h]; exact (List.getElem?_eq_some_iff.mp e).1
  obtain ⟨v', e', h'⟩ := da_get h (List.getElem?_eq_getElem hi)
  rw [e] at e'; cases e'
  exact ⟨_, List.getElem?_eq_getElem hi, h'⟩
theorem da_append {K : Fg} {S : Hp} : ∀ {vs ws : List V} {ds es : List D}, RpA K S vs ds → RpA K S ws es → RpA K S (vs ++ ws) (ds ++ es)
  | _, _, _, _, .nil, b => b
  | _, _, _, _, .cons h a, b => .cons h (da_append a b)
theorem da_one {K : Fg} {S : Hp} {v : V} {d : D} (h : Rp K S v d) : RpA K S [v] [d] := .cons h .nil
theorem da_set {K : Fg} {S : Hp} : ∀ {vs : List V} {ds : List D} {v : V} {d : D} (i : Nat), RpA K S vs ds → Rp K S v d → RpA K S (vs.set i v) (ds.set i d)
  | _, _, _, _, _, .nil, _ => .nil
  | _, _, _, _, 0, .cons _ a, h => .cons h a
  | _, _, _, _, i + 1, .cons q a, h => .cons q (da_set i a h)
theorem da_take {K : Fg} {S : Hp} : ∀ {vs : List V} {ds : List D} (n : Nat), RpA K S vs ds → RpA K S (vs.take n) (ds.take n)
  | _, _, 0, _ => by simp; exact .nil
  | _, _, _ + 1, .nil => .nil
  | _, _, n + 1, .cons h a => .cons h (da_take n a)
theorem da_drop {K : Fg} {S : Hp} : ∀ {vs : List V} {ds : List D} (n : Nat), RpA K S vs ds → RpA K S (vs.drop n) (ds.drop n)
  | _, _, 0, h => h
  | _, _, _ + 1, .nil => .nil
  | _, _, n + 1, .cons _ a => da_drop n a
theorem da_reverse {K : Fg} {S : Hp} : ∀ {vs : List V} {ds : List D}, RpA K S vs ds → RpA K S vs.reverse ds.reverse
  | _, _, .nil => .nil
  | _, _, .cons h a => by rw [List.reverse_cons, List.reverse_cons]; exact da_append (da_reverse a) (da_one h)
theorem da_dropLast {K : Fg} {S : Hp} {vs : List V} {ds : List D} (h : RpA K S vs ds) : RpA K S vs.dropLast ds.dropLast := by
  rw [List.dropLast_eq_take, List.dropLast_eq_take, da_len h]; exact da_take _ h
theorem da_insert {K : Fg} {S : Hp} {vs : List V} {ds : List D} {v : V} {d : D} (h : RpA K S vs ds) (q : Rp K S v d) : RpA K S (v :: vs) (d :: ds) := .cons q h
/-- flat lists -/
theorem da_ints {K : Fg} {S : Hp} : ∀ {vs : List V} {ns : List Int}, RpA K S vs (ns.map .int) → vs = ns.map V.int
  | _, [], h => by cases h; rfl
  | _, n :: ns, h => by
    cases h with
    | cons h a => cases h; rw [da_ints a]; rfl
theorem ints_da {K : Fg} {S : Hp} : ∀ (ns : List Int), RpA K S (ns.map V.int) (ns.map .int)
  | [] => .nil
  | n :: ns => .cons (.int n) (ints_da ns)
theorem da_bools {K : Fg} {S : Hp} : ∀ {vs : List V} {ns : List Bool}, RpA K S vs (ns.map .bl) → vs = ns.map V.bl
  | _, [], h => by cases h; rfl
  | _, n :: ns, h => by
    cases h with
    | cons h a => cases h; rw [da_bools a]; rfl
theorem bools_da {K : Fg} {S : Hp} : ∀ (ns : List Bool), RpA K S (ns.map V.bl) (ns.map .bl)
  | [] => .nil
  | n :: ns => .cons (.bl n) (bools_da ns)

/-! ### what stands in the slots -/
inductive FI where
  | fz (d : D)
  /-- an own list; oa: its address, where it is known -/
  | ow (oa : Option Addr) (ds : List D)
inductive It where
  /-- nothing known -/
  | no
  /-- data that will not change -/
  | fz (d : D)
  /-- a list of the frame's own -/
  | ow (ds : List D)
  /-- a dict of the frame's own, keys whole numbers -/
  | dk (kvs : List (Int × D))
  /-- an instance of the frame's own -/
  | ob (C : Addr) (oa : Option Addr) (fs : List (Str × FI))
  /-- a list of the frame's own, of lists of the frame's own -/
  | ll (xss : List (List D))
inductive LlR (K : Fg) (S H : Hp) : List (List D) → List V → List Addr → Prop where
  | nil : LlR K S H [] [] []
  | cons {xs : List D} {xss : List (List D)} {p : Addr} {ws vs : List V} {as : List Addr} : H p = some (.lst ws) → RpA K S ws xs → LlR K S H xss vs as → LlR K S H (xs :: xss) (.ref p :: vs) (p :: as)
inductive FIR (K : Fg) (S H : Hp) : FI → V → List Addr → Prop where
  | fz {d : D} {v : V} : Rp K S v d → FIR K S H (.fz d) v []
  | ow {oa : Option Addr} {ds : List D} {p : Addr} {vs : List V} : (∀ a, oa = some a → p = a) → H p = some (.lst vs) → RpA K S vs ds → FIR K S H (.ow oa ds) (.ref p) [p]
inductive FsR (K : Fg) (S H : Hp) : List (Str × FI) → List (Str × V) → List Addr → Prop where
  | nil : FsR K S H [] [] []
  | cons {n : Str} {f : FI} {v : V} {as bs : List Addr} {fs : List (Str × FI)} {vs : List (Str × V)} : FIR K S H f v as → FsR K S H fs vs bs → FsR K S H ((n, f) :: fs) ((n, v) :: vs) (as ++ bs)
inductive DkR (K : Fg) (S : Hp) : List (Int × D) → List (Key × V) → Prop where
  | nil : DkR K S [] []
  | cons {n : Int} {d : D} {v : V} {fs : List (Int × D)} {vs : List (Key × V)} : Rp K S v d → DkR K S fs vs → DkR K S ((n, d) :: fs) ((Sum.inl n, v) :: vs)
inductive ItR (K : Fg) (S H : Hp) : It → Option V → List Addr → Prop where
  | no (v : Option V) : ItR K S H .no v []
  | fz {d : D} {v : V} : Rp K S v d → ItR K S H (.fz d) (some v) []
  | ow {ds : List D} {p : Addr} {vs : List V} : H p = some (.lst vs) → RpA K S vs ds → ItR K S H (.ow ds) (some (.ref p)) [p]
  | dk {ds : List (Int × D)} {p : Addr} {kvs : List (Key × V)} : H p = some (.dK kvs) → DkR K S ds kvs → ItR K S H (.dk ds) (some (.ref p)) [p]
  | ob {C dx p : Addr} {oa : Option Addr} {fs : List (Str × FI)} {fv : List (Str × V)} {as : List Addr} : (∀ a, oa = some a → p = a) → H p = some (.ins C dx fv) → FsR K S H fs fv as → ItR K S H (.ob C oa fs) (some (.ref p)) (p :: as)
  | ll {p : Addr} {xss : List (List D)} {vs : List V} {as : List Addr} : H p = some (.lst vs) → LlR K S H xss vs as → ItR K S H (.ll xss) (some (.ref p)) (p :: as)

/-- the objects at as are as they were, what was frozen is -/
theorem fir_keep {K : Fg} {S H S' H' : Hp} (k : Same S S') : ∀ {f : FI} {v : V} {as : List Addr}, FIR K S H f v as → (∀ a ∈ as, H' a = H a) → FIR K S' H' f v as
  | _, _, _, .fz h, _ => .fz (dp_same k h)
  | _, _, _, .ow z h a, q => .ow z ((q _ (by simp)).trans h) (da_same k a)
theorem fsr_keep {K : Fg} {S H S' H' : Hp} (k : Same S S') : ∀ {f : List (Str × FI)} {v : List (Str × V)} {as : List Addr}, FsR K S H f v as → (∀ a ∈ as, H' a = H a) → FsR K S' H' f v as
  | _, _, _, .nil, _ => .nil
  | _, _, _, .cons h t, q => .cons (fir_keep k h fun a ha => q a (List.mem_append_left _ ha)) (fsr_keep k t fun a ha => q a (List.mem_append_right _ ha))
theorem dkr_keep {K : Fg} {S S' : Hp} (k : Same S S') : ∀ {f : List (Int × D)} {v : List (Key × V)}, DkR K S f v → DkR K S' f v
  | _, _, .nil => .nil
  | _, _, .cons h t => .cons (dp_same k h) (dkr_keep k t)
theorem llr_keep {K : Fg} {S H S' H' : Hp} (k : Same S S') : ∀ {f : List (List D)} {v : List V} {as : List Addr}, LlR K S H f v as → (∀ a ∈ as, H' a = H a) → LlR K S' H' f v as
  | _, _, _, .nil, _ => .nil
  | _, _, _, .cons h r t, q => .cons ((q _ List.mem_cons_self).trans h) (da_same k r) (llr_keep k t fun a ha => q a (List.mem_cons_of_mem _ ha))
theorem llr_owned {K : Fg} {S H : Hp} : ∀ {f : List (List D)} {v : List V} {as : List Addr}, LlR K S H f v as → ∀ a ∈ as, H a ≠ none
  | _, _, _, .nil, a, ha => by cases ha
  | _, _, _, .cons h _ t, a, ha => (List.mem_cons.mp ha).elim (fun e => e ▸ nn_of h) (llr_owned t a)
theorem it_keep {K : Fg} {S H S' H' : Hp} (k : Same S S') : ∀ {it : It} {v : Option V} {as : List Addr}, ItR K S H it v as → (∀ a ∈ as, H' a = H a) → ItR K S' H' it v as
  | _, _, _, .no v, _ => .no v
  | _, _, _, .fz h, _ => .fz (dp_same k h)
  | _, _, _, .ow h a, q => .ow ((q _ (by simp)).trans h) (da_same k a)
  | _, _, _, .dk h a, q => .dk ((q _ (by simp)).trans h) (dkr_keep k a)
  | _, _, _, .ob z h a, q => .ob z ((q _ (by simp)).trans h) (fsr_keep k a fun b hb => q b (List.mem_cons_of_mem _ hb))
  | _, _, _, .ll h a, q => .ll ((q _ (by simp)).trans h) (llr_keep k a fun b hb => q b (List.mem_cons_of_mem _ hb))
theorem fir_owned {K : Fg} {S H : Hp} : ∀ {f : FI} {v : V} {as : List Addr}, FIR K S H f v as → ∀ a ∈ as, H a ≠ none
  | _, _, _, .fz _, a, ha => by cases ha
  | _, _, _, .ow _ h _, a, ha => by
    rcases List.mem_singleton.mp ha with rfl
    exact nn_of h
theorem fsr_owned {K : Fg} {S H : Hp} : ∀ {f : List (Str × FI)} {v : List (Str × V)} {as : List Addr}, FsR K S H f v as → ∀ a ∈ as, H a ≠ none
  | _, _, _, .nil, a, ha => by cases ha
  | _, _, _, .cons h t, a, ha => (List.mem_append.mp ha).elim (fir_owned h a) (fsr_owned t a)
theorem it_owned {K : Fg} {S H : Hp} : ∀ {it : It} {v : Option V} {as : List Addr}, ItR K S H it v as → ∀ a ∈ as, H a ≠ none
  | _, _, _, .no _, a, ha => by cases ha
  | _, _, _, .fz _, a, ha => by cases ha
  | _, _, _, .ow h _, a, ha => by
    rcases List.mem_singleton.mp ha with rfl
    exact nn_of h
  | _, _, _, .dk h _, a, ha => by
    rcases List.mem_singleton.mp ha with rfl
    exact nn_of h
  | _, _, _, .ob _ h t, a, ha => (List.mem_cons.mp ha).elim (fun e => e ▸ nn_of h) (fsr_owned t a)
  | _, _, _, .ll h t, a, ha => (List.mem_cons.mp ha).elim (fun e => e ▸ nn_of h) (llr_owned t a)

/-- the slots σ hold ds, owning A; G: what must stay as it is, S0: what was frozen at the def's entry -/
structure EnvA (K : Fg) (G S0 S H : Hp) (σ : St) (ds : List It) (A : Nat → List Addr) : Prop where
  sh : Same S H
  gh : Same G H
  s0 : Same S0 S
  gs : ∀ a, G a ≠ none → S a = S0 a
  len : σ.length = ds.length
  it : ∀ i it, ds[i]? = some it → ItR K S H it (σ[i]?.join) (A i)
  nd : ∀ i, (A i).Nodup
  dj : ∀ i j a, a ∈ A i → a ∈ A j → i = j
  fr : ∀ i a, a ∈ A i → i < ds.length ∧ S a = none ∧ G a = none
def Env (K : Fg) (G S0 S H : Hp) (σ : St) (ds : List It) : Prop := ∃ A, EnvA K G S0 S H σ ds A

section
variable {K : Fg} {G S0 S H S' H' : Hp} {σ : St} {ds : List It} {A : Nat → List Addr}
theorem EnvA.own (e : EnvA K G S0 S H σ ds A) {i : Nat} {a : Addr} (ha : a ∈ A i) : H a ≠ none := by
  obtain ⟨hi, _⟩ := e.fr i a ha
  exact it_owned (e.it i _ (List.getElem?_eq_getElem hi)) a ha
theorem keep_of (k : Same H H') {a : Addr} (ha : H a ≠ none) : H' a = H a := by
  obtain ⟨o, q⟩ := some_nn ha
  rw [q]; exact k _ _ q
/-- all that stood stands -/
theorem EnvA.grow (e : EnvA K G S0 S H σ ds A) (g : Gr S H S' H') : EnvA K G S0 S' H' σ ds A :=
  ⟨g.sh, e.gh.trans g.h, e.s0.trans g.s, fun a ha => (g.old a (Same.nn e.gh ha)).trans (e.gs a ha), e.len, fun i it hi => it_keep g.s (e.it i it hi) fun a ha => keep_of g.h (e.own ha), e.nd, e.dj,
    fun i a ha => ⟨(e.fr i a ha).1, by rw [g.old a (e.own ha)]; exact (e.fr i a ha).2.1, (e.fr i a ha).2.2⟩⟩
theorem Env.grow (e : Env K G S0 S H σ ds) (g : Gr S H S' H') : Env K G S0 S' H' σ ds := let ⟨A, e⟩ := e; ⟨A, e.grow g⟩
theorem Env.sh (e : Env K G S0 S H σ ds) : Same S H := let ⟨_, e⟩ := e; e.sh
theorem Env.gh (e : Env K G S0 S H σ ds) : Same G H := let ⟨_, e⟩ := e; e.gh
theorem Env.s0 (e : Env K G S0 S H σ ds) : Same S0 S := let ⟨_, e⟩ := e; e.s0
theorem Env.gs (e : Env K G S0 S H σ ds) : ∀ a, G a ≠ none → S a = S0 a := let ⟨_, e⟩ := e; e.gs
theorem Env.len (e : Env K G S0 S H σ ds) : σ.length = ds.length := let ⟨_, e⟩ := e; e.len
theorem Env.gr (e : Env K G S0 S H σ ds) : Gr S H S H := Gr.refl e.sh
theorem join_some {o : Option (Option V)} {v : V} (h : o.join = some v) : o = some (some v) := by
  cases o with
  | none => cases h
  | some o => cases o with
    | none => cases h
    | some w => cases h; rfl
theorem itr_fz {o : Option V} {d : D} {as : List Addr} (q : ItR K S H (.fz d) o as) : ∃ v, o = some v ∧ Rp K S v d := by
  cases q with
  | fz q => exact ⟨_, rfl, q⟩
theorem itr_ow {o : Option V} {xs : List D} {as : List Addr} (q : ItR K S H (.ow xs) o as) : ∃ p vs, o = some (.ref p) ∧ as = [p] ∧ H p = some (.lst vs) ∧ RpA K S vs xs := by
  cases q with
  | ow q q2 => exact ⟨_, _, rfl, rfl, q, q2⟩
theorem itr_dk {o : Option V} {xs : List (Int × D)} {as : List Addr} (q : ItR K S H (.dk xs) o as) : ∃ p vs, o = some (.ref p) ∧ as = [p] ∧ H p = some (.dK vs) ∧ DkR K S xs vs := by
  cases q with
  | dk q q2 => exact ⟨_, _, rfl, rfl, q, q2⟩
theorem itr_ob {o : Option V} {C : Addr} {oa : Option Addr} {fs : List (Str × FI)} {as : List Addr} (q : ItR K S H (.ob C oa fs) o as) : ∃ p dx fv bs, o = some (.ref p) ∧ as = p :: bs ∧ (∀ a, oa = some a → p = a) ∧ H p = some (.ins C dx fv) ∧ FsR K S H fs fv bs := by
  cases q with
  | ob z q q2 => exact ⟨_, _, _, _, rfl, rfl, z, q, q2⟩
theorem Env.fz (e : Env K G S0 S H σ ds) {i : Nat} {d : D} (h : ds[i]? = some (.fz d)) : ∃ v, σ[i]? = some (some v) ∧ Rp K S v d := by
  obtain ⟨A, e⟩ := e
  obtain ⟨v, hv, r⟩ := itr_fz (e.it i _ h)
  exact ⟨v, join_some hv, r⟩
theorem EnvA.ow (e : EnvA K G S0 S H σ ds A) {i : Nat} {xs : List D} (h : ds[i]? = some (.ow xs)) : ∃ p vs, σ[i]? = some (some (.ref p)) ∧ A i = [p] ∧ H p = some (.lst vs) ∧ S p = none ∧ G p = none ∧ RpA K S vs xs := by
  obtain ⟨p, vs, hv, ha, hp, da⟩ := itr_ow (e.it i _ h)
  obtain ⟨_, z1, z2⟩ := e.fr i p (by rw [ha]; exact List.mem_cons_self)
  exact ⟨p, vs, join_some hv, ha, hp, z1, z2, da⟩
theorem Env.ow (e : Env K G S0 S H σ ds) {i : Nat} {xs : List D} (h : ds[i]? = some (.ow xs)) : ∃ p vs, σ[i]? = some (some (.ref p)) ∧ H p = some (.lst vs) ∧ S p = none ∧ G p = none ∧ RpA K S vs xs := by
  obtain ⟨A, e⟩ := e
  obtain ⟨p, vs, h1, _, h2⟩ := e.ow h
  exact ⟨p, vs, h1, h2⟩
theorem EnvA.dk (e : EnvA K G S0 S H σ ds A) {i : Nat} {xs : List (Int × D)} (h : ds[i]? = some (.dk xs)) : ∃ p vs, σ[i]? = some (some (.ref p)) ∧ A i = [p] ∧ H p = some (.dK vs) ∧ S p = none ∧ G p = none ∧ DkR K S xs vs := by
  obtain ⟨p, vs, hv, ha, hp, da⟩ := itr_dk (e.it i _ h)
  obtain ⟨_, z1, z2⟩ := e.fr i p (by rw [ha]; exact List.mem_cons_self)
  exact ⟨p, vs, join_some hv, ha, hp, z1, z2, da⟩
theorem Env.dk (e : Env K G S0 S H σ ds) {i : Nat} {xs : List (Int × D)} (h : ds[i]? = some (.dk xs)) : ∃ p vs, σ[i]? = some (some (.ref p)) ∧ H p = some (.dK vs) ∧ S p = none ∧ G p = none ∧ DkR K S xs vs := by
  obtain ⟨A, e⟩ := e
  obtain ⟨p, vs, h1, _, h2⟩ := e.dk h
  exact ⟨p, vs, h1, h2⟩

/-- the owned addresses of one slot change -/
def setA (A : Nat → List Addr) (i : Nat) (as : List Addr) : Nat → List Addr := fun j => if j = i then as else A j
theorem setA_same {A : Nat → List Addr} {i : Nat} {as : List Addr} : setA A i as i = as := if_pos rfl
theorem setA_ne {A : Nat → List Addr} {i j : Nat} {as : List Addr} (h : j ≠ i) : setA A i as j = A j := if_neg h
/-- the general store: slot i, and the objects of slot i, may change -/
theorem EnvA.put (e : EnvA K G S0 S H σ ds A) (i : Nat) {it : It} {v : Option V} {as : List Addr} (hS : Same S S') (sh' : Same S' H') (gh' : Same G H') (gs' : ∀ a, G a ≠ none → S' a = S0 a)
    (r : ItR K S' H' it v as) (nd : as.Nodup) (hk : ∀ j a, j ≠ i → a ∈ A j → H' a = H a ∧ S' a = none) (fresh : ∀ a ∈ as, S' a = none ∧ G a = none ∧ ∀ j, j ≠ i → a ∉ A j) :
    EnvA K G S0 S' H' (σ.set i v) (ds.set i it) (setA A i (if i < ds.length then as else [])) := by
  refine ⟨sh', gh', e.s0.trans hS, gs', by simp [e.len], fun j it' hj => ?_, fun j => ?_, fun j k a ha hb => ?_, fun j a ha => ?_⟩
  · by_cases z : j = i
    · subst z
      have hi : j < ds.length := by simpa using (List.getElem?_eq_some_iff.mp hj).1
      rw [setA_same, if_pos hi]
      rw [List.getElem?_set_self hi] at hj
      cases hj
      rw [List.getElem?_set_self (by rw [e.len]; exact hi)]
      exact r
    · rw [setA_ne z]
      rw [List.getElem?_set_ne (Ne.symm z)] at hj ⊢
      exact it_keep hS (e.it j it' hj) fun a ha => (hk j a z ha).1
  · by_cases z : j = i
    · subst z; rw [setA_same]; split
      · exact nd
      · exact .nil
    · rw [setA_ne z]; exact e.nd j
  · by_cases zj : j = i
    · by_cases zk : k = i
      · rw [zj, zk]
      · subst zj
        rw [setA_same] at ha
        rw [setA_ne zk] at hb
        split at ha
        · exact absurd hb ((fresh a ha).2.2 k zk)
        · cases ha
    · by_cases zk : k = i
      · subst zk
        rw [setA_ne zj] at ha
        rw [setA_same] at hb
        split at hb
        · exact absurd ha ((fresh a hb).2.2 j zj)
        · cases hb
      · rw [setA_ne zj] at ha
        rw [setA_ne zk] at hb
        exact e.dj j k a ha hb
  · rw [List.length_set]
    by_cases zj : j = i
    · subst zj
      rw [setA_same] at ha
      split at ha
      · obtain ⟨f1, f2, _⟩ := fresh a ha
        exact ⟨by assumption, f1, f2⟩
      · cases ha
    · rw [setA_ne zj] at ha
      exact ⟨(e.fr j a ha).1, (hk j a zj ha).2, (e.fr j a ha).2.2⟩
theorem Env.put0 (e : Env K G S0 S H σ ds) (i : Nat) {it : It} {v : Option V} (r : ItR K S H it v []) : Env K G S0 S H (σ.set i v) (ds.set i it) :=
  let ⟨_, e⟩ := e; ⟨_, e.put i (Same.refl _) e.sh e.gh e.gs r .nil (fun j a _ ha => ⟨rfl, (e.fr j a ha).2.1⟩) fun a ha => by cases ha⟩
theorem Env.putD (e : Env K G S0 S H σ ds) (i : Nat) {d : D} {v : V} (r : Rp K S v d) : Env K G S0 S H (σ.set i (some v)) (ds.set i (.fz d)) := e.put0 i (.fz r)
theorem Env.put_no (e : Env K G S0 S H σ ds) (i : Nat) (v : Option V) : Env K G S0 S H (σ.set i v) (ds.set i .no) := e.put0 i (.no v)
/-- what is new since an earlier state, at one address -/
theorem Env.put1 (e : Env K G S0 S H σ ds) (g : Gr S H S' H') (i : Nat) {it : It} {p : Addr} (hp : H p = none) (hs : S' p = none) (r : ItR K S' H' it (some (.ref p)) [p]) : Env K G S0 S' H' (σ.set i (some (.ref p))) (ds.set i it) := by
  obtain ⟨A, e⟩ := e
  have e' := e.grow g
  refine ⟨_, e'.put i (Same.refl _) e'.sh e'.gh e'.gs r (by simp) (fun j a _ ha => ⟨rfl, (e'.fr j a ha).2.1⟩) fun a ha => ?_⟩
  rcases List.mem_singleton.mp ha with rfl
  exact ⟨hs, e.gh.free hp, fun j _ hj => e.own hj hp⟩
theorem Env.putL (e : Env K G S0 S H σ ds) (g : Gr S H S' H') (i : Nat) {xs : List D} {p : Addr} {vs : List V} (hp : H p = none) (h : H' p = some (.lst vs)) (hs : S' p = none) (r : RpA K S' vs xs) : Env K G S0 S' H' (σ.set i (some (.ref p))) (ds.set i (.ow xs)) :=
  e.put1 g i hp hs (.ow h r)
theorem set_get {α : Type} {l : List α} {i : Nat} {x : α} (h : l[i]? = some x) : l.set i x = l := by
  apply List.ext_getElem?
  intro j
  rw [List.getElem?_set]
  split
  · rename_i z; subst z
    split
    · exact h.symm
    · rename_i hn
      rw [List.getElem?_eq_none (by omega)]
  · rfl
/-- an owned list is frozen -/
theorem Env.freeze (e : Env K G S0 S H σ ds) {i : Nat} {xs : List D} (h : ds[i]? = some (.ow xs)) : ∃ S', Same S S' ∧ Env K G S0 S' H σ (ds.set i (.fz (.lst xs))) := by
  obtain ⟨A, e⟩ := e
  obtain ⟨p, vs, hv, ha, hp, sp, gp, da⟩ := e.ow h
  have k : Same S (upd S p (.lst vs)) := same_new sp
  have hne : ∀ j a, j ≠ i → a ∈ A j → a ≠ p := fun j a z hj q => z (e.dj j i a hj (by rw [ha, q]; exact List.mem_cons_self))
  have q := e.put (S' := upd S p (.lst vs)) (H' := H) i (it := .fz (.lst xs)) (v := some (.ref p)) k (fun b u q => by
      by_cases z : b = p
      · subst z; rw [upd_same] at q; cases q; exact hp
      · rw [upd_ne z] at q; exact e.sh _ _ q) e.gh (fun a ha => by rw [upd_ne (fun z => ha (by rw [z]; exact gp))]; exact e.gs a ha) (.fz (.lst upd_same (da_same k da))) .nil
    (fun j a z hj => ⟨rfl, by rw [upd_ne (hne j a z hj)]; exact (e.fr j a hj).2.1⟩) fun a ha => by cases ha
  rw [set_get hv] at q
  exact ⟨_, k, _, q⟩
/-- the owned list changes -/
theorem Env.mut (e : Env K G S0 S H σ ds) {i : Nat} {xs ys : List D} {p : Addr} {ws : List V} (h : ds[i]? = some (.ow xs)) (hv : σ[i]? = some (some (.ref p))) (r : RpA K S ws ys) : Env K G S0 S (upd H p (.lst ws)) σ (ds.set i (.ow ys)) := by
  obtain ⟨A, e⟩ := e
  obtain ⟨p', vs, hv', ha, hp, sp, gp, da⟩ := e.ow h
  rw [hv] at hv'; cases hv'
  have hne : ∀ j a, j ≠ i → a ∈ A j → a ≠ p := fun j a z hj q => z (e.dj j i a hj (by rw [ha, q]; exact List.mem_cons_self))
  have q := e.put (S' := S) (H' := upd H p (.lst ws)) i (it := .ow ys) (v := some (.ref p)) (Same.refl _) (fun b u q => by
      rw [upd_ne (fun z => by subst z; rw [sp] at q; cases q)]; exact e.sh _ _ q) (fun b u q => by rw [upd_ne (fun z => by subst z; rw [gp] at q; cases q)]; exact e.gh _ _ q) e.gs (.ow upd_same r) (by simp)
    (fun j a z hj => ⟨upd_ne (hne j a z hj), (e.fr j a hj).2.1⟩) fun a ha' => by
      rcases List.mem_singleton.mp ha' with rfl
      exact ⟨sp, gp, fun j z hj => hne j _ z hj rfl⟩
  rw [set_get hv] at q
  exact ⟨_, q⟩
/-- the owned dict changes -/
theorem Env.mutK (e : Env K G S0 S H σ ds) {i : Nat} {xs ys : List (Int × D)} {p : Addr} {ws : List (Key × V)} (h : ds[i]? = some (.dk xs)) (hv : σ[i]? = some (some (.ref p))) (r : DkR K S ys ws) : Env K G S0 S (upd H p (.dK ws)) σ (ds.set i (.dk ys)) := by
  obtain ⟨A, e⟩ := e
  obtain ⟨p', vs, hv', ha, hp, sp, gp, da⟩ := e.dk h
  rw [hv] at hv'; cases hv'
  have hne : ∀ j a, j ≠ i → a ∈ A j → a ≠ p := fun j a z hj q => z (e.dj j i a hj (by rw [ha, q]; exact List.mem_cons_self))
  have q := e.put (S' := S) (H' := upd H p (.dK ws)) i (it := .dk ys) (v := some (.ref p)) (Same.refl _) (fun b u q => by
      rw [upd_ne (fun z => by subst z; rw [sp] at q; cases q)]; exact e.sh _ _ q) (fun b u q => by rw [upd_ne (fun z => by subst z; rw [gp] at q; cases q)]; exact e.gh _ _ q) e.gs (.dk upd_same r) (by simp)
    (fun j a z hj => ⟨upd_ne (hne j a z hj), (e.fr j a hj).2.1⟩) fun a ha' => by
      rcases List.mem_singleton.mp ha' with rfl
      exact ⟨sp, gp, fun j z hj => hne j _ z hj rfl⟩
  rw [set_get hv] at q
  exact ⟨_, q⟩
end
end Lay
/-! Lay2: what an expression gives. -/
namespace Lay
open PySem L2
section
variable {X : Cx} {e a b c : Expr} {ds : List It} {pos : Pos}
/-! ### the weakest readings -/
def wE (X : Cx) (e : Expr) : TE := fun σ H Q => ∀ pins s, Inv X pins σ H s → wpAny (model X.prog X.w) X.A (eval e X.env) (EP X pins σ Q) X.xe s
theorem pe_w : PE X e (wE X e) := ⟨fun pins s _ _ _ I h => h pins s I⟩
def wT (X : Cx) (e : Expr) : TT := fun σ H Q => ∀ pins s, Inv X pins σ H s → wpAny (model X.prog X.w) X.A (isTrue e X.env (eval e X.env)) (TP X pins σ Q) X.xe s
theorem pt_w : PT X e (wT X e) := ⟨fun pins s _ _ _ I h => h pins s I⟩
def wW (X : Cx) (e : Expr) : TT := fun σ H Q => ∀ whole pins s, Inv X pins σ H s → wpAny (model X.prog X.w) X.A (isTrue e X.env whole) (TP X pins σ Q) X.xe s
theorem pw_w : PW X e (wW X e) := ⟨fun whole pins s _ _ _ I h => h whole pins s I⟩
def wA (X : Cx) (es : List Expr) : TA := fun σ H Q => ∀ pos pins s, Inv X pins σ H s → wpAny (model X.prog X.w) X.A (spliced (backTo pos (starEach es X.env))) (AP X pins σ Q) X.xe s
theorem pa_w {es : List Expr} : PA X es (wA X es) := ⟨fun pos pins s _ _ _ I h => h pos pins s I⟩

/-- to be read: frozen, or a list of the frame's own -/
def Rb (K : Fg) (S H : Hp) (v : V) (d : D) : Prop := Rp K S v d ∨ ∃ p vs xs, v = .ref p ∧ d = .lst xs ∧ H p = some (.lst vs) ∧ RpA K S vs xs
theorem Rb.gr {K : Fg} {S H S' H' : Hp} {v : V} {d : D} (h : Rb K S H v d) (g : Gr S H S' H') : Rb K S' H' v d := by
  rcases h with h | ⟨p, vs, xs, rfl, rfl, h, r⟩
  · exact .inl (dp_same g.s h)
  · exact .inr ⟨p, vs, xs, rfl, rfl, g.h _ _ h, da_same g.s r⟩
theorem Rb.int {K : Fg} {S H : Hp} {v : V} {i : Int} (h : Rb K S H v (.int i)) : v = .int i := by
  rcases h with h | ⟨p, vs, xs, rfl, z, _⟩
  · cases h; rfl
  · cases z
theorem Rb.bl {K : Fg} {S H : Hp} {v : V} {i : Bool} (h : Rb K S H v (.bl i)) : v = .bl i := by
  rcases h with h | ⟨p, vs, xs, rfl, z, _⟩
  · cases h; rfl
  · cases z
theorem Rb.str {K : Fg} {S H : Hp} {v : V} {i : Str} (h : Rb K S H v (.str i)) : v = .str i := by
  rcases h with h | ⟨p, vs, xs, rfl, z, _⟩
  · cases h; rfl
  · cases z
theorem Rb.non {K : Fg} {S H : Hp} {v : V} (h : Rb K S H v .non) : v = .non := by
  rcases h with h | ⟨p, vs, xs, rfl, z, _⟩
  · cases h; rfl
  · cases z
theorem Rb.lst {K : Fg} {S H : Hp} {v : V} {xs : List D} (h : Rb K S H v (.lst xs)) (k : Same S H) : ∃ p vs, v = .ref p ∧ H p = some (.lst vs) ∧ RpA K S vs xs := by
  rcases h with h | ⟨p, vs, xs, rfl, z, h1, h2⟩
  · cases h with
    | lst h a => exact ⟨_, _, rfl, k _ _ h, a⟩
  · cases z; exact ⟨p, vs, rfl, h1, h2⟩
theorem Rb.tup {K : Fg} {S H : Hp} {v : V} {xs : List D} (h : Rb K S H v (.tup xs)) : ∃ p vs, v = .ref p ∧ S p = some (.tup vs) ∧ RpA K S vs xs := by
  rcases h with h | ⟨p, vs, xs, rfl, z, _⟩
  · cases h with
    | tup h a => exact ⟨_, _, rfl, h, a⟩
  · cases z
theorem Rb.scr {K : Fg} {S H : Hp} {v : V} {ns : List Int} (h : Rb K S H v (.scr ns)) (k : Same S H) : ∃ p, v = .ref p ∧ SqL K H p (ns.map V.int) := by
  rcases h with h | ⟨p, vs, xs, rfl, z, _⟩
  · cases h with
    | scr h => exact ⟨_, rfl, same_l k h⟩
  · cases z
theorem sq_of {K : Fg} {H : Hp} {p : Addr} {vs : List V} (h : H p = some (.lst vs)) : SqL K H p vs := .inl (.inl h)
theorem st_of {K : Fg} {H : Hp} {p : Addr} {vs : List V} (h : H p = some (.tup vs)) : SqT K H p vs := .inl (.inl h)

/-! ### the judgements -/
/-- gives the data d, which stays as it is -/
structure XV (X : Cx) (e : Expr) (ds : List It) (d : D) : Prop where
  mk ::
  run : ∀ G S0 S H σ, Env X.K G S0 S H σ ds → ∀ Q : VK, (∀ v S' H', Gr S H S' H' → Rp X.K S' v d → Q v H') → wE X e σ H Q
instance {X : Cx} {e : Expr} {ds : List It} {d : D} : CoeFun (XV X e ds d) (fun _ => ∀ G S0 S H σ, Env X.K G S0 S H σ ds → ∀ Q : VK, (∀ v S' H', Gr S H S' H' → Rp X.K S' v d → Q v H') → wE X e σ H Q) := ⟨XV.run⟩
/-- gives d, to be read at once -/
structure XB (X : Cx) (e : Expr) (ds : List It) (d : D) : Prop where
  mk ::
  run : ∀ G S0 S H σ, Env X.K G S0 S H σ ds → ∀ Q : VK, (∀ v S' H', Gr S H S' H' → Rb X.K S' H' v d → Q v H') → wE X e σ H Q
instance {X : Cx} {e : Expr} {ds : List It} {d : D} : CoeFun (XB X e ds d) (fun _ => ∀ G S0 S H σ, Env X.K G S0 S H σ ds → ∀ Q : VK, (∀ v S' H', Gr S H S' H' → Rb X.K S' H' v d → Q v H') → wE X e σ H Q) := ⟨XB.run⟩
/-- gives a new list -/
structure XL (X : Cx) (e : Expr) (ds : List It) (xs : List D) : Prop where
  mk ::
  run : ∀ G S0 S H σ, Env X.K G S0 S H σ ds → ∀ Q : VK, (∀ p vs S' H', Gr S H S' H' → H p = none → S' p = none → H' p = some (.lst vs) → RpA X.K S' vs xs → Q (.ref p) H') → wE X e σ H Q
instance {X : Cx} {e : Expr} {ds : List It} {xs : List D} : CoeFun (XL X e ds xs) (fun _ => ∀ G S0 S H σ, Env X.K G S0 S H σ ds → ∀ Q : VK, (∀ p vs S' H', Gr S H S' H' → H p = none → S' p = none → H' p = some (.lst vs) → RpA X.K S' vs xs → Q (.ref p) H') → wE X e σ H Q) := ⟨XL.run⟩
/-- raises an exception of the class at c -/
structure XR (X : Cx) (W : WX) (e : Expr) (ds : List It) (c : Addr) : Prop where
  mk ::
  run : ∀ G S0 S H σ, Env X.K G S0 S H σ ds → (∀ S' H', Gr S H S' H' → W (.ref c) none σ H') → ∀ Q, wE X e σ H Q
instance {X : Cx} {W : WX} {e : Expr} {ds : List It} {c : Addr} : CoeFun (XR X W e ds c) (fun _ => ∀ G S0 S H σ, Env X.K G S0 S H σ ds → (∀ S' H', Gr S H S' H' → W (.ref c) none σ H') → ∀ Q, wE X e σ H Q) := ⟨XR.run⟩
structure XT (X : Cx) (e : Expr) (ds : List It) (k : Bool) : Prop where
  mk ::
  run : ∀ G S0 S H σ, Env X.K G S0 S H σ ds → ∀ Q : Bool → Hp → Prop, (∀ S' H', Gr S H S' H' → Q k H') → wT X e σ H Q
instance {X : Cx} {e : Expr} {ds : List It} {k : Bool} : CoeFun (XT X e ds k) (fun _ => ∀ G S0 S H σ, Env X.K G S0 S H σ ds → ∀ Q : Bool → Hp → Prop, (∀ S' H', Gr S H S' H' → Q k H') → wT X e σ H Q) := ⟨XT.run⟩
structure XW (X : Cx) (e : Expr) (ds : List It) (k : Bool) : Prop where
  mk ::
  run : ∀ G S0 S H σ, Env X.K G S0 S H σ ds → ∀ Q : Bool → Hp → Prop, (∀ S' H', Gr S H S' H' → Q k H') → wW X e σ H Q
instance {X : Cx} {e : Expr} {ds : List It} {k : Bool} : CoeFun (XW X e ds k) (fun _ => ∀ G S0 S H σ, Env X.K G S0 S H σ ds → ∀ Q : Bool → Hp → Prop, (∀ S' H', Gr S H S' H' → Q k H') → wW X e σ H Q) := ⟨XW.run⟩
structure XA (X : Cx) (es : List Expr) (ds : List It) (ys : List D) : Prop where
  mk ::
  run : ∀ G S0 S H σ, Env X.K G S0 S H σ ds → ∀ Q : List V → Hp → Prop, (∀ vs S' H', Gr S H S' H' → RpA X.K S' vs ys → Q vs H') → wA X es σ H Q
instance {X : Cx} {es : List Expr} {ds : List It} {ys : List D} : CoeFun (XA X es ds ys) (fun _ => ∀ G S0 S H σ, Env X.K G S0 S H σ ds → ∀ Q : List V → Hp → Prop, (∀ vs S' H', Gr S H S' H' → RpA X.K S' vs ys → Q vs H') → wA X es σ H Q) := ⟨XA.run⟩
/-- arguments that are read at once -/
inductive RbA (K : Fg) (S H : Hp) : List V → List D → Prop where
  | nil : RbA K S H [] []
  | cons {v : V} {d : D} {vs : List V} {ds : List D} : Rb K S H v d → RbA K S H vs ds → RbA K S H (v :: vs) (d :: ds)
theorem RbA.gr {K : Fg} {S H S' H' : Hp} (g : Gr S H S' H') : ∀ {vs : List V} {ds : List D}, RbA K S H vs ds → RbA K S' H' vs ds
  | _, _, .nil => .nil
  | _, _, .cons h t => .cons (h.gr g) (t.gr g)
structure XAB (X : Cx) (es : List Expr) (ds : List It) (ys : List D) : Prop where
  mk ::
  run : ∀ G S0 S H σ, Env X.K G S0 S H σ ds → ∀ Q : List V → Hp → Prop, (∀ vs S' H', Gr S H S' H' → RbA X.K S' H' vs ys → Q vs H') → wA X es σ H Q
instance {X : Cx} {es : List Expr} {ds : List It} {ys : List D} : CoeFun (XAB X es ds ys) (fun _ => ∀ G S0 S H σ, Env X.K G S0 S H σ ds → ∀ Q : List V → Hp → Prop, (∀ vs S' H', Gr S H S' H' → RbA X.K S' H' vs ys → Q vs H') → wA X es σ H Q) := ⟨XAB.run⟩

theorem XV.br {d : D} (h : XV X e ds d) : XB X e ds d := .mk fun G S0 S H σ E Q q => h G S0 S H σ E Q fun v S' H' g r => q v S' H' g (.inl r)
theorem XL.br {xs : List D} (h : XL X e ds xs) : XB X e ds (.lst xs) := .mk fun G S0 S H σ E Q q => h G S0 S H σ E Q fun p vs S' H' g _ _ r a => q _ S' H' g (.inr ⟨p, vs, xs, rfl, rfl, r, a⟩)
theorem XL.v {xs : List D} (h : XL X e ds xs) : XV X e ds (.lst xs) := .mk fun G S0 S H σ E Q q => h G S0 S H σ E Q fun p vs S' H' g hp sp r a =>
  q _ _ H' (g.freeze hp r sp) (.lst upd_same (da_same (same_new sp) a))

theorem we_of {te : TE} (h : PE X e te) {σ : St} {H : Hp} {Q : VK} (q : te σ H Q) : wE X e σ H Q := fun pins s I => h.run pins s σ H Q I q
theorem wt_of {te : TT} (h : PT X e te) {σ : St} {H : Hp} {Q : Bool → Hp → Prop} (q : te σ H Q) : wT X e σ H Q := fun pins s I => h.run pins s σ H Q I q
theorem ww_of {te : TT} (h : PW X e te) {σ : St} {H : Hp} {Q : Bool → Hp → Prop} (q : te σ H Q) : wW X e σ H Q := fun whole pins s I => h.run whole pins s σ H Q I q
theorem wa_of {es : List Expr} {te : TA} (h : PA X es te) {σ : St} {H : Hp} {Q : List V → Hp → Prop} (q : te σ H Q) : wA X es σ H Q := fun pos pins s I => h.run pos pins s σ H Q I q

/-! ### names and constants -/
theorem xv_var (i : Nat) {x : Str} {d : D} (hd : ds[i]? = some (.fz d) := by rfl) (hN : X.N[i]? = some x := by rfl) (hv : Vis X.env.scope x := by first | exact Or.inl rfl | exact Or.inr (Or.inl rfl) | exact Or.inr (Or.inr rfl)) (h1 : (x == ("__debug__" : Str)) = false := by decide)
    (h2 : (x == ("__classdict__" : Str)) = false := by decide) : XV X (.Name x pos) ds d := .mk fun G S0 S H σ E Q q => by
  obtain ⟨v, hv', r⟩ := E.fz hd
  exact we_of (pe_var (i := i) hN hv h1 h2) ⟨v, hv', q v S H E.gr r⟩
theorem xb_own (i : Nat) {x : Str} {xs : List D} (hd : ds[i]? = some (.ow xs) := by rfl) (hN : X.N[i]? = some x := by rfl) (hv : Vis X.env.scope x := by first | exact Or.inl rfl | exact Or.inr (Or.inl rfl) | exact Or.inr (Or.inr rfl)) (h1 : (x == ("__debug__" : Str)) = false := by decide)
    (h2 : (x == ("__classdict__" : Str)) = false := by decide) : XB X (.Name x pos) ds (.lst xs) := .mk fun G S0 S H σ E Q q => by
  obtain ⟨p, vs, hv', hp, _, _, r⟩ := E.ow hd
  exact we_of (pe_var (i := i) hN hv h1 h2) ⟨.ref p, hv', q _ S H E.gr (.inr ⟨p, vs, xs, rfl, rfl, hp, r⟩)⟩
theorem xv_int {i : Int} {j} : XV X (.Constant (.int i) j pos) ds (.int i) := .mk fun G S0 S H σ E Q q => we_of pe_int (q _ S H E.gr (.int i))
theorem xv_bl {k : Bool} {j} : XV X (.Constant (.bool k) j pos) ds (.bl k) := .mk fun G S0 S H σ E Q q => we_of pe_bl (q _ S H E.gr (.bl k))
theorem xv_non {j} : XV X (.Constant .none j pos) ds .non := .mk fun G S0 S H σ E Q q => we_of pe_non (q _ S H E.gr .non)
theorem xv_str {x : Str} {j} : XV X (.Constant (.str x) j pos) ds (.str x) := .mk fun G S0 S H σ E Q q => we_of pe_str (q _ S H E.gr (.str x))
/-- a module's whole number -/
theorem xv_glob {x : Str} {i : Int} (hm : ∃ t, X.mg x = some (.int i t)) (hg : Gl X x := by rfl) (hd : (x == ("__debug__" : Str)) = false := by decide) : XV X (.Name x pos) ds (.int i) := .mk fun G S0 S H σ E Q q => by
  obtain ⟨t, hm⟩ := hm
  exact we_of (pe_glob (v := .int i) hg hm ⟨t, rfl⟩ hd) (q _ S H E.gr (.int i))

/-! ### two operands -/
theorem two {A B : D} (ha : XB X a ds A) (hb : XB X b ds B) {G S0 S H : Hp} {σ : St} (E : Env X.K G S0 S H σ ds) {R : V → V → Hp → Prop}
    (q : ∀ x y S' H', Gr S H S' H' → Rb X.K S' H' x A → Rb X.K S' H' y B → R x y H') : wE X a σ H fun x H1 => wE X b σ H1 fun y H2 => R x y H2 :=
  ha G S0 S H σ E _ fun x S1 H1 g1 r1 => hb G S0 S1 H1 σ (E.grow g1) _ fun y S2 H2 g2 r2 => q x y S2 H2 (g1.trans g2) (r1.gr g2) r2
theorem xv_bin {op : Operator} {r : R2} {A B d : D} (ho : OpR X (binaryOp op) r) (ha : XB X a ds A) (hb : XB X b ds B)
    (hr : ∀ (S H : Hp) x y (Q : VK), Same S H → Rb X.K S H x A → Rb X.K S H y B → (∀ v S' H', Gr S H S' H' → Rp X.K S' v d → Q v H') → r x y H Q) : XV X (.BinOp a op b pos) ds d := .mk fun G S0 S H σ E Q q =>
  we_of (pe_op ho pe_w pe_w) (two ha hb E fun x y S' H' g r1 r2 => hr S' H' x y Q g.sh r1 r2 fun v S2 H2 g2 r => q v S2 H2 (g.trans g2) r)
theorem xl_bin {op : Operator} {r : R2} {A B : D} {xs : List D} (ho : OpR X (binaryOp op) r) (ha : XB X a ds A) (hb : XB X b ds B)
    (hr : ∀ (S H : Hp) x y (Q : VK), Same S H → Rb X.K S H x A → Rb X.K S H y B → (∀ p vs S' H', Gr S H S' H' → H p = none → S' p = none → H' p = some (.lst vs) → RpA X.K S' vs xs → Q (.ref p) H') → r x y H Q) : XL X (.BinOp a op b pos) ds xs := .mk fun G S0 S H σ E Q q =>
  we_of (pe_op ho pe_w pe_w) (two ha hb E fun x y S' H' g r1 r2 => hr S' H' x y Q g.sh r1 r2 fun p vs S2 H2 g2 h1 h2 h3 h4 => q p vs S2 H2 (g.trans g2) (g.h.free h1) h2 h3 h4)
theorem xv_cmp {op : CmpOp} {r : R2} {A B : D} {k : Bool} (ho : OpR X (compareOp op) r) (ha : XB X a ds A) (hb : XB X b ds B) (hm : behindInMarks op b = false)
    (hr : ∀ (S H : Hp) x y (Q : VK), Same S H → Rb X.K S H x A → Rb X.K S H y B → Q (.bl k) H → r x y H Q) : XV X (.Compare a [op] [b] pos) ds (.bl k) := .mk fun G S0 S H σ E Q q =>
  we_of (pe_cmpR ho pe_w pe_w hm) (two ha hb E fun x y S' H' g r1 r2 => hr S' H' x y Q g.sh r1 r2 (q _ S' H' g (.bl k)))
theorem xt_cmp {op : CmpOp} {r : R2} {A B : D} {k : Bool} (ho : OpR X (compareOp op) r) (ha : XB X a ds A) (hb : XB X b ds B) (hm : behindInMarks op b = false)
    (hr : ∀ (S H : Hp) x y (Q : VK), Same S H → Rb X.K S H x A → Rb X.K S H y B → Q (.bl k) H → r x y H Q) : XT X (.Compare a [op] [b] pos) ds k := .mk fun G S0 S H σ E Q q =>
  wt_of (pt_cmpR ho pe_w pe_w hm) (two ha hb E fun x y S' H' g r1 r2 => hr S' H' x y _ g.sh r1 r2 ⟨k, rfl, q S' H' g⟩)

/-! ### arithmetic -/
theorem same_gr {S H : Hp} (h : Same S H) : Gr S H S H := Gr.refl h
variable {i j : Int}
theorem xv_add (ha : XB X a ds (.int i)) (hb : XB X b ds (.int j)) : XV X (.BinOp a .Add b pos) ds (.int (i + j)) :=
  xv_bin op_add ha hb fun S H x y Q k r1 r2 q => ⟨i, j, r1.int, r2.int, q _ S H (.refl k) (.int _)⟩
theorem xv_sub (ha : XB X a ds (.int i)) (hb : XB X b ds (.int j)) : XV X (.BinOp a .Sub b pos) ds (.int (i - j)) :=
  xv_bin op_sub ha hb fun S H x y Q k r1 r2 q => ⟨i, j, r1.int, r2.int, q _ S H (.refl k) (.int _)⟩
theorem xv_mul (ha : XB X a ds (.int i)) (hb : XB X b ds (.int j)) (hc : CMul i j) : XV X (.BinOp a .Mult b pos) ds (.int (i * j)) :=
  xv_bin op_mul ha hb fun S H x y Q k r1 r2 q => ⟨i, j, r1.int, r2.int, hc, q _ S H (.refl k) (.int _)⟩
/-- a positive divisor -/
theorem xv_mod (ha : XB X a ds (.int i)) (hb : XB X b ds (.int j)) (hc : 0 < j) : XV X (.BinOp a .Mod b pos) ds (.int (i % j)) :=
  xv_bin op_mod ha hb fun S H x y Q k r1 r2 q => ⟨i, j, r1.int, r2.int, hc, q _ S H (.refl k) (.int _)⟩
theorem xv_div (ha : XB X a ds (.int i)) (hb : XB X b ds (.int j)) (hc : CDiv i j) : XV X (.BinOp a .FloorDiv b pos) ds (.int (i / j)) :=
  xv_bin op_fdiv ha hb fun S H x y Q k r1 r2 q => ⟨i, j, r1.int, r2.int, hc, q _ S H (.refl k) (.int _)⟩
theorem xv_neg (ha : XB X a ds (.int i)) : XV X (.UnaryOp .USub a pos) ds (.int (-i)) := .mk fun G S0 S H σ E Q q =>
  we_of (pe_un un_neg pe_w) (ha G S0 S H σ E _ fun x S' H' g r => ⟨i, r.int, q _ S' H' g (.int _)⟩)

/-! ### lists and tuples by operators -/
theorem sz (n : Nat) (h : n ≤ 100000) : n ≤ sizeLine := Nat.le_trans h (by decide)
theorem szlt (n : Nat) (h : n < 100000) : n < sizeLine := Nat.lt_of_lt_of_le h (by decide)
theorem xl_cat {xs ys : List D} (ha : XB X a ds (.lst xs)) (hb : XB X b ds (.lst ys)) (hz : xs.length + ys.length ≤ 100000) : XL X (.BinOp a .Add b pos) ds (xs ++ ys) :=
  xl_bin op_cat ha hb fun S H x y Q k r1 r2 q => by
    obtain ⟨p, vs, rfl, hp, ra⟩ := r1.lst k
    obtain ⟨p', vs', rfl, hp', rb⟩ := r2.lst k
    exact ⟨p, p', vs, vs', rfl, rfl, hp, hp', sz _ (by rw [da_len ra, da_len rb]; exact hz), fun n hn => q n (vs ++ vs') S _ (Gr.newH k hn) hn (k.free hn) upd_same (da_append ra rb)⟩
theorem da_rep {K : Fg} {S : Hp} {vs : List V} {xs : List D} (r : RpA K S vs xs) : ∀ n : Nat, RpA K S (List.replicate n vs).flatten (List.replicate n xs).flatten
  | 0 => .nil
  | n + 1 => by rw [List.replicate_succ, List.replicate_succ, List.flatten_cons, List.flatten_cons]; exact da_append r (da_rep r n)

/-! ### comparisons of whole numbers -/
theorem xv_lt (ha : XB X a ds (.int i)) (hb : XB X b ds (.int j)) : XV X (.Compare a [.Lt] [b] pos) ds (.bl (decide (i < j))) := xv_cmp op_lt ha hb (nomark _) fun S H x y Q k r1 r2 q => ⟨i, j, r1.int, r2.int, q⟩
theorem xv_le (ha : XB X a ds (.int i)) (hb : XB X b ds (.int j)) : XV X (.Compare a [.LtE] [b] pos) ds (.bl (decide (i ≤ j))) := xv_cmp op_le ha hb (nomark _) fun S H x y Q k r1 r2 q => ⟨i, j, r1.int, r2.int, q⟩
theorem xv_gt (ha : XB X a ds (.int i)) (hb : XB X b ds (.int j)) : XV X (.Compare a [.Gt] [b] pos) ds (.bl (decide (j < i))) := xv_cmp op_gt ha hb (nomark _) fun S H x y Q k r1 r2 q => ⟨i, j, r1.int, r2.int, q⟩
theorem xv_ge (ha : XB X a ds (.int i)) (hb : XB X b ds (.int j)) : XV X (.Compare a [.GtE] [b] pos) ds (.bl (decide (j ≤ i))) := xv_cmp op_ge ha hb (nomark _) fun S H x y Q k r1 r2 q => ⟨i, j, r1.int, r2.int, q⟩
theorem xt_lt (ha : XB X a ds (.int i)) (hb : XB X b ds (.int j)) : XT X (.Compare a [.Lt] [b] pos) ds (decide (i < j)) := xt_cmp op_lt ha hb (nomark _) fun S H x y Q k r1 r2 q => ⟨i, j, r1.int, r2.int, q⟩
theorem xt_le (ha : XB X a ds (.int i)) (hb : XB X b ds (.int j)) : XT X (.Compare a [.LtE] [b] pos) ds (decide (i ≤ j)) := xt_cmp op_le ha hb (nomark _) fun S H x y Q k r1 r2 q => ⟨i, j, r1.int, r2.int, q⟩
theorem xt_gt (ha : XB X a ds (.int i)) (hb : XB X b ds (.int j)) : XT X (.Compare a [.Gt] [b] pos) ds (decide (j < i)) := xt_cmp op_gt ha hb (nomark _) fun S H x y Q k r1 r2 q => ⟨i, j, r1.int, r2.int, q⟩
theorem xt_ge (ha : XB X a ds (.int i)) (hb : XB X b ds (.int j)) : XT X (.Compare a [.GtE] [b] pos) ds (decide (j ≤ i)) := xt_cmp op_ge ha hb (nomark _) fun S H x y Q k r1 r2 q => ⟨i, j, r1.int, r2.int, q⟩
/-- a chain of two -/
def cmpI : CmpOp → Int → Int → Bool
  | .Lt, i, j => decide (i < j)
  | .LtE, i, j => decide (i ≤ j)
  | .Gt, i, j => decide (j < i)
  | .GtE, i, j => decide (j ≤ i)
  | _, _, _ => false
def ordOp : CmpOp → Bool
  | .Lt => true
  | .LtE => true
  | .Gt => true
  | .GtE => true
  | _ => false
theorem op_ord {op : CmpOp} (h : ordOp op = true) : OpR X (compareOp op) (rI0 fun i j => .bl (cmpI op i j)) := by
  cases op <;> first | exact op_lt | exact op_le | exact op_gt | exact op_ge | cases h
theorem chain {l : Int} {op op' : CmpOp} (ha : XB X a ds (.int i)) (hb : XB X b ds (.int j)) (hc : XB X c ds (.int l)) {G S0 S H : Hp} {σ : St} (E : Env X.K G S0 S H σ ds) {Q : VK}
    (q : ∀ S' H', Gr S H S' H' → Q (.bl (cmpI op i j && cmpI op' j l)) H') : tChain (rI0 fun i j => .bl (cmpI op i j)) (rI0 fun i j => .bl (cmpI op' i j)) (wE X a) (wE X b) (wE X c) σ H Q :=
  two ha hb E fun x y S' H' g r1 r2 => ⟨i, j, r1.int, r2.int, cmpI op i j, rfl, by
    cases e : cmpI op i j with
    | false =>
      rw [if_neg Bool.false_ne_true]
      rw [e] at q
      exact q S' H' g
    | true =>
      rw [if_pos rfl]
      rw [e] at q
      exact hc G S0 S' H' σ (E.grow g) _ fun z S2 H2 g2 r3 => ⟨j, l, r2.int, r3.int, q S2 H2 (g.trans g2)⟩⟩
theorem xv_chain {l : Int} {op op' : CmpOp} (ha : XB X a ds (.int i)) (hb : XB X b ds (.int j)) (hc : XB X c ds (.int l)) (h1 : ordOp op = true := by rfl) (h2 : ordOp op' = true := by rfl) (hm : lastMarks [op, op'] [b, c] = false := by with_unfolding_all rfl) :
    XV X (.Compare a [op, op'] [b, c] pos) ds (.bl (cmpI op i j && cmpI op' j l)) := .mk fun G S0 S H σ E Q q =>
  we_of (pe_chain (op_ord h1) (op_ord h2) pe_w pe_w pe_w hm) (chain ha hb hc E fun S' H' g => q _ S' H' g (.bl _))
theorem xt_chain {l : Int} {op op' : CmpOp} (ha : XB X a ds (.int i)) (hb : XB X b ds (.int j)) (hc : XB X c ds (.int l)) (h1 : ordOp op = true := by rfl) (h2 : ordOp op' = true := by rfl) (hm : lastMarks [op, op'] [b, c] = false := by with_unfolding_all rfl) :
    XT X (.Compare a [op, op'] [b, c] pos) ds (cmpI op i j && cmpI op' j l) := .mk fun G S0 S H σ E Q q =>
  wt_of (pt_chain (op_ord h1) (op_ord h2) pe_w pe_w pe_w hm) (chain ha hb hc E fun S' H' g => ⟨_, rfl, q S' H' g⟩)

/-! ### tests -/
theorem xt_val {k : Bool} (h : XV X e ds (.bl k)) (he : ∀ whole, isTrue e X.env whole = (do let v ← whole; standAt e.pos; holding [v] (truthy v)) := by intro _; rfl) : XT X e ds k := .mk fun G S0 S H σ E Q q =>
  wt_of (pt_val pe_w he) (h G S0 S H σ E _ fun v S' H' g r => by cases r; exact ⟨k, rfl, q S' H' g⟩)
/-- the truth of data -/
def truD : D → Option Bool
  | .non => some false
  | .bl b => some b
  | .int i => some (i != 0)
  | .lst xs => some (!xs.isEmpty)
  | .tup xs => some (!xs.isEmpty)
  | .scr xs => some (!xs.isEmpty)
  | _ => none
theorem da_empty {K : Fg} {S : Hp} {vs : List V} {xs : List D} (h : RpA K S vs xs) : vs.isEmpty = xs.isEmpty := by cases h <;> rfl
theorem xt_truth {A : D} {k : Bool} (h : XB X e ds A) (hk : truD A = some k := by rfl) (he : ∀ whole, isTrue e X.env whole = (do let v ← whole; standAt e.pos; holding [v] (truthy v)) := by intro _; rfl) : XT X e ds k := .mk fun G S0 S H σ E Q q =>
  wt_of (pt_truth pe_w he) (h G S0 S H σ E _ fun v S' H' g r => by
    refine ⟨k, ?_, q S' H' g⟩
    cases A with
    | non => cases hk; rw [r.non]; rfl
    | bl b => cases hk; rw [r.bl]; rfl
    | int b => cases hk; rw [r.int]; rfl
    | str b => cases hk
    | exc b => cases hk
    | ins b => cases hk
    | lst xs =>
      obtain ⟨p, vs, rfl, hp, ra⟩ := r.lst g.sh
      cases hk
      exact .inl ⟨vs, sq_of hp, by rw [da_empty ra]⟩
    | tup xs =>
      obtain ⟨p, vs, rfl, hp, ra⟩ := r.tup
      cases hk
      exact .inr (.inl ⟨vs, st_of (g.sh _ _ hp), by rw [da_empty ra]⟩)
    | scr xs =>
      obtain ⟨p, rfl, hp⟩ := r.scr g.sh
      cases hk
      exact .inl ⟨_, hp, by cases xs <;> rfl⟩)
theorem XW.t {k : Bool} (h : XW X e ds k) : XT X e ds k := .mk fun G S0 S H σ E Q q => wt_of pw_w.pt (h G S0 S H σ E Q q)
section
variable {rest : List Expr} {k l : Bool}
theorem xw_and1 {op} (h : XT X a ds k) (ho : op = .And ∨ op = .Or := by first | exact Or.inl rfl | exact Or.inr rfl) : XW X (.BoolOp op [a] pos) ds k := .mk fun G S0 S H σ E Q q => by
  rcases ho with rfl | rfl
  · exact ww_of (pw_and1 pt_w) (h G S0 S H σ E Q q)
  · exact ww_of (pw_or1 pt_w) (h G S0 S H σ E Q q)
/-- the right part is asked only if the left is true -/
theorem xw_and (ha : XT X a ds k) (hb : k = true → XW X (.BoolOp .And (b :: rest) pos) ds l) : XW X (.BoolOp .And (a :: b :: rest) pos) ds (k && l) := .mk fun G S0 S H σ E Q q =>
  ww_of (pw_and pt_w pw_w) (ha G S0 S H σ E _ fun S' H' g => by
    cases k with
    | false => rw [if_neg Bool.false_ne_true]; exact q S' H' g
    | true => rw [if_pos rfl]; exact hb rfl G S0 S' H' σ (E.grow g) _ fun S2 H2 g2 => q S2 H2 (g.trans g2))
theorem xw_or (ha : XT X a ds k) (hb : k = false → XW X (.BoolOp .Or (b :: rest) pos) ds l) : XW X (.BoolOp .Or (a :: b :: rest) pos) ds (k || l) := .mk fun G S0 S H σ E Q q =>
  ww_of (pw_or pt_w pw_w) (ha G S0 S H σ E _ fun S' H' g => by
    cases k with
    | true => rw [if_pos rfl]; exact q S' H' g
    | false => rw [if_neg Bool.false_ne_true]; exact hb rfl G S0 S' H' σ (E.grow g) _ fun S2 H2 g2 => q S2 H2 (g.trans g2))
theorem xt_not (h : XT X a ds k) : XT X (.UnaryOp .Not a pos) ds (!k) := .mk fun G S0 S H σ E Q q => wt_of (pt_not pt_w) (h G S0 S H σ E _ q)
theorem xv_not (h : XV X a ds (.bl k)) : XV X (.UnaryOp .Not a pos) ds (.bl (!k)) := .mk fun G S0 S H σ E Q q => we_of (pe_not pe_w) (h G S0 S H σ E _ fun v S' H' g r => by cases r; exact ⟨k, rfl, q _ S' H' g (.bl _)⟩)
theorem xv_one {op} {d : D} (h : XV X a ds d) : XV X (.BoolOp op [a] pos) ds d := .mk fun G S0 S H σ E Q q => we_of (pe_one pe_w) (h G S0 S H σ E _ q)
theorem xv_and (ha : XV X a ds (.bl k)) (hb : k = true → XV X (.BoolOp .And (b :: rest) pos) ds (.bl l)) : XV X (.BoolOp .And (a :: b :: rest) pos) ds (.bl (k && l)) := .mk fun G S0 S H σ E Q q =>
  we_of (pe_and pe_w pe_w) (ha G S0 S H σ E _ fun v S' H' g r => by
    cases r
    refine ⟨k, rfl, ?_⟩
    cases k with
    | false => rw [if_neg Bool.false_ne_true]; exact q _ S' H' g (.bl _)
    | true => rw [if_pos rfl]; exact hb rfl G S0 S' H' σ (E.grow g) _ fun v S2 H2 g2 r => q v S2 H2 (g.trans g2) r)
theorem xv_or (ha : XV X a ds (.bl k)) (hb : k = false → XV X (.BoolOp .Or (b :: rest) pos) ds (.bl l)) : XV X (.BoolOp .Or (a :: b :: rest) pos) ds (.bl (k || l)) := .mk fun G S0 S H σ E Q q =>
  we_of (pe_or pe_w pe_w) (ha G S0 S H σ E _ fun v S' H' g r => by
    cases r
    refine ⟨k, rfl, ?_⟩
    cases k with
    | true => rw [if_pos rfl]; exact q _ S' H' g (.bl _)
    | false => rw [if_neg Bool.false_ne_true]; exact hb rfl G S0 S' H' σ (E.grow g) _ fun v S2 H2 g2 r => q v S2 H2 (g.trans g2) r)
theorem xv_if {d : D} (hc : XT X c ds k) (ha : k = true → XV X a ds d) (hb : k = false → XV X b ds d) : XV X (.IfExp c a b pos) ds d := .mk fun G S0 S H σ E Q q =>
  we_of (pe_ifExp pt_w pe_w pe_w) (hc G S0 S H σ E _ fun S' H' g => by
    cases k with
    | true => rw [if_pos rfl]; exact ha rfl G S0 S' H' σ (E.grow g) _ fun v S2 H2 g2 r => q v S2 H2 (g.trans g2) r
    | false => rw [if_neg Bool.false_ne_true]; exact hb rfl G S0 S' H' σ (E.grow g) _ fun v S2 H2 g2 r => q v S2 H2 (g.trans g2) r)
end
theorem XV.is {d d' : D} (h : XV X e ds d) (q : d = d') : XV X e ds d' := q ▸ h
theorem XB.is {d d' : D} (h : XB X e ds d) (q : d = d') : XB X e ds d' := q ▸ h
theorem XL.is {d d' : List D} (h : XL X e ds d) (q : d = d') : XL X e ds d' := q ▸ h
theorem XT.is {k k' : Bool} (h : XT X e ds k) (q : k = k') : XT X e ds k' := q ▸ h
theorem XW.is {k k' : Bool} (h : XW X e ds k) (q : k = k') : XW X e ds k' := q ▸ h
end
end Lay
/-! Lay3: equality, subscripts, displays, built-ins. -/
namespace Lay
open PySem L2
/-! ### data as the model's data -/
mutual
def py : D → PyData
  | .non => .none
  | .bl b => .bool b
  | .int i => .int i
  | .str x => .str x
  | .lst ds => .list (pyAll ds)
  | .tup ds => .tuple (pyAll ds)
  | .scr _ => .none
  | .exc _ => .none
  | .ins _ _ => .none
def pyAll : List D → List PyData
  | [] => []
  | d :: ds => py d :: pyAll ds
end
mutual
def plain : D → Bool
  | .non => true
  | .bl _ => true
  | .int _ => true
  | .str _ => true
  | .lst ds => plainAll ds
  | .tup ds => plainAll ds
  | .scr _ => false
  | .exc _ => false
  | .ins _ _ => false
def plainAll : List D → Bool
  | [] => true
  | d :: ds => plain d && plainAll ds
end
mutual
theorem rp_dp {K : Fg} {S H : Hp} (k : Same S H) : ∀ (d : D) (v : V), Rp K S v d → plain d = true → Dp K H v (py d)
  | .non, _, .non, _ => .non
  | .bl b, _, .bl _, _ => .bl b
  | .int b, _, .int _, _ => .int b
  | .str b, _, .str _, _ => .str b
  | .lst ds, _, .lst h a, p => .lst (sq_of (k _ _ h)) (rpa_dp k ds _ a p)
  | .tup ds, _, .tup h a, p => .tup (st_of (k _ _ h)) (rpa_dp k ds _ a p)
  | .scr ds, _, _, p => by cases p
  | .exc ds, _, _, p => by cases p
  | .ins _ ds, _, _, p => by cases p
theorem rpa_dp {K : Fg} {S H : Hp} (k : Same S H) : ∀ (ds : List D) (vs : List V), RpA K S vs ds → plainAll ds = true → DpAll K H vs (pyAll ds)
  | [], _, .nil, _ => .nil
  | d :: ds, _, .cons h a, p => by
    have p' : (plain d && plainAll ds) = true := p
    rw [Bool.and_eq_true] at p'
    exact .cons (rp_dp k d _ h p'.1) (rpa_dp k ds _ a p'.2)
end
theorem rb_dp {K : Fg} {S H : Hp} (k : Same S H) {d : D} {v : V} (h : Rb K S H v d) (p : plain d = true) : Dp K H v (py d) := by
  rcases h with h | ⟨q, vs, xs, rfl, rfl, h1, h2⟩
  · exact rp_dp k d v h p
  · exact .lst (sq_of h1) (rpa_dp k xs vs h2 p)
/-- == of data -/
def eqD (A B : D) : Bool := PyData.eqv (py A) (py B)
/-- may be compared -/
def okE (A : D) : Bool := plain A && SeqAt.shaped (py A)
theorem okE_int {i : Int} : okE (.int i) = true := rfl
theorem okE_bl {i : Bool} : okE (.bl i) = true := rfl
theorem okE_non : okE .non = true := rfl
theorem eqD_int {i j : Int} : eqD (.int i) (.int j) = decide (i = j) := rfl
theorem okE_l {A : D} (h : okE A = true) : plain A = true := (Bool.and_eq_true_iff.mp h).1
theorem okE_r {A : D} (h : okE A = true) : SeqAt.shaped (py A) = true := (Bool.and_eq_true_iff.mp h).2

/-! ### arguments without stars, read off the text alone -/
def isStar : Expr → Bool
  | .Starred _ _ => true
  | _ => false
theorem se {e : Expr} {es : List Expr} {env : PySem.Env} (h : isStar e = false) : starEach (e :: es) env = (false, eval e env) :: starEach es env := by
  cases e <;> first | rfl | cases h
theorem spl {env : PySem.Env} {pos : Pos} : ∀ {es : List Expr}, es.all (fun e => !isStar e) = true → (backTo pos (starEach es env)).any (·.1) = false
  | [], _ => rfl
  | e :: es, h => by
    rw [List.all_cons, Bool.and_eq_true, Bool.not_eq_true'] at h
    rw [se h.1]
    have ih := spl (env := env) (pos := pos) h.2
    unfold backTo at ih ⊢
    rw [List.map_cons, List.any_cons, ih]
    rfl
theorem sfew {env : PySem.Env} {pos : Pos} : ∀ {es : List Expr}, es.all (fun e => !isStar e) = true → es.length < 30 → ((backTo pos (starEach es env)).all (fun x => !x.1) && (backToKw pos (keywordEach [] env)).all (fun x => x.1.isSome) && decide (es.length + ([] : List Keyword).length + (if ([] : List Keyword).isEmpty then 0 else 1) < 30)) = true := fun {es} h hl => by
  have k : ∀ {es : List Expr}, es.all (fun e => !isStar e) = true → (backTo pos (starEach es env)).all (fun x => !x.1) = true := by
    intro es
    induction es with
    | nil => intro _; rfl
    | cons e es ih =>
      intro h
      rw [List.all_cons, Bool.and_eq_true, Bool.not_eq_true'] at h
      rw [se h.1]
      have q := ih h.2
      unfold backTo at q ⊢
      rw [List.map_cons, List.all_cons, q]
      rfl
  rw [k h, decide_eq_true (by simpa using hl)]
  rfl

section
variable {X : Cx} {e a b c : Expr} {ds : List It} {pos : Pos} {A B : D} {i j : Int}
theorem xv_eq (hu : X.A.units + 64 < cLine) (ha : XB X a ds A) (hb : XB X b ds B) (h1 : okE A = true) (h2 : okE B = true) : XV X (.Compare a [.Eq] [b] pos) ds (.bl (eqD A B)) :=
  xv_cmp (op_eqD hu) ha hb (nomark _) fun S H x y Q k r1 r2 q => ⟨_, _, rb_dp k r1 (okE_l h1), rb_dp k r2 (okE_l h2), okE_r h1, okE_r h2, q⟩
theorem xt_eq (hu : X.A.units + 64 < cLine) (ha : XB X a ds A) (hb : XB X b ds B) (h1 : okE A = true) (h2 : okE B = true) : XT X (.Compare a [.Eq] [b] pos) ds (eqD A B) :=
  xt_cmp (op_eqD hu) ha hb (nomark _) fun S H x y Q k r1 r2 q => ⟨_, _, rb_dp k r1 (okE_l h1), rb_dp k r2 (okE_l h2), okE_r h1, okE_r h2, q⟩
theorem xv_ne (hu : X.A.units + 64 < cLine) (ha : XB X a ds A) (hb : XB X b ds B) (h1 : okE A = true) (h2 : okE B = true) : XV X (.Compare a [.NotEq] [b] pos) ds (.bl (!eqD A B)) :=
  xv_cmp (op_neD hu) ha hb (nomark _) fun S H x y Q k r1 r2 q => ⟨_, _, rb_dp k r1 (okE_l h1), rb_dp k r2 (okE_l h2), okE_r h1, okE_r h2, q⟩
theorem xt_ne (hu : X.A.units + 64 < cLine) (ha : XB X a ds A) (hb : XB X b ds B) (h1 : okE A = true) (h2 : okE B = true) : XT X (.Compare a [.NotEq] [b] pos) ds (!eqD A B) :=
  xt_cmp (op_neD hu) ha hb (nomark _) fun S H x y Q k r1 r2 q => ⟨_, _, rb_dp k r1 (okE_l h1), rb_dp k r2 (okE_l h2), okE_r h1, okE_r h2, q⟩
/-- of whole numbers, no room asked -/
theorem xv_eqI (ha : XB X a ds (.int i)) (hb : XB X b ds (.int j)) : XV X (.Compare a [.Eq] [b] pos) ds (.bl (decide (i = j))) :=
  xv_cmp op_eq ha hb (nomark _) fun S H x y Q k r1 r2 q => by rw [r1.int, r2.int]; exact ⟨rfl, by simpa using q⟩
theorem xt_eqI (ha : XB X a ds (.int i)) (hb : XB X b ds (.int j)) : XT X (.Compare a [.Eq] [b] pos) ds (decide (i = j)) :=
  xt_cmp op_eq ha hb (nomark _) fun S H x y Q k r1 r2 q => by rw [r1.int, r2.int]; exact ⟨rfl, by simpa using q⟩
theorem xv_neI (ha : XB X a ds (.int i)) (hb : XB X b ds (.int j)) : XV X (.Compare a [.NotEq] [b] pos) ds (.bl (!decide (i = j))) :=
  xv_cmp op_ne ha hb (nomark _) fun S H x y Q k r1 r2 q => by rw [r1.int, r2.int]; exact ⟨rfl, by simpa using q⟩
theorem xt_neI (ha : XB X a ds (.int i)) (hb : XB X b ds (.int j)) : XT X (.Compare a [.NotEq] [b] pos) ds (!decide (i = j)) :=
  xt_cmp op_ne ha hb (nomark _) fun S H x y Q k r1 r2 q => by rw [r1.int, r2.int]; exact ⟨rfl, by simpa using q⟩
/-- is None -/
def isNon : D → Bool
  | .non => true
  | _ => false
theorem rb_isNon {K : Fg} {S H : Hp} {v : V} {d : D} (h : Rb K S H v d) : decide (v = .non) = isNon d := by
  rcases h with h | ⟨p, vs, xs, rfl, rfl, _⟩
  · cases h <;> simp [isNon]
  · simp [isNon]
theorem xv_isN {j} {p2} (ha : XB X a ds A) : XV X (.Compare a [.Is] [.Constant .none j p2] pos) ds (.bl (isNon A)) :=
  xv_cmp (B := .non) op_isN ha xv_non.br (nomark _) fun S H x y Q k r1 r2 q => ⟨r2.non, by rw [rb_isNon r1]; exact q⟩
theorem xt_isN {j} {p2} (ha : XB X a ds A) : XT X (.Compare a [.Is] [.Constant .none j p2] pos) ds (isNon A) :=
  xt_cmp (B := .non) op_isN ha xv_non.br (nomark _) fun S H x y Q k r1 r2 q => ⟨r2.non, by rw [rb_isNon r1]; exact q⟩
theorem xt_notN {j} {p2} (ha : XB X a ds A) : XT X (.Compare a [.IsNot] [.Constant .none j p2] pos) ds (!isNon A) :=
  xt_cmp (B := .non) op_notN ha xv_non.br (nomark _) fun S H x y Q k r1 r2 q => ⟨r2.non, by rw [rb_isNon r1]; exact q⟩
theorem xv_notN {j} {p2} (ha : XB X a ds A) : XV X (.Compare a [.IsNot] [.Constant .none j p2] pos) ds (.bl (!isNon A)) :=
  xv_cmp (B := .non) op_notN ha xv_non.br (nomark _) fun S H x y Q k r1 r2 q => ⟨r2.non, by rw [rb_isNon r1]; exact q⟩
/-- in a list -/
def inD (A : D) (xs : List D) : Bool := xs.any fun x => eqD x A
theorem pyAll_map (xs : List D) : pyAll xs = xs.map py := by
  induction xs with
  | nil => rfl
  | cons x xs ih => simp only [pyAll, List.map_cons, ih]
theorem rb_seq {K : Fg} {S H : Hp} {v : V} {A : D} {ys : List D} (k : Same S H) (h : Rb K S H v A) (e : A = .lst ys ∨ A = .tup ys) : ∃ p vs, v = .ref p ∧ (SqL K H p vs ∨ SqT K H p vs) ∧ RpA K S vs ys := by
  rcases e with rfl | rfl
  · obtain ⟨p, vs, rfl, h1, h2⟩ := h.lst k
    exact ⟨p, vs, rfl, .inl (sq_of h1), h2⟩
  · obtain ⟨p, vs, rfl, h1, h2⟩ := h.tup
    exact ⟨p, vs, rfl, .inr (st_of (k _ _ h1)), h2⟩

/-! ### subscripts -/
def ixD : D → Int → Option D
  | .lst xs, i => atI xs i
  | .tup xs, i => atI xs i
  | .scr ns, i => (atI ns i).map .int
  | _, _ => none
theorem da_atI {K : Fg} {S : Hp} {vs : List V} {xs : List D} {i : Int} {d : D} (h : RpA K S vs xs) (e : atI xs i = some d) : ∃ v, atI vs i = some v ∧ Rp K S v d := by
  unfold atI at e ⊢
  rw [da_len h]
  cases q : ixN xs.length i with
  | none => rw [q] at e; cases e
  | some j => rw [q] at e; exact da_get h e
theorem xv_ix {d : D} (ha : XB X a ds A) (hb : XB X b ds (.int i)) (h : ixD A i = some d) (hs : PlainIx b := by exact fun _ _ => rfl) : XV X (.Subscript a b pos) ds d := .mk fun G S0 S H σ E Q q =>
  we_of (pe_ix ix_seq pe_w pe_w hs) (two ha hb E fun x y S' H' g r1 r2 => by
    cases A with
    | lst xs =>
      obtain ⟨p, vs, rfl, hp, ra⟩ := r1.lst g.sh
      obtain ⟨v, hv, rv⟩ := da_atI ra h
      exact .inl ⟨p, vs, i, v, rfl, r2.int, sq_of hp, hv, q v S' H' g rv⟩
    | tup xs =>
      obtain ⟨p, vs, rfl, hp, ra⟩ := r1.tup
      obtain ⟨v, hv, rv⟩ := da_atI ra h
      exact .inr (.inl ⟨p, vs, i, v, rfl, r2.int, st_of (g.sh _ _ hp), hv, q v S' H' g rv⟩)
    | scr ns =>
      obtain ⟨p, rfl, hp⟩ := r1.scr g.sh
      have h : (atI ns i).map D.int = some d := h
      cases z : atI ns i with
      | none => rw [z] at h; cases h
      | some n =>
        rw [z] at h
        cases h
        refine .inl ⟨p, _, i, .int n, rfl, r2.int, hp, ?_, q _ S' H' g (.int n)⟩
        unfold atI at z ⊢
        rw [List.length_map]
        cases w : ixN ns.length i with
        | none => rw [w] at z; cases z
        | some j =>
          rw [w] at z
          have z' : ns[j]? = some n := z
          show (ns.map V.int)[j]? = some (V.int n)
          rw [List.getElem?_map, z']
          rfl
    | _ => cases h)

/-! ### displays, arguments -/
theorem xa_nil : XA X [] ds [] := .mk fun G S0 S H σ E Q q => wa_of pa_nil (q [] S H E.gr .nil)
theorem xa_cons {es : List Expr} {d : D} {ys : List D} (ha : XV X e ds d) (hr : XA X es ds ys) (hs : starEach (e :: es) X.env = (false, eval e X.env) :: starEach es X.env := by exact se rfl) : XA X (e :: es) ds (d :: ys) := .mk fun G S0 S H σ E Q q =>
  wa_of (pa_cons pe_w pa_w hs) (ha G S0 S H σ E _ fun v S1 H1 g1 r1 => hr G S0 S1 H1 σ (E.grow g1) _ fun vs S2 H2 g2 r2 => q _ S2 H2 (g1.trans g2) (.cons (dp_same g2.s r1) r2))
theorem xab_nil : XAB X [] ds [] := .mk fun G S0 S H σ E Q q => wa_of pa_nil (q [] S H E.gr .nil)
theorem xab_cons {es : List Expr} {d : D} {ys : List D} (ha : XB X e ds d) (hr : XAB X es ds ys) (hs : starEach (e :: es) X.env = (false, eval e X.env) :: starEach es X.env := by exact se rfl) : XAB X (e :: es) ds (d :: ys) := .mk fun G S0 S H σ E Q q =>
  wa_of (pa_cons pe_w pa_w hs) (ha G S0 S H σ E _ fun v S1 H1 g1 r1 => hr G S0 S1 H1 σ (E.grow g1) _ fun vs S2 H2 g2 r2 => q _ S2 H2 (g1.trans g2) (.cons (r1.gr g2) r2))
theorem xl_lst {es : List Expr} {ys : List D} (ha : XA X es ds ys) (hz : ys.length ≤ 100000 := by first | exact Nat.le_of_ble_eq_true rfl | simp) : XL X (.List es pos) ds ys := .mk fun G S0 S H σ E Q q =>
  we_of (pe_lst pa_w) (ha G S0 S H σ E _ fun vs S' H' g r => ⟨sz _ (by rw [da_len r]; exact hz), fun p hp => q p vs S' _ (g.trans (Gr.newH g.sh hp)) (g.h.free hp) (g.sh.free hp) upd_same r⟩)
theorem xv_tup {es : List Expr} {ys : List D} {x1} (ha : XA X es ds ys) (hz : ys.length ≤ 100000 := by first | exact Nat.le_of_ble_eq_true rfl | simp) : XV X (.Tuple es x1 pos) ds (.tup ys) := .mk fun G S0 S H σ E Q q =>
  we_of (pe_tup pa_w) (ha G S0 S H σ E _ fun vs S' H' g r => ⟨sz _ (by rw [da_len r]; exact hz), fun p hp => q _ _ _ (g.trans (Gr.new g.sh hp)) (.tup upd_same (da_same (same_new (g.sh.free hp)) r))⟩)
theorem xl_rep {xs : List D} (ha : XB X a ds (.lst xs)) (hb : XB X b ds (.int j)) (h1 : -(2 ^ 63) ≤ j) (h2 : j < 2 ^ 63) (hz : xs.length * j.toNat ≤ 100000) : XL X (.BinOp a .Mult b pos) ds (List.replicate j.toNat xs).flatten :=
  xl_bin op_rep ha hb fun S H x y Q k r1 r2 q => by
    obtain ⟨p, vs, rfl, hp, ra⟩ := r1.lst k
    exact ⟨p, j, vs, rfl, r2.int, hp, h1, h2, sz _ (by rw [da_len ra]; exact hz), fun n hn => q n _ S _ (Gr.newH k hn) hn (k.free hn) upd_same (da_rep ra _)⟩

/-! ### built-ins -/
section
variable {id T : String} {r : List V → Hp → VK → Prop} {x : Str} {es : List Expr} {p : Pos} {ys : List D} {d : D}
theorem xv_callB (hc : CallR X (.builtin id) r) (hm : X.mg x = none) (hv : bootBuiltins x = some (.builtin id)) (ha : XAB X (e :: es) ds ys)
    (hr : ∀ (S H : Hp) vs (Q : VK), Same S H → RbA X.K S H vs ys → (∀ v S' H', Gr S H S' H' → Rp X.K S' v d → Q v H') → r vs H Q) (hg : Gl X x) (hn : x ≠ "__name__" := by decide) (hdb : (x == ("__debug__" : Str)) = false := by decide)
    (he : starEach (e :: es) X.env = (false, eval e X.env) :: starEach es X.env := by exact se rfl) (hpl : (backTo pos (starEach es X.env)).any (·.1) = false := by exact spl rfl) : XV X (.Call (.Name x p) (e :: es) [] pos) ds d := .mk fun G S0 S H σ E Q q =>
  we_of (pe_callB hc hg hm hv pa_w hn hdb he hpl) (ha G S0 S H σ E _ fun vs S' H' g rr => hr S' H' vs Q g.sh rr fun v S2 H2 g2 r2 => q v S2 H2 (g.trans g2) r2)
theorem xv_callTy (hc : CallR X (.type T) r) (hm : X.mg x = none) (hv : bootBuiltins x = some (.type T)) (ha : XAB X (e :: es) ds ys)
    (hr : ∀ (S H : Hp) vs (Q : VK), Same S H → RbA X.K S H vs ys → (∀ v S' H', Gr S H S' H' → Rp X.K S' v d → Q v H') → r vs H Q) (hg : Gl X x) (hn : x ≠ "__name__" := by decide) (hdb : (x == ("__debug__" : Str)) = false := by decide)
    (he : starEach (e :: es) X.env = (false, eval e X.env) :: starEach es X.env := by exact se rfl) (hpl : (backTo pos (starEach es X.env)).any (·.1) = false := by exact spl rfl) : XV X (.Call (.Name x p) (e :: es) [] pos) ds d := .mk fun G S0 S H σ E Q q =>
  we_of (pe_callTy hc hg hm hv pa_w hn hdb he hpl) (ha G S0 S H σ E _ fun vs S' H' g rr => hr S' H' vs Q g.sh rr fun v S2 H2 g2 r2 => q v S2 H2 (g.trans g2) r2)
theorem xl_callB {xs : List D} (hc : CallR X (.builtin id) r) (hm : X.mg x = none) (hv : bootBuiltins x = some (.builtin id)) (ha : XAB X (e :: es) ds ys)
    (hr : ∀ (S H : Hp) vs (Q : VK), Same S H → RbA X.K S H vs ys → (∀ p vs S' H', Gr S H S' H' → H p = none → S' p = none → H' p = some (.lst vs) → RpA X.K S' vs xs → Q (.ref p) H') → r vs H Q) (hg : Gl X x) (hn : x ≠ "__name__" := by decide) (hdb : (x == ("__debug__" : Str)) = false := by decide)
    (he : starEach (e :: es) X.env = (false, eval e X.env) :: starEach es X.env := by exact se rfl) (hpl : (backTo pos (starEach es X.env)).any (·.1) = false := by exact spl rfl) : XL X (.Call (.Name x p) (e :: es) [] pos) ds xs := .mk fun G S0 S H σ E Q q =>
  we_of (pe_callB hc hg hm hv pa_w hn hdb he hpl) (ha G S0 S H σ E _ fun vs S' H' g rr => hr S' H' vs Q g.sh rr fun p ws S2 H2 g2 h1 h2 h3 h4 => q p ws S2 H2 (g.trans g2) (g.h.free h1) h2 h3 h4)
theorem xl_callTy {xs : List D} (hc : CallR X (.type T) r) (hm : X.mg x = none) (hv : bootBuiltins x = some (.type T)) (ha : XAB X (e :: es) ds ys)
    (hr : ∀ (S H : Hp) vs (Q : VK), Same S H → RbA X.K S H vs ys → (∀ p vs S' H', Gr S H S' H' → H p = none → S' p = none → H' p = some (.lst vs) → RpA X.K S' vs xs → Q (.ref p) H') → r vs H Q) (hg : Gl X x) (hn : x ≠ "__name__" := by decide) (hdb : (x == ("__debug__" : Str)) = false := by decide)
    (he : starEach (e :: es) X.env = (false, eval e X.env) :: starEach es X.env := by exact se rfl) (hpl : (backTo pos (starEach es X.env)).any (·.1) = false := by exact spl rfl) : XL X (.Call (.Name x p) (e :: es) [] pos) ds xs := .mk fun G S0 S H σ E Q q =>
  we_of (pe_callTy hc hg hm hv pa_w hn hdb he hpl) (ha G S0 S H σ E _ fun vs S' H' g rr => hr S' H' vs Q g.sh rr fun p ws S2 H2 g2 h1 h2 h3 h4 => q p ws S2 H2 (g.trans g2) (g.h.free h1) h2 h3 h4)
end
theorem rba1 {K : Fg} {S H : Hp} {vs : List V} {d : D} (h : RbA K S H vs [d]) : ∃ v, vs = [v] ∧ Rb K S H v d := by
  cases h with
  | cons h t => cases t; exact ⟨_, rfl, h⟩
theorem rba2 {K : Fg} {S H : Hp} {vs : List V} {d d' : D} (h : RbA K S H vs [d, d']) : ∃ v w, vs = [v, w] ∧ Rb K S H v d ∧ Rb K S H w d' := by
  cases h with
  | cons h t =>
    obtain ⟨w, rfl, q⟩ := rba1 t
    exact ⟨_, w, rfl, h, q⟩
/-- how many -/
def lenD : D → Option Nat
  | .lst xs => some xs.length
  | .tup xs => some xs.length
  | .scr xs => some xs.length
  | _ => none
theorem boot_abs : bootBuiltins ("abs" : Str) = some (.builtin "abs") := by decide +kernel
theorem boot_max : bootBuiltins ("max" : Str) = some (.builtin "max") := by decide +kernel
theorem boot_min : bootBuiltins ("min" : Str) = some (.builtin "min") := by decide +kernel
theorem boot_int : bootBuiltins ("int" : Str) = some (.type "int") := by decide +kernel
theorem boot_list : bootBuiltins ("list" : Str) = some (.type "list") := by decide +kernel
theorem boot_tuple : bootBuiltins ("tuple" : Str) = some (.type "tuple") := by decide +kernel
theorem boot_sum' : bootBuiltins ("sum" : Str) = some (.builtin "sum") := by decide +kernel
theorem boot_any' : bootBuiltins ("any" : Str) = some (.builtin "any") := by decide +kernel
theorem boot_all' : bootBuiltins ("all" : Str) = some (.builtin "all") := by decide +kernel
theorem xv_len {p : Pos} {n : Nat} (hm : X.mg "len" = none) (ha : XB X e ds A) (hn : lenD A = some n := by rfl) (hg : Gl X "len" := by rfl) (hs : starEach [e] X.env = (false, eval e X.env) :: starEach [] X.env := by exact se rfl) (hpl : (backTo pos (starEach [] X.env)).any (·.1) = false := by exact spl rfl) :
    XV X (.Call (.Name "len" p) [e] [] pos) ds (.int n) :=
  xv_callB call_len_seq hm PySem.boot_len (xab_cons ha xab_nil hs) (fun S H vs Q k r q => by
    obtain ⟨v, rfl, r1⟩ := rba1 r
    cases A with
    | lst xs =>
      cases hn
      obtain ⟨p, vs, rfl, h1, h2⟩ := r1.lst k
      exact ⟨p, vs, rfl, .inl (sq_of h1), by rw [da_len h2]; exact q _ S H (.refl k) (.int _)⟩
    | tup xs =>
      cases hn
      obtain ⟨p, vs, rfl, h1, h2⟩ := r1.tup
      exact ⟨p, vs, rfl, .inr (st_of (k _ _ h1)), by rw [da_len h2]; exact q _ S H (.refl k) (.int _)⟩
    | scr xs =>
      cases hn
      obtain ⟨p, rfl, h1⟩ := r1.scr k
      exact ⟨p, _, rfl, .inl h1, by rw [List.length_map]; exact q _ S H (.refl k) (.int _)⟩
    | _ => cases hn) hg (he := hs) (hpl := hpl)
theorem xv_abs {p : Pos} (hm : X.mg "abs" = none) (ha : XB X e ds (.int i)) (hg : Gl X "abs" := by rfl) (hs : starEach [e] X.env = (false, eval e X.env) :: starEach [] X.env := by exact se rfl) (hpl : (backTo pos (starEach [] X.env)).any (·.1) = false := by exact spl rfl) :
    XV X (.Call (.Name "abs" p) [e] [] pos) ds (.int (i.natAbs : Int)) :=
  xv_callB call_abs hm boot_abs (xab_cons ha xab_nil hs) (fun S H vs Q k r q => by
    obtain ⟨v, rfl, r1⟩ := rba1 r
    rw [r1.int]
    refine ⟨i, rfl, ?_⟩
    have e : (if i < 0 then -i else i) = (i.natAbs : Int) := by split <;> omega
    rw [e]
    exact q _ S H (.refl k) (.int _)) hg (he := hs) (hpl := hpl)
theorem xv_max {p : Pos} (hc : X.calm = true) (hm : X.mg "max" = none) (ha : XB X a ds (.int i)) (hb : XB X b ds (.int j)) (hg : Gl X "max" := by rfl) (hs : starEach [a, b] X.env = (false, eval a X.env) :: starEach [b] X.env := by exact se rfl) (hs' : starEach [b] X.env = (false, eval b X.env) :: starEach [] X.env := by exact se rfl) (hpl : (backTo pos (starEach [b] X.env)).any (·.1) = false := by exact spl rfl) :
    XV X (.Call (.Name "max" p) [a, b] [] pos) ds (.int (max i j)) :=
  xv_callB (call_max2 hc) hm boot_max (xab_cons ha (xab_cons hb xab_nil hs') hs) (fun S H vs Q k r q => by
    obtain ⟨v, w, rfl, r1, r2⟩ := rba2 r
    rw [r1.int, r2.int]
    refine ⟨i, j, rfl, ?_⟩
    have e : (if j > i then j else i) = max i j := by split <;> omega
    rw [e]
    exact q _ S H (.refl k) (.int _)) hg (he := hs) (hpl := hpl)
theorem xv_int1 {p : Pos} {k : Bool} (hm : X.mg "int" = none) (ha : XB X e ds (.bl k)) (hg : Gl X "int" := by rfl) (hs : starEach [e] X.env = (false, eval e X.env) :: starEach [] X.env := by exact se rfl) (hpl : (backTo pos (starEach [] X.env)).any (·.1) = false := by exact spl rfl) :
    XV X (.Call (.Name "int" p) [e] [] pos) ds (.int (if k then 1 else 0)) :=
  xv_callTy call_int1 hm boot_int (xab_cons ha xab_nil hs) (fun S H vs Q kk r q => by
    obtain ⟨v, rfl, r1⟩ := rba1 r
    rw [r1.bl]
    exact .inr ⟨k, rfl, q _ S H (.refl kk) (.int _)⟩) hg (he := hs) (hpl := hpl)
theorem xl_list {p : Pos} {xs : List D} (hm : X.mg "list" = none) (ha : XB X e ds A) (hA : A = .lst xs ∨ A = .tup xs := by first | exact Or.inl rfl | exact Or.inr rfl) (hg : Gl X "list" := by rfl) (hs : starEach [e] X.env = (false, eval e X.env) :: starEach [] X.env := by exact se rfl) (hpl : (backTo pos (starEach [] X.env)).any (·.1) = false := by exact spl rfl) :
    XL X (.Call (.Name "list" p) [e] [] pos) ds xs :=
  xl_callTy call_list_of hm boot_list (xab_cons ha xab_nil hs) (fun S H vs Q k r q => by
    obtain ⟨v, rfl, r1⟩ := rba1 r
    obtain ⟨p, vs, rfl, h1, h2⟩ := rb_seq k r1 hA
    exact ⟨p, vs, rfl, h1, fun l hl => q l vs S _ (Gr.newH k hl) hl (k.free hl) upd_same h2⟩) hg (he := hs) (hpl := hpl)
theorem xv_tuple {p : Pos} {xs : List D} (hm : X.mg "tuple" = none) (ha : XB X e ds (.lst xs)) (hg : Gl X "tuple" := by rfl) (hs : starEach [e] X.env = (false, eval e X.env) :: starEach [] X.env := by exact se rfl) (hpl : (backTo pos (starEach [] X.env)).any (·.1) = false := by exact spl rfl) :
    XV X (.Call (.Name "tuple" p) [e] [] pos) ds (.tup xs) :=
  xv_callTy call_tuple_of hm boot_tuple (xab_cons ha xab_nil hs) (fun S H vs Q k r q => by
    obtain ⟨v, rfl, r1⟩ := rba1 r
    obtain ⟨p, vs, rfl, h1, h2⟩ := r1.lst k
    exact ⟨p, vs, rfl, .inl ⟨sq_of h1, fun l hl => q _ _ _ (Gr.new k hl) (.tup upd_same (da_same (same_new (k.free hl)) h2))⟩⟩) hg (he := hs) (hpl := hpl)
end
end Lay
/-! Lay4: what a statement does. -/
namespace Lay
open PySem L2
/-- how a statement ends -/
inductive Ou where
  | nx (ds : List It)
  | bk (ds : List It)
  | ct (ds : List It)
  /-- a value is handed back -/
  | rt (d : D)
  /-- .. and slot 0 holds this -/
  | rs (d : D) (it : It)
  /-- an exception of the class at c -/
  | er (c : Addr)
  /-- .. the slots as they are -/
  | es (c : Addr) (ds : List It)
structure Fnl (G S0 S H : Hp) : Prop where
  sh : Same S H
  gh : Same G H
  s0 : Same S0 S
  gs : ∀ a, G a ≠ none → S a = S0 a
theorem Env.fin {K : Fg} {G S0 S H : Hp} {σ : St} {ds : List It} (e : Env K G S0 S H σ ds) : Fnl G S0 S H := ⟨e.sh, e.gh, e.s0, e.gs⟩
def PostS (K : Fg) (W : WX) (G S0 : Hp) (Z : Ends) : Ou → Prop
  | .nx ds => ∀ σ S H, Env K G S0 S H σ ds → Z.nx σ H
  | .bk ds => ∀ σ S H, Env K G S0 S H σ ds → Z.bk σ H
  | .ct ds => ∀ σ S H, Env K G S0 S H σ ds → Z.ct σ H
  | .rt d => ∀ v S H, Fnl G S0 S H → Rp K S v d → Z.rt v H
  | .rs d it => ∀ v σ S H ds, Env K G S0 S H σ (it :: ds) → Rp K S v d → Z.rt v H
  | .er c => ∀ σ S H, Fnl G S0 S H → W (.ref c) none σ H
  | .es c ds => ∀ σ S H, Env K G S0 S H σ ds → W (.ref c) none σ H
/-- ds' tells less -/
structure Le (ds ds' : List It) : Prop where
  mk ::
  run : ∀ (K : Fg) (G S0 S H : Hp) (σ : St), Env K G S0 S H σ ds → Env K G S0 S H σ ds'
instance {ds ds' : List It} : CoeFun (Le ds ds') (fun _ => ∀ (K : Fg) (G S0 S H : Hp) (σ : St), Env K G S0 S H σ ds → Env K G S0 S H σ ds') := ⟨Le.run⟩
theorem Le.refl {ds : List It} : Le ds ds := .mk fun _ _ _ _ _ _ e => e
theorem Le.trans {a b c : List It} (h : Le a b) (q : Le b c) : Le a c := .mk fun _ _ _ _ _ _ e => q _ _ _ _ _ _ (h _ _ _ _ _ _ e)
theorem Le.no {ds : List It} (i : Nat) : Le ds (ds.set i .no) := .mk fun K G S0 S H σ e => by
  have q := e.put_no i (σ[i]?.join)
  by_cases hi : i < σ.length
  · have z : σ[i]?.join = σ[i] := by rw [List.getElem?_eq_getElem hi]; rfl
    rw [z, List.set_getElem_self] at q
    exact q
  · rw [List.set_eq_of_length_le (by omega)] at q
    exact q
/-- the slots js are forgotten -/
def fg : List Nat → List It → List It
  | [], ds => ds
  | j :: js, ds => fg js (ds.set j .no)
theorem Le.fg {ds ds' : List It} (js : List Nat) (h : fg js ds = ds') : Le ds ds' := by
  subst h
  induction js generalizing ds with
  | nil => exact .refl
  | cons j js ih => exact (Le.no j).trans ih
theorem Le.eq {ds ds' : List It} (h : ds = ds') : Le ds ds' := h ▸ .refl

section
variable {X : Cx} {W : WX} {e a b c : Expr} {st : Stmt} {sts rest : List Stmt} {ds ds' ds1 : List It} {o : Ou} {pos : Pos} {d : D} {xs ys : List D}
def wS (X : Cx) (st : Stmt) : TS := fun Z σ H => ∀ pins s, Inv X pins σ H s → wpAny (model X.prog X.w) X.A (exec st X.env) (SP X pins Z) X.xe s
theorem ps_w : PS X st (wS X st) := ⟨fun pins s _ _ _ I h => h pins s I⟩
def wSs (X : Cx) (sts : List Stmt) : TS := fun Z σ H => ∀ pins s, Inv X pins σ H s → wpAny (model X.prog X.w) X.A (execs sts X.env) (SP X pins Z) X.xe s
theorem pss_w : PSs X sts (wSs X sts) := ⟨fun pins s _ _ _ I h => h pins s I⟩
def wG (X : Cx) (tg : Expr) : TG := fun v σ H Q => ∀ pins s u, Inv X pins σ H s → RelV v u → wpAny (model X.prog X.w) X.A (assign tg X.env u) (fun _ s' => ∃ σ' H', Inv X pins σ' H' s' ∧ Q σ' H') X.xe s
theorem pg_w {tg : Expr} : PG X tg (wG X tg) := ⟨fun pins s _ _ _ u _ I r h => h pins s u I r⟩
def wGs (X : Cx) (tgs : List Expr) : TGs := fun vs σ H Q => ∀ pins s us, Inv X pins σ H s → Vals vs us → wpAny (model X.prog X.w) X.A (assignInOrder ((assignEach tgs X.env).map (·.2)) us) (fun _ s' => ∃ σ' H', Inv X pins σ' H' s' ∧ Q σ' H') X.xe s
theorem pgs_w {tgs : List Expr} : PGs X tgs (wGs X tgs) := ⟨fun pins s _ _ _ us _ I r h => h pins s us I r⟩
theorem ws_of {t : TS} (h : PS X st t) {σ : St} {H : Hp} {Z : Ends} (q : t Z σ H) : wS X st Z σ H := fun pins s I => h.run pins s σ H Z I q
theorem wss_of {t : TS} (h : PSs X sts t) {σ : St} {H : Hp} {Z : Ends} (q : t Z σ H) : wSs X sts Z σ H := fun pins s I => h.run pins s σ H Z I q
theorem wg_of {tg : Expr} {t : TG} (h : PG X tg t) {v : V} {σ : St} {H : Hp} {Q : St → Hp → Prop} (q : t v σ H Q) : wG X tg v σ H Q := fun pins s u I r => h.run pins s σ H v u Q I r q
theorem wgs_of {tgs : List Expr} {t : TGs} (h : PGs X tgs t) {v : List V} {σ : St} {H : Hp} {Q : St → Hp → Prop} (q : t v σ H Q) : wGs X tgs v σ H Q := fun pins s u I r => h.run pins s σ H v u Q I r q

structure XS (X : Cx) (W : WX) (st : Stmt) (ds : List It) (o : Ou) : Prop where
  mk ::
  run : ∀ G S0 S H σ, Env X.K G S0 S H σ ds → ∀ Z, PostS X.K W G S0 Z o → wS X st Z σ H
instance {X : Cx} {W : WX} {st : Stmt} {ds : List It} {o : Ou} : CoeFun (XS X W st ds o) (fun _ => ∀ G S0 S H σ, Env X.K G S0 S H σ ds → ∀ Z, PostS X.K W G S0 Z o → wS X st Z σ H) := ⟨XS.run⟩
structure XSs (X : Cx) (W : WX) (sts : List Stmt) (ds : List It) (o : Ou) : Prop where
  mk ::
  run : ∀ G S0 S H σ, Env X.K G S0 S H σ ds → ∀ Z, PostS X.K W G S0 Z o → wSs X sts Z σ H
instance {X : Cx} {W : WX} {sts : List Stmt} {ds : List It} {o : Ou} : CoeFun (XSs X W sts ds o) (fun _ => ∀ G S0 S H σ, Env X.K G S0 S H σ ds → ∀ Z, PostS X.K W G S0 Z o → wSs X sts Z σ H) := ⟨XSs.run⟩
/-- a target gets d -/
structure XG (X : Cx) (tg : Expr) (d : D) (ds ds' : List It) : Prop where
  mk ::
  run : ∀ G S0 S H σ v, Env X.K G S0 S H σ ds → Rp X.K S v d → ∀ Q : St → Hp → Prop, (∀ σ', Env X.K G S0 S H σ' ds' → Q σ' H) → wG X tg v σ H Q
instance {X : Cx} {tg : Expr} {d : D} {ds ds' : List It} : CoeFun (XG X tg d ds ds') (fun _ => ∀ G S0 S H σ v, Env X.K G S0 S H σ ds → Rp X.K S v d → ∀ Q : St → Hp → Prop, (∀ σ', Env X.K G S0 S H σ' ds' → Q σ' H) → wG X tg v σ H Q) := ⟨XG.run⟩
structure XGs (X : Cx) (tgs : List Expr) (xs : List D) (ds ds' : List It) : Prop where
  mk ::
  run : ∀ G S0 S H σ vs, Env X.K G S0 S H σ ds → RpA X.K S vs xs → ∀ Q : St → Hp → Prop, (∀ σ', Env X.K G S0 S H σ' ds' → Q σ' H) → wGs X tgs vs σ H Q
instance {X : Cx} {tgs : List Expr} {xs : List D} {ds ds' : List It} : CoeFun (XGs X tgs xs ds ds') (fun _ => ∀ G S0 S H σ vs, Env X.K G S0 S H σ ds → RpA X.K S vs xs → ∀ Q : St → Hp → Prop, (∀ σ', Env X.K G S0 S H σ' ds' → Q σ' H) → wGs X tgs vs σ H Q) := ⟨XGs.run⟩

/-! ### blocks -/
def goesOn : Ou → Bool
  | .nx _ => true
  | _ => false
theorem xss_nil : XSs X W [] ds (.nx ds) := .mk fun G S0 S H σ E Z q => wss_of pss_nil (q σ S H E)
theorem xss_cons (h1 : XS X W st ds (.nx ds1)) (h2 : XSs X W rest ds1 o) : XSs X W (st :: rest) ds o := .mk fun G S0 S H σ E Z q =>
  wss_of (pss_cons ps_w pss_w) (h1 G S0 S H σ E _ fun σ' S' H' E' => h2 G S0 S' H' σ' E' Z q)
theorem xss_stop (h1 : XS X W st ds o) (ho : goesOn o = false := by rfl) : XSs X W (st :: rest) ds o := .mk fun G S0 S H σ E Z q =>
  wss_of (pss_cons ps_w pss_w) (h1 G S0 S H σ E _ (by cases o <;> first | exact q | cases ho))
theorem xss_one (h1 : XS X W st ds o) : XSs X W [st] ds o := .mk fun G S0 S H σ E Z q => wss_of (pss_one ps_w) (h1 G S0 S H σ E Z q)
theorem XSs.pre (h : XSs X W sts ds' o) (l : Le ds ds') : XSs X W sts ds o := .mk fun G S0 S H σ E Z q => h G S0 S H σ (l _ _ _ _ _ _ E) Z q
theorem XS.pre (h : XS X W st ds' o) (l : Le ds ds') : XS X W st ds o := .mk fun G S0 S H σ E Z q => h G S0 S H σ (l _ _ _ _ _ _ E) Z q
theorem XSs.le (h : XSs X W sts ds (.nx ds1)) (l : Le ds1 ds') : XSs X W sts ds (.nx ds') := .mk fun G S0 S H σ E Z q => h G S0 S H σ E Z fun σ' S' H' E' => q σ' S' H' (l _ _ _ _ _ _ E')
theorem XS.le (h : XS X W st ds (.nx ds1)) (l : Le ds1 ds') : XS X W st ds (.nx ds') := .mk fun G S0 S H σ E Z q => h G S0 S H σ E Z fun σ' S' H' E' => q σ' S' H' (l _ _ _ _ _ _ E')
theorem XSs.er {c : Addr} (h : XSs X W sts ds (.es c ds1)) : XSs X W sts ds (.er c) := .mk fun G S0 S H σ E Z q => h G S0 S H σ E Z fun σ' S' H' E' => q σ' S' H' E'.fin
theorem XS.er {c : Addr} (h : XS X W st ds (.es c ds1)) : XS X W st ds (.er c) := .mk fun G S0 S H σ E Z q => h G S0 S H σ E Z fun σ' S' H' E' => q σ' S' H' E'.fin
theorem XSs.is {o' : Ou} (h : XSs X W sts ds o) (e : o = o') : XSs X W sts ds o' := e ▸ h
theorem XS.is {o' : Ou} (h : XS X W st ds o) (e : o = o') : XS X W st ds o' := e ▸ h
/-- an owned list is frozen -/
theorem XSs.freeze (i : Nat) (h : XSs X W sts (ds.set i (.fz (.lst xs))) o) (hd : ds[i]? = some (.ow xs) := by rfl) : XSs X W sts ds o := .mk fun G S0 S H σ E Z q => by
  obtain ⟨S', k, E'⟩ := E.freeze hd
  exact h G S0 S' H σ E' Z q
theorem XV.gr (h : XV X e ds d) : XV X e ds d := h

/-! ### targets -/
theorem xg_name (i : Nat) {x : Str} {p : Pos} (hN : X.N.Nodup) (hi : X.N[i]? = some x := by rfl) (hx : Loc X.env.scope x := by first | exact Or.inl rfl | exact Or.inr rfl) (hf : X.fn x = true ∨ X.env.scope.names.lookup x = some .local := by first | exact .inl rfl | exact .inr rfl) :
    XG X (.Name x p) d ds (ds.set i (.fz d)) := .mk fun G S0 S H σ v E r Q q => wg_of (pg_name (i := i) hN hi hx hf) (q _ (E.putD i r))
theorem xgs_nil : XGs X [] [] ds ds := .mk fun G S0 S H σ vs E r Q q => by cases r; exact wgs_of pgs_nil ⟨rfl, q σ E⟩
theorem xgs_cons {tg : Expr} {tgs : List Expr} (h1 : XG X tg d ds ds1) (h2 : XGs X tgs xs ds1 ds') (hs : (assignEach (tg :: tgs) X.env).map (·.2) = assign tg X.env :: (assignEach tgs X.env).map (·.2) := by rfl) : XGs X (tg :: tgs) (d :: xs) ds ds' := .mk fun G S0 S H σ vs E r Q q => by
  cases r with
  | cons r rs => exact wgs_of (pgs_cons pg_w pgs_w hs) ⟨_, _, rfl, h1 G S0 S H σ _ E r _ fun σ' E' => h2 G S0 S H σ' _ E' rs Q q⟩
theorem xg_tup {tgs : List Expr} {k : Nat} {p : Pos} (hc : X.calm = true) (h : XGs X tgs xs ds ds') (hn : (assignEach tgs X.env).length = xs.length := by rfl) (hst : (assignEach tgs X.env).findIdx? (·.1) = none := by rfl) : XG X (.Tuple tgs k p) (.tup xs) ds ds' := .mk fun G S0 S H σ v E r Q q => by
  cases r with
  | tup h1 ra => exact wg_of (pg_tup (n := xs.length) hc pgs_w hn hst) ⟨_, _, rfl, st_of (E.sh _ _ h1), by rw [da_len ra], h G S0 S H σ _ E ra Q q⟩

/-! ### stores -/
theorem xs_set (i : Nat) {x : Str} {p : Pos} (hN : X.N.Nodup) (he : XV X e ds d) (hi : X.N[i]? = some x := by rfl) (hx : Loc X.env.scope x := by first | exact Or.inl rfl | exact Or.inr rfl) (hs : swapsWith e (some (.Name x p)) pos.line X.env = pure false := by rfl)
    (hf : X.fn x = true ∨ X.env.scope.names.lookup x = some .local := by first | exact .inl rfl | exact .inr rfl) : XS X W (.Assign [.Name x p] e pos) ds (.nx (ds.set i (.fz d))) := .mk fun G S0 S H σ E Z q =>
  ws_of (ps_set hN hi hx pe_w hs hf) (he G S0 S H σ E _ fun v S' H' g r => q _ S' H' ((E.grow g).putD i r))
theorem xs_own (i : Nat) {x : Str} {p : Pos} (hN : X.N.Nodup) (he : XL X e ds xs) (hi : X.N[i]? = some x := by rfl) (hx : Loc X.env.scope x := by first | exact Or.inl rfl | exact Or.inr rfl) (hs : swapsWith e (some (.Name x p)) pos.line X.env = pure false := by rfl)
    (hf : X.fn x = true ∨ X.env.scope.names.lookup x = some .local := by first | exact .inl rfl | exact .inr rfl) : XS X W (.Assign [.Name x p] e pos) ds (.nx (ds.set i (.ow xs))) := .mk fun G S0 S H σ E Z q =>
  ws_of (ps_set hN hi hx pe_w hs hf) (he G S0 S H σ E _ fun p vs S' H' g h1 h2 h3 h4 => q _ S' H' (E.putL g i h1 h3 h2 h4))
theorem xs_asg {tg : Expr} (he : XV X e ds d) (hg : XG X tg d ds ds') (hs : swapsWithSole [tg] e pos.line X.env = pure false := by rfl) (hw : swappedStores [tg] e X.env = pure none := by rfl)
    (h1 : (assignEach [tg] X.env).map (·.2) = [assign tg X.env] := by rfl) : XS X W (.Assign [tg] e pos) ds (.nx ds') := .mk fun G S0 S H σ E Z q =>
  ws_of (ps_asg pe_w pg_w hs hw h1) (he G S0 S H σ E _ fun v S' H' g r => hg G S0 S' H' σ v (E.grow g) r _ fun σ' E' => q σ' S' H' E')
theorem xs_asgR {tg : Expr} {c : Addr} (he : XR X W e ds c) (hs : swapsWithSole [tg] e pos.line X.env = pure false := by rfl) (hw : swappedStores [tg] e X.env = pure none := by rfl)
    (h1 : (assignEach [tg] X.env).map (·.2) = [assign tg X.env] := by rfl) : XS X W (.Assign [tg] e pos) ds (.es c ds) := .mk fun G S0 S H σ E Z q =>
  ws_of (ps_asg pe_w pg_w hs hw h1) (he G S0 S H σ E (fun S' H' g => q σ S' H' (E.grow g)) _)
theorem xs_setR {x : Str} {p : Pos} {i : Nat} {c : Addr} (hN : X.N.Nodup) (he : XR X W e ds c) (hi : X.N[i]? = some x := by rfl) (hx : Loc X.env.scope x := by first | exact Or.inl rfl | exact Or.inr rfl) (hs : swapsWith e (some (.Name x p)) pos.line X.env = pure false := by rfl)
    (hf : X.fn x = true ∨ X.env.scope.names.lookup x = some .local := by first | exact .inl rfl | exact .inr rfl) : XS X W (.Assign [.Name x p] e pos) ds (.es c ds) := .mk fun G S0 S H σ E Z q =>
  ws_of (ps_set hN hi hx pe_w hs hf) (he G S0 S H σ E (fun S' H' g => q σ S' H' (E.grow g)) _)
theorem xs_expr (he : XV X e ds d) (hs : swapsWith e none pos.line X.env = pure false := by rfl) : XS X W (.Expr e pos) ds (.nx ds) := .mk fun G S0 S H σ E Z q =>
  ws_of (ps_expr pe_w hs) (he G S0 S H σ E _ fun v S' H' g r => q σ S' H' (E.grow g))
theorem xs_exprR {c : Addr} (he : XR X W e ds c) (hs : swapsWith e none pos.line X.env = pure false := by rfl) : XS X W (.Expr e pos) ds (.es c ds) := .mk fun G S0 S H σ E Z q =>
  ws_of (ps_expr pe_w hs) (he G S0 S H σ E (fun S' H' g => q σ S' H' (E.grow g)) _)
theorem xs_ret (he : XV X e ds d) : XS X W (.Return (some e) pos) ds (.rt d) := .mk fun G S0 S H σ E Z q =>
  ws_of (ps_ret pe_w) (he G S0 S H σ E _ fun v S' H' g r => q v S' H' (E.grow g).fin r)
theorem xs_retS {it : It} (he : XV X e (it :: ds) d) : XS X W (.Return (some e) pos) (it :: ds) (.rs d it) := .mk fun G S0 S H σ E Z q =>
  ws_of (ps_ret pe_w) (he G S0 S H σ E _ fun v S' H' g r => q v σ S' H' ds (E.grow g) r)
theorem xs_retR {c : Addr} (he : XR X W e ds c) : XS X W (.Return (some e) pos) ds (.es c ds) := .mk fun G S0 S H σ E Z q =>
  ws_of (ps_ret pe_w) (he G S0 S H σ E (fun S' H' g => q σ S' H' (E.grow g)) _)
theorem xs_pass : XS X W (.Pass pos) ds (.nx ds) := .mk fun G S0 S H σ E Z q => ws_of ps_pass (q σ S H E)
theorem xs_if {A B : List Stmt} {k : Bool} (hc : XT X c ds k) (ha : k = true → XSs X W A ds o) (hb : k = false → XSs X W B ds o) : XS X W (.If c A B pos) ds o := .mk fun G S0 S H σ E Z q =>
  ws_of (ps_if pt_w pss_w pss_w) (hc G S0 S H σ E _ fun S' H' g => by
    cases k with
    | true => rw [if_pos rfl]; exact ha rfl G S0 S' H' σ (E.grow g) Z q
    | false => rw [if_neg Bool.false_ne_true]; exact hb rfl G S0 S' H' σ (E.grow g) Z q)
theorem xs_yes {A B : List Stmt} (hc : XT X c ds true) (ha : XSs X W A ds o) : XS X W (.If c A B pos) ds o := xs_if hc (fun _ => ha) fun z => by cases z
theorem xs_no {A B : List Stmt} (hc : XT X c ds false) (ha : XSs X W B ds o) : XS X W (.If c A B pos) ds o := xs_if hc (fun z => by cases z) fun _ => ha

/-! ### a list of the frame's own -/
theorem ty_list {K : Fg} {H : Hp} {p : Addr} {vs : List V} (h : H p = some (.lst vs)) : tyV K "list" (.ref p) H := .inl ⟨rfl, _, sq_of h⟩
section
variable {x : Str} {px pa : Pos}
theorem bm_own {r : V → List V → Hp → VK → Prop} {es : List Expr} {name : Str} {id : String} {ys : List D} (i : Nat) (slot : Slot "list" name id) (hty : typeOf (.builtin id) = pure (.type "method_descriptor")) (hm : MtR X id r) (ha : XA X (e :: es) ds ys)
    (hd : ds[i]? = some (.ow xs)) (hN : X.N[i]? = some x) (hv : Vis X.env.scope x) (h1 : (x == ("__debug__" : Str)) = false) (h2 : (x == ("__classdict__" : Str)) = false)
    (hbase : attributeBase (.Name x px) name X.env (eval (.Name x px) X.env) = eval (.Name x px) X.env)
    (hfew : ((backTo pos (starEach (e :: es) X.env)).all (fun x => !x.1) && (backToKw pos (keywordEach [] X.env)).all (fun x => x.1.isSome)
      && decide ((e :: es).length + ([] : List Keyword).length + (if ([] : List Keyword).isEmpty then 0 else 1) < 30)) = true)
    (hline : (pa.endLine == pos.line) = true) (hs : starEach (e :: es) X.env = (false, eval e X.env) :: starEach es X.env) (hplain : (backTo pos (starEach es X.env)).any (·.1) = false)
    {G S0 S H : Hp} {σ : St} (E : Env X.K G S0 S H σ ds) {Q : VK} (q : ∀ p vs ws S' H', Gr S H S' H' → σ[i]? = some (some (.ref p)) → H' p = some (.lst vs) → S' p = none → G p = none → RpA X.K S' vs xs → RpA X.K S' ws ys → r (.ref p) ws H' Q) :
    wE X (.Call (.Attribute (.Name x px) name pa) (e :: es) [] pos) σ H Q := by
  obtain ⟨p, vs, hv', hp, sp, gp, ra⟩ := E.ow hd
  refine we_of (pe_bm PySem.F.plainAttrs_list slot hty hm (pe_var (i := i) hN hv h1 h2) pa_w hbase hfew hline hs hplain) ⟨.ref p, hv', ty_list hp, ha G S0 S H σ E _ fun ws S' H' g rw => ?_⟩
  exact q p vs ws S' H' g hv' (g.h _ _ hp) (by rw [g.old p (nn_of hp)]; exact sp) gp (da_same g.s ra) rw
theorem xs_append (i : Nat) (he : XV X e ds d) (hd : ds[i]? = some (.ow xs) := by rfl) (hz : xs.length < 100000) (hN : X.N[i]? = some x := by rfl) (hv : Vis X.env.scope x := by first | exact Or.inl rfl | exact Or.inr (Or.inl rfl) | exact Or.inr (Or.inr rfl))
    (h1 : (x == ("__debug__" : Str)) = false := by decide) (h2 : (x == ("__classdict__" : Str)) = false := by decide) (hbase : attributeBase (.Name x px) "append" X.env (eval (.Name x px) X.env) = eval (.Name x px) X.env := by rfl)
    {pc : Pos} (hfew : ((backTo pc (starEach [e] X.env)).all (fun x => !x.1) && (backToKw pc (keywordEach [] X.env)).all (fun x => x.1.isSome) && decide (([e] : List Expr).length + ([] : List Keyword).length + (if ([] : List Keyword).isEmpty then 0 else 1) < 30)) = true := by exact sfew rfl (by decide))
    (hline : (pa.endLine == pc.line) = true := by rfl) (hs : starEach [e] X.env = (false, eval e X.env) :: starEach [] X.env := by exact se rfl) (hplain : (backTo pc (starEach [] X.env)).any (·.1) = false := by exact spl rfl)
    (hsw : swapsWith (.Call (.Attribute (.Name x px) "append" pa) [e] [] pc) none pos.line X.env = pure false := by rfl) :
    XS X W (.Expr (.Call (.Attribute (.Name x px) "append" pa) [e] [] pc) pos) ds (.nx (ds.set i (.ow (xs ++ [d])))) := .mk fun G S0 S H σ E Z q =>
  ws_of (ps_expr pe_w hsw) (bm_own i PySem.F.slot_list_append PySem.F.type_list_append (fun pins s σ H x xs v us Q I rx rv h => mt_append pins s σ H x xs v us Q I rx rv h) (xa_cons he xa_nil hs) hd hN hv h1 h2 hbase hfew hline hs hplain E fun p vs ws S' H' g hv' hp sp gp ra rb => by
    cases rb with
    | cons r rn =>
      cases rn
      exact ⟨p, vs, _, rfl, rfl, hp, szlt _ (by rw [da_len ra]; exact hz), q _ S' _ ((E.grow g).mut hd hv' (da_append ra (da_one r)))⟩)
end
end
end Lay
/-! Lay5: more stores; loops. -/
namespace Lay
open PySem L2
section
variable {X : Cx} {W : WX} {e a b c : Expr} {st : Stmt} {sts rest body : List Stmt} {ds ds' ds1 : List It} {o : Ou} {pos : Pos} {d : D} {xs ys : List D} {tg iter : Expr}
section
variable {x : Str} {px pa : Pos}
theorem xs_extend (i : Nat) (he : XL X e ds ys) (hd : ds[i]? = some (.ow xs) := by rfl) (hz : xs.length + ys.length ≤ 100000) (hN : X.N[i]? = some x := by rfl) (hv : Vis X.env.scope x := by first | exact Or.inl rfl | exact Or.inr (Or.inl rfl) | exact Or.inr (Or.inr rfl))
    (h1 : (x == ("__debug__" : Str)) = false := by decide) (h2 : (x == ("__classdict__" : Str)) = false := by decide) (hbase : attributeBase (.Name x px) "extend" X.env (eval (.Name x px) X.env) = eval (.Name x px) X.env := by rfl)
    {pc : Pos} (hfew : ((backTo pc (starEach [e] X.env)).all (fun x => !x.1) && (backToKw pc (keywordEach [] X.env)).all (fun x => x.1.isSome) && decide (([e] : List Expr).length + ([] : List Keyword).length + (if ([] : List Keyword).isEmpty then 0 else 1) < 30)) = true := by exact sfew rfl (by decide))
    (hline : (pa.endLine == pc.line) = true := by rfl) (hs : starEach [e] X.env = (false, eval e X.env) :: starEach [] X.env := by exact se rfl) (hplain : (backTo pc (starEach [] X.env)).any (·.1) = false := by exact spl rfl)
    (hsw : swapsWith (.Call (.Attribute (.Name x px) "extend" pa) [e] [] pc) none pos.line X.env = pure false := by rfl) :
    XS X W (.Expr (.Call (.Attribute (.Name x px) "extend" pa) [e] [] pc) pos) ds (.nx (ds.set i (.ow (xs ++ ys)))) := .mk fun G S0 S H σ E Z q =>
  ws_of (ps_expr pe_w hsw) (bm_own i PySem.F.slot_list_extend PySem.F.type_list_extend (fun pins s σ H x xs v us Q I rx rv h => mt_extend pins s σ H x xs v us Q I rx rv h) (xa_cons he.v xa_nil hs) hd hN hv h1 h2 hbase hfew hline hs hplain E fun p vs ws S' H' g hv' hp sp gp ra rb => by
    cases rb with
    | cons r rn =>
      cases rn
      cases r with
      | lst hq rq => exact ⟨p, _, vs, _, rfl, rfl, hp, g.sh _ _ hq, sz _ (by rw [da_len ra, da_len rq]; exact hz), q _ S' _ ((E.grow g).mut hd hv' (da_append ra rq))⟩)
theorem xs_insert0 (i : Nat) {j0} {p0 : Pos} (he : XV X e ds d) (hd : ds[i]? = some (.ow xs) := by rfl) (hz : xs.length < 100000) (hN : X.N[i]? = some x := by rfl) (hv : Vis X.env.scope x := by first | exact Or.inl rfl | exact Or.inr (Or.inl rfl) | exact Or.inr (Or.inr rfl))
    (h1 : (x == ("__debug__" : Str)) = false := by decide) (h2 : (x == ("__classdict__" : Str)) = false := by decide) (hbase : attributeBase (.Name x px) "insert" X.env (eval (.Name x px) X.env) = eval (.Name x px) X.env := by rfl)
    {pc : Pos} (hfew : ((backTo pc (starEach [.Constant (.int 0) j0 p0, e] X.env)).all (fun x => !x.1) && (backToKw pc (keywordEach [] X.env)).all (fun x => x.1.isSome) && decide (([.Constant (.int 0) j0 p0, e] : List Expr).length + ([] : List Keyword).length + (if ([] : List Keyword).isEmpty then 0 else 1) < 30)) = true := by exact sfew rfl (by decide))
    (hline : (pa.endLine == pc.line) = true := by rfl) (hs0 : starEach [.Constant (.int 0) j0 p0, e] X.env = (false, eval (.Constant (.int 0) j0 p0) X.env) :: starEach [e] X.env := by exact se rfl) (hs : starEach [e] X.env = (false, eval e X.env) :: starEach [] X.env := by exact se rfl) (hplain : (backTo pc (starEach [e] X.env)).any (·.1) = false := by exact spl rfl)
    (hsw : swapsWith (.Call (.Attribute (.Name x px) "insert" pa) [.Constant (.int 0) j0 p0, e] [] pc) none pos.line X.env = pure false := by rfl) :
    XS X W (.Expr (.Call (.Attribute (.Name x px) "insert" pa) [.Constant (.int 0) j0 p0, e] [] pc) pos) ds (.nx (ds.set i (.ow (d :: xs)))) := .mk fun G S0 S H σ E Z q =>
  ws_of (ps_expr pe_w hsw) (bm_own i PySem.F.slot_list_insert PySem.F.type_list_insert (fun pins s σ H x xs v us Q I rx rv h => mt_insert pins s σ H x xs v us Q I rx rv h) (xa_cons xv_int (xa_cons he xa_nil hs) hs0) hd hN hv h1 h2 hbase hfew hline hs0 hplain E fun p vs ws S' H' g hv' hp sp gp ra rb => by
    cases rb with
    | cons r rn =>
      cases r
      cases rn with
      | cons r rn =>
        cases rn
        exact ⟨p, vs, 0, _, rfl, rfl, hp, szlt _ (by rw [da_len ra]; exact hz), by decide, by decide, q _ S' _ ((E.grow g).mut hd hv' (.cons r ra))⟩)
/-- y = xs.pop() -/
theorem xs_pop (i k : Nat) {y : Str} {py : Pos} {ev : D} (hNd : X.N.Nodup) (hik : i ≠ k) (hd : ds[i]? = some (.ow xs) := by rfl) (hl : xs.getLast? = some ev) (hN : X.N[i]? = some x := by rfl) (hv : Vis X.env.scope x := by first | exact Or.inl rfl | exact Or.inr (Or.inl rfl) | exact Or.inr (Or.inr rfl))
    (h1 : (x == ("__debug__" : Str)) = false := by decide) (h2 : (x == ("__classdict__" : Str)) = false := by decide) (hbase : attributeBase (.Name x px) "pop" X.env (eval (.Name x px) X.env) = eval (.Name x px) X.env := by rfl)
    {pc : Pos} (hline : (pa.endLine == pc.line) = true := by rfl) (hi : X.N[k]? = some y := by rfl) (hx : Loc X.env.scope y := by first | exact Or.inl rfl | exact Or.inr rfl) (hs : swapsWith (.Call (.Attribute (.Name x px) "pop" pa) [] [] pc) (some (.Name y py)) pos.line X.env = pure false := by rfl)
    (hf : X.fn y = true ∨ X.env.scope.names.lookup y = some .local := by first | exact .inl rfl | exact .inr rfl) :
    XS X W (.Assign [.Name y py] (.Call (.Attribute (.Name x px) "pop" pa) [] [] pc) pos) ds (.nx ((ds.set i (.ow xs.dropLast)).set k (.fz ev))) := .mk fun G S0 S H σ E Z q => by
  obtain ⟨p, vs, hv', hp, sp, gp, ra⟩ := E.ow hd
  refine ws_of (ps_set hNd hi hx (pe_bm0 PySem.F.plainAttrs_list PySem.F.slot_list_pop PySem.F.type_list_pop (fun pins s σ H x xs v us Q I rx rv h => mt_pop pins s σ H x xs v us Q I rx rv h) (pe_var (i := i) hN hv h1 h2) hbase hline) hs hf) ⟨.ref p, hv', ty_list hp, ?_⟩
  rw [List.getLast?_eq_getElem?] at hl
  obtain ⟨w, hw, rw'⟩ := da_get ra hl
  rw [← da_len ra] at hw
  exact ⟨p, vs, w, rfl, rfl, hp, hw, q _ S _ ((E.mut hd hv' (da_dropLast ra)).putD k rw')⟩
end
/-- xs[k] = e -/
theorem xs_setix (i : Nat) {x : Str} {px : Pos} {k : Int} {j : Nat} (he : XV X e ds d) (hb : XV X b ds (.int k)) (hd : ds[i]? = some (.ow xs) := by rfl) (hj : ixN xs.length k = some j) (hN : X.N[i]? = some x := by rfl) (hv : Vis X.env.scope x := by first | exact Or.inl rfl | exact Or.inr (Or.inl rfl) | exact Or.inr (Or.inr rfl))
    (h1 : (x == ("__debug__" : Str)) = false := by decide) (h2 : (x == ("__classdict__" : Str)) = false := by decide) {pt : Pos}
    (ha : ∀ v, assign (.Subscript (.Name x px) b pt) X.env v = (do
      let ov ← holding [v] (eval (.Name x px) X.env)
      let iv ← holding [v, ov] (eval b X.env)
      standAt pt
      holding [v, ov, iv] (setItem ov iv v)
      release [v, ov, iv] []) := by intro _; rfl)
    (hs : swapsWithSole [.Subscript (.Name x px) b pt] e pos.line X.env = pure false := by rfl) (hw : swappedStores [.Subscript (.Name x px) b pt] e X.env = pure none := by rfl)
    (h3 : (assignEach [.Subscript (.Name x px) b pt] X.env).map (·.2) = [assign (.Subscript (.Name x px) b pt) X.env] := by rfl) :
    XS X W (.Assign [.Subscript (.Name x px) b pt] e pos) ds (.nx (ds.set i (.ow (xs.set j d)))) := .mk fun G S0 S H σ E Z q =>
  ws_of (ps_asg pe_w (pg_sub (pe_var (i := i) hN hv h1 h2) pe_w set_list ha) hs hw h3) (he G S0 S H σ E _ fun v S' H' g r => by
    have E' := E.grow g
    obtain ⟨p, vs, hv', hp, sp, gp, ra⟩ := E'.ow hd
    refine ⟨.ref p, hv', hb G S0 S' H' σ E' _ fun kv S2 H2 g2 rk => ?_⟩
    cases rk
    exact ⟨p, vs, k, j, rfl, rfl, g2.h _ _ hp, by rw [da_len ra]; exact hj, q _ S2 _ ((E'.grow g2).mut hd hv' (da_set j (da_same g2.s ra) (dp_same g2.s r)))⟩)

/-! ### what is walked -/
def Wk (K : Fg) (J : L2.It) (xs : List D) (S : Hp) : Prop := ∀ (i : Nat) (S2 H2 : Hp), Same S S2 → Same S2 H2 → (i < xs.length → J.go i H2 ∧ ∀ x H3, J.yld i H2 x H3 → H3 = H2 ∧ ∃ d, xs[i]? = some d ∧ Rp K S2 x d) ∧ (xs.length ≤ i → J.stop i H2)
def wI (X : Cx) (tg iter : Expr) : TI := fun σ H R => ∀ pins s, Inv X pins σ H s → wpAny (model X.prog X.w) X.A (eval iter X.env) (fun v s1 => wpAny (model X.prog X.w) X.A (pyIter v) (PIE X pins σ tg R) X.xe s1) X.xe s
theorem pi_w : PI X tg iter (wI X tg iter) := ⟨fun pins s _ _ _ I h => h pins s I⟩
theorem wi_of {wi : TI} (h : PI X tg iter wi) {σ : St} {H : Hp} {R : L2.It → Hp → Prop} (q : wi σ H R) : wI X tg iter σ H R := fun pins s I => h.run pins s σ H R I q
structure XI (X : Cx) (tg iter : Expr) (ds : List It) (xs : List D) : Prop where
  mk ::
  run : ∀ G S0 S H σ, Env X.K G S0 S H σ ds → ∀ R : L2.It → Hp → Prop, (∀ J S' H', Gr S H S' H' → Wk X.K J xs S' → R J H') → wI X tg iter σ H R
instance {X : Cx} {tg iter : Expr} {ds : List It} {xs : List D} : CoeFun (XI X tg iter ds xs) (fun _ => ∀ G S0 S H σ, Env X.K G S0 S H σ ds → ∀ R : L2.It → Hp → Prop, (∀ J S' H', Gr S H S' H' → Wk X.K J xs S' → R J H') → wI X tg iter σ H R) := ⟨XI.run⟩
theorem xi_list (ha : XV X iter ds (.lst xs)) : XI X tg iter ds xs := .mk fun G S0 S H σ E R q =>
  wi_of (pi_list pe_w) (ha G S0 S H σ E _ fun v S' H' g r => by
    cases r with
    | @lst a vs _ h ra =>
      refine ⟨a, rfl, ⟨vs, sq_of (g.sh _ _ h)⟩, q _ S' H' g fun i S2 H2 k1 k2 => ?_⟩
      have sq : SqL X.K H2 a vs := sq_of (k2 _ _ (k1 _ _ h))
      refine ⟨fun hi => ?_, fun hi => ⟨vs, sq, by rw [da_len ra]; exact hi⟩⟩
      obtain ⟨v, hv, rv⟩ := da_get ra (List.getElem?_eq_getElem hi)
      refine ⟨⟨vs, v, sq, hv⟩, fun x H3 hy => ?_⟩
      obtain ⟨e, hy⟩ := hy
      have z := hy vs sq
      rw [hv] at z
      cases z
      exact ⟨e, _, List.getElem?_eq_getElem hi, dp_same k1 rv⟩)
theorem xi_tup (ha : XV X iter ds (.tup xs)) : XI X tg iter ds xs := .mk fun G S0 S H σ E R q =>
  wi_of (pi_tup pe_w) (ha G S0 S H σ E _ fun v S' H' g r => by
    cases r with
    | @tup a vs _ h ra =>
      refine ⟨a, rfl, ⟨vs, st_of (g.sh _ _ h)⟩, q _ S' H' g fun i S2 H2 k1 k2 => ?_⟩
      have sq : SqT X.K H2 a vs := st_of (k2 _ _ (k1 _ _ h))
      refine ⟨fun hi => ?_, fun hi => ⟨vs, sq, by rw [da_len ra]; exact hi⟩⟩
      obtain ⟨v, hv, rv⟩ := da_get ra (List.getElem?_eq_getElem hi)
      refine ⟨⟨vs, v, sq, hv⟩, fun x H3 hy => ?_⟩
      obtain ⟨e, hy⟩ := hy
      have z := hy vs sq
      rw [hv] at z
      cases z
      exact ⟨e, _, List.getElem?_eq_getElem hi, dp_same k1 rv⟩)
/-- 0, 1, .. -/
def rngD (n : Nat) : List D := (List.range n).map fun (i : Nat) => D.int (i : Int)
theorem xi_range {p pr : Pos} {n : Int} (hm : X.mg "range" = none) (ha : XV X a ds (.int n)) (h1 : -(2 ^ 62) ≤ n) (h2 : n < 2 ^ 62) (hg : Gl X "range" := by rfl) (hs : starEach [a] X.env = [(false, eval a X.env)] := by exact se rfl) :
    XI X tg (.Call (.Name "range" p) [a] [] pr) ds (rngD n.toNat) := .mk fun G S0 S H σ E R q =>
  wi_of (pi_range1 hg hm (pa_cons pe_w pa_nil hs) hs) (ha G S0 S H σ E _ fun v S' H' g r => by
    cases r
    refine ⟨n, rfl, h1, h2, q _ S' H' g fun i S2 H2 k1 k2 => ?_⟩
    have len : (rngD n.toNat).length = n.toNat := by simp [rngD]
    rw [len]
    refine ⟨fun hi => ⟨hi, fun x H3 hy => ?_⟩, fun hi => hi⟩
    obtain ⟨e1, e2⟩ := hy
    subst e1 e2
    refine ⟨rfl, .int i, by simp [rngD, hi], ?_⟩
    rw [Int.zero_add]
    exact .int _)

/-! ### for -/
theorem Env.rebase {K : Fg} {G S0 S H : Hp} {σ : St} {ds : List It} (e : Env K G S0 S H σ ds) : Env K G S S H σ ds :=
  let ⟨A, e⟩ := e; ⟨A, e.sh, e.gh, Same.refl _, fun _ _ => rfl, e.len, e.it, e.nd, e.dj, e.fr⟩
theorem Env.base {K : Fg} {G S0 S1 S H : Hp} {σ : St} {ds : List It} (e : Env K G S1 S H σ ds) (k : Same S0 S1) (gs : ∀ a, G a ≠ none → S1 a = S0 a) : Env K G S0 S H σ ds :=
  let ⟨A, e⟩ := e; ⟨A, e.sh, e.gh, k.trans e.s0, fun a ha => (e.gs a ha).trans (gs a ha), e.len, e.it, e.nd, e.dj, e.fr⟩
theorem Fnl.base {G S0 S1 S H : Hp} (e : Fnl G S1 S H) (k : Same S0 S1) (gs : ∀ a, G a ≠ none → S1 a = S0 a) : Fnl G S0 S H := ⟨e.sh, e.gh, k.trans e.s0, fun a ha => (e.gs a ha).trans (gs a ha)⟩
theorem PostS.base {K : Fg} {W : WX} {G S0 S1 : Hp} {Z : Ends} {o : Ou} (q : PostS K W G S0 Z o) (k : Same S0 S1) (gs : ∀ a, G a ≠ none → S1 a = S0 a) : PostS K W G S1 Z o := by
  cases o with
  | nx ds => exact fun σ S H E => q σ S H (E.base k gs)
  | bk ds => exact fun σ S H E => q σ S H (E.base k gs)
  | ct ds => exact fun σ S H E => q σ S H (E.base k gs)
  | rt d => exact fun v S H E => q v S H (E.base k gs)
  | rs d it => exact fun v σ S H ds E => q v σ S H ds (E.base k gs)
  | er c => exact fun σ S H E => q σ S H (E.base k gs)
  | es c ds => exact fun σ S H E => q σ S H (E.base k gs)
def brk : Ou → Ou
  | .bk ds => .nx ds
  | o => o
def turns : Ou → Option (List It)
  | .nx ds => some ds
  | .ct ds => some ds
  | _ => none
inductive Fr (X : Cx) (W : WX) (tg : Expr) (body : List Stmt) : List D → List It → Ou → Prop where
  | nil {ds : List It} : Fr X W tg body [] ds (.nx ds)
  | step {d : D} {xs : List D} {ds ds1 a b : List It} {o o' : Ou} : XG X tg d ds ds1 → XSs X W body ds1 o' → turns o' = some a → Le a b → Fr X W tg body xs b o → Fr X W tg body (d :: xs) ds o
  | out {d : D} {xs : List D} {ds ds1 : List It} {o : Ou} : XG X tg d ds ds1 → XSs X W body ds1 o → turns o = none → Fr X W tg body (d :: xs) ds (brk o)
theorem xs_for (hp : PassesOwn (model X.prog X.w) X.A X.env X.xe) (hc : X.calm = true) (hi : XI X tg iter ds xs) (hf : Fr X W tg body xs ds o) (hs : ∀ x, foldedSetIterable iter X.env x = pure x := by intro _; rfl) :
    XS X W (.For tg iter body [] pos) ds o := .mk fun G S0 S H σ E Z q =>
  ws_of (ps_for hp hc pi_w pg_w pss_w hs) (hi G S0 S H σ E _ fun J S1 H1 g wk => by
    refine ⟨fun i m σ H => m = xs.length - i ∧ i ≤ xs.length ∧ ∃ S ds', Same S1 S ∧ Env X.K G S0 S H σ ds' ∧ Fr X W tg body (xs.drop i) ds' o, ⟨xs.length, by simp, Nat.zero_le _, S1, ds, Same.refl _, E.grow g, hf⟩, ?_⟩
    rintro i m σ2 H2 ⟨rfl, hi, S2, ds2, k, E2, F⟩
    obtain ⟨w1, w2⟩ := wk i S2 H2 k E2.sh
    by_cases hlt : i < xs.length
    · obtain ⟨go, y⟩ := w1 hlt
      rw [List.drop_eq_getElem_cons hlt] at F
      refine .inr ⟨go, fun σ' H' => ∃ S ds', Same S1 S ∧ Env X.K G S0 S H' σ' ds' ∧ Fr X W tg body (xs.drop (i + 1)) ds' o, fun σ' H' ⟨S', ds', h1, h2, h3⟩ => ⟨xs.length - (i + 1), by omega, rfl, hlt, S', ds', h1, h2, h3⟩, fun x H3 hy => ?_⟩
      obtain ⟨rfl, d, hd, r⟩ := y x H3 hy
      rw [List.getElem?_eq_getElem hlt] at hd
      have hd' := Option.some.inj hd
      subst hd'
      cases F with
      | @step _ _ _ ds3 a b _ o' hg hb ht hl F =>
        refine hg G S0 S2 _ σ2 x E2 r _ fun σ' E' => hb G S2 S2 _ σ' E'.rebase _ ?_
        -- the end of a turn: only later states
        cases o' with
        | nx z => cases ht; exact fun σ'' S'' H'' E'' => ⟨S'', b, k.trans E''.s0, hl _ _ _ _ _ _ (E''.base E2.s0 E2.gs), F⟩
        | ct z => cases ht; exact fun σ'' S'' H'' E'' => ⟨S'', b, k.trans E''.s0, hl _ _ _ _ _ _ (E''.base E2.s0 E2.gs), F⟩
        | _ => cases ht
      | out hg hb ht =>
        refine hg G S0 S2 _ σ2 x E2 r _ fun σ' E' => hb G S0 S2 _ σ' E' _ ?_
        rename_i o'
        cases o' with
        | nx z => cases ht
        | ct z => cases ht
        | _ => exact q
    · have e : i = xs.length := by omega
      subst e
      rw [List.drop_length] at F
      cases F
      exact .inl ⟨w2 (Nat.le_refl _), q σ2 S2 H2 E2⟩)
/-! ### while -/
inductive Wh (X : Cx) (W : WX) (c : Expr) (body : List Stmt) : Nat → List It → Ou → Prop where
  | stop {ds : List It} : XT X c ds false → Wh X W c body 0 ds (.nx ds)
  | out {ds : List It} {o : Ou} : XT X c ds true → XSs X W body ds o → turns o = none → Wh X W c body 0 ds (brk o)
  | step {n : Nat} {ds a b : List It} {o o' : Ou} : XT X c ds true → XSs X W body ds o' → turns o' = some a → Le a b → Wh X W c body n b o → Wh X W c body (n + 1) ds o
theorem xs_while {n : Nat} (hp : PassesOwn (model X.prog X.w) X.A X.env X.xe) (hw : Wh X W c body n ds o) : XS X W (.While c body [] pos) ds o := .mk fun G S0 S H σ E Z q =>
  ws_of (ps_while hp pt_w pss_w) ⟨fun m σ H => ∃ S ds', Env X.K G S0 S H σ ds' ∧ Wh X W c body m ds' o, ⟨n, S, ds, E, hw⟩, by
    rintro m σ1 H1 ⟨S1, ds1, E1, h⟩
    cases h with
    | stop hc =>
      refine hc G S0 S1 H1 σ1 E1 _ fun S' H' g => ?_
      rw [if_neg Bool.false_ne_true]
      exact q σ1 S' H' (E1.grow g)
    | @out _ o' hc hb ht =>
      refine hc G S0 S1 H1 σ1 E1 _ fun S' H' g => ?_
      rw [if_pos rfl]
      refine ⟨fun _ _ => False, fun _ _ z => z.elim, hb G S0 S' H' σ1 (E1.grow g) _ ?_⟩
      cases o' with
      | nx z => cases ht
      | ct z => cases ht
      | _ => exact q
    | @step n _ a b _ o' hc hb ht hl h =>
      refine hc G S0 S1 H1 σ1 E1 _ fun S' H' g => ?_
      rw [if_pos rfl]
      refine ⟨fun σ' H' => ∃ S ds', Env X.K G S0 S H' σ' ds' ∧ Wh X W c body n ds' o, fun σ' H' z => ⟨n, Nat.lt_succ_self n, z⟩, hb G S0 S' H' σ1 (E1.grow g) _ ?_⟩
      cases o' with
      | nx z => cases ht; exact fun σ'' S'' H'' E'' => ⟨S'', b, hl _ _ _ _ _ _ E'', h⟩
      | ct z => cases ht; exact fun σ'' S'' H'' E'' => ⟨S'', b, hl _ _ _ _ _ _ E'', h⟩
      | _ => cases ht⟩
end
end Lay
/-! Lay6: raise, try, defs and their calls. -/
namespace Lay
open PySem L2
/-! ### raise -/
/-- an error class of the program: X at C, below ValueError -/
structure EC (K : Fg) (mg : Str → Option Value) (x : Str) (C : Addr) : Prop where
  g : mg x = some (.ref C)
  q : PySem.W.excIn K C [.type "ValueError", .type "Exception", .type "BaseException", .type "object"] "ValueError.__new__" = true
  kp : PySem.W.keepIn K (.ref C) = true
  b : PySem.W.subIn K (.ref C) (.type "BaseException") = some true
  t : PySem.W.typeIn K (.ref C) = some (.type "type")
section
variable {X : Cx} {W : WX} {e a b c : Expr} {st : Stmt} {sts rest body : List Stmt} {ds ds' ds1 : List It} {o : Ou} {pos : Pos} {d : D} {xs ys : List D}
theorem xs_raise {x m : Str} {C : Addr} {j : Nat} {p p2 p3 : Pos} (hc : X.calm = true) (tk : Takes X W) (T : EC X.K X.mg x C) (hg : Gl X x := by rfl) (hdb : (x == ("__debug__" : Str)) = false := by decide) :
    XS X W (.Raise (some (.Call (.Name x p) [.Constant (.str m) j p2] [] p3)) none pos) ds (.es C ds) := .mk fun G S0 S H σ E Z q =>
  ws_of (ps_raise hc tk (pmk_own PySem.F.excBase_ValueError T.q T.g T.kp (raises_own T.b T.t) hg hdb)) (q σ S H E)

/-! ### try -/
/-- an object that came since the def's entry, and is no frame, is tracked from now on -/
theorem inv_track {pins : List (Addr × Obj)} {σ : L2.St} {H : Hp} {s : Shared} {a : Addr} {u : HO} (I : Inv X pins σ H s) (hH : H a = none) (hnew : X.s_0.heap.get? a = none) (hL : a ≠ X.env.locals) (hC : ∀ y k, X.env.cells.lookup y = some k → k ≠ a)
    (hP : ∀ p ∈ X.pn ++ pins, p.1 ≠ a) (ok : ObjOk X.prog X.w (upd H a u) s.heap a u) : Inv X pins σ (upd H a u) s where
  ok := I.ok
  os := I.os
  bare := I.bare
  base := by
    have far : ∀ {k : Addr} {w : Obj}, X.s_0.heap.get? k = some w → k ≠ a := fun {k w} q z => by rw [z, hnew] at q; cases q
    refine ⟨I.base.keep, I.base.slot, fun k w q n nx => ?_, I.base.there, fun k w q => ?_, fun k w z q => ?_, fun k w q => ?_⟩
    · rw [upd_ne (far q)]; exact I.base.free k w q n nx
    · have r := I.base.tups k w q
      rw [upd_ne (ne_of_none r hH)]; exact r
    · have r := I.base.frzs k w z q
      rw [upd_ne (ne_of_none r hH)]; exact r
    · obtain ⟨m, r⟩ := I.base.tbls k w q
      exact ⟨m, by rw [upd_ne (ne_of_none r hH)]; exact r⟩
  loc := I.loc
  cell := I.cell
  free := by rw [upd_ne (Ne.symm hL)]; exact I.free
  freeC := fun y k q => by rw [upd_ne (hC y k q)]; exact I.freeC y k q
  pin := fun p hp => by
    obtain ⟨q1, q2, q3⟩ := I.pin p hp
    exact ⟨q1, by rw [upd_ne (hP p hp)]; exact q2, q3⟩
  hok := fun k w q => by
    by_cases z : k = a
    · subst z; rw [upd_same] at q; cases q; exact ok
    · rw [upd_ne z] at q
      refine (I.hok k w q).stay (fun _ _ _ r => r) (fun y r => ?_) fun y ys r => ?_
      · rw [upd_ne (ne_of_none r hH)]; exact r
      · rw [upd_ne (ne_of_none r hH)]; exact r
  len := I.len
/-- what a try whose clause keeps the exception wishes: slot i is the clause's name -/
def wKeep (K : Fg) (c : Value) (i : Nat) (ts : TS) (Z : Ends) : WX := fun cls d σ H =>
  ∃ C, cls = .ref C ∧ d = none ∧ PySem.W.exmOne K cls c = some true ∧ ∀ a, H a = none →
    ts { nx := fun σ' H' => Z.nx (σ'.set i none) H', rt := Z.rt, bk := fun σ' H' => Z.bk (σ'.set i none) H', ct := fun σ' H' => Z.ct (σ'.set i none) H' } (σ.set i (some (.ref a))) (upd H a (ExT C a))
theorem ps_try_keep {x n : Str} {cv : Value} {i : Nat} {suite : List Stmt} {b0 : Stmt} {np pt : Pos} {tb : WX → TS} {ts : TS} (hs : X.stack = X.env :: X.outer) (hf : X.env.frame = some X.env.locals) (hex0 : X.ex = []) (hN : X.N.Nodup) (hi : X.N[i]? = some n)
    (hln : X.env.kindOf n = some .local) (hcn : Names X x cv)
    (hb : ∀ (V : WX) (pn : List (Addr × Obj)) (xe : Value → Shared → Prop), Takes (X.tr pn xe) V → PassesOwn (model X.prog X.w) X.A X.env xe → PSs (X.tr pn xe) body (tb V))
    (hsu : ∀ (a : Addr) (pn : List (Addr × Obj)), PSs (X.suite a pn) (b0 :: suite) ts) :
    PS X (.Try body [.ExceptHandler (some (.Name x np)) (some n) (b0 :: suite) pt] [] [] pos) (fun Z σ H => tb (wKeep X.K cv i ts Z) Z σ H) := by
  constructor
  intro pins s σ H Z I hw
  have hfr : X.A.frames = some (X.env :: X.outer) := I.ok.frames.trans (by rw [hs])
  apply wpAny_Try_except
  have run := (hb (wKeep X.K cv i ts Z) (X.pn ++ pins) (fun x1 z1 => wpAny (model X.prog X.w) X.A (noteFrame x1 X.env)
      (fun _ z2 => wpAny (model X.prog X.w) X.A (setFlight x1 none) (fun _ z3 => wpAny (model X.prog X.w) X.A
        (handleBy x1 X.env [.ExceptHandler (some (.Name x np)) (some n) (b0 :: suite) pt]) (SP X pins Z) X.xe z3) X.xe z2) X.xe z1)
    (fun u sx hx => ?_) PassesOwn.looking).run [] s σ H Z (I.toTry _) hw
  · refine wpAny_mono run (fun f s1 q => ?_) fun _ _ q => q
    cases f with
    | next => obtain ⟨σ1, H1, J, q⟩ := q; exact wpAny_execs_nil ⟨σ1, H1, J.ofTry I.ok, q⟩
    | brk => obtain ⟨σ1, H1, J, q⟩ := q; exact ⟨σ1, H1, J.ofTry I.ok, q⟩
    | cont => obtain ⟨σ1, H1, J, q⟩ := q; exact ⟨σ1, H1, J.ofTry I.ok, q⟩
    | ret u => obtain ⟨v, σ1, H1, J, r, q⟩ := q; exact ⟨v, σ1, H1, J.ofTry I.ok, r, q⟩
  · obtain ⟨a, B, sI, pl, σ1, H1, cls, dd, rfl, Jt, nb, up, sky, na, hos, hag, C, rfl, rfl, hex, want⟩ := hx
    have J : Inv X pins σ1 H1 sI := Jt.ofTry I.ok
    rw [show (X.tr (X.pn ++ pins) _).stack = X.env :: X.outer from hs] at sky
    refine Sky.land Zc.steady hfr hf sky fun h3 fl3 up3 => ?_
    have nofr : ∀ {h : Heap} {w : Obj} {vs : Array Value}, h.FunFrames B (X.env :: X.outer) → h.get? a = some w → w.data = .fields vs → a ∉ frs (X.env :: X.outer) := fun {h w vs} ff q z hm => by
      obtain ⟨_, w', q', hnf⟩ := ff.mem hm
      rw [q] at q'; cases q'
      exact hnf _ z
    obtain ⟨oe3, vs3, T3, oT3, ts3, he3, hz3, hd3, h13, hT3⟩ := id fl3.2.2.2
    have nfr := nofr fl3.2.2.1 he3 hd3
    have freshI : sI.heap.get? a = none := by
      cases q : sI.heap.get? a with
      | none => rfl
      | some w =>
        have z := nb a w q (by rw [show (X.tr (X.pn ++ pins) _).stack = X.env :: X.outer from hs]; exact nfr)
        rw [fl3.2.1] at z; cases z
    have nL : a ≠ X.env.locals := fun z => nfr (List.mem_filterMap.mpr ⟨X.env, List.mem_cons_self, by rw [hf, z]⟩)
    have fresh0 : X.s_0.heap.get? a = none := by
      cases q : X.s_0.heap.get? a with
      | none => rfl
      | some w =>
        obtain ⟨w', q'⟩ := J.base.there a w q (by rw [hex0]; exact List.not_mem_nil)
        rw [freshI] at q'; cases q'
    have nC : ∀ y k, X.env.cells.lookup y = some k → k ≠ a := fun y k q z => by
      obtain ⟨v, w, r, _⟩ := J.cell y k q
      rw [z, freshI] at r; cases r
    have nP : ∀ p ∈ X.pn ++ pins, p.1 ≠ a := fun p hp z => by
      have r := (J.pin p hp).1
      rw [z, freshI] at r; cases r
    have lift : ∀ {h : Heap}, HandSPX.FlyingZ B (X.env :: X.outer) a (Zc (.ref C) none) h → sx.heap.UpToSlots h → Inv X pins σ1 (upd H1 a (ExT C a)) { sx with heap := h } := fun {h} fl u => by
      have L := J.landed (s' := { sx with heap := h }) (fun k w q hk => nb k w q hk) fl.1 (up.trans u) hos hag
      obtain ⟨oe, vs, T, oT, tss, he, hz, hd, _⟩ := id fl.2.2.2
      refine inv_track L na fresh0 nL nC nP ⟨⟨oe, vs, he, hz, hd⟩, ⟨oe, he⟩, fun h1 h2 ⟨oe', vs', r1, r2, r3⟩ k => ⟨oe', vs', k _ r1, r2, r3⟩⟩
    have suiteI : ∀ {τ : L2.St} {F : Hp} {z : Shared}, Inv X pins τ F z → Inv (X.suite a (X.pn ++ pins)) [] τ F z := fun {τ F z} Q =>
      ⟨Q.ok.suite _ _, Q.os, Q.bare, Q.base, Q.loc, Q.cell, Q.free, Q.freeC, fun p hp => Q.pin p (by rwa [List.append_nil] at hp), Q.hok, Q.len⟩
    have backI : ∀ {τ : L2.St} {F : Hp} {z : Shared}, Inv (X.suite a (X.pn ++ pins)) [] τ F z → Inv X pins τ F z := fun {τ F z} Q =>
      ⟨I.ok, Q.os, Q.bare, Q.base, Q.loc, Q.cell, Q.free, Q.freeC, fun p hp => Q.pin p (List.mem_append_left _ hp), Q.hok, Q.len⟩
    have I3 := lift fl3 up3
    have tyL : PySem.W.Looks (model X.prog X.w) h3 (typeOf (.ref a)) (.ref C) := fun _ _ _ _ kk qq => wpAny_typeOf_ref (kk _ _ he3) (by rw [hz3.1]; exact qq)
    have mt := PySem.W.exm_one (M := model X.prog X.w) I3.kIn tyL hex
    apply wpAny_handleBy_cons (codeAny_handlers_test _) (by intro q; cases q)
    have test : ∀ {Q : Value → Shared → Prop} {E : Value → Shared → Prop}, Q cv { sx with heap := h3 } → wpAny (model X.prog X.w) (X.A.mark (some (.ref a))) (eval (.Name x np) X.env) Q E { sx with heap := h3 } := fun {Q E} q => by
      obtain ⟨hg, hdb, hm | ⟨hm, hv, hnn⟩⟩ := hcn
      · exact ld_glob (X := X.suite a (X.pn ++ pins)) (suiteI I3) hg hm q hdb
      · exact ld_blt (X := X.suite a (X.pn ++ pins)) (suiteI I3) hg hm hv q hnn hdb
    refine test (mt.here ?_)
    apply codeAny_handlers_suite_as
    refine HandSPX.lands_againZ fl3 fun h4 fl4 up4 => ?_
    refine store_ok (X := X.suite a (X.pn ++ pins)) (v := .ref a) (suiteI (lift fl4 (up3.trans up4))) hN hi (.inl hln) rfl (fun s5 I5 => ?_) (.inr hln)
    refine wpAny_mono ((hsu a (X.pn ++ pins)).run [] s5 _ _ _ I5 (want a na)) (fun f s6 q => ?_) fun _ _ z => False.elim z
    cases f with
    | next => obtain ⟨τ, F, Q, q⟩ := q; exact gone_ok (backI Q) hN hi hln fun s7 Q7 => ⟨_, _, Q7, q⟩
    | brk => obtain ⟨τ, F, Q, q⟩ := q; exact gone_ok (backI Q) hN hi hln fun s7 Q7 => ⟨_, _, Q7, q⟩
    | cont => obtain ⟨τ, F, Q, q⟩ := q; exact gone_ok (backI Q) hN hi hln fun s7 Q7 => ⟨_, _, Q7, q⟩
    | ret u => obtain ⟨v, τ, F, Q, r, q⟩ := q; exact gone_ok (backI Q) hN hi hln fun s7 Q7 => ⟨_, _, _, Q7, r, q⟩

/-- try: body / except x as n: kept = n: the exception's class is known; kept is slot k, n slot i -/
theorem xs_try {x n y : Str} {cv : Value} {i k : Nat} {np pt py pn' ps' : Pos} {C : Addr} (hs : X.stack = X.env :: X.outer) (hf : X.env.frame = some X.env.locals) (hex0 : X.ex = []) (hN : X.N.Nodup) (hi : X.N[i]? = some n) (hk : X.N[k]? = some y)
    (hln : X.env.kindOf n = some .local) (hly : X.env.kindOf y = some .local) (hcn : Names X x cv) (hex : PySem.W.exmOne X.K (.ref C) cv = some true)
    (hb : ∀ (V : WX) (pn : List (Addr × Obj)) (xe : Value → Shared → Prop), Takes (X.tr pn xe) V → PassesOwn (model X.prog X.w) X.A X.env xe → XSs (X.tr pn xe) V body ds (.es C ds))
    (h1 : (n == ("__debug__" : Str)) = false := by decide) (h2 : (n == ("__classdict__" : Str)) = false := by decide) (hsw : swapsWith (.Name n pn') (some (.Name y py)) ps'.line X.env = pure false := by rfl) (hik : i < ds.length := by exact Nat.lt_of_lt_of_le (Nat.lt_succ_self _) (Nat.le_of_ble_eq_true rfl)) :
    XS X W (.Try body [.ExceptHandler (some (.Name x np)) (some n) [.Assign [.Name y py] (.Name n pn') ps'] pt] [] [] pos) ds (.nx (((ds.set i (.fz (.exc C))).set k (.fz (.exc C))).set i .no)) := .mk fun G S0 S H σ E Z q => by
  refine ws_of (ps_try_keep (tb := fun V => fun Z σ H => ∀ (pn : List (Addr × Obj)) (xe : Value → Shared → Prop), Takes (X.tr pn xe) V → PassesOwn (model X.prog X.w) X.A X.env xe → wSs (X.tr pn xe) body Z σ H) (ts := tAsg (tVar i) (gName k)) hs hf hex0 hN hi hln hcn
    (fun V pn xe tk hp => ⟨fun pins s σ H Z I w => w pn xe tk hp pins s I⟩)
    (fun a pn => pss_one (ps_set (X := X.suite a pn) hN hk (.inl hly) (pe_var (X := X.suite a pn) hi (.inl hln) h1 h2) hsw (.inr hly)))) ?_
  intro pn xe tk hp
  refine hb _ pn xe tk hp G S0 S H σ E _ fun σ1 S1 H1 E1 => ⟨C, rfl, rfl, hex, fun a na => ?_⟩
  have sna : S1 a = none := E1.sh.free na
  have g : Gr S1 H1 (upd S1 a (ExT C a)) (upd H1 a (ExT C a)) := Gr.new E1.sh na
  have E2 := E1.grow g
  have r : Rp X.K (upd S1 a (ExT C a)) (.ref a) (.exc C) := .exc upd_same
  have hil : i < σ1.length := by rw [E1.len]; exact hik
  refine ⟨.ref a, by rw [List.getElem?_set_self hil], ?_⟩
  exact q _ _ _ (((E2.putD i r).putD k r).put_no i none)
/-- the body goes through -/
theorem xs_try0 {x n y : Str} {cv : Value} {i k : Nat} {np pt py pn' ps' : Pos} (hs : X.stack = X.env :: X.outer) (hf : X.env.frame = some X.env.locals) (hex0 : X.ex = []) (hN : X.N.Nodup) (hi : X.N[i]? = some n) (hk : X.N[k]? = some y)
    (hln : X.env.kindOf n = some .local) (hly : X.env.kindOf y = some .local) (hcn : Names X x cv)
    (hb : ∀ (V : WX) (pn : List (Addr × Obj)) (xe : Value → Shared → Prop), Takes (X.tr pn xe) V → PassesOwn (model X.prog X.w) X.A X.env xe → XSs (X.tr pn xe) V body ds (.nx ds1))
    (h1 : (n == ("__debug__" : Str)) = false := by decide) (h2 : (n == ("__classdict__" : Str)) = false := by decide) (hsw : swapsWith (.Name n pn') (some (.Name y py)) ps'.line X.env = pure false := by rfl) :
    XS X W (.Try body [.ExceptHandler (some (.Name x np)) (some n) [.Assign [.Name y py] (.Name n pn') ps'] pt] [] [] pos) ds (.nx ds1) := .mk fun G S0 S H σ E Z q => by
  refine ws_of (ps_try_keep (tb := fun V => fun Z σ H => ∀ (pn : List (Addr × Obj)) (xe : Value → Shared → Prop), Takes (X.tr pn xe) V → PassesOwn (model X.prog X.w) X.A X.env xe → wSs (X.tr pn xe) body Z σ H) (ts := tAsg (tVar i) (gName k)) hs hf hex0 hN hi hln hcn
    (fun V pn xe tk hp => ⟨fun pins s σ H Z I w => w pn xe tk hp pins s I⟩)
    (fun a pn => pss_one (ps_set (X := X.suite a pn) hN hk (.inl hly) (pe_var (X := X.suite a pn) hi (.inl hln) h1 h2) hsw (.inr hly)))) ?_
  intro pn xe tk hp
  exact hb _ pn xe tk hp G S0 S H σ E _ fun σ1 S1 H1 E1 => q σ1 S1 H1 E1
end

/-! ### defs -/
/-- what a def answers -/
inductive Res where
  | ok (d : D)
  | er (c : Addr)
abbrev Fs := List D → Res → Prop
def PostF (K : Fg) (S H : Hp) (Q : VK) (E : XK) : Res → Prop
  | .ok d => ∀ v S' H', Gr S H S' H' → Rp K S' v d → Q v H'
  | .er c => ∀ S' H', Gr S H S' H' → E (.ref c) none H'
/-- the promise: what F says of the arguments' data -/
def spF (K : Fg) (F : Fs) : Sp := fun vs H Q E => ∃ S args r, Same S H ∧ RpA K S vs args ∧ F args r ∧ PostF K S H Q E r
/-- a body's end and the def's answer -/
def Fits : Ou → Res → Prop
  | .rt d, .ok d' => d = d'
  | .nx _, .ok d' => d' = .non
  | .er c, .er c' => c = c'
  | .es c _, .er c' => c = c'
  | _, _ => False
/-- from a body: F's answer -/
def XF (X : Cx) (W : WX) (body : List Stmt) (ds : List It) (r : Res) : Prop := ∃ o, XSs X W body ds o ∧ Fits o r
/-- a def that is known by its module's name x, at level k -/
structure Df (P : Program) (w : World) (K : Fg) (mg : Str → Option Value) (base : Heap) (x : Str) (k : Nat) (F : Fs) : Prop where
  ex : ∃ f fd ps, mg x = some (.ref f) ∧ PySem.W.keepIn K (.ref f) = true ∧ Binds K fd ps [] ∧ FnOk P w K mg base (L2.CX P w) k f fd ps (spF K F)
/-- the slots at a def's entry -/
def ctx0 (n : Nat) (args : List D) : List It := args.map .fz ++ List.replicate (n - args.length) .no
theorem env_start {K : Fg} {S H : Hp} (k : Same S H) {N : List Str} {vs : List V} {args : List D} (r : RpA K S vs args) : Env K H S S H (L2.start N vs) (ctx0 N.length args) := by
  refine ⟨fun _ => [], k, Same.refl _, Same.refl _, fun _ _ => rfl, ?_, fun i it hi => ?_, fun _ => .nil, fun i j a h => (by cases h), fun i a h => (by cases h)⟩
  · simp [L2.start, ctx0, da_len r]
  · unfold ctx0 at hi
    by_cases h : i < args.length
    · rw [List.getElem?_append_left (by simpa using h), List.getElem?_map] at hi
      rw [List.getElem?_eq_getElem h] at hi
      cases hi
      obtain ⟨v, hv, rv⟩ := da_get r (List.getElem?_eq_getElem h)
      have hl := da_len r
      have e : (L2.start N vs)[i]? = some (some v) := by
        unfold L2.start
        rw [List.getElem?_append_left (by simpa [hl] using h), List.getElem?_map, hv]
        rfl
      rw [e]
      exact .fz rv
    · rw [List.getElem?_append_right (by simpa using h), List.getElem?_replicate] at hi
      split at hi
      · cases hi; exact .no _
      · cases hi
section
variable {P : Program} {w : World} {K : Fg} {mg : Str → Option Value} {base : Heap}
/-- a def by its body -/
theorem fn_ok {x qual : Str} {st : Stmt} {f : Addr} {fd : FuncData} {N ps : List Str} {k : Nat} {F : Fs} (U : Fun K x qual st f fd) (S : FnScope N ps (defScope st)) (len : ∀ args r, F args r → args.length = ps.length)
    (body : ∀ (cdv : Value) (A : Around) (outer : List PySem.Env) (s : Shared) (H : Hp) (E : XK) (args : List D) (r : Res), Room k (A.deeper (PyProof.Rows.envOfC qual (defScope st) s.heap.objs.size f cdv)) → F args r →
      XF (cxOf (L2.CX P w) P w K mg base N qual (defScope st) f cdv A outer s H E) (fun cls d _ H => E cls d H) (defBody st) (ctx0 N.length args) r) : FnOk P w K mg base (L2.CX P w) (k + 1) f fd ps (spF K F) := by
  refine U.okX S (fun vs H Q E ⟨S, args, r, _, ra, hf, _⟩ => (da_len ra).trans (len args r hf)) fun cdv A outer s H vs Q E hr ⟨S, args, r, ks, ra, hf, q⟩ => ?_
  obtain ⟨o, ho, he⟩ := body cdv A outer s H E args r hr hf
  refine ⟨_, pss_w, ho H S S H _ (env_start ks ra) _ ?_⟩
  have gr : ∀ {S' H' : Hp}, Fnl H S S' H' → Gr S H S' H' := fun z => ⟨z.s0, z.gh, z.sh, z.gs⟩
  cases o with
  | nx ds => cases r with
    | ok d => cases he; exact fun σ S' H' z => q .non S' H' (gr z.fin) .non
    | er c => cases he
  | rt d => cases r with
    | ok d' => cases he; exact fun v S' H' z rv => q v S' H' (gr z) rv
    | er c => cases he
  | er c => cases r with
    | ok d => cases he
    | er c' => cases he; exact fun σ S' H' z => q S' H' (gr z)
  | es c ds => cases r with
    | ok d => cases he
    | er c' => cases he; exact fun σ S' H' z => q S' H' (gr z.fin)
  | bk ds => cases r <;> cases he
  | ct ds => cases r <;> cases he
  | rs d it => cases r <;> cases he
end
section
variable {X : Cx} {W : WX} {e : Expr} {es : List Expr} {ds : List It} {pos : Pos} {d : D} {args : List D} {x : Str} {p : Pos} {k : Nat} {F : Fs}
theorem call_any (T : Df X.prog X.w X.K X.mg X.base x k F) (hr : Room k X.A) (tk : Takes X W) (ha : XA X (e :: es) ds args) {r : Res} (hF : F args r) (hg : Gl X x) (hdb : (x == ("__debug__" : Str)) = false)
    (he : starEach (e :: es) X.env = (false, eval e X.env) :: starEach es X.env) (hpl : (backTo pos (starEach es X.env)).any (·.1) = false) {G S0 S H : Hp} {σ : L2.St} (E : Env X.K G S0 S H σ ds) {Q : VK}
    (q : ∀ S1 H1, Gr S H S1 H1 → PostF X.K S1 H1 Q (fun cls d H => W cls d σ H) r) : wE X (.Call (.Name x p) (e :: es) [] pos) σ H Q := by
  obtain ⟨f, fd, ps, hm, hk, hb, fo⟩ := T.ex
  refine we_of (pe_callS fo hr hg hm hk hb (fun σ => passAt tk σ) pa_w hdb he hpl) (ha G S0 S H σ E _ fun vs S1 H1 g r1 => ?_)
  exact ⟨S1, args, r, g.sh, r1, hF, q S1 H1 g⟩
theorem xv_call (T : Df X.prog X.w X.K X.mg X.base x k F) (hr : Room k X.A) (tk : Takes X W) (ha : XA X (e :: es) ds args) (hF : F args (.ok d)) (hg : Gl X x := by rfl) (hdb : (x == ("__debug__" : Str)) = false := by decide)
    (he : starEach (e :: es) X.env = (false, eval e X.env) :: starEach es X.env := by exact se rfl) (hpl : (backTo pos (starEach es X.env)).any (·.1) = false := by exact spl rfl) : XV X (.Call (.Name x p) (e :: es) [] pos) ds d := .mk fun G S0 S H σ E Q q =>
  call_any T hr tk ha hF hg hdb he hpl E fun S1 H1 g v S' H' g' r => q v S' H' (g.trans g') r
theorem xr_call {c : Addr} (T : Df X.prog X.w X.K X.mg X.base x k F) (hr : Room k X.A) (tk : Takes X W) (ha : XA X (e :: es) ds args) (hF : F args (.er c)) (hg : Gl X x := by rfl) (hdb : (x == ("__debug__" : Str)) = false := by decide)
    (he : starEach (e :: es) X.env = (false, eval e X.env) :: starEach es X.env := by exact se rfl) (hpl : (backTo pos (starEach es X.env)).any (·.1) = false := by exact spl rfl) : XR X W (.Call (.Name x p) (e :: es) [] pos) ds c := .mk fun G S0 S H σ E q Q =>
  call_any T hr tk ha hF hg hdb he hpl E fun S1 H1 g S' H' g' => q S' H' (g.trans g')
end
end Lay
/-! Lay7: list comprehensions. -/
namespace Lay
open PySem L2
theorem wipe_at {σ : L2.St} {j : Nat} : ∀ vs : List Nat, (wipe σ vs)[j]? = if j ∈ vs then (σ[j]?.map fun _ => none) else σ[j]?
  | [] => by simp [wipe]
  | v :: vs => by
    have ih := wipe_at (σ := σ) (j := j) vs
    have hl := wipe_length σ vs
    unfold wipe
    by_cases h : v = j
    · subst h
      rw [if_pos List.mem_cons_self]
      by_cases q : v < σ.length
      · rw [List.getElem?_set_self (by rw [hl]; exact q), List.getElem?_eq_getElem q]; rfl
      · rw [List.getElem?_eq_none (by rw [List.length_set, hl]; omega), List.getElem?_eq_none (by omega)]; rfl
    · rw [List.getElem?_set_ne h, ih]
      by_cases z : j ∈ vs
      · rw [if_pos z, if_pos (List.mem_cons_of_mem _ z)]
      · rw [if_neg z, if_neg]
        intro q
        rcases List.mem_cons.mp q with e | e
        · exact h e.symm
        · exact z e
theorem wipe_set {σ : L2.St} {i : Nat} {o : Option V} {vs : List Nat} (h : i ∈ vs) : wipe (σ.set i o) vs = wipe σ vs := by
  apply List.ext_getElem?
  intro j
  rw [wipe_at, wipe_at]
  by_cases z : i = j
  · subst z
    rw [if_pos h, if_pos h]
    by_cases q : i < σ.length
    · rw [List.getElem?_set_self q, List.getElem?_eq_getElem q]; rfl
    · rw [List.set_eq_of_length_le (by omega)]
  · rw [List.getElem?_set_ne z]
theorem wipe_wipe {σ : L2.St} (vs : List Nat) : wipe (wipe σ vs) vs = wipe σ vs := by
  apply List.ext_getElem?
  intro j
  rw [wipe_at, wipe_at]
  split
  · cases σ[j]? <;> rfl
  · rfl
def wipeC (ds : List It) : List Nat → List It
  | [] => ds
  | v :: vs => (wipeC ds vs).set v .no
theorem Env.wipe {K : Fg} {G S0 S H : Hp} {σ : L2.St} {ds : List It} (e : Env K G S0 S H σ ds) : ∀ vs, Env K G S0 S H (L2.wipe σ vs) (wipeC ds vs)
  | [] => e
  | v :: vs => (Env.wipe e vs).put_no v none

abbrev Bk (X : Cx) (scope : Scope) (s : Shared) (H : Hp) (C : Addr) (cl : List (Str × Addr)) (fp : List Addr) : Cx := X.blk s H scope (compEnvC scope cl C X.env) fp
section
variable {X : Cx} {W : WX} {e a b c : Expr} {st : Stmt} {ds ds' ds1 : List It} {o : Ou} {pos : Pos} {d : D} {xs ys : List D} {tg iter elt : Expr} {ifs : List Expr} {scope : Scope} {own : List (Str × Nat)} {vs : List Nat}
/-- a target within a comprehension: its slots are among vs -/
structure XGW (X : Cx) (tg : Expr) (d : D) (ds ds' : List It) (vs : List Nat) : Prop where
  mk ::
  run : ∀ G S0 S H σ v, Env X.K G S0 S H σ ds → Rp X.K S v d → ∀ Q : L2.St → Hp → Prop, (∀ σ', Env X.K G S0 S H σ' ds' → wipe σ' vs = wipe σ vs → Q σ' H) → wG X tg v σ H Q
instance {X : Cx} {tg : Expr} {d : D} {ds ds' : List It} {vs : List Nat} : CoeFun (XGW X tg d ds ds' vs) (fun _ => ∀ G S0 S H σ v, Env X.K G S0 S H σ ds → Rp X.K S v d → ∀ Q : L2.St → Hp → Prop, (∀ σ', Env X.K G S0 S H σ' ds' → wipe σ' vs = wipe σ vs → Q σ' H) → wG X tg v σ H Q) := ⟨XGW.run⟩
structure XGWs (X : Cx) (tgs : List Expr) (xs : List D) (ds ds' : List It) (vs : List Nat) : Prop where
  mk ::
  run : ∀ G S0 S H σ us, Env X.K G S0 S H σ ds → RpA X.K S us xs → ∀ Q : L2.St → Hp → Prop, (∀ σ', Env X.K G S0 S H σ' ds' → wipe σ' vs = wipe σ vs → Q σ' H) → wGs X tgs us σ H Q
instance {X : Cx} {tgs : List Expr} {xs : List D} {ds ds' : List It} {vs : List Nat} : CoeFun (XGWs X tgs xs ds ds' vs) (fun _ => ∀ G S0 S H σ us, Env X.K G S0 S H σ ds → RpA X.K S us xs → ∀ Q : L2.St → Hp → Prop, (∀ σ', Env X.K G S0 S H σ' ds' → wipe σ' vs = wipe σ vs → Q σ' H) → wGs X tgs us σ H Q) := ⟨XGWs.run⟩
theorem xgw_name (i : Nat) {x : Str} {p : Pos} (hN : X.N.Nodup) (hi : X.N[i]? = some x := by rfl) (hx : Loc X.env.scope x := by first | exact Or.inl rfl | exact Or.inr rfl) (hf : X.fn x = true ∨ X.env.scope.names.lookup x = some .local := by first | exact .inl rfl | exact .inr rfl) (hm : i ∈ vs := by simp) :
    XGW X (.Name x p) d ds (ds.set i (.fz d)) vs := .mk fun G S0 S H σ v E r Q q => wg_of (pg_name (i := i) hN hi hx hf) (q _ (E.putD i r) (wipe_set hm))
theorem xgws_nil : XGWs X [] [] ds ds vs := .mk fun G S0 S H σ us E r Q q => by cases r; exact wgs_of pgs_nil ⟨rfl, q σ E rfl⟩
theorem xgws_cons {tg : Expr} {tgs : List Expr} (h1 : XGW X tg d ds ds1 vs) (h2 : XGWs X tgs xs ds1 ds' vs) (hs : (assignEach (tg :: tgs) X.env).map (·.2) = assign tg X.env :: (assignEach tgs X.env).map (·.2) := by rfl) : XGWs X (tg :: tgs) (d :: xs) ds ds' vs := .mk fun G S0 S H σ us E r Q q => by
  cases r with
  | cons r rs => exact wgs_of (pgs_cons pg_w pgs_w hs) ⟨_, _, rfl, h1 G S0 S H σ _ E r _ fun σ' E' w => h2 G S0 S H σ' _ E' rs Q fun σ2 E2 w2 => q σ2 E2 (w2.trans w)⟩
theorem xgw_tup {tgs : List Expr} {k : Nat} {p : Pos} (hc : X.calm = true) (h : XGWs X tgs xs ds ds' vs) (hn : (assignEach tgs X.env).length = xs.length := by rfl) (hst : (assignEach tgs X.env).findIdx? (·.1) = none := by rfl) : XGW X (.Tuple tgs k p) (.tup xs) ds ds' vs := .mk fun G S0 S H σ v E r Q q => by
  cases r with
  | tup h1 ra => exact wg_of (pg_tup (n := xs.length) hc pgs_w hn hst) ⟨_, _, rfl, st_of (E.sh _ _ h1), by rw [da_len ra], h G S0 S H σ _ E ra Q q⟩
/-- a clause's tests -/
def wPt (X : Cx) (ifs : List Expr) : TT := fun σ H Q => ∀ pins s, Inv X pins σ H s →
    wpAny (model X.prog X.w) X.A (forIn ifs true fun c r => if r = true then do let ok ← isTrue c X.env (eval c X.env); pure (ForInStep.yield ok) else pure (ForInStep.yield r)) (TP X pins σ Q) X.xe s
structure XTs (X : Cx) (ifs : List Expr) (ds : List It) (k : Bool) : Prop where
  mk ::
  run : ∀ G S0 S H σ, Env X.K G S0 S H σ ds → ∀ Q : Bool → Hp → Prop, (∀ S' H', Gr S H S' H' → Q k H') → wPt X ifs σ H Q
instance {X : Cx} {ifs : List Expr} {ds : List It} {k : Bool} : CoeFun (XTs X ifs ds k) (fun _ => ∀ G S0 S H σ, Env X.K G S0 S H σ ds → ∀ Q : Bool → Hp → Prop, (∀ S' H', Gr S H S' H' → Q k H') → wPt X ifs σ H Q) := ⟨XTs.run⟩
theorem xts_nil : XTs X [] ds true := .mk fun G S0 S H σ E Q q pins s I => pts_nil.run pins s σ H Q I (q S H E.gr)
theorem xts_one {k : Bool} (h : XT X c ds k) : XTs X [c] ds k := .mk fun G S0 S H σ E Q q pins s I => (pts_one pt_w).run pins s σ H Q I (h G S0 S H σ E Q q)
/-- the turns of a comprehension, whatever its frame -/
inductive Lc (X : Cx) (scope : Scope) (vs : List Nat) (tg elt : Expr) (ifs : List Expr) (ds : List It) : List D → List D → Prop where
  | nil : Lc X scope vs tg elt ifs ds [] []
  | cons {d y : D} {xs ys : List D} {ds1 : List It} : (∀ s H C cl fp, XGW (Bk X scope s H C cl fp) tg d ds ds1 vs) → (∀ s H C cl fp, XTs (Bk X scope s H C cl fp) ifs ds1 true) → (∀ s H C cl fp, XV (Bk X scope s H C cl fp) elt ds1 y) →
      Lc X scope vs tg elt ifs ds xs ys → Lc X scope vs tg elt ifs ds (d :: xs) (y :: ys)
  | skip {d : D} {xs ys : List D} {ds1 : List It} : (∀ s H C cl fp, XGW (Bk X scope s H C cl fp) tg d ds ds1 vs) → (∀ s H C cl fp, XTs (Bk X scope s H C cl fp) ifs ds1 false) →
      Lc X scope vs tg elt ifs ds xs ys → Lc X scope vs tg elt ifs ds (d :: xs) ys
theorem Lc.len (h : Lc X scope vs tg elt ifs ds xs ys) : ys.length ≤ xs.length := by
  induction h with
  | nil => simp
  | cons _ _ _ _ ih => simp; exact ih
  | skip _ _ _ ih => simp; omega
def uG (X : Cx) (scope : Scope) (tg : Expr) : TG := fun v σ H Q => ∀ s H0 C cl fp, wG (Bk X scope s H0 C cl fp) tg v σ H Q
def uT (X : Cx) (scope : Scope) (ifs : List Expr) : TT := fun σ H Q => ∀ s H0 C cl fp, wPt (Bk X scope s H0 C cl fp) ifs σ H Q
def uE (X : Cx) (scope : Scope) (elt : Expr) : TE := fun σ H Q => ∀ s H0 C cl fp, wE (Bk X scope s H0 C cl fp) elt σ H Q
theorem wG_all {v : V} {σ : L2.St} {H : Hp} {Q : L2.St → Hp → Prop} (h : ∀ s H0 C cl fp, wG (Bk X scope s H0 C cl fp) tg v σ H Q) : uG X scope tg v σ H Q := h
theorem lc_read (hi : XI X tg iter ds xs) (hl : Lc X scope vs tg elt ifs (wipeC ds vs) xs ys) (hz : xs.length ≤ 100000) {G S0 S H : Hp} {σ : L2.St} (E : Env X.K G S0 S H σ ds) {Q : VK}
    (q : ∀ p us S' H', Gr S H S' H' → H p = none → S' p = none → H' p = some (.lst us) → RpA X.K S' us ys → Q (.ref p) H') : tLc (wI X tg iter) (uG X scope tg) (uT X scope ifs) (uE X scope elt) vs σ H Q :=
  hi G S0 S H σ E _ fun J S1 H1 g1 wk => fun D hD => by
    have sD : S1 D = none := g1.sh.free hD
    refine ⟨fun i m H => m = xs.length - i ∧ i ≤ xs.length ∧ ∃ S us acc rest, Gr S1 H1 S H ∧ S D = none ∧ H D = some (.lst us) ∧ RpA X.K S us acc ∧ Lc X scope vs tg elt ifs (wipeC ds vs) (xs.drop i) rest ∧ acc ++ rest = ys,
      ⟨xs.length, by simp, Nat.zero_le _, S1, [], [], ys, Gr.newH g1.sh hD, sD, upd_same, .nil, hl, rfl⟩, ?_⟩
    rintro i m H2 ⟨rfl, hi, S2, us, acc, rest, g2, s2, h2, ra, F, eq⟩
    obtain ⟨w1, w2⟩ := wk i S2 H2 g2.s g2.sh
    have E2 : Env X.K G S0 S2 H2 (wipe σ vs) (wipeC ds vs) := ((E.grow g1).grow g2).wipe vs
    by_cases hlt : i < xs.length
    · obtain ⟨go, y⟩ := w1 hlt
      rw [List.drop_eq_getElem_cons hlt] at F
      refine .inr ⟨go, fun H' => ∃ S us acc rest, Gr S1 H1 S H' ∧ S D = none ∧ H' D = some (.lst us) ∧ RpA X.K S us acc ∧ Lc X scope vs tg elt ifs (wipeC ds vs) (xs.drop (i + 1)) rest ∧ acc ++ rest = ys,
        fun H' h => ⟨xs.length - (i + 1), by omega, rfl, hlt, h⟩, fun x H3 hy => ?_⟩
      obtain ⟨rfl, d, hd, r⟩ := y x H3 hy
      rw [List.getElem?_eq_getElem hlt] at hd
      have hd' := Option.some.inj hd
      subst hd'
      -- the block's own judgements, whatever its frame
      have glue : ∀ {ds1 : List It} {k : Bool} {R : L2.St → Hp → Prop}, (∀ s H C cl fp, XGW (Bk X scope s H C cl fp) tg xs[i] (wipeC ds vs) ds1 vs) → (∀ σ', Env X.K G S0 S2 H3 σ' ds1 → wipe σ' vs = wipe σ vs → R σ' H3) → uG X scope tg x (wipe σ vs) H3 R := fun {ds1 k R} hg hR s H0 C cl fp =>
        hg s H0 C cl fp G S0 S2 H3 _ x E2 r R fun σ' E' w => hR σ' E' (w.trans (wipe_wipe vs))
      cases F with
      | @cons _ y _ rest' ds1 hg ht hv F =>
        refine glue (k := true) hg fun σ' E' w => ⟨w, fun s H0 C cl fp => ht s H0 C cl fp G S0 S2 H3 σ' E' _ fun S3 H4 g3 => ?_⟩
        rw [if_pos rfl]
        intro s H0 C cl fp
        refine hv s H0 C cl fp G S0 S3 H4 σ' (E'.grow g3) _ fun u S4 H5 g4 ru => ?_
        have g34 := g3.trans g4
        have h5 : H5 D = some (.lst us) := g34.h _ _ h2
        have s4 : S4 D = none := by rw [g34.old D (nn_of h2)]; exact s2
        have ra' := da_same g34.s ra
        refine ⟨us, h5, szlt _ ?_, S4, us ++ [u], acc ++ [y], rest', ⟨g2.s.trans g34.s, fun k w z => ?_, fun k w z => ?_, fun k hk => ?_⟩, s4, upd_same, da_append ra' (da_one ru), F, by rw [List.append_assoc]; exact eq⟩
        · have e1 : acc.length + (y :: rest').length = ys.length := by rw [← eq, List.length_append]
          have e2 := hl.len
          have e3 := da_len ra
          simp only [List.length_cons] at e1
          omega
        · rw [upd_ne (ne_of_none z hD)]
          exact g34.h _ _ (g2.h _ _ z)
        · rw [upd_ne (fun e => by rw [e, s4] at z; cases z)]
          exact g34.sh _ _ z
        · exact (g34.old k (Same.nn g2.h hk)).trans (g2.old k hk)
      | @skip _ _ _ ds1 hg ht F =>
        refine glue (k := true) hg fun σ' E' w => ⟨w, fun s H0 C cl fp => ht s H0 C cl fp G S0 S2 H3 σ' E' _ fun S3 H4 g3 => ?_⟩
        rw [if_neg Bool.false_ne_true]
        exact ⟨S3, us, acc, rest, g2.trans g3, by rw [g3.old D (nn_of h2)]; exact s2, g3.h _ _ h2, da_same g3.s ra, F, eq⟩
    · have e : i = xs.length := by omega
      subst e
      rw [List.drop_length] at F
      cases F
      rw [List.append_nil] at eq
      subst eq
      exact .inl ⟨w2 (Nat.le_refl _), q D us S2 H2 (g1.trans g2) (g1.h.free hD) s2 h2 ra⟩
theorem xl_lc (own : List (Str × Nat)) (hc : X.calm = true) (hN : X.N.Nodup) (hi : XI X tg iter ds xs) (ok : BlkOk X.N X.env.scope scope own) (hl : Lc X scope (own.map (·.2)) tg elt ifs (wipeC ds (own.map (·.2))) xs ys) (hz : xs.length ≤ 100000)
    (hs : ∀ x, foldedSetIterable iter X.env x = pure x := by intro _; rfl) : XL X (.ListComp elt [⟨tg, iter, ifs, 0⟩] scope pos) ds ys := .mk fun G S0 S H σ E Q q =>
  we_of (pe_lc hc hN pi_w ok (fun s H0 C cl fp => ⟨fun pins s σ H v u Q I r h => (h _ _ _ _ _) pins s u I r⟩) (fun s H0 C cl fp => ⟨fun pins s σ H Q I h => (h _ _ _ _ _) pins s I⟩) (fun s H0 C cl fp => ⟨fun pins s σ H Q I h => (h _ _ _ _ _) pins s I⟩) hs)
    (lc_read hi hl hz E q)
theorem xs_lc (i : Nat) {y : Str} {py : Pos} (own : List (Str × Nat)) (hc : X.calm = true) (hN : X.N.Nodup) (hi : XI X tg iter ds xs) (ok : BlkOk X.N X.env.scope scope own) (hl : Lc X scope (own.map (·.2)) tg elt ifs (wipeC ds (own.map (·.2))) xs ys) (hz : xs.length ≤ 100000)
    (hy : X.N[i]? = some y := by rfl) (hyl : X.env.scope.names.lookup y = some .local := by rfl) (hsw : swapsWith (.ListComp elt [⟨tg, iter, ifs, 0⟩] scope pos) (some (.Name y py)) pos.line X.env = pure true := by exact sw_true rfl rfl rfl (by decide +kernel))
    {spos : Pos} (hline : spos.line = pos.line := by rfl) (hs : ∀ x, foldedSetIterable iter X.env x = pure x := by intro _; rfl) : XS X W (.Assign [.Name y py] (.ListComp elt [⟨tg, iter, ifs, 0⟩] scope pos) spos) ds (.nx (ds.set i (.ow ys))) := .mk fun G S0 S H σ E Z q =>
  ws_of (ps_setLc hc hN hy hyl (by rw [hline]; exact hsw) pi_w ok (fun s H0 C cl fp => ⟨fun pins s σ H v u Q I r h => (h _ _ _ _ _) pins s u I r⟩) (fun s H0 C cl fp => ⟨fun pins s σ H Q I h => (h _ _ _ _ _) pins s I⟩) (fun s H0 C cl fp => ⟨fun pins s σ H Q I h => (h _ _ _ _ _) pins s I⟩) hs)
    (lc_read hi hl hz E fun p us S' H' g h1 h2 h3 h4 => q _ S' H' (E.putL g i h1 h3 h2 h4))
end
end Lay
/-! Lay8: what the top leaves; more built-ins. -/
namespace Lay
open PySem L2
/-- the built-ins that are used are what they were -/
structure Tx (K : Fg) (mg : Str → Option Value) : Prop where
  len : mg "len" = none
  range : mg "range" = none
  sorted : mg "sorted" = none
  set : mg "set" = none
  list : mg "list" = none
  tuple : mg "tuple" = none
  sum : mg "sum" = none
  any : mg "any" = none
  all : mg "all" = none
  abs : mg "abs" = none
  max : mg "max" = none
  min : mg "min" = none
  int : mg "int" = none
  isinstance : mg "isinstance" = none
  bool : mg "bool" = none
/-- a def of the text, by its name -/
structure Dn (K : Fg) (mg : Str → Option Value) (x : Str) (st : Stmt) (ps : List Str) : Prop where
  ex : ∃ f fd, mg x = some (.ref f) ∧ Fun K x x st f fd ∧ Binds K fd ps []
section
variable {P : Program} {w : World} {K : Fg} {mg : Str → Option Value} {base : Heap}
theorem df_of {x : Str} {st : Stmt} {N ps : List Str} (k : Nat) {F : Fs} (U : Dn K mg x st ps) (S : FnScope N ps (defScope st)) (len : ∀ args r, F args r → args.length = ps.length)
    (body : ∀ (f : Addr) (cdv : Value) (A : Around) (outer : List PySem.Env) (s : Shared) (H : Hp) (E : XK) (args : List D) (r : Res), Room k (A.deeper (PyProof.Rows.envOfC x (defScope st) s.heap.objs.size f cdv)) →
      Takes (cxOf (L2.CX P w) P w K mg base N x (defScope st) f cdv A outer s H E) (fun cls d _ H => E cls d H) →
      PassesOwn (model P w) (A.deeper (PyProof.Rows.envOfC x (defScope st) s.heap.objs.size f cdv)) (PyProof.Rows.envOfC x (defScope st) s.heap.objs.size f cdv) (cxOf (L2.CX P w) P w K mg base N x (defScope st) f cdv A outer s H E).xe → F args r →
      XF (cxOf (L2.CX P w) P w K mg base N x (defScope st) f cdv A outer s H E) (fun cls d _ H => E cls d H) (defBody st) (ctx0 N.length args) r) : Df P w K mg base x (k + 1) F := by
  obtain ⟨f, fd, hm, hf, hb⟩ := U.ex
  exact ⟨f, fd, ps, hm, hf.kp, hb, fn_ok hf S len fun cdv A outer s H E args r hr hF => body f cdv A outer s H E args r hr (takes_of rfl rfl rfl rfl) (passes_of rfl) hF⟩
end
/-- the same for the law itself -/
theorem fnl_of {P : Program} {w : World} {K : Fg} {mg : Str → Option Value} {base : Heap} {x : Str} {st : Stmt} {N ps : List Str} (k : Nat) {F : Fs} {f : Addr} {fd : FuncData} (U : Fun K x x st f fd) (S : FnScope N ps (defScope st)) (len : ∀ args r, F args r → args.length = ps.length)
    (body : ∀ (cdv : Value) (A : Around) (outer : List PySem.Env) (s : Shared) (H : Hp) (E : XK) (args : List D) (r : Res), Room k (A.deeper (PyProof.Rows.envOfC x (defScope st) s.heap.objs.size f cdv)) →
      Takes (cxOf (L2.CX P w) P w K mg base N x (defScope st) f cdv A outer s H E) (fun cls d _ H => E cls d H) →
      PassesOwn (model P w) (A.deeper (PyProof.Rows.envOfC x (defScope st) s.heap.objs.size f cdv)) (PyProof.Rows.envOfC x (defScope st) s.heap.objs.size f cdv) (cxOf (L2.CX P w) P w K mg base N x (defScope st) f cdv A outer s H E).xe → F args r →
      XF (cxOf (L2.CX P w) P w K mg base N x (defScope st) f cdv A outer s H E) (fun cls d _ H => E cls d H) (defBody st) (ctx0 N.length args) r) : FnOk P w K mg base (L2.CX P w) (k + 1) f fd ps (spF K F) :=
  fn_ok U S len fun cdv A outer s H E args r hr hF => body cdv A outer s H E args r hr (takes_of rfl rfl rfl rfl) (passes_of rfl) hF
/-- the law's own promise -/
def F_law : Fs := fun args r => ∃ ns : List Int, args = [.scr ns] ∧ ns.length ≤ 63 ∧ r = .ok (.bl true)
theorem law_sp {K : Fg} {H : Hp} {a : Addr} {ns : List Int} (hl : ns.length ≤ 63) (h : SqL K H a (ns.map V.int)) : spF K F_law [.ref a] H (fun v _ => v = .bl true) fun _ _ _ => False :=
  ⟨H, [.scr ns], .ok (.bl true), Same.refl _, .cons (.scr h) .nil, ⟨ns, rfl, hl, rfl⟩, fun v S' H' g r => by cases r; rfl⟩
theorem law_cx {P : Program} {w : World} {outer : List PySem.Env} {H : Hp} {s s' : Shared} {e : Value} (h : L2.CX P w outer H s (fun _ _ _ => False) e s') : False := by
  obtain ⟨_, _, _, _, _, _, _, _, _, _, _, _, z⟩ := h
  exact z
/-- a def, by what the head tells of it -/
theorem dn_mk {K : Fg} {h : Heap} {mg : Str → Option Value} {x : Str} {st : Stmt} {ps : List Str} {f : Addr} {oc : Value} {od an : Option Addr} {osl : Array (Option Value)} {kV doc pm cdv ct : Value} (X : K.In h) (G : h.Ns mainGlobals mg)
    (a : PySem.W.nsIn K mainGlobals x = some (some (.ref f))) (l : K.lookup f = some ⟨oc, od, .func (PySem.W.fnOf x x (defArgs st) (defBody st) (defScope st) .none kV doc pm an cdv ct), osl⟩) (c : PySem.W.codeIn K cdv x = true) (k : PySem.W.keepIn K (.ref f) = true)
    (b : ∀ (kV doc pm : Value) (an : Option Addr) (cdv ct : Value) (us : List Value), us.length = ps.length → bindArgs (PySem.W.fnOf x x (defArgs st) (defBody st) (defScope st) .none kV doc pm an cdv ct) ⟨us, []⟩ = pure (ps.zip us)) : Dn K mg x st ps :=
  ⟨f, _, PySem.W.mg_of X G a, fun_mk l c k, (fun_mk l c k).binds b⟩
/-- the law itself, likewise -/
structure Dl (K : Fg) (st : Stmt) (fa : Addr) : Prop where
  ex : ∃ fd, Fun K "law" "law" st fa fd ∧ ∀ (s : Shared) (v : Value), BindsTo s fd ⟨[v], []⟩ [("_law_script", v)]
theorem dl_mk {K : Fg} {h : Heap} {mg : Str → Option Value} {st : Stmt} {fa f : Addr} {oc : Value} {od an : Option Addr} {osl : Array (Option Value)} {kV doc pm cdv ct : Value} (X : K.In h) (G : h.Ns mainGlobals mg) (hfa : mg "law" = some (.ref fa))
    (a : PySem.W.nsIn K mainGlobals "law" = some (some (.ref f))) (l : K.lookup f = some ⟨oc, od, .func (PySem.W.fnOf "law" "law" (defArgs st) (defBody st) (defScope st) .none kV doc pm an cdv ct), osl⟩) (c : PySem.W.codeIn K cdv "law" = true) (k : PySem.W.keepIn K (.ref f) = true)
    (b : ∀ (kV doc pm : Value) (an : Option Addr) (cdv ct v : Value), bindArgs (PySem.W.fnOf "law" "law" (defArgs st) (defBody st) (defScope st) .none kV doc pm an cdv ct) ⟨[v], []⟩ = pure [(("_law_script" : Str), v)]) : Dl K st fa := by
  have e := hfa.symm.trans (PySem.W.mg_of X G a)
  cases e
  exact ⟨_, fun_mk l c k, fun s v => .of_eq (b ..)⟩
theorem Df.mono {P : Program} {w : World} {K : Fg} {mg : Str → Option Value} {base : Heap} {x : Str} {j k : Nat} {F : Fs} (h : Df P w K mg base x j F) (l : j ≤ k) : Df P w K mg base x k F :=
  let ⟨f, fd, ps, a, b, c, d⟩ := h.ex; ⟨f, fd, ps, a, b, c, d.mono l⟩
theorem XF.mk {X : Cx} {W : WX} {body : List Stmt} {ds : List It} {r : Res} (o : Ou) (h : XSs X W body ds o) (f : Fits o r) : XF X W body ds r := ⟨o, h, f⟩
theorem XF.rt {X : Cx} {W : WX} {body : List Stmt} {ds : List It} {d : D} (h : XSs X W body ds (.rt d)) : XF X W body ds (.ok d) := ⟨_, h, rfl⟩
theorem XF.er {X : Cx} {W : WX} {body : List Stmt} {ds : List It} {c : Addr} (h : XSs X W body ds (.er c)) : XF X W body ds (.er c) := ⟨_, h, rfl⟩
theorem XF.nx {X : Cx} {W : WX} {body : List Stmt} {ds ds' : List It} (h : XSs X W body ds (.nx ds')) : XF X W body ds (.ok .non) := ⟨_, h, rfl⟩
section
variable {X : Cx} {W : WX} {e a b c : Expr} {ds : List It} {pos : Pos} {A B : D} {i j : Int}
theorem xv_ifd {d d' : D} {k : Bool} (hc : XT X c ds k) (ha : k = true → XV X a ds d) (hb : k = false → XV X b ds d') : XV X (.IfExp c a b pos) ds (if k = true then d else d') :=
  xv_if hc (fun h => by rw [if_pos h]; exact ha h) fun h => by rw [h, if_neg Bool.false_ne_true]; exact hb h
/-- an item of a list that a typed list makes -/
theorem ix_map {α : Type} {f : α → D} {xs : List α} {i : Int} {x : α} (h : atI xs i = some x) : ixD (.lst (xs.map f)) i = some (f x) := by
  show atI (xs.map f) i = some (f x)
  unfold atI at h ⊢
  rw [List.length_map]
  cases q : ixN xs.length i with
  | none => rw [q] at h; cases h
  | some j =>
    rw [q] at h
    show (xs.map f)[j]? = _
    have h : xs[j]? = some x := h
    rw [List.getElem?_map, h]; rfl
theorem atI_ge {α : Type} {xs : List α} {i : Int} (h0 : 0 ≤ i) (h1 : i < xs.length) : atI xs i = some (xs[i.toNat]'(by omega)) := by
  unfold atI ixN
  rw [if_pos h0, if_pos h1]
  show xs[i.toNat]? = _
  rw [List.getElem?_eq_getElem]
theorem atI_d {α : Type} {xs : List α} {i : Int} (d : α) (h0 : 0 ≤ i) (h1 : i < xs.length) : atI xs i = some (xs.getD i.toNat d) := by
  rw [atI_ge h0 h1]; congr 1
  rw [List.getD_eq_getElem?_getD, List.getElem?_eq_getElem (by omega)]; rfl
theorem atI_lastD {α : Type} {xs : List α} (h : xs ≠ []) : atI xs (-1) = some (xs.getLast h) := by
  have hl : 0 < xs.length := List.length_pos_iff.mpr h
  unfold atI ixN
  rw [if_neg (by omega), if_pos (by omega)]
  show xs[((-1 : Int) + (xs.length : Int)).toNat]? = _
  have e : ((-1 : Int) + (xs.length : Int)).toNat = xs.length - 1 := by omega
  rw [e, ← List.getLast?_eq_getElem?, List.getLast?_eq_some_getLast h]
theorem ixN_ge {n : Nat} {i : Int} (h0 : 0 ≤ i) (h1 : i < n) : ixN n i = some i.toNat := by unfold ixN; rw [if_pos h0, if_pos h1]
theorem xv_sum {p : Pos} {ns : List Int} (hc : X.calm = true) (hm : X.mg "sum" = none) (ha : XB X e ds A) (h : A = .lst (ns.map .int)) (hg : Gl X "sum" := by rfl) (hs : starEach [e] X.env = (false, eval e X.env) :: starEach [] X.env := by exact se rfl) (hpl : (backTo pos (starEach [] X.env)).any (·.1) = false := by exact spl rfl) :
    XV X (.Call (.Name "sum" p) [e] [] pos) ds (.int ns.sum) := by
  subst h
  exact xv_callB (cr_sum hc) hm boot_sum' (xab_cons ha xab_nil hs) (fun S H vs Q k r q => by
    obtain ⟨v, rfl, r1⟩ := rba1 r
    obtain ⟨p, vs, rfl, h1, h2⟩ := r1.lst k
    have e := da_ints h2
    subst e
    exact ⟨p, ns, rfl, sq_of h1, q _ S H (.refl k) (.int _)⟩) hg (he := hs) (hpl := hpl)
theorem xv_any {p : Pos} {ns : List Bool} (hc : X.calm = true) (hm : X.mg "any" = none) (ha : XB X e ds A) (h : A = .lst (ns.map .bl)) (hg : Gl X "any" := by rfl) (hs : starEach [e] X.env = (false, eval e X.env) :: starEach [] X.env := by exact se rfl) (hpl : (backTo pos (starEach [] X.env)).any (·.1) = false := by exact spl rfl) :
    XV X (.Call (.Name "any" p) [e] [] pos) ds (.bl (ns.any id)) := by
  subst h
  exact xv_callB (cr_any hc) hm boot_any' (xab_cons ha xab_nil hs) (fun S H vs Q k r q => by
    obtain ⟨v, rfl, r1⟩ := rba1 r
    obtain ⟨p, vs, rfl, h1, h2⟩ := r1.lst k
    have e := da_bools h2
    subst e
    exact ⟨p, ns, rfl, sq_of h1, q _ S H (.refl k) (.bl _)⟩) hg (he := hs) (hpl := hpl)
theorem xv_all {p : Pos} {ns : List Bool} (hc : X.calm = true) (hm : X.mg "all" = none) (ha : XB X e ds A) (h : A = .lst (ns.map .bl)) (hg : Gl X "all" := by rfl) (hs : starEach [e] X.env = (false, eval e X.env) :: starEach [] X.env := by exact se rfl) (hpl : (backTo pos (starEach [] X.env)).any (·.1) = false := by exact spl rfl) :
    XV X (.Call (.Name "all" p) [e] [] pos) ds (.bl (ns.all id)) := by
  subst h
  exact xv_callB (cr_all hc) hm boot_all' (xab_cons ha xab_nil hs) (fun S H vs Q k r q => by
    obtain ⟨v, rfl, r1⟩ := rba1 r
    obtain ⟨p, vs, rfl, h1, h2⟩ := r1.lst k
    have e := da_bools h2
    subst e
    exact ⟨p, ns, rfl, sq_of h1, q _ S H (.refl k) (.bl _)⟩) hg (he := hs) (hpl := hpl)
/-! ### comprehensions of the usual kinds -/
theorem Lc.is {scope : Scope} {vs : List Nat} {tg elt : Expr} {ifs : List Expr} {xs ys zs : List D} (h : Lc X scope vs tg elt ifs ds xs ys) (q : ys = zs) : Lc X scope vs tg elt ifs ds xs zs := q ▸ h
theorem truD_map {α : Type} {f : α → D} {xs : List α} {k : Bool} (h : (!xs.isEmpty) = k) : truD (.lst (xs.map f)) = some k := by subst h; cases xs <;> rfl
theorem lc_map {α : Type} {f g : α → D} {scope : Scope} {vs : List Nat} {tg elt : Expr} : ∀ (xs : List α), (∀ x ∈ xs, ∃ ds1, (∀ s H C cl fp, XGW (Bk X scope s H C cl fp) tg (f x) ds ds1 vs) ∧ (∀ s H C cl fp, XV (Bk X scope s H C cl fp) elt ds1 (g x))) →
    Lc X scope vs tg elt [] ds (xs.map f) (xs.map g)
  | [], _ => .nil
  | x :: xs, h => by
    obtain ⟨ds1, hg, he⟩ := h x List.mem_cons_self
    exact .cons hg (fun _ _ _ _ _ => xts_nil) he (lc_map xs fun y hy => h y (List.mem_cons_of_mem _ hy))
theorem lc_filter {α : Type} {f g : α → D} {p : α → Bool} {scope : Scope} {vs : List Nat} {tg elt : Expr} {ifs : List Expr} : ∀ (xs : List α), (∀ x ∈ xs, ∃ ds1, (∀ s H C cl fp, XGW (Bk X scope s H C cl fp) tg (f x) ds ds1 vs) ∧ (∀ s H C cl fp, XTs (Bk X scope s H C cl fp) ifs ds1 (p x)) ∧ (p x = true → ∀ s H C cl fp, XV (Bk X scope s H C cl fp) elt ds1 (g x))) →
    Lc X scope vs tg elt ifs ds (xs.map f) ((xs.filter p).map g)
  | [], _ => .nil
  | x :: xs, h => by
    obtain ⟨ds1, hg, ht, he⟩ := h x List.mem_cons_self
    have ih := lc_filter xs fun y hy => h y (List.mem_cons_of_mem _ hy)
    cases e : p x with
    | true =>
      rw [List.filter_cons_of_pos (by rw [e])]
      rw [e] at ht
      exact .cons hg ht (he e) ih
    | false =>
      rw [List.filter_cons_of_neg (by rw [e]; exact Bool.false_ne_true)]
      rw [e] at ht
      exact .skip hg ht ih
/-! ### ifs in a block -/
variable {st : Stmt} {sts rest AA BB : List Stmt} {ds1 : List It} {o : Ou} {k : Bool}
theorem xss_if (hc : XT X c ds k) (ht : k = true → XT X c ds true → XSs X W (.If c AA BB pos :: rest) ds o) (hf : k = false → XT X c ds false → XSs X W (.If c AA BB pos :: rest) ds o) : XSs X W (.If c AA BB pos :: rest) ds o := by
  cases k with
  | true => exact ht rfl hc
  | false => exact hf rfl hc
theorem xss_yes (hc : XT X c ds true) (h : XSs X W AA ds (.nx ds1)) (h2 : XSs X W rest ds1 o) : XSs X W (.If c AA BB pos :: rest) ds o := xss_cons (xs_yes hc h) h2
theorem xss_no (hc : XT X c ds false) (h : XSs X W BB ds (.nx ds1)) (h2 : XSs X W rest ds1 o) : XSs X W (.If c AA BB pos :: rest) ds o := xss_cons (xs_no hc h) h2
theorem xss_no0 (hc : XT X c ds false) (h2 : XSs X W rest ds o) : XSs X W (.If c AA [] pos :: rest) ds o := xss_cons (xs_no hc xss_nil) h2
theorem xss_yesS (hc : XT X c ds true) (h : XSs X W AA ds o) (ho : goesOn o = false := by rfl) : XSs X W (.If c AA BB pos :: rest) ds o := xss_stop (xs_yes hc h) ho
theorem xss_noS (hc : XT X c ds false) (h : XSs X W BB ds o) (ho : goesOn o = false := by rfl) : XSs X W (.If c AA BB pos :: rest) ds o := xss_stop (xs_no hc h) ho
theorem xss_ret {d : D} (he : XV X e ds d) : XSs X W (.Return (some e) pos :: rest) ds (.rt d) := xss_stop (xs_ret he)
theorem xss_raise {x m : Str} {C : Addr} {j : Nat} {p p2 p3 : Pos} (hc : X.calm = true) (tk : Takes X W) (T : EC X.K X.mg x C) (hg : Gl X x := by rfl) (hdb : (x == ("__debug__" : Str)) = false := by decide) :
    XSs X W (.Raise (some (.Call (.Name x p) [.Constant (.str m) j p2] [] p3)) none pos :: rest) ds (.er C) := (xss_stop (xs_raise hc tk T hg hdb)).er
theorem xss_then {o1 : Ou} (h : XS X W st ds o1) (hn : ∀ ds1, o1 = .nx ds1 → XSs X W rest ds1 o) (hs : goesOn o1 = false → o1 = o) : XSs X W (st :: rest) ds o := by
  cases o1 with
  | nx ds1 => exact xss_cons h (hn ds1 rfl)
  | _ => exact xss_stop (h.is (hs rfl)) (by rw [← hs rfl]; rfl)
/-! ### 0, 1, .. from a number on -/
def rngF (i m : Nat) : List D := (List.range' i m).map fun (k : Nat) => D.int (k : Int)
theorem rngD_F (n : Nat) : rngD n = rngF 0 n := by unfold rngD rngF; rw [List.range_eq_range']
theorem rngF_0 (i : Nat) : rngF i 0 = [] := rfl
theorem rngF_succ (i m : Nat) : rngF i (m + 1) = .int i :: rngF (i + 1) m := rfl
theorem rngF_len (i m : Nat) : (rngF i m).length = m := by simp [rngF]
/-- a turn that goes on if c, else ends the loop by o1 -/
theorem Fr.chk {tg : Expr} {body : List Stmt} {d : D} {xs : List D} {a b : List It} {o1 : Ou} (cc : Bool) (hg : XG X tg d ds ds1) (hb : XSs X W body ds1 (if cc = true then .nx a else o1)) (hl : Le a b) (ht : turns o1 = none) (h : cc = true → Fr X W tg body xs b o) (h' : cc = false → o = brk o1) :
    Fr X W tg body (d :: xs) ds o := by
  cases cc with
  | true => rw [if_pos rfl] at hb; exact .step hg hb rfl hl (h rfl)
  | false => rw [if_neg Bool.false_ne_true] at hb; rw [h' rfl]; exact .out hg hb ht
/-! ### tuples of whole numbers, compared -/
theorem xt_ltT {ns ms : List Int} (hu : X.A.units + 64 < cLine) (ha : XB X a ds A) (hb : XB X b ds B) (h1 : A = .tup (ns.map .int)) (h2 : B = .tup (ms.map .int)) : XT X (.Compare a [.Lt] [b] pos) ds (HT.lexLt ns ms) := by
  subst h1 h2
  exact xt_cmp (op_ltT (by omega)) ha hb (nomark _) fun S H x y Q k r1 r2 q => by
    obtain ⟨p, vs, rfl, p1, a1⟩ := r1.tup
    obtain ⟨p', vs', rfl, p2, a2⟩ := r2.tup
    have e1 := da_ints a1
    have e2 := da_ints a2
    subst e1 e2
    exact ⟨p, p', ns, ms, rfl, rfl, st_of (k _ _ p1), st_of (k _ _ p2), q⟩
end
end Lay
/-! Lay9: sorted(set(..)) of tuples of whole numbers. -/
namespace Lay
open PySem L2
/-- a tuple of whole numbers -/
def eT (ns : List Int) : D := .tup (ns.map .int)
section
variable {B : Int}
theorem code_bd : ∀ {ns : List Int}, TS.Bd B ns → 0 ≤ TS.code B ns ∧ TS.code B ns < B ^ ns.length
  | [], _ => by simp [TS.code]
  | d :: r, h => by
    obtain ⟨h1, h2⟩ := h.head
    obtain ⟨h3, h4⟩ := code_bd h.tail
    have hB : 0 < B := by omega
    have hp : 0 < B ^ r.length := Int.pow_pos hB
    simp only [TS.code, List.length_cons, Int.pow_succ]
    constructor
    · have := Int.mul_nonneg h1 (Int.le_of_lt hp); omega
    · have : (d + 1) * B ^ r.length ≤ B * B ^ r.length := Int.mul_le_mul_of_nonneg_right (by omega) (Int.le_of_lt hp)
      rw [Int.add_mul] at this
      rw [Int.mul_comm (B ^ r.length) B]
      omega
theorem code_inj : ∀ {ns ms : List Int}, TS.Bd B ns → TS.Bd B ms → ns.length = ms.length → TS.code B ns = TS.code B ms → ns = ms
  | [], [], _, _, _, _ => rfl
  | [], _ :: _, _, _, h, _ => by cases h
  | _ :: _, [], _, _, h, _ => by cases h
  | d :: r, d' :: r', h, h', hl, hc => by
    have hl' : r.length = r'.length := by simpa using hl
    obtain ⟨a1, a2⟩ := code_bd h.tail
    obtain ⟨b1, b2⟩ := code_bd h'.tail
    simp only [TS.code] at hc
    rw [← hl'] at hc b2
    have hp : 0 < B ^ r.length := Int.pow_pos (by have := h.head; omega)
    have e : d = d' := by
      rcases Int.lt_trichotomy d d' with z | z | z
      · have : (d + 1) * B ^ r.length ≤ d' * B ^ r.length := Int.mul_le_mul_of_nonneg_right (by omega) (Int.le_of_lt hp)
        rw [Int.add_mul] at this; omega
      · exact z
      · have : (d' + 1) * B ^ r.length ≤ d * B ^ r.length := Int.mul_le_mul_of_nonneg_right (by omega) (Int.le_of_lt hp)
        rw [Int.add_mul] at this; omega
    subst e
    rw [code_inj h.tail h'.tail hl' (by omega)]
/-- a list that rises strictly by a key is told by its members -/
theorem rise_unique {α : Type} (f : α → Int) : ∀ {xs ys : List α}, xs.Pairwise (fun a b => f a < f b) → ys.Pairwise (fun a b => f a < f b) → (∀ x, x ∈ xs ↔ x ∈ ys) → xs = ys
  | [], [], _, _, _ => rfl
  | [], y :: ys, _, _, h => absurd ((h y).mpr List.mem_cons_self) (by simp)
  | x :: xs, [], _, _, h => absurd ((h x).mp List.mem_cons_self) (by simp)
  | x :: xs, y :: ys, hx, hy, h => by
    rw [List.pairwise_cons] at hx hy
    have e : x = y := by
      rcases List.mem_cons.mp ((h x).mp List.mem_cons_self) with q | q
      · exact q
      · rcases List.mem_cons.mp ((h y).mpr List.mem_cons_self) with q' | q'
        · exact q'.symm
        · have := hx.1 y q'
          have := hy.1 x q
          omega
    subst e
    congr 1
    refine rise_unique f hx.2 hy.2 fun z => ⟨fun hz => ?_, fun hz => ?_⟩
    · rcases List.mem_cons.mp ((h z).mp (List.mem_cons_of_mem _ hz)) with q | q
      · subst q; exact absurd (hx.1 _ hz) (Int.lt_irrefl _)
      · exact q
    · rcases List.mem_cons.mp ((h z).mpr (List.mem_cons_of_mem _ hz)) with q | q
      · subst q; exact absurd (hy.1 _ hz) (Int.lt_irrefl _)
      · exact q
end
theorem da_tups {K : Fg} {S : Hp} : ∀ {vs : List V} {xs : List (List Int)}, RpA K S vs (xs.map eT) → ∃ ks : List (Addr × List Int), vs = ks.map (fun p => V.ref p.1) ∧ xs = ks.map (·.2) ∧ ∀ p ∈ ks, S p.1 = some (.tup (p.2.map V.int))
  | _, [], h => by cases h; exact ⟨[], rfl, rfl, fun _ z => by cases z⟩
  | _, x :: xs, h => by
    cases h with
    | cons h t =>
      obtain ⟨ks, e1, e2, hk⟩ := da_tups t
      cases h with
      | @tup a vs _ ha hr =>
        have z := da_ints hr
        subst z
        refine ⟨(a, x) :: ks, by rw [e1]; rfl, by rw [e2]; rfl, fun p hp => ?_⟩
        rcases List.mem_cons.mp hp with rfl | hp
        · exact ha
        · exact hk p hp
theorem tups_da {K : Fg} {S : Hp} : ∀ (ks : List (Addr × List Int)), (∀ p ∈ ks, S p.1 = some (.tup (p.2.map V.int))) → RpA K S (ks.map fun p => V.ref p.1) ((ks.map (·.2)).map eT)
  | [], _ => .nil
  | p :: ks, h => .cons (.tup (h p List.mem_cons_self) (ints_da _)) (tups_da ks fun q hq => h q (List.mem_cons_of_mem _ hq))
theorem boot_sorted' : bootBuiltins ("sorted" : Str) = some (.builtin "sorted") := by decide +kernel
theorem boot_set' : bootBuiltins ("set" : Str) = some (.type "set") := by decide +kernel
section
variable {X : Cx} {e : Expr} {ds : List It} {pos : Pos}
theorem xl_sortset {p p2 pos2 : Pos} {A : D} {xs ys : List (List Int)} (d : Nat) (B : Int) (hc : X.calm = true) (hu : X.A.units + 64 < cLine) (hm : X.mg "sorted" = none) (hm2 : X.mg "set" = none) (ha : XB X e ds A) (hA : A = .lst (xs.map eT)) (hz : xs.length < 64) (hd : 1 ≤ d) (hb : ∀ x ∈ xs, x.length = d ∧ TS.Bd B x)
    (hy : ys.Pairwise fun a b => TS.code B a < TS.code B b) (hmem : ∀ x, x ∈ ys ↔ x ∈ xs) (hg : Gl X "sorted" := by rfl) (hg2 : Gl X "set" := by rfl) (hs : starEach [e] X.env = (false, eval e X.env) :: starEach [] X.env := by exact se rfl) (hpl2 : (backTo pos2 (starEach [] X.env)).any (·.1) = false := by exact spl rfl)
    (hs2 : starEach [.Call (.Name "set" p2) [e] [] pos2] X.env = (false, eval (.Call (.Name "set" p2) [e] [] pos2) X.env) :: starEach [] X.env := by rfl) (hpl : (backTo pos (starEach [] X.env)).any (·.1) = false := by exact spl rfl) :
    XL X (.Call (.Name "sorted" p) [.Call (.Name "set" p2) [e] [] pos2] [] pos) ds (ys.map eT) := .mk fun G S0 S H σ E Q q =>
  we_of (pe_callB (cr_sortedT hc) hg hm boot_sorted' (pa_cons (pe_callTy (cr_setOfT hc hu) hg2 hm2 boot_set' (pa_cons pe_w pa_nil hs) (he := hs) (hpl := hpl2)) pa_nil hs2) (he := hs2) (hpl := hpl)) (ha G S0 S H σ E _ fun v S1 H1 g1 r1 => by
    obtain ⟨l, vs, rfl, hl, ra⟩ := (hA ▸ r1).lst g1.sh
    obtain ⟨ks, rfl, rfl, hk⟩ := da_tups ra
    refine ⟨l, ks, rfl, sq_of hl, fun p hp => st_of (g1.sh _ _ (hk p hp)), by simpa using hz, fun a L ha0 hL1 hL2 => ?_⟩
    have kL : ∀ p ∈ L, S1 p.1 = some (.tup (p.2.map V.int)) := fun p hp => hk p (hL1 p hp)
    have g2 : Gr S1 H1 S1 (upd H1 a (SetTO X.prog X.w a L)) := Gr.newH g1.sh ha0
    refine ⟨a, L, d, B, rfl, upd_same, fun p hp => st_of (g2.sh _ _ (kL p hp)), hd, fun p hp => hb p.2 (List.mem_map_of_mem (hL1 p hp)), fun L' n pm nd h64 pw hn => ?_⟩
    have hb' : ∀ p ∈ L', p.2.length = d ∧ TS.Bd B p.2 := fun p hp => hb p.2 (List.mem_map_of_mem (hL1 p (pm.mem_iff.mp hp)))
    have strict : (L'.map (·.2)).Pairwise fun a b => TS.code B a < TS.code B b := by
      rw [List.pairwise_map]
      have nd' : L'.Pairwise fun a b => a.2 ≠ b.2 := by
        have := nd
        unfold List.Nodup at this
        rwa [List.pairwise_map] at this
      have both := pw.and nd'
      refine both.imp_of_mem fun {a b} ha hb ⟨h1, h2⟩ => ?_
      rcases Int.lt_or_eq_of_le h1 with z | z
      · exact z
      · obtain ⟨a1, a2⟩ := hb' a ha
        obtain ⟨b1, b2⟩ := hb' b hb
        exact absurd (code_inj a2 b2 (by omega) z) h2
    have eq : L'.map (·.2) = ys := rise_unique (TS.code B) strict hy fun x => by
      rw [hmem, List.mem_map, List.mem_map]
      constructor
      · rintro ⟨p, hp, rfl⟩
        exact ⟨p, hL1 p (pm.mem_iff.mp hp), rfl⟩
      · rintro ⟨p, hp, rfl⟩
        obtain ⟨p', hp', e'⟩ := List.mem_map.mp (hL2 p hp)
        exact ⟨p', pm.mem_iff.mpr hp', e'⟩
    have g3 : Gr S1 (upd H1 a (SetTO X.prog X.w a L)) S1 (upd (upd H1 a (SetTO X.prog X.w a L)) n (.lst (L'.map fun q => V.ref q.1))) := Gr.newH g2.sh hn
    have gg := (g1.trans g2).trans g3
    refine q n _ S1 _ gg (g1.h.free (g2.h.free hn)) (g1.sh.free (g2.h.free hn)) upd_same ?_
    rw [← eq]
    exact tups_da L' fun p hp => kL p (pm.mem_iff.mp hp))
end
end Lay
/-! Lay10: methods that only read; isinstance. -/
namespace Lay
open PySem L2 PyProof.Rows
/-! ### flat data -/
def flatD : D → Bool
  | .non => true
  | .bl _ => true
  | .int _ => true
  | .str _ => true
  | _ => false
def toV : D → V
  | .non => .non
  | .bl b => .bl b
  | .int i => .int i
  | .str x => .str x
  | _ => .non
theorem rp_flat {K : Fg} {S : Hp} {v : V} {d : D} (h : Rp K S v d) (f : flatD d = true) : v = toV d ∧ flatV v = true := by
  cases h <;> first | exact ⟨rfl, rfl⟩ | cases f
theorem rb_flat {K : Fg} {S H : Hp} {v : V} {d : D} (h : Rb K S H v d) (f : flatD d = true) : v = toV d ∧ flatV v = true := by
  rcases h with h | ⟨p, vs, xs, rfl, rfl, _⟩
  · exact rp_flat h f
  · cases f
theorem rpa_flat {K : Fg} {S : Hp} : ∀ {vs : List V} {ds : List D}, RpA K S vs ds → ds.all flatD = true → vs = ds.map toV ∧ vs.all flatV = true
  | _, _, .nil, _ => ⟨rfl, rfl⟩
  | _, _, .cons h t, f => by
    rw [List.all_cons, Bool.and_eq_true] at f
    obtain ⟨e1, e2⟩ := rp_flat h f.1
    obtain ⟨e3, e4⟩ := rpa_flat t f.2
    exact ⟨by rw [e1, e3]; rfl, by rw [List.all_cons, e2, e4]; rfl⟩
/-- == of flat data -/
def eqF (a b : D) : Bool := eqV (toV a) (toV b)
theorem eqF_int {i j : Int} : eqF (.int i) (.int j) = decide (i = j) := rfl
section
variable {X : Cx} {e a b c : Expr} {es : List Expr} {ds : List It} {pos : Pos} {A B d : D} {xs ys : List D}
theorem xv_bm {T id : String} {name : Str} {r : V → List V → Hp → VK → Prop} {pa : Pos} (pl : PlainAttrs T) (slot : Slot T name id) (hty : typeOf (.builtin id) = pure (.type "method_descriptor")) (hm : MtR X id r) (ho : XB X a ds A) (ha : XAB X (e :: es) ds ys)
    (ht : ∀ (S H : Hp) x, Same S H → Rb X.K S H x A → tyV X.K T x H) (hr : ∀ (S H : Hp) x vs (Q : VK), Same S H → Rb X.K S H x A → RbA X.K S H vs ys → (∀ v S' H', Gr S H S' H' → Rp X.K S' v d → Q v H') → r x vs H Q)
    (hbase : attributeBase a name X.env (eval a X.env) = eval a X.env) (hfew : ((backTo pos (starEach (e :: es) X.env)).all (fun x => !x.1) && (backToKw pos (keywordEach [] X.env)).all (fun x => x.1.isSome)
      && decide ((e :: es).length + ([] : List Keyword).length + (if ([] : List Keyword).isEmpty then 0 else 1) < 30)) = true)
    (hline : (pa.endLine == pos.line) = true) (hs : starEach (e :: es) X.env = (false, eval e X.env) :: starEach es X.env) (hplain : (backTo pos (starEach es X.env)).any (·.1) = false) : XV X (.Call (.Attribute a name pa) (e :: es) [] pos) ds d := .mk fun G S0 S H σ E Q q =>
  we_of (pe_bm pl slot hty hm pe_w pa_w hbase hfew hline hs hplain) (ho G S0 S H σ E _ fun x S1 H1 g1 r1 => ⟨ht S1 H1 x g1.sh r1, ha G S0 S1 H1 σ (E.grow g1) _ fun vs S2 H2 g2 r2 =>
    hr S2 H2 x vs Q g2.sh (r1.gr g2) r2 fun v S3 H3 g3 r3 => q v S3 H3 ((g1.trans g2).trans g3) r3⟩)
theorem ty_lst {xs : List D} (S H : Hp) (x : V) (k : Same S H) (r : Rb X.K S H x (.lst xs)) : tyV X.K "list" x H := by
  obtain ⟨p, vs, rfl, h1, _⟩ := r.lst k
  exact ty_list h1
/-- how often a flat thing stands in a list of such -/
def rCntF (K : Fg) : V → List V → Hp → VK → Prop := fun x xs H Q => ∃ (p : Addr) (ys : List V) (y : V), x = .ref p ∧ xs = [y] ∧ SqL K H p ys ∧ flatV y = true ∧ ys.all flatV = true ∧ Q (.int (ys.countP fun z => eqV z y : Nat)) H
theorem countP_eqU {x : V} : ∀ {xs : List V} {us : List Value}, Vals xs us → xs.all flatV = true → us.countP (eqU x) = xs.countP fun y => eqV y x
  | _, _, .nil, _ => rfl
  | y :: xs, u :: us, .cons r t, f => by
    rw [List.all_cons, Bool.and_eq_true] at f
    rw [List.countP_cons, List.countP_cons, eqU_of r f.1, countP_eqU t f.2]
theorem mt_cntF : MtR X "list.count" (rCntF X.K) := by
  rintro pins s σ H x zs v us Q I rx rz ⟨p, ys, y, rfl, rfl, hs, fy, fys, q⟩
  cases rx
  obtain ⟨u, rfl, ru⟩ := rz.one
  obtain ⟨its, rv, ⟨⟨c, dd, dt, sl⟩, n, ho, hc, hdn, hd⟩, _⟩ := I.list hs
  dsimp only at hc hd
  subst hc hd
  refine PySem.call_meets PySem.F.slot_list_count ⟨_, ho, rfl⟩ PySem.F.entry_list_count (PySem.F.args_list_count_2 _ _)
    (SeqAt.list_countAt p its.toArray n dd sl u (eqU y)) ⟨ho, fun z hz => mem_eqAt ru fy rv fys z (by simpa using hz), ?_⟩
  refine ⟨.int (ys.countP fun z => eqV z y : Nat), H, I.tok _, ⟨s.toks, ?_⟩, q⟩
  rw [← countP_eqU rv fys]
theorem count_toV {d : D} {xs : List D} : (xs.map toV).countP (fun z => eqV z (toV d)) = xs.countP fun z => eqF z d := by
  rw [List.countP_map]; rfl
theorem xv_count {pa : Pos} (ho : XB X a ds (.lst xs)) (ha : XB X e ds d) (hf : flatD d = true) (hfs : xs.all flatD = true) (hbase : attributeBase a "count" X.env (eval a X.env) = eval a X.env := by rfl) (hline : (pa.endLine == pos.line) = true := by rfl) (hst : isStar e = false := by rfl) :
    XV X (.Call (.Attribute a "count" pa) [e] [] pos) ds (.int (xs.countP fun z => eqF z d : Nat)) :=
  xv_bm PySem.F.plainAttrs_list PySem.F.slot_list_count PySem.F.type_list_count mt_cntF ho (xab_cons ha xab_nil (se hst)) ty_lst (fun S H x vs Q k r rr q => by
    obtain ⟨p, us, rfl, h1, h2⟩ := r.lst k
    obtain ⟨v, rfl, r1⟩ := rba1 rr
    obtain ⟨rfl, f1⟩ := rb_flat r1 hf
    obtain ⟨rfl, f2⟩ := rpa_flat h2 hfs
    exact ⟨p, _, _, rfl, rfl, sq_of h1, f1, f2, by rw [count_toV]; exact q _ S H (.refl k) (.int _)⟩) hbase (sfew (by simp [hst]) (by simp)) hline (se hst) (spl rfl)
theorem xv_index {pa : Pos} {j : Nat} {z : D} (ho : XB X a ds (.lst xs)) (ha : XB X e ds d) (hf : flatD d = true) (hfs : xs.all flatD = true) (hj : xs[j]? = some z) (hz : eqF z d = true) (hn : ∀ (m : Nat) (z' : D), m < j → xs[m]? = some z' → eqF z' d = false)
    (hbase : attributeBase a "index" X.env (eval a X.env) = eval a X.env := by rfl) (hline : (pa.endLine == pos.line) = true := by rfl) (hst : isStar e = false := by rfl) : XV X (.Call (.Attribute a "index" pa) [e] [] pos) ds (.int (j : Int)) :=
  xv_bm PySem.F.plainAttrs_list PySem.F.slot_list_index PySem.F.type_list_index mt_index ho (xab_cons ha xab_nil (se hst)) ty_lst (fun S H x vs Q k r rr q => by
    obtain ⟨p, us, rfl, h1, h2⟩ := r.lst k
    obtain ⟨v, rfl, r1⟩ := rba1 rr
    obtain ⟨rfl, f1⟩ := rb_flat r1 hf
    obtain ⟨rfl, f2⟩ := rpa_flat h2 hfs
    exact ⟨p, _, _, j, toV z, rfl, rfl, sq_of h1, f1, f2, by rw [List.getElem?_map, hj]; rfl, hz, fun m z' hm hz' => by
      rw [List.getElem?_map] at hz'
      cases w : xs[m]? with
      | none => rw [w] at hz'; cases hz'
      | some y => rw [w] at hz'; cases hz'; exact hn m y hm w, q _ S H (.refl k) (.int _)⟩) hbase (sfew (by simp [hst]) (by simp)) hline (se hst) (spl rfl)
/-- in, not in: a flat thing, a list or tuple of such -/
def inF (d : D) (xs : List D) : Bool := xs.any fun x => eqF x d
theorem inF_toV {d : D} {xs : List D} : inV (toV d) (xs.map toV) = inF d xs := by
  unfold inV inF
  rw [List.any_map]; rfl
theorem in_read {neg : Bool} {S H : Hp} {x y : V} {Q : VK} (k : Same S H) (hB : B = .lst xs ∨ B = .tup xs) (hf : flatD A = true) (hfs : xs.all flatD = true) (r1 : Rb X.K S H x A) (r2 : Rb X.K S H y B) (q : Q (.bl (if neg then !inF A xs else inF A xs)) H) : rIn X.K neg x y H Q := by
  obtain ⟨p, vs, rfl, h1, h2⟩ := rb_seq k r2 hB
  obtain ⟨rfl, f1⟩ := rb_flat r1 hf
  obtain ⟨rfl, f2⟩ := rpa_flat h2 hfs
  exact ⟨p, _, rfl, h1, f1, f2, by rw [inF_toV]; exact q⟩
theorem xt_in (ha : XB X a ds A) (hb : XB X b ds B) (hB : B = .lst xs ∨ B = .tup xs) (hf : flatD A = true) (hfs : xs.all flatD = true) (hm : behindInMarks .In b = false := by rfl) : XT X (.Compare a [.In] [b] pos) ds (inF A xs) :=
  xt_cmp op_in_seq ha hb hm fun S H x y Q k r1 r2 q => in_read k hB hf hfs r1 r2 q
theorem xv_in (ha : XB X a ds A) (hb : XB X b ds B) (hB : B = .lst xs ∨ B = .tup xs) (hf : flatD A = true) (hfs : xs.all flatD = true) (hm : behindInMarks .In b = false := by rfl) : XV X (.Compare a [.In] [b] pos) ds (.bl (inF A xs)) :=
  xv_cmp op_in_seq ha hb hm fun S H x y Q k r1 r2 q => in_read k hB hf hfs r1 r2 q
theorem xt_nin (ha : XB X a ds A) (hb : XB X b ds B) (hB : B = .lst xs ∨ B = .tup xs) (hf : flatD A = true) (hfs : xs.all flatD = true) (hm : behindInMarks .NotIn b = false := by rfl) : XT X (.Compare a [.NotIn] [b] pos) ds (!inF A xs) :=
  xt_cmp op_notIn_seq ha hb hm fun S H x y Q k r1 r2 q => in_read (neg := true) k hB hf hfs r1 r2 q
theorem xv_nin (ha : XB X a ds A) (hb : XB X b ds B) (hB : B = .lst xs ∨ B = .tup xs) (hf : flatD A = true) (hfs : xs.all flatD = true) (hm : behindInMarks .NotIn b = false := by rfl) : XV X (.Compare a [.NotIn] [b] pos) ds (.bl (!inF A xs)) :=
  xv_cmp op_notIn_seq ha hb hm fun S H x y Q k r1 r2 q => in_read (neg := true) k hB hf hfs r1 r2 q

/-! ### isinstance -/
theorem boot_isinstance' : bootBuiltins ("isinstance" : Str) = some (.builtin "isinstance") := by decide +kernel
/-- a class of the program's errors, as isinstance asks it -/
structure EI (K : Fg) (C : Addr) : Prop where
  ex : ExcC K C
  t : PySem.W.typeIn K (.ref C) = some (.type "type")
  i : PySem.W.isClsIn K C = true
  s : PySem.W.subIn K (.ref C) (.ref C) = some true
  v : PySem.W.subIn K (.ref C) (.type "ValueError") = some true
theorem kit_ref {K : Fg} {C C' : Addr} {k : Bool} (h : EI K C) (h' : EI K C') (s : PySem.W.subIn K (.ref C) (.ref C') = some k) : PySem.W.kitOne K (.ref C) (.ref C') = some k := by
  unfold PySem.W.kitOne
  by_cases z : C = C'
  · subst z
    rw [h.s] at s
    cases s
    rw [if_pos (by simp)]
  · rw [if_neg (by simp [z])]
    unfold PySem.W.kitCls
    dsimp only
    have i : (PySem.W.clsIn K C').isSome = true := h'.i
    rw [i, h'.t, if_pos (by rfl)]
    exact s
theorem kit_ve {K : Fg} {C : Addr} (h : EI K C) : PySem.W.kitOne K (.ref C) (.type "ValueError") = some true := by
  unfold PySem.W.kitOne
  rw [if_neg (by intro z; exact absurd (beq_iff_eq.mp z) (fun z => nomatch z))]
  unfold PySem.W.kitCls
  dsimp only
  rw [if_pos (by decide +kernel)]
  exact h.v
def rIsX (K : Fg) (C : Addr) : List V → Hp → VK → Prop := fun xs H Q => ∃ (a : Addr) (c : V) (cv : Value) (b : Bool), xs = [.ref a, c] ∧ H a = some (ExT C a) ∧ ClsV c cv ∧ PySem.W.kitOne K (.ref C) cv = some b ∧ Q (.bl b) H
theorem call_isX {C : Addr} (h : EI X.K C) : CallR X (.builtin "isinstance") (rIsX X.K C) := by
  rintro pins s σ H xs us Q I r ⟨a, c, cv, k, rfl, ha, hc, hk, q⟩
  cases r with
  | cons r1 r =>
    cases r with
    | cons r2 r =>
      cases r
      cases r1
      have e := hc.eq r2
      subst e
      obtain ⟨⟨oe, ws, g1, ⟨g2, g3⟩, g4⟩, _⟩ : ObjOk X.prog X.w H s.heap a (ExT C a) := I.hok a _ ha
      have J : PySem.W.InstAt s.heap a oe C none := by
        cases oe
        dsimp only at g2 g3 g4
        subst g2 g3 g4
        exact ⟨g1, rfl, rfl, trivial⟩
      exact PySem.W.kia_one (PySem.W.handS_kitx_exc h.ex.hg h.ex.hk h.ex.hs h.ex.hd h.ex.ha h.ex.hn h.ex.ht h.ex.hm) I.kIn J hk (fun z => nomatch z) fun tk => ⟨.bl k, H, I.tok tk, rfl, q⟩
/-- isinstance(x, Y), x an exception of the class at C, Y a class of the program -/
theorem xv_isX {p p2 : Pos} {y : Str} {C C' : Addr} {k : Bool} (hm : X.mg "isinstance" = none) (h : EI X.K C) (h' : EI X.K C') (s : PySem.W.subIn X.K (.ref C) (.ref C') = some k) (gy : X.mg y = some (.ref C')) (ha : XB X e ds (.exc C)) (hg : Gl X "isinstance" := by rfl) (hgy : Gl X y := by rfl)
    (hdb : (y == ("__debug__" : Str)) = false := by decide) (hst : isStar e = false := by rfl) : XV X (.Call (.Name "isinstance" p) [e, .Name y p2] [] pos) ds (.bl k) := .mk fun G S0 S H σ E Q q =>
  we_of (pe_callB (call_isX h) hg hm boot_isinstance' (pa_cons pe_w (pa_cons (pe_glob (v := .ref C') hgy gy rfl hdb) pa_nil (se rfl)) (se hst)) (he := se hst) (hpl := spl rfl)) (ha G S0 S H σ E _ fun v S1 H1 g r => by
    rcases r with r | ⟨_, _, _, _, z, _⟩
    · cases r with
      | exc ha => exact ⟨_, _, _, k, rfl, g.sh _ _ ha, .own C', kit_ref h h' s, q _ S1 H1 g (.bl k)⟩
    · cases z)
theorem xv_isVE {p p2 : Pos} {C : Addr} (hm : X.mg "isinstance" = none) (hmv : X.mg "ValueError" = none) (h : EI X.K C) (ha : XB X e ds (.exc C)) (hg : Gl X "isinstance" := by rfl) (hgy : Gl X "ValueError" := by rfl) (hst : isStar e = false := by rfl) :
    XV X (.Call (.Name "isinstance" p) [e, .Name "ValueError" p2] [] pos) ds (.bl true) := .mk fun G S0 S H σ E Q q =>
  we_of (pe_callB (call_isX h) hg hm boot_isinstance' (pa_cons pe_w (pa_cons (pe_bltn (v := .ty "ValueError") hgy hmv (by decide +kernel) rfl) pa_nil (se rfl)) (se hst)) (he := se hst) (hpl := spl rfl)) (ha G S0 S H σ E _ fun v S1 H1 g r => by
    rcases r with r | ⟨_, _, _, _, z, _⟩
    · cases r with
      | exc ha => exact ⟨_, _, _, true, rfl, g.sh _ _ ha, .ty "ValueError", kit_ve h, q _ S1 H1 g (.bl true)⟩
    · cases z)
end
end Lay
/-! Lay11: sorted of any number of tuples of whole numbers. -/
namespace Lay
open PySem L2 PyProof.Rows
section
variable {prog : Program} {w : World} {A : Around} {s : Shared}
/-- a tuple's number, read off the heap h -/
noncomputable def rkT (h : Heap) (B : Int) (v : Value) : Int := open Classical in if z : ∃ ns, TS.TupInts h v ns then TS.code B z.choose else 0
theorem rkT_of {h : Heap} {B : Int} {v : Value} {ns : List Int} (t : TS.TupInts h v ns) : rkT h B v = TS.code B ns := by
  unfold rkT
  have z : ∃ ns, TS.TupInts h v ns := ⟨ns, t⟩
  rw [dif_pos z, show z.choose = ns from z.choose_spec.ints.symm.trans t.ints]
theorem swoT (r : Value → Int) : SrtO.Swo fun v u => decide (r v < r u) := ⟨fun x y h => by simp at h ⊢; omega, fun x y z h q => by simp at h q ⊢; omega⟩
theorem sortableT {a : Addr} {vs : List Value} {d : Nat} {B : Int} (hd : 1 ≤ d) (h2 : 2 ≤ vs.length) (x : TS.TupsOk s.heap d B vs) (r : Value → Int) (hr : ∀ v ∈ vs, ∀ ns, TS.TupInts s.heap v ns → r v = TS.code B ns)
    (ha : ∀ o, s.heap.get? a = some o → o.cls ≠ .type "tuple") : SrtO.SortableO prog w A s a vs fun v u => decide (r v < r u) := fun h' keep => by
  have kp : ∀ b o, s.heap.get? b = some o → o.cls = .type "tuple" → h'.get? b = some o := fun b o e c => keep b o (fun z => ha o (by rw [← z]; exact e) c) e
  have x' := x.keeps kp
  obtain ⟨fs, k, hl, hi⟩ := TS.firsts_of hd vs x'
  refine ⟨tuples' true, fun Q E hq => PySem.W.kat_kind (T := .type "int") k (by omega) (fun f hf => ?_) rfl ?_, fun p q hp hq => ?_⟩
  · obtain ⟨n, t, rfl⟩ := hi f hf
    exact PySem.W.Looks.now
  · rw [show (Value.type "int" != Value.type "tuple") = true from by decide +kernel]
    exact hq
  · obtain ⟨ns, tp, lp, bp⟩ := x' _ hp
    obtain ⟨ms, tq, lq, bq⟩ := x' _ hq
    obtain ⟨ns0, tp0, _⟩ := x _ hp
    obtain ⟨ms0, tq0, _⟩ := x _ hq
    have ep : r p.1 = TS.code B ns := by rw [hr _ hp _ tp0, (tp0.keeps kp).ints.symm.trans tp.ints]
    have eq : r q.1 = TS.code B ms := by rw [hr _ hq _ tq0, (tq0.keeps kp).ints.symm.trans tq.ints]
    show wpAny (model prog w) A (keyLt' (tuples' true) p.1 q.1) (fun z s' => s' = { s with heap := h' } ∧ z = decide (r p.1 < r q.1)) (fun _ _ => False) { s with heap := h' }
    rw [ep, eq]
    obtain ⟨a1, xs, e1, ⟨o, ho, hc, n, hdt⟩, i⟩ := tp
    obtain ⟨a2, ys, e2, ⟨o', ho', hc', n', hdt'⟩, i'⟩ := tq
    rw [e1, e2]
    refine PySem.W.kat_lt ho hdt ho' hdt' ?_
    have l1 := i.length
    have l2 := i'.length
    rw [Array.length_toList] at l1 l2
    rw [show decide (xs.size < ys.size) = false from decide_eq_false (by omega)]
    exact TS.lex_ints 0 i i' (by omega) bp bq ⟨rfl, rfl⟩
end
/-- sorted(xs), xs tuples of d ints in [0, B) -/
def rSortA (K : Fg) (d : Nat) (B : Int) : List V → Hp → VK → Prop := fun vs H Q => ∃ (a : Addr) (ks : List (Addr × List Int)), vs = [V.ref a] ∧ SqL K H a (ks.map fun p => V.ref p.1) ∧ (∀ p ∈ ks, SqT K H p.1 (p.2.map V.int) ∧ p.2.length = d ∧ TS.Bd B p.2) ∧
  ∀ (ls : List (Addr × List Int)) (p : Addr), ls.Perm ks → ls.Pairwise (fun x y => TS.code B x.2 ≤ TS.code B y.2) → H p = none → Q (.ref p) (upd H p (.lst (ls.map fun p => V.ref p.1)))
theorem perm_back {α β : Type} {f : α → β} : ∀ {ys : List β} {xs : List α}, ys.Perm (xs.map f) → ∃ zs : List α, zs.Perm xs ∧ ys = zs.map f := by
  intro ys xs h
  generalize e : xs.map f = l at h
  induction h generalizing xs with
  | nil => cases xs with
    | nil => exact ⟨[], .refl _, rfl⟩
    | cons => cases e
  | cons x p ih =>
    -- ys = x :: l1, perm to x :: l2 = xs.map f
    cases xs with
    | nil => cases e
    | cons a xs =>
      cases e
      obtain ⟨zs, h1, h2⟩ := ih rfl
      exact ⟨a :: zs, h1.cons a, by rw [h2]; rfl⟩
  | swap x y l =>
    cases xs with
    | nil => cases e
    | cons a xs => cases xs with
      | nil => cases e
      | cons b xs => cases e; exact ⟨b :: a :: xs, .swap a b xs, rfl⟩
  | trans p q ih1 ih2 =>
    obtain ⟨zs, h1, h2⟩ := ih2 e
    obtain ⟨ws, h3, h4⟩ := ih1 h2.symm
    exact ⟨ws, h3.trans h1, h4⟩
section
variable {X : Cx}
theorem cr_sortA {d : Nat} {B : Int} (hd : 1 ≤ d) : CallR X (.builtin "sorted") (rSortA X.K d B) := by
  rintro pins s σ H vs us Q I r ⟨a, ks, rfl, hs, hk, q⟩
  obtain ⟨its, rv, hl, hz⟩ := I.list hs
  obtain ⟨u, rfl, ru⟩ := vals1 r
  obtain rfl : u = Value.ref a := ru
  have e0 := refs_of_vals rv
  have e1 : its = ks.map fun p => Value.ref p.1 := by simpa using e0
  subst e1
  have hx : TS.TupsOk s.heap d B (ks.map fun p => Value.ref p.1) := fun v hv => by
    obtain ⟨p, hp, rfl⟩ := List.mem_map.mp hv
    obtain ⟨h1, h2, h3⟩ := hk p hp
    exact ⟨p.2, tupI_raw I h1, h2, h3⟩
  refine SrtO.sorted_ord (swoT (rkT s.heap B)) hl.isList (by simpa using hz) (fun h2 h1 b hb kk => ?_) fun out hs hb => ?_
  · refine sortableT (s := { s with heap := h1 }) hd h2 (hx.keeps fun b o e _ => (kk b o e).2) (rkT s.heap B) (fun v hv ns t => ?_) fun o e => ?_
    · obtain ⟨ns0, t0, _⟩ := hx v hv
      rw [rkT_of t0, (t0.keeps fun b o e _ => (kk b o e).2).ints.symm.trans t.ints]
    · have e' : some o = some (seqObj "list" _ 0) := e.symm.trans hb
      cases e'
      intro c
      exact absurd (Value.type.inj c) (by decide)
  · obtain ⟨ls, hp, rfl⟩ := perm_back hb.perm
    have hsz : ls.length = ks.length := hp.length_eq
    obtain ⟨n, hn⟩ : ∃ n, (sortedAll s.heap (ks.map fun p => Value.ref p.1) (ls.map fun p => Value.ref p.1).toArray).get? (s.heap.objs.size + 1) = some (seqObj "list" (ls.map fun p => Value.ref p.1).toArray n) := sortedAll_at _ _ _
    refine ⟨.ref (s.heap.objs.size + 1), upd H (s.heap.objs.size + 1) (.lst (ls.map fun p => V.ref p.1)), I.laid (t' := s.toks) (fun b o e => sortedAll_old e) (Nat.le_succ _) ⟨by rw [List.length_map, hsz]; simpa using hz, _, n, vals_of_refs ls, hn⟩, rfl,
      q ls _ hp ?_ (I.hok.fresh (Nat.le_succ _))⟩
    have hs' := hs
    unfold SrtO.Srtd at hs'
    rw [List.pairwise_map] at hs'
    refine hs'.imp_of_mem fun {x y} hx1 hy1 h => ?_
    have t1 := tupI_raw I (hk x (hp.mem_iff.mp hx1)).1
    have t2 := tupI_raw I (hk y (hp.mem_iff.mp hy1)).1
    have h : decide (rkT s.heap B (.ref y.1) < rkT s.heap B (.ref x.1)) = false := h
    rw [rkT_of t1, rkT_of t2, decide_eq_false_iff_not] at h
    omega
end
section
variable {X : Cx} {e : Expr} {ds : List It} {pos : Pos} {A : D}
/-- sorted(xs): ys is the same list in order -/
theorem xl_sortA {p : Pos} {xs ys : List (List Int)} (d : Nat) (B : Int) (hm : X.mg "sorted" = none) (ha : XB X e ds A) (hA : A = .lst (xs.map eT)) (hd : 1 ≤ d) (hb : ∀ x ∈ xs, x.length = d ∧ TS.Bd B x)
    (hy : ys.Pairwise fun a b => TS.code B a ≤ TS.code B b) (hp : ys.Perm xs) (hg : Gl X "sorted" := by rfl) (hs : isStar e = false := by rfl) : XL X (.Call (.Name "sorted" p) [e] [] pos) ds (ys.map eT) := .mk fun G S0 S H σ E Q q =>
  we_of (pe_callB (cr_sortA (d := d) (B := B) hd) hg hm boot_sorted' (pa_cons pe_w pa_nil (se hs)) (he := se hs) (hpl := spl rfl)) (ha G S0 S H σ E _ fun v S1 H1 g1 r1 => by
    rw [hA] at r1
    obtain ⟨l, vs, rfl, hl, ra⟩ := r1.lst g1.sh
    obtain ⟨ks, rfl, rfl, hk⟩ := da_tups ra
    refine ⟨l, ks, rfl, sq_of hl, fun p hp => ⟨st_of (g1.sh _ _ (hk p hp)), hb p.2 (List.mem_map_of_mem hp)⟩, fun ls n pm pw hn => ?_⟩
    have hb' : ∀ z ∈ ls.map (·.2), z.length = d ∧ TS.Bd B z := fun z hz => by
      obtain ⟨p, hp, rfl⟩ := List.mem_map.mp hz
      exact hb p.2 (List.mem_map_of_mem (pm.mem_iff.mp hp))
    have pw' : (ls.map (·.2)).Pairwise fun a b => TS.code B a ≤ TS.code B b := by rw [List.pairwise_map]; exact pw
    have eq : ls.map (·.2) = ys := by
      have pp : (ls.map (·.2)).Perm ys := (pm.map _).trans hp.symm
      refine pp.eq_of_pairwise (fun a b ha hb2 h1 h2 => ?_) pw' hy
      obtain ⟨a1, a2⟩ := hb' a ha
      obtain ⟨b1, b2⟩ := hb b (hp.mem_iff.mp hb2)
      exact code_inj a2 b2 (by omega) (by omega)
    have g2 : Gr S1 H1 S1 (upd H1 n (.lst (ls.map fun p => V.ref p.1))) := Gr.newH g1.sh hn
    refine q n _ S1 _ (g1.trans g2) (g1.h.free hn) (g1.sh.free hn) upd_same ?_
    rw [← eq]
    exact tups_da ls fun p hp => hk p (pm.mem_iff.mp hp))
end
end Lay
/-! Lay12: the facts of the top. -/
namespace Lay
open PySem L2 PyProof.Rows
section
variable {K : Fg} {h : Heap} {mg : Str → Option Value}
theorem tx_mk (X : K.In h) (G : h.Ns mainGlobals mg) (z1 : PySem.W.nsIn K mainGlobals "len" = some none) (z2 : PySem.W.nsIn K mainGlobals "range" = some none) (z3 : PySem.W.nsIn K mainGlobals "sorted" = some none) (z4 : PySem.W.nsIn K mainGlobals "set" = some none)
    (z5 : PySem.W.nsIn K mainGlobals "list" = some none) (z6 : PySem.W.nsIn K mainGlobals "tuple" = some none) (z7 : PySem.W.nsIn K mainGlobals "sum" = some none) (z8 : PySem.W.nsIn K mainGlobals "any" = some none) (z9 : PySem.W.nsIn K mainGlobals "all" = some none)
    (z10 : PySem.W.nsIn K mainGlobals "abs" = some none) (z11 : PySem.W.nsIn K mainGlobals "max" = some none) (z12 : PySem.W.nsIn K mainGlobals "min" = some none) (z13 : PySem.W.nsIn K mainGlobals "int" = some none) (z14 : PySem.W.nsIn K mainGlobals "isinstance" = some none)
    (z16 : PySem.W.nsIn K mainGlobals "bool" = some none)
    (z15 : PySem.W.nsIn K mainGlobals "ValueError" = some none) : Tx K mg ∧ mg "ValueError" = none :=
  have m := fun {x : Str} (z : PySem.W.nsIn K mainGlobals x = some none) => PySem.W.mg_none_of X G z
  ⟨⟨m z1, m z2, m z3, m z4, m z5, m z6, m z7, m z8, m z9, m z10, m z11, m z12, m z13, m z14, m z16⟩, m z15⟩
theorem c_mk {x : Str} {i : Int} {t : Tok} (X : K.In h) (G : h.Ns mainGlobals mg) (a : PySem.W.nsIn K mainGlobals x = some (some (.int i t))) : ∃ t, mg x = some (.int i t) := ⟨t, PySem.W.mg_of X G a⟩
theorem ec_mk {x : Str} {C : Addr} (X : K.In h) (G : h.Ns mainGlobals mg) (a : PySem.W.nsIn K mainGlobals x = some (some (.ref C))) (q : PySem.W.excIn K C [.type "ValueError", .type "Exception", .type "BaseException", .type "object"] "ValueError.__new__" = true) (kp : PySem.W.keepIn K (.ref C) = true)
    (b : PySem.W.subIn K (.ref C) (.type "BaseException") = some true) (t : PySem.W.typeIn K (.ref C) = some (.type "type")) : EC K mg x C := ⟨PySem.W.mg_of X G a, q, kp, b, t⟩
theorem ei_mk {C : Addr} (t : PySem.W.typeIn K (.ref C) = some (.type "type")) (i : PySem.W.isClsIn K C = true) (s : PySem.W.subIn K (.ref C) (.ref C) = some true) (v : PySem.W.subIn K (.ref C) (.type "ValueError") = some true)
    (hg : PySem.W.findIn K (.ref C) "__getattribute__" = some (some (.builtin "BaseException.__getattribute__"))) (hk : PySem.W.findIn K (.ref C) "__getattr__" = some none) (hs : PySem.W.subIn K (.ref C) (.type "BaseException") = some true) (hd : PySem.W.hasDictIn K C = true)
    (ha : PySem.W.findIn K (.ref C) "__class__" = some (some (.builtin "object.__class__"))) (hn : PySem.W.specialIn K (.builtin "object.__class__") "__get__" = some (some (.builtin "getset_descriptor.__get__"))) (ht : PySem.W.takesIn K (.builtin "object.__class__") = some true)
    (hm : PySem.W.mroIn K C (.type "object") = some true) : EI K C := ⟨⟨hg, hk, hs, hd, ha, hn, ht, hm⟩, t, i, s, v⟩
end
/-- the error that all errors of the program are: what an except clause asks -/
structure EP (K : Fg) (mg : Str → Option Value) (cE : Addr) : Prop where
  g : mg "PurseError" = some (.ref cE)
  hd : PySem.W.hasDictIn K cE = true
  b : PySem.W.subIn K (.ref cE) (.type "BaseException") = some true
  t : PySem.W.typeIn K (.ref cE) = some (.type "type")
theorem ep_mk {K : Fg} {h : Heap} {mg : Str → Option Value} {C : Addr} (X : K.In h) (G : h.Ns mainGlobals mg) (a : PySem.W.nsIn K mainGlobals "PurseError" = some (some (.ref C))) (hd : PySem.W.hasDictIn K C = true)
    (b : PySem.W.subIn K (.ref C) (.type "BaseException") = some true) (t : PySem.W.typeIn K (.ref C) = some (.type "type")) : EP K mg C := ⟨PySem.W.mg_of X G a, hd, b, t⟩
theorem EP.exm {K : Fg} {mg : Str → Option Value} {cE C : Addr} (h : EP K mg cE) (s : PySem.W.subIn K (.ref C) (.ref cE) = some true) : PySem.W.exmOne K (.ref C) (.ref cE) = some true := PySem.W.exm_ref h.b h.hd h.t s
theorem EP.names {X : Cx} {cE : Addr} (h : EP X.K X.mg cE) (hg : Gl X "PurseError") : Names X "PurseError" (.ref cE) := ⟨hg, rfl, .inl h.g⟩
/-- the five errors, in the law's order -/
def nm5 : Fin 5 → Str
  | 0 => "BadMachine"
  | 1 => "BadRow"
  | 2 => "BadPrices"
  | 3 => "BadModel"
  | 4 => "BadForm"
def cls5 (a b c d e : Addr) : Fin 5 → Addr
  | 0 => a
  | 1 => b
  | 2 => c
  | 3 => d
  | 4 => e
structure E5 (K : Fg) (mg : Str → Option Value) (cE : Addr) (cls : Fin 5 → Addr) : Prop where
  ep : EP K mg cE
  ve : mg "ValueError" = none
  ec : ∀ i, EC K mg (nm5 i) (cls i)
  ei : ∀ i, EI K (cls i)
  sub : ∀ i j, PySem.W.subIn K (.ref (cls i)) (.ref (cls j)) = some (decide (i = j))
  par : ∀ i, PySem.W.subIn K (.ref (cls i)) (.ref cE) = some true
theorem e5_mk {K : Fg} {mg : Str → Option Value} {cE a b c d e : Addr} (ep : EP K mg cE) (ve : mg "ValueError" = none) (ec0 : EC K mg "BadMachine" a) (ec1 : EC K mg "BadRow" b) (ec2 : EC K mg "BadPrices" c) (ec3 : EC K mg "BadModel" d) (ec4 : EC K mg "BadForm" e)
    (ei0 : EI K a) (ei1 : EI K b) (ei2 : EI K c) (ei3 : EI K d) (ei4 : EI K e)
    (s01 : PySem.W.subIn K (.ref a) (.ref b) = some false) (s02 : PySem.W.subIn K (.ref a) (.ref c) = some false) (s03 : PySem.W.subIn K (.ref a) (.ref d) = some false) (s04 : PySem.W.subIn K (.ref a) (.ref e) = some false)
    (s10 : PySem.W.subIn K (.ref b) (.ref a) = some false) (s12 : PySem.W.subIn K (.ref b) (.ref c) = some false) (s13 : PySem.W.subIn K (.ref b) (.ref d) = some false) (s14 : PySem.W.subIn K (.ref b) (.ref e) = some false)
    (s20 : PySem.W.subIn K (.ref c) (.ref a) = some false) (s21 : PySem.W.subIn K (.ref c) (.ref b) = some false) (s23 : PySem.W.subIn K (.ref c) (.ref d) = some false) (s24 : PySem.W.subIn K (.ref c) (.ref e) = some false)
    (s30 : PySem.W.subIn K (.ref d) (.ref a) = some false) (s31 : PySem.W.subIn K (.ref d) (.ref b) = some false) (s32 : PySem.W.subIn K (.ref d) (.ref c) = some false) (s34 : PySem.W.subIn K (.ref d) (.ref e) = some false)
    (s40 : PySem.W.subIn K (.ref e) (.ref a) = some false) (s41 : PySem.W.subIn K (.ref e) (.ref b) = some false) (s42 : PySem.W.subIn K (.ref e) (.ref c) = some false) (s43 : PySem.W.subIn K (.ref e) (.ref d) = some false)
    (p0 : PySem.W.subIn K (.ref a) (.ref cE) = some true) (p1 : PySem.W.subIn K (.ref b) (.ref cE) = some true) (p2 : PySem.W.subIn K (.ref c) (.ref cE) = some true) (p3 : PySem.W.subIn K (.ref d) (.ref cE) = some true) (p4 : PySem.W.subIn K (.ref e) (.ref cE) = some true) :
    E5 K mg cE (cls5 a b c d e) where
  ep := ep
  ve := ve
  ec := fun i => match i with | 0 => ec0 | 1 => ec1 | 2 => ec2 | 3 => ec3 | 4 => ec4
  ei := fun i => match i with | 0 => ei0 | 1 => ei1 | 2 => ei2 | 3 => ei3 | 4 => ei4
  sub := fun i j => match i, j with
    | 0, 0 => ei0.s | 0, 1 => s01 | 0, 2 => s02 | 0, 3 => s03 | 0, 4 => s04
    | 1, 0 => s10 | 1, 1 => ei1.s | 1, 2 => s12 | 1, 3 => s13 | 1, 4 => s14
    | 2, 0 => s20 | 2, 1 => s21 | 2, 2 => ei2.s | 2, 3 => s23 | 2, 4 => s24
    | 3, 0 => s30 | 3, 1 => s31 | 3, 2 => s32 | 3, 3 => ei3.s | 3, 4 => s34
    | 4, 0 => s40 | 4, 1 => s41 | 4, 2 => s42 | 4, 3 => s43 | 4, 4 => ei4.s
  par := fun i => match i with | 0 => p0 | 1 => p1 | 2 => p2 | 3 => p3 | 4 => p4
theorem walk_F {l : PySem.W.OpenLaw} {q : Program} {loose : List Str} {XP : (Str → Option Value) → Heap → Prop} {YP : World → Heap → Prop} {d : DefRec} {K : Params → PySem.W.Frag} (k : Nat) (hn : l.most = some 63) (hdf : d.params.defaults = []) (hr : Room k callerA)
    (hY : ∀ (w : World) (h : Heap), YP w h → (K w.params).In h)
    (F : ∀ (w : World) (mg : Str → Option Value) (fa : Addr) (h : Heap), (K w.params).In h → h.Ns mainGlobals mg → mg d.name = some (.ref fa) →
      ∃ fd : FuncData, (∀ (s : Shared) (u : Value), BindsTo s fd ⟨[u], []⟩ [("_law_script", u)]) ∧ ∀ base : Heap, (K w.params).In base → base.Ns mainGlobals mg → FnOk l.prog w (K w.params) mg base (L2.CX l.prog w) k fa fd ["_law_script"] (spF (K w.params) F_law)) :
    PySem.W.WalkO q loose XP YP l.row.toRowW d [] (fun f vs => PySem.call f vs) :=
  L2.walk_of (n := 63) (k := k) (x := "_law_script") (CX := fun w => L2.CX l.prog w) (sp := fun w => spF (K w.params) F_law) hn (by decide) hdf hr hY F (fun w H a ns hl _ hS => law_sp hl hS) fun w H s e s2 z => law_cx z
end Lay
/-! Lay13: what may be compared, told by depth; lists of lists of the frame's own. -/
namespace Lay
open PySem L2
/-- data of at most n deep, that may be compared -/
def okN (n : Nat) (d : D) : Prop := plain d = true ∧ (py d).canLay0 = true ∧ (py d).depth ≤ n
theorem okN.e {n : Nat} {d : D} (h : okN n d) (hn : n ≤ 64 := by decide) : okE d = true := by
  obtain ⟨h1, h2, h3⟩ := h
  unfold okE SeqAt.shaped
  rw [h1, h2]
  simp; omega
theorem okN.mono {m n : Nat} {d : D} (h : okN m d) (l : m ≤ n) : okN n d := ⟨h.1, h.2.1, Nat.le_trans h.2.2 l⟩
theorem okN_int {n : Nat} {i : Int} : okN n (.int i) := ⟨rfl, rfl, Nat.zero_le _⟩
theorem okN_bl {n : Nat} {i : Bool} : okN n (.bl i) := ⟨rfl, rfl, Nat.zero_le _⟩
theorem okN_non {n : Nat} : okN n .non := ⟨rfl, rfl, Nat.zero_le _⟩
theorem okN_all {n : Nat} : ∀ {ds : List D}, (∀ d ∈ ds, okN n d) → plainAll ds = true ∧ PyData.canLayAll0 (pyAll ds) = true ∧ PyData.depthAll (pyAll ds) ≤ n
  | [], _ => ⟨rfl, rfl, Nat.zero_le _⟩
  | d :: ds, h => by
    obtain ⟨a, b, c⟩ := okN_all (ds := ds) fun x hx => h x (List.mem_cons_of_mem _ hx)
    obtain ⟨a1, b1, c1⟩ := h d List.mem_cons_self
    refine ⟨?_, ?_, ?_⟩
    · show (plain d && plainAll ds) = true
      rw [a1, a]; rfl
    · show (PyData.canLay0 (py d) && PyData.canLayAll0 (pyAll ds)) = true
      rw [b1, b]; rfl
    · show max (PyData.depth (py d)) (PyData.depthAll (pyAll ds)) ≤ n
      omega
theorem okN_lst {n : Nat} {ds : List D} (h : ∀ d ∈ ds, okN n d) : okN (n + 1) (.lst ds) := by
  obtain ⟨a, b, c⟩ := okN_all h
  refine ⟨a, b, ?_⟩
  show PyData.depthAll (pyAll ds) + 1 ≤ n + 1
  omega
theorem okN_tup {n : Nat} {ds : List D} (h : ∀ d ∈ ds, okN n d) : okN (n + 1) (.tup ds) := by
  obtain ⟨a, b, c⟩ := okN_all h
  refine ⟨a, b, ?_⟩
  show PyData.depthAll (pyAll ds) + 1 ≤ n + 1
  omega
theorem eqD_refl {A : D} (h : okE A = true) : eqD A A = true := PySem.SeqAt.eqv_refl _ (SeqAt.canLay_of_shaped (okE_r h))

/-! ### lists of lists of the frame's own -/
section
variable {K : Fg} {G S0 S H S' H' : Hp} {σ : St} {ds : List It} {A : Nat → List Addr}
theorem itr_ll {o : Option V} {xss : List (List D)} {as : List Addr} (q : ItR K S H (.ll xss) o as) : ∃ p vs bs, o = some (.ref p) ∧ as = p :: bs ∧ H p = some (.lst vs) ∧ LlR K S H xss vs bs := by
  cases q with
  | ll q q2 => exact ⟨_, _, _, rfl, rfl, q, q2⟩
theorem llr_len : ∀ {xss : List (List D)} {vs : List V} {as : List Addr}, LlR K S H xss vs as → vs.length = xss.length ∧ as.length = xss.length
  | _, _, _, .nil => ⟨rfl, rfl⟩
  | _, _, _, .cons _ _ t => by
    obtain ⟨a, b⟩ := llr_len t
    exact ⟨by simp [a], by simp [b]⟩
theorem llr_get : ∀ {xss : List (List D)} {vs : List V} {as : List Addr} {j : Nat} {xs : List D}, LlR K S H xss vs as → xss[j]? = some xs → ∃ p ws, vs[j]? = some (.ref p) ∧ as[j]? = some p ∧ H p = some (.lst ws) ∧ RpA K S ws xs
  | _, _, _, 0, _, .cons h r _, e => by cases e; exact ⟨_, _, rfl, rfl, h, r⟩
  | _, _, _, j + 1, _, .cons _ _ t, e => llr_get (j := j) t e
theorem llr_set : ∀ {xss : List (List D)} {vs : List V} {as : List Addr} {j : Nat} {ys : List D} {p : Addr} {ws : List V}, LlR K S H xss vs as → as.Nodup → as[j]? = some p → RpA K S ws ys → LlR K S (upd H p (.lst ws)) (xss.set j ys) vs as
  | _, _, _, 0, _, p, _, .cons h r t, nd, e, q => by
    cases e
    rw [List.nodup_cons] at nd
    exact .cons upd_same q (llr_keep (Same.refl _) t fun a ha => upd_ne fun z => nd.1 (by rw [← z]; exact ha))
  | _, _, _, j + 1, _, p, _, .cons (as := bs) h r t, nd, e, q => by
    rw [List.nodup_cons] at nd
    have hm : p ∈ bs := List.mem_of_getElem? (show bs[j]? = some p from e)
    exact .cons ((upd_ne fun z => nd.1 (by rw [z]; exact hm)).trans h) r (llr_set t nd.2 e q)
theorem llr_dp (k : Same S H) : ∀ {xss : List (List D)} {vs : List V} {as : List Addr}, LlR K S H xss vs as → plainAll (xss.map D.lst) = true → DpAll K H vs (pyAll (xss.map D.lst))
  | _, _, _, .nil, _ => .nil
  | _, _, _, .cons h r t, p => by
    obtain ⟨p1, p2⟩ := Bool.and_eq_true_iff.mp p
    exact .cons (.lst (sq_of h) (rpa_dp k _ _ r p1)) (llr_dp k t p2)
theorem EnvA.ll (e : EnvA K G S0 S H σ ds A) {i : Nat} {xss : List (List D)} (h : ds[i]? = some (.ll xss)) : ∃ p vs bs, σ[i]? = some (some (.ref p)) ∧ A i = p :: bs ∧ H p = some (.lst vs) ∧ LlR K S H xss vs bs := by
  obtain ⟨p, vs, bs, hv, ha, hp, r⟩ := itr_ll (e.it i _ h)
  exact ⟨p, vs, bs, join_some hv, ha, hp, r⟩
/-- one of the lists changes -/
theorem Env.mutLL (e : Env K G S0 S H σ ds) {i : Nat} {xss : List (List D)} {j : Nat} {xs : List D} (h : ds[i]? = some (.ll xss)) (hj : xss[j]? = some xs) : ∃ p vs q ws, σ[i]? = some (some (.ref p)) ∧ H p = some (.lst vs) ∧ vs.length = xss.length ∧ vs[j]? = some (.ref q) ∧ H q = some (.lst ws) ∧ RpA K S ws xs ∧
    ∀ us ys, RpA K S us ys → Env K G S0 S (upd H q (.lst us)) σ (ds.set i (.ll (xss.set j ys))) := by
  obtain ⟨A, e⟩ := e
  obtain ⟨p, vs, bs, hv, ha, hp, r⟩ := e.ll h
  obtain ⟨q, ws, h1, h2, h3, h4⟩ := llr_get r hj
  refine ⟨p, vs, q, ws, hv, hp, (llr_len r).1, h1, h3, h4, fun us ys ru => ?_⟩
  have hm : q ∈ A i := by rw [ha]; exact List.mem_cons_of_mem _ (List.mem_of_getElem? h2)
  have nd := e.nd i
  obtain ⟨_, sq, gq⟩ := e.fr i q hm
  have hne : ∀ j a, j ≠ i → a ∈ A j → a ≠ q := fun j a z hj w => z (e.dj j i a hj (w ▸ hm))
  have fr := e.fr i
  rw [ha] at nd fr
  rw [List.nodup_cons] at nd
  have pq : p ≠ q := fun z => nd.1 (z ▸ List.mem_of_getElem? h2)
  have w := e.put (S' := S) (H' := upd H q (.lst us)) i (it := .ll (xss.set j ys)) (v := some (.ref p)) (Same.refl _) (fun b u w => by
      rw [upd_ne (fun z => by subst z; rw [sq] at w; cases w)]; exact e.sh _ _ w) (fun b u w => by rw [upd_ne (fun z => by subst z; rw [gq] at w; cases w)]; exact e.gh _ _ w) e.gs (.ll ((upd_ne pq).trans hp) (llr_set r nd.2 h2 ru)) (List.nodup_cons.mpr nd)
    (fun j a z hj => ⟨upd_ne (hne j a z hj), (e.fr j a hj).2.1⟩) fun a ha' => ⟨(fr a ha').2.1, (fr a ha').2.2, fun j z hj => z (e.dj j i a hj (by rw [ha]; exact ha'))⟩
  rw [set_get hv] at w
  exact ⟨_, w⟩
end
section
variable {X : Cx} {W : WX} {e a b c : Expr} {ds ds' : List It} {pos : Pos} {d : D} {xs ys : List D} {tg : Expr}
variable {x : Str} {px pa : Pos}
/-- x = [xs, ys] of new lists -/
theorem xs_own2 (i : Nat) {p pl : Pos} (hN : X.N.Nodup) (ha : XL X a ds xs) (hb : XL X b ds ys) (hi : X.N[i]? = some x := by rfl) (hx : Loc X.env.scope x := by first | exact Or.inl rfl | exact Or.inr rfl) (hs : swapsWith (.List [a, b] pl) (some (.Name x p)) pos.line X.env = pure false := by rfl)
    (hf : X.fn x = true ∨ X.env.scope.names.lookup x = some .local := by first | exact .inl rfl | exact .inr rfl) (h1 : starEach [a, b] X.env = (false, eval a X.env) :: starEach [b] X.env := by exact se rfl) (h2 : starEach [b] X.env = (false, eval b X.env) :: starEach [] X.env := by exact se rfl) :
    XS X W (.Assign [.Name x p] (.List [a, b] pl) pos) ds (.nx (ds.set i (.ll [xs, ys]))) := .mk fun G S0 S H σ E Z q =>
  ws_of (ps_set hN hi hx (pe_lst (pa_cons pe_w (pa_cons pe_w pa_nil h2) h1)) hs hf) (ha G S0 S H σ E _ fun p1 vs1 S1 H1 g1 f1 f2 f3 r1 => hb G S0 S1 H1 σ (E.grow g1) _ fun p2 vs2 S2 H2 g2 f4 f5 f6 r2 => by
    refine ⟨sz _ (Nat.le_of_ble_eq_true rfl), fun p hp => q _ S2 _ ?_⟩
    have z1 : H2 p1 = some (.lst vs1) := g2.h _ _ f3
    have s1 : S2 p1 = none := by rw [g2.old p1 (nn_of f3)]; exact f2
    have n12 : p1 ≠ p2 := fun z => by rw [z, f4] at f3; cases f3
    have np1 : p1 ≠ p := fun z => by rw [z, hp] at z1; cases z1
    have np2 : p2 ≠ p := fun z => by rw [z, hp] at f6; cases f6
    have n2 : H p2 = none := g1.h.free f4
    have n3 : H p = none := g1.h.free (g2.h.free hp)
    have g : Gr S H S2 (upd H2 p (.lst [.ref p1, .ref p2])) := (g1.trans g2).trans (Gr.newH g2.sh hp)
    obtain ⟨A, e⟩ := E
    have e' := e.grow g
    have hS : S2 p = none := g2.sh.free hp
    refine ⟨_, e'.put i (it := .ll [xs, ys]) (as := [p, p1, p2]) (Same.refl _) e'.sh e'.gh e'.gs (.ll upd_same (.cons ((upd_ne np1).trans z1) (da_same g2.s r1) (.cons ((upd_ne np2).trans f6) r2 .nil))) ?_ (fun j a _ ha => ⟨rfl, (e'.fr j a ha).2.1⟩) fun a ha => ?_⟩
    · simp [n12, np1.symm, np2.symm]
    · have new : ∀ a, H a = none → S2 a = none → S2 a = none ∧ G a = none ∧ ∀ j, j ≠ i → a ∉ A j := fun a h1 h2 => ⟨h2, e.gh.free h1, fun j _ hj => e.own hj h1⟩
      rcases List.mem_cons.mp ha with rfl | ha
      · exact new _ n3 hS
      · rcases List.mem_cons.mp ha with rfl | ha
        · exact new _ f1 s1
        · rcases List.mem_singleton.mp ha with rfl
          exact new _ n2 f5)
/-- x != b -/
theorem xt_neLL (i : Nat) {B : D} {xss : List (List D)} (hu : X.A.units + 64 < cLine) (hb : XB X b ds B) (h1 : okE (.lst (xss.map .lst)) = true) (h2 : okE B = true) (hd : ds[i]? = some (.ll xss) := by rfl) (hN : X.N[i]? = some x := by rfl) (hv : Vis X.env.scope x := by first | exact Or.inl rfl | exact Or.inr (Or.inl rfl) | exact Or.inr (Or.inr rfl)) (h3 : (x == ("__debug__" : Str)) = false := by decide)
    (h4 : (x == ("__classdict__" : Str)) = false := by decide) : XT X (.Compare (.Name x px) [.NotEq] [b] pos) ds (!eqD (.lst (xss.map .lst)) B) := .mk fun G S0 S H σ E Q q => by
  obtain ⟨A, e⟩ := E
  obtain ⟨p, vs, bs, hv', ha, hp, r⟩ := e.ll hd
  exact wt_of (pt_cmpR (op_neD hu) (pe_var (i := i) hN hv h3 h4) pe_w (nomark _)) ⟨.ref p, hv', hb G S0 S H σ ⟨A, e⟩ _ fun y S2 H2 g r2 => ⟨_, _, .lst (sq_of (g.h _ _ hp)) (llr_dp g.sh (llr_keep g.s r fun a ha' => keep_of g.h (llr_owned r a ha')) (okE_l h1)), rb_dp g.sh r2 (okE_l h2), okE_r h1, okE_r h2, ⟨_, rfl, q S2 H2 g⟩⟩⟩
theorem ll_atI {α : Type} {vs : List α} {n : Nat} {m : Int} {j : Nat} {v : α} (hn : vs.length = n) (hj : ixN n m = some j) (h : vs[j]? = some v) : atI vs m = some v := by
  unfold atI
  rw [hn, hj]; exact h
/-- x[k] == b -/
theorem xt_eqLL (i : Nat) {B : D} {xss : List (List D)} {m : Int} {j : Nat} {k : Expr} {pk : Pos} (hu : X.A.units + 64 < cLine) (hk : XV X k ds (.int m)) (hj : ixN xss.length m = some j) (hx : xss[j]? = some xs) (hb : XB X b ds B) (h1 : okE (.lst xs) = true) (h2 : okE B = true) (hd : ds[i]? = some (.ll xss) := by rfl) (hN : X.N[i]? = some x := by rfl) (hv : Vis X.env.scope x := by first | exact Or.inl rfl | exact Or.inr (Or.inl rfl) | exact Or.inr (Or.inr rfl)) (h3 : (x == ("__debug__" : Str)) = false := by decide)
    (h4 : (x == ("__classdict__" : Str)) = false := by decide) (hs : PlainIx k := by exact fun _ _ => rfl) : XT X (.Compare (.Subscript (.Name x px) k pk) [.Eq] [b] pos) ds (eqD (.lst xs) B) := .mk fun G S0 S H σ E Q q => by
  refine wt_of (pt_cmpR (op_eqD hu) (pe_ix ix_seq (pe_var (i := i) hN hv h3 h4) pe_w hs) pe_w (nomark _)) ?_
  obtain ⟨p, vs, r, ws, hv', hp, hl, hvj, hr, ra, _⟩ := E.mutLL hd hx
  refine ⟨.ref p, hv', hk G S0 S H σ E _ fun kv S1 H1 g1 rk => ?_⟩
  cases rk
  refine .inl ⟨p, vs, m, .ref r, rfl, rfl, sq_of (g1.h _ _ hp), ll_atI hl hj hvj, ?_⟩
  exact hb G S0 S1 H1 σ (E.grow g1) _ fun y S2 H2 g r2 => ⟨_, _, .lst (sq_of (g.h _ _ (g1.h _ _ hr))) (rpa_dp g.sh _ _ (da_same g.s (da_same g1.s ra)) (okE_l h1)), rb_dp g.sh r2 (okE_l h2), okE_r h1, okE_r h2, ⟨_, rfl, q S2 H2 (g1.trans g)⟩⟩
/-- tg = a[x[k].pop(0)] -/
theorem xs_asgPopIx (i : Nat) {xss : List (List D)} {m y : Int} {j : Nat} {k : Expr} {pk pc ps pz : Pos} {jz} (ha : XV X a ds (.lst xs)) (hk : XV X k ds (.int m)) (hj : ixN xss.length m = some j) (hx : xss[j]? = some (.int y :: ys)) (hy : atI xs y = some d) (hg : XG X tg d (ds.set i (.ll (xss.set j ys))) ds') (hd : ds[i]? = some (.ll xss) := by rfl)
    (hN : X.N[i]? = some x := by rfl) (hv : Vis X.env.scope x := by first | exact Or.inl rfl | exact Or.inr (Or.inl rfl) | exact Or.inr (Or.inr rfl)) (h3 : (x == ("__debug__" : Str)) = false := by decide) (h4 : (x == ("__classdict__" : Str)) = false := by decide) (hi : PlainIx k := by exact fun _ _ => rfl)
    (hbase : attributeBase (.Subscript (.Name x px) k pk) "pop" X.env (eval (.Subscript (.Name x px) k pk) X.env) = eval (.Subscript (.Name x px) k pk) X.env := by rfl) (hline : (pa.endLine == pc.line) = true := by rfl)
    (hs : swapsWithSole [tg] (.Subscript a (.Call (.Attribute (.Subscript (.Name x px) k pk) "pop" pa) [.Constant (.int 0) jz pz] [] pc) ps) pos.line X.env = pure false := by rfl) (hw : swappedStores [tg] (.Subscript a (.Call (.Attribute (.Subscript (.Name x px) k pk) "pop" pa) [.Constant (.int 0) jz pz] [] pc) ps) X.env = pure none := by rfl)
    (h1 : (assignEach [tg] X.env).map (·.2) = [assign tg X.env] := by rfl) : XS X W (.Assign [tg] (.Subscript a (.Call (.Attribute (.Subscript (.Name x px) k pk) "pop" pa) [.Constant (.int 0) jz pz] [] pc) ps) pos) ds (.nx ds') := .mk fun G S0 S H σ E Z q => by
  refine ws_of (ps_asg (pe_ix ix_seq pe_w (pe_bm PySem.F.plainAttrs_list PySem.F.slot_list_pop PySem.F.type_list_pop (fun pins s σ H x xs v us Q I rx rv h => mt_popAt pins s σ H x xs v us Q I rx rv h) (pe_ix ix_seq (pe_var (i := i) hN hv h3 h4) pe_w hi) (pa_cons pe_int pa_nil (se rfl)) hbase (sfew rfl (Nat.le_of_ble_eq_true rfl)) hline (se rfl) (spl rfl)) (fun _ _ => rfl)) pg_w hs hw h1) ?_
  refine ha G S0 S H σ E _ fun av S1 H1 g1 r1 => ?_
  have E1 := E.grow g1
  obtain ⟨p, vs, r, ws, hv', hp, hl, hvj, hr, ra, _⟩ := E1.mutLL hd hx
  refine ⟨.ref p, hv', hk G S0 S1 H1 σ E1 _ fun kv S2 H2 g2 rk => ?_⟩
  cases rk
  refine .inl ⟨p, vs, m, .ref r, rfl, rfl, sq_of (g2.h _ _ hp), ll_atI hl hj hvj, ty_list (g2.h _ _ hr), ?_⟩
  obtain ⟨p', vs', r', ws', hv2, hp2, hl2, hvj2, hr2, ra2, mut2⟩ := (E1.grow g2).mutLL hd hx
  rw [hv'] at hv2
  cases hv2
  rw [g2.h _ _ hp] at hp2
  cases hp2
  rw [hvj] at hvj2
  cases hvj2
  cases ra2 with
  | @cons v0 _ vs0 _ rv rvs =>
    cases rv
    refine ⟨r, _, 0, 0, _, rfl, rfl, hr2, by decide, by decide, (ixN_seq (ixN_ge (i := 0) (by decide) (by simp))).1, rfl, ?_⟩
    have E3 := mut2 _ _ rvs
    cases r1 with
    | @lst qa ws2 _ hq raq =>
      obtain ⟨v, hv3, rv3⟩ := da_atI raq hy
      have hq2 := E3.sh _ _ (g2.s _ _ hq)
      exact .inl ⟨qa, ws2, y, v, rfl, rfl, sq_of hq2, hv3, hg G S0 S2 _ σ v E3 (dp_same g2.s rv3) _ fun σ' E4 => q σ' S2 _ E4⟩
theorem pyAll_get : ∀ {xs : List D} {j : Nat}, (pyAll xs)[j]? = xs[j]?.map py
  | [], _ => rfl
  | x :: xs, 0 => rfl
  | x :: xs, j + 1 => pyAll_get (xs := xs) (j := j)
/-- xs.index(e), of data of any depth -/
theorem xv_indexD {j : Nat} {z : D} (hu : X.A.units + 65 < cLine) (ho : XB X a ds (.lst xs)) (ha : XB X e ds d) (hk1 : okE (.lst xs) = true) (hk2 : okE d = true) (hj : xs[j]? = some z) (hz : eqD z d = true) (hn : ∀ (m : Nat) (z' : D), m < j → xs[m]? = some z' → eqD z' d = false)
    (hbase : attributeBase a "index" X.env (eval a X.env) = eval a X.env := by rfl) (hline : (pa.endLine == pos.line) = true := by rfl) (hst : isStar e = false := by rfl) : XV X (.Call (.Attribute a "index" pa) [e] [] pos) ds (.int (j : Int)) :=
  xv_bm PySem.F.plainAttrs_list PySem.F.slot_list_index PySem.F.type_list_index (mt_indexD hu) ho (xab_cons ha xab_nil (se hst)) ty_lst (fun S H x vs Q k r rr q => by
    have r0 := r
    obtain ⟨p, us, rfl, h1, h2⟩ := r.lst k
    obtain ⟨v, rfl, r1⟩ := rba1 rr
    refine ⟨p, v, py d, pyAll xs, j, py z, rfl, rfl, rb_dp k r0 (okE_l hk1), rb_dp k r1 (okE_l hk2), okE_r hk1, okE_r hk2, by rw [pyAll_get, hj]; rfl, hz, fun m z' hm hz' => ?_, q _ S H (.refl k) (.int _)⟩
    rw [pyAll_get] at hz'
    cases w : xs[m]? with
    | none => rw [w] at hz'; cases hz'
    | some y => rw [w] at hz'; cases hz'; exact hn m y hm w) hbase (sfew (by simp [hst]) (by simp)) hline (se hst) (spl rfl)
/-- a while whose end is told by what is true of it -/
theorem xss_whileE {c : Expr} {body rest : List Stmt} {n : Nat} {Q : List It → Prop} {o : Ou} (hp : PassesOwn (model X.prog X.w) X.A X.env X.xe) (hw : ∃ ds1, Q ds1 ∧ Wh X W c body n ds (.nx ds1)) (h : ∀ ds1, Q ds1 → XSs X W rest ds1 o) : XSs X W (.While c body [] pos :: rest) ds o := by
  obtain ⟨ds1, q, hw⟩ := hw
  exact xss_cons (xs_while hp hw) (h ds1 q)
theorem xss_whileX {c : Expr} {body rest : List Stmt} {Q : List It → Prop} {o : Ou} (hp : PassesOwn (model X.prog X.w) X.A X.env X.xe) (hw : ∃ n ds1, Q ds1 ∧ Wh X W c body n ds (.nx ds1)) (h : ∀ ds1, Q ds1 → XSs X W rest ds1 o) : XSs X W (.While c body [] pos :: rest) ds o := by
  obtain ⟨n, ds1, q, hw⟩ := hw
  exact xss_cons (xs_while hp hw) (h ds1 q)
end
end Lay
/-! Lay14: instances: their fields. -/
namespace Lay
open PySem L2
/-! ### names of fields, by place -/
section
variable {α : Type} {f : Str} {x y : α}
theorem look_at : ∀ {l : List (Str × α)} {k : Nat}, (l.map (·.1)).Nodup → l[k]? = some (f, x) → l.lookup f = some x
  | [], _, _, h => by cases h
  | (n, z) :: l, 0, _, h => by cases h; simp [List.lookup]
  | (n, z) :: l, k + 1, nd, h => by
    rw [List.map_cons, List.nodup_cons] at nd
    have hm : f ∈ l.map (·.1) := List.mem_map.mpr ⟨(f, x), List.mem_of_getElem? (show l[k]? = some (f, x) from h), rfl⟩
    have e : (f == n) = false := by
      rw [beq_eq_false_iff_ne]
      intro z
      exact nd.1 (z ▸ hm)
    simp only [List.lookup, e]
    exact look_at nd.2 (show l[k]? = some (f, x) from h)
theorem look_no : ∀ {l : List (Str × α)}, f ∉ l.map (·.1) → l.lookup f = none
  | [], _ => rfl
  | (n, z) :: l, h => by
    rw [List.map_cons, List.mem_cons] at h
    have e : (f == n) = false := by
      rw [beq_eq_false_iff_ne]
      intro z
      exact h (.inl z)
    simp only [List.lookup, e]
    exact look_no fun q => h (.inr q)
def putI (f : Str) (d : α) : List (Str × α) → List (Str × α)
  | [] => [(f, d)]
  | (g, x) :: r => if g = f then (g, d) :: r else (g, x) :: putI f d r
theorem putI_at : ∀ {l : List (Str × α)} {k : Nat}, (l.map (·.1)).Nodup → l[k]? = some (f, x) → putI f y l = l.set k (f, y)
  | [], _, _, h => by cases h
  | (n, z) :: l, 0, _, h => by cases h; unfold putI; rw [if_pos rfl]; rfl
  | (n, z) :: l, k + 1, nd, h => by
    rw [List.map_cons, List.nodup_cons] at nd
    have hm : f ∈ l.map (·.1) := List.mem_map.mpr ⟨(f, x), List.mem_of_getElem? (show l[k]? = some (f, x) from h), rfl⟩
    have e : ¬ n = f := fun z => nd.1 (by rw [show (n, _).1 = f from z]; exact hm)
    unfold putI
    rw [if_neg e, putI_at nd.2 (show l[k]? = some (f, x) from h)]
    rfl
theorem putI_no : ∀ {l : List (Str × α)}, f ∉ l.map (·.1) → putI f y l = l ++ [(f, y)]
  | [], _ => rfl
  | (n, z) :: l, h => by
    rw [List.map_cons, List.mem_cons] at h
    have e : ¬ n = f := fun z => h (.inl z.symm)
    unfold putI
    rw [if_neg e, putI_no fun q => h (.inr q)]
    rfl
end
/-! ### what the fields hold -/
section
variable {K : Fg} {S H : Hp} {f : Str}
theorem rpF_look {d : D} : ∀ {fv : List (Str × V)} {fs : List (Str × D)}, RpF K S fv fs → fs.lookup f = some d → ∃ v, fv.lookup f = some v ∧ Rp K S v d
  | _, _, .nil, h => by cases h
  | (n, v) :: fv, (_, x) :: fs, .cons r t, h => by
    by_cases e : f = n
    · subst e
      simp only [List.lookup, beq_self_eq_true] at h ⊢
      cases h
      exact ⟨v, rfl, r⟩
    · have : (f == n) = false := by simp [e]
      simp only [List.lookup, this] at h ⊢
      exact rpF_look t h
theorem rpF_none : ∀ {fv : List (Str × V)} {fs : List (Str × D)}, RpF K S fv fs → fs.lookup f = none → fv.lookup f = none
  | _, _, .nil, h => rfl
  | (n, v) :: fv, (_, x) :: fs, .cons r t, h => by
    by_cases e : f = n
    · subst e
      simp only [List.lookup, beq_self_eq_true] at h
      cases h
    · have : (f == n) = false := by simp [e]
      simp only [List.lookup, this] at h ⊢
      exact rpF_none t h
theorem fsr_look {g : FI} : ∀ {fs : List (Str × FI)} {fv : List (Str × V)} {bs : List Addr}, FsR K S H fs fv bs → fs.lookup f = some g → ∃ v as, fv.lookup f = some v ∧ FIR K S H g v as ∧ ∀ x ∈ as, x ∈ bs
  | _, _, _, .nil, h => by cases h
  | (n, x) :: fs, (_, v) :: fv, _, .cons r t, h => by
    by_cases e : f = n
    · subst e
      simp only [List.lookup, beq_self_eq_true] at h ⊢
      cases h
      exact ⟨v, _, rfl, r, fun x hx => List.mem_append_left _ hx⟩
    · have : (f == n) = false := by simp [e]
      simp only [List.lookup, this] at h ⊢
      obtain ⟨v, as, h1, h2, h3⟩ := fsr_look t h
      exact ⟨v, as, h1, h2, fun x hx => List.mem_append_right _ (h3 x hx)⟩
theorem fsr_none : ∀ {fs : List (Str × FI)} {fv : List (Str × V)} {bs : List Addr}, FsR K S H fs fv bs → fs.lookup f = none → fv.lookup f = none
  | _, _, _, .nil, h => rfl
  | (n, x) :: fs, (_, v) :: fv, _, .cons r t, h => by
    by_cases e : f = n
    · subst e
      simp only [List.lookup, beq_self_eq_true] at h
      cases h
    · have : (f == n) = false := by simp [e]
      simp only [List.lookup, this] at h ⊢
      exact fsr_none t h
theorem fsr_len : ∀ {fs : List (Str × FI)} {fv : List (Str × V)} {bs : List Addr}, FsR K S H fs fv bs → fv.length = fs.length
  | _, _, _, .nil => rfl
  | _, _, _, .cons _ t => by rw [List.length_cons, List.length_cons, fsr_len t]
theorem fsr_put {g : FI} {v : V} {as : List Addr} (r : FIR K S H g v as) : ∀ {fs : List (Str × FI)} {fv : List (Str × V)} {bs : List Addr}, FsR K S H fs fv bs → ∃ bs', FsR K S H (putI f g fs) (putF f v fv) bs' ∧ (∀ x ∈ bs', x ∈ bs ∨ x ∈ as) ∧ (bs.Nodup → as.Nodup → (∀ x ∈ as, x ∉ bs) → bs'.Nodup)
  | [], _, _, .nil => ⟨as ++ [], .cons r .nil, fun x hx => .inr (by simpa using hx), fun _ h _ => by simpa using h⟩
  | (n, x) :: fs, (_, y) :: fv, _, .cons (as := as0) (bs := bs0) r1 t => by
    unfold putI putF
    by_cases e : n = f
    · rw [if_pos e, if_pos e]
      refine ⟨_, .cons r t, fun x hx => ?_, fun h1 h2 h3 => ?_⟩
      · rcases List.mem_append.mp hx with q | q
        · exact .inr q
        · exact .inl (List.mem_append_right _ q)
      · rw [List.nodup_append] at h1 ⊢
        exact ⟨h2, h1.2.1, fun x hx y hy z => h3 x hx (List.mem_append_right _ (z ▸ hy))⟩
    · rw [if_neg e, if_neg e]
      obtain ⟨bs', q1, q2, q3⟩ := fsr_put r t
      refine ⟨_, .cons r1 q1, fun x hx => ?_, fun h1 h2 h3 => ?_⟩
      · rcases List.mem_append.mp hx with q | q
        · exact .inl (List.mem_append_left _ q)
        · rcases q2 x q with z | z
          · exact .inl (List.mem_append_right _ z)
          · exact .inr z
      · rw [List.nodup_append] at h1 ⊢
        refine ⟨h1.1, q3 h1.2.1 h2 fun x hx z => h3 x hx (List.mem_append_right _ z), fun x hx y hy z => ?_⟩
        rcases q2 y hy with w | w
        · exact h1.2.2 x hx y w z
        · exact h3 y w (List.mem_append_left _ (z ▸ hx))
theorem fsr_mut {oa : Option Addr} {xs : List D} : ∀ {fs : List (Str × FI)} {fv : List (Str × V)} {bs : List Addr}, FsR K S H fs fv bs → bs.Nodup → fs.lookup f = some (.ow oa xs) → ∃ p vs, fv.lookup f = some (.ref p) ∧ p ∈ bs ∧ (∀ a, oa = some a → p = a) ∧ H p = some (.lst vs) ∧ RpA K S vs xs ∧
    ∀ ws ys ob, RpA K S ws ys → (∀ a, ob = some a → p = a) → FsR K S (upd H p (.lst ws)) (putI f (.ow ob ys) fs) fv bs
  | _, _, _, .nil, _, h => by cases h
  | (n, x) :: fs, (_, v) :: fv, _, .cons (as := as0) (bs := bs0) r t, nd, h => by
    rw [List.nodup_append] at nd
    by_cases e : f = n
    · subst e
      simp only [List.lookup, beq_self_eq_true] at h ⊢
      cases h
      cases r with
      | @ow _ _ p vs z hp ra =>
        refine ⟨p, vs, rfl, List.mem_append_left _ List.mem_cons_self, z, hp, ra, fun ws ys ob q qz => ?_⟩
        unfold putI
        rw [if_pos rfl]
        exact .cons (.ow qz upd_same q) (fsr_keep (Same.refl _) t fun a ha => upd_ne fun w => nd.2.2 p List.mem_cons_self a ha w.symm)
    · have : (f == n) = false := by simp [e]
      simp only [List.lookup, this] at h ⊢
      obtain ⟨p, vs, h1, h2, h3, h4, h5, h6⟩ := fsr_mut t nd.2.1 h
      refine ⟨p, vs, h1, List.mem_append_right _ h2, h3, h4, h5, fun ws ys ob q qz => ?_⟩
      unfold putI
      rw [if_neg (fun z => e z.symm)]
      exact .cons (fir_keep (Same.refl _) r fun a ha => upd_ne fun w => nd.2.2 a ha p h2 w) (h6 ws ys ob q qz)
end
def allF (fs : List (Str × D)) : List (Str × FI) := fs.map fun p => (p.1, FI.fz p.2)
theorem fsr_all {K : Fg} {S H : Hp} : ∀ {fs : List (Str × D)} {fv : List (Str × V)} {as : List Addr}, FsR K S H (allF fs) fv as → RpF K S fv fs
  | [], _, _, h => by cases h; exact .nil
  | (n, d) :: fs, _, _, h => by
    cases h with
    | cons h t =>
      cases h with
      | fz r => exact .cons r (fsr_all t)
/-! ### a slot's own object -/
section
variable {K : Fg} {G S0 S H S' H' : Hp} {σ : St} {ds : List It} {A : Nat → List Addr} {i : Nat} {C : Addr} {oa ob : Option Addr} {fs : List (Str × FI)} {f : Str}
theorem EnvA.obj (e : EnvA K G S0 S H σ ds A) (h : ds[i]? = some (.ob C oa fs)) : ∃ p dx fv bs, σ[i]? = some (some (.ref p)) ∧ A i = p :: bs ∧ (∀ a, oa = some a → p = a) ∧ H p = some (.ins C dx fv) ∧ FsR K S H fs fv bs := by
  obtain ⟨p, dx, fv, bs, hv, ha, hp, hH, r⟩ := itr_ob (e.it i _ h)
  exact ⟨p, dx, fv, bs, join_some hv, ha, hp, hH, r⟩
/-- a field that is frozen -/
theorem Env.fldz (E : Env K G S0 S H σ ds) {d : D} (h : ds[i]? = some (.ob C oa fs)) (hl : fs.lookup f = some (.fz d)) : ∃ p dx fv v, σ[i]? = some (some (.ref p)) ∧ H p = some (.ins C dx fv) ∧ fv.lookup f = some v ∧ Rp K S v d := by
  obtain ⟨A, e⟩ := E
  obtain ⟨p, dx, fv, bs, h1, _, _, h2, r⟩ := e.obj h
  obtain ⟨v, as, h3, q, _⟩ := fsr_look r hl
  cases q with
  | fz q => exact ⟨p, dx, fv, v, h1, h2, h3, q⟩
/-- a field that is a list of its own -/
theorem Env.fldo (E : Env K G S0 S H σ ds) {xs : List D} (h : ds[i]? = some (.ob C oa fs)) (hl : fs.lookup f = some (.ow ob xs)) : ∃ p dx fv q vs, σ[i]? = some (some (.ref p)) ∧ H p = some (.ins C dx fv) ∧ fv.lookup f = some (.ref q) ∧ (∀ a, ob = some a → q = a) ∧ H q = some (.lst vs) ∧ RpA K S vs xs ∧
    S q = none ∧ ∀ ws ys ob', RpA K S ws ys → (∀ a, ob' = some a → q = a) → Env K G S0 S (upd H q (.lst ws)) σ (ds.set i (.ob C oa (putI f (.ow ob' ys) fs))) := by
  obtain ⟨A, e⟩ := E
  obtain ⟨p, dx, fv, bs, h1, ha, hp, h2, r⟩ := e.obj h
  have nd := e.nd i
  rw [ha, List.nodup_cons] at nd
  obtain ⟨q, vs, h3, hq, hz, h4, ra, mt⟩ := fsr_mut r nd.2 hl
  have hm : q ∈ A i := by rw [ha]; exact List.mem_cons_of_mem _ hq
  obtain ⟨_, sq, gq⟩ := e.fr i q hm
  refine ⟨p, dx, fv, q, vs, h1, h2, h3, hz, h4, ra, sq, fun ws ys ob' rw' qz => ?_⟩
  have hne : ∀ j a, j ≠ i → a ∈ A j → a ≠ q := fun j a z hj w => z (e.dj j i a hj (w ▸ hm))
  have pq : p ≠ q := fun z => nd.1 (z ▸ hq)
  have fr := e.fr i
  rw [ha] at fr
  have w := e.put (S' := S) (H' := upd H q (.lst ws)) i (it := .ob C oa (putI f (.ow ob' ys) fs)) (v := some (.ref p)) (as := p :: bs) (Same.refl _) (fun b u w => by
      rw [upd_ne (fun z => by subst z; rw [sq] at w; cases w)]; exact e.sh _ _ w) (fun b u w => by rw [upd_ne (fun z => by subst z; rw [gq] at w; cases w)]; exact e.gh _ _ w) e.gs (.ob hp ((upd_ne pq).trans h2) (mt ws ys ob' rw' qz)) (List.nodup_cons.mpr nd)
    (fun j a z hj => ⟨upd_ne (hne j a z hj), (e.fr j a hj).2.1⟩) fun a ha' => ⟨(fr a ha').2.1, (fr a ha').2.2, fun j z hj => z (e.dj j i a hj (by rw [ha]; exact ha'))⟩
  rw [set_get h1] at w
  exact ⟨_, w⟩
/-- a field is stored -/
theorem Env.setF (E : Env K G S0 S H σ ds) (g : Gr S H S' H') {fi : FI} {v : V} {as : List Addr} (h : ds[i]? = some (.ob C oa fs)) (r : FIR K S' H' fi v as) (fresh : ∀ x ∈ as, H x = none ∧ S' x = none) (nd : as.Nodup) : ∃ p dx fv, σ[i]? = some (some (.ref p)) ∧ H' p = some (.ins C dx fv) ∧ fv.length = fs.length ∧
    Env K G S0 S' (upd H' p (.ins C dx (putF f v fv))) σ (ds.set i (.ob C oa (putI f fi fs))) := by
  obtain ⟨A, e0⟩ := E
  have e := e0.grow g
  obtain ⟨p, dx, fv, bs, h1, ha, hp, h2, rf⟩ := e.obj h
  have nda := e.nd i
  have fr := e.fr i
  rw [ha] at nda fr
  rw [List.nodup_cons] at nda
  have own : ∀ x ∈ p :: bs, H x ≠ none := fun x hx => e0.own (i := i) (by rw [ha]; exact hx)
  obtain ⟨bs', q1, q2, q3⟩ := fsr_put (f := f) r rf
  have nd2 : bs'.Nodup := q3 nda.2 nd fun x hx z => own x (List.mem_cons_of_mem _ z) (fresh x hx).1
  have pn : p ∉ bs' := fun z => by
    rcases q2 p z with w | w
    · exact nda.1 w
    · exact own p List.mem_cons_self (fresh p w).1
  obtain ⟨_, sp, gp⟩ := e.fr i p (by rw [ha]; exact List.mem_cons_self)
  have hne : ∀ j a, j ≠ i → a ∈ A j → a ≠ p := fun j a z hj w => z (e.dj j i a hj (by rw [ha, w]; exact List.mem_cons_self))
  refine ⟨p, dx, fv, h1, h2, fsr_len rf, ?_⟩
  have w := e.put (S' := S') (H' := upd H' p (.ins C dx (putF f v fv))) i (it := .ob C oa (putI f fi fs)) (v := some (.ref p)) (as := p :: bs') (Same.refl _) (fun b u w => by
      rw [upd_ne (fun z => by subst z; rw [sp] at w; cases w)]; exact e.sh _ _ w) (fun b u w => by rw [upd_ne (fun z => by subst z; rw [gp] at w; cases w)]; exact e.gh _ _ w) e.gs (.ob hp upd_same (fsr_keep (Same.refl _) q1 fun a ha => upd_ne fun z => pn (z ▸ ha))) (List.nodup_cons.mpr ⟨pn, nd2⟩)
    (fun j a z hj => ⟨upd_ne (hne j a z hj), (e.fr j a hj).2.1⟩) fun a ha' => by
      rcases List.mem_cons.mp ha' with rfl | hb
      · exact ⟨sp, gp, fun j z hj => z (e.dj j i _ hj (by rw [ha]; exact List.mem_cons_self))⟩
      · rcases q2 a hb with w | w
        · have hm := List.mem_cons_of_mem p w
          exact ⟨(fr a hm).2.1, (fr a hm).2.2, fun j z hj => z (e.dj j i a hj (by rw [ha]; exact hm))⟩
        · exact ⟨(fresh a w).2, e0.gh.free (fresh a w).1, fun j _ hj => e0.own hj (fresh a w).1⟩
  rw [set_get h1] at w
  exact ⟨_, w⟩
end
/-! ### fields read and stored -/
section
variable {X : Cx} {W : WX} {e b : Expr} {ds : List It} {pos pos' px : Pos} {d : D} {x : Str} {C : Addr} {oa ob : Option Addr} {f : Str} {xs : List D}
/-- e.f of an instance that will not change -/
theorem xv_fld {fs : List (Str × D)} (k : Nat) (he : XV X e ds (.ins C fs)) (c : Cls X.K C) (n : NoAttr X.K C f) (hk : fs[k]? = some (f, d) := by rfl) {FN : List Str} (nd : FN.Nodup) (hn : fs.map (·.1) = FN := by rfl) (hb : attributeBase e f X.env (eval e X.env) = eval e X.env := by rfl) : XV X (.Attribute e f pos) ds d := .mk fun G S0 S H σ E Q q =>
  we_of (pe_fld pe_w hb) (he G S0 S H σ E _ fun v S' H' g r => by
    cases r with
    | @ins a _ dx fv _ h rf =>
      obtain ⟨v, hv, rv⟩ := rpF_look rf (look_at (hn ▸ nd) hk)
      exact ⟨a, C, dx, fv, v, rfl, g.sh _ _ h, c, n, hv, q v S' H' g rv⟩)
variable {fs : List (Str × FI)}
/-- x.f of an own object: frozen -/
theorem xv_fldO (i k : Nat) (c : Cls X.K C) (n : NoAttr X.K C f) (hd : ds[i]? = some (.ob C oa fs) := by rfl) (hk : fs[k]? = some (f, .fz d) := by rfl) {FN : List Str} (nd : FN.Nodup) (hn : fs.map (·.1) = FN := by rfl) (hN : X.N[i]? = some x := by rfl) (hv : Vis X.env.scope x := by first | exact Or.inl rfl | exact Or.inr (Or.inl rfl) | exact Or.inr (Or.inr rfl))
    (h1 : (x == ("__debug__" : Str)) = false := by decide) (h2 : (x == ("__classdict__" : Str)) = false := by decide) (hb : attributeBase (.Name x px) f X.env (eval (.Name x px) X.env) = eval (.Name x px) X.env := by rfl) : XV X (.Attribute (.Name x px) f pos) ds d := .mk fun G S0 S H σ E Q q => by
  obtain ⟨p, dx, fv, v, hσ, hp, hl, r⟩ := E.fldz hd (look_at (hn ▸ nd) hk)
  exact we_of (pe_fld (pe_var (i := i) hN hv h1 h2) hb) ⟨.ref p, hσ, p, C, dx, fv, v, rfl, hp, c, n, hl, q v S H E.gr r⟩
/-- x.f of an own object: a list of its own -/
theorem xb_fldO (i k : Nat) (c : Cls X.K C) (n : NoAttr X.K C f) (hd : ds[i]? = some (.ob C oa fs) := by rfl) (hk : fs[k]? = some (f, .ow ob xs) := by rfl) {FN : List Str} (nd : FN.Nodup) (hn : fs.map (·.1) = FN := by rfl) (hN : X.N[i]? = some x := by rfl) (hv : Vis X.env.scope x := by first | exact Or.inl rfl | exact Or.inr (Or.inl rfl) | exact Or.inr (Or.inr rfl))
    (h1 : (x == ("__debug__" : Str)) = false := by decide) (h2 : (x == ("__classdict__" : Str)) = false := by decide) (hb : attributeBase (.Name x px) f X.env (eval (.Name x px) X.env) = eval (.Name x px) X.env := by rfl) : XB X (.Attribute (.Name x px) f pos) ds (.lst xs) := .mk fun G S0 S H σ E Q q => by
  obtain ⟨p, dx, fv, a, vs, hσ, hp, hl, _, ha, r, _, _⟩ := E.fldo hd (look_at (hn ▸ nd) hk)
  exact we_of (pe_fld (pe_var (i := i) hN hv h1 h2) hb) ⟨.ref p, hσ, p, C, dx, fv, _, rfl, hp, c, n, hl, q _ S H E.gr (.inr ⟨a, vs, xs, rfl, rfl, ha, r⟩)⟩
/-- x.f = e, by its place -/
theorem xs_fldP {fi : FI} {fs' : List (Str × FI)} (i : Nat) (hput : putI f fi fs = fs') (he : ∀ G S0 S H σ, Env X.K G S0 S H σ ds → ∀ Q : VK, (∀ v as S' H', Gr S H S' H' → FIR X.K S' H' fi v as → (∀ x ∈ as, H x = none ∧ S' x = none) → as.Nodup → Q v H') → wE X e σ H Q)
    (c : Cls X.K C) (n : NoAttr X.K C f) (hl : fs.length < 900) (hd : ds[i]? = some (.ob C oa fs)) (hN : X.N[i]? = some x) (hv : Vis X.env.scope x)
    (h1 : (x == ("__debug__" : Str)) = false) (h2 : (x == ("__classdict__" : Str)) = false) (hs : swapsWith e (some (.Attribute (.Name x px) f pos')) pos.line X.env = pure false) :
    XS X W (.Assign [.Attribute (.Name x px) f pos'] e pos) ds (.nx (ds.set i (.ob C oa fs'))) := .mk fun G S0 S H σ E Z q =>
  ws_of (ps_fld (pe_var (i := i) hN hv h1 h2) pe_w hs) (he G S0 S H σ E _ fun v as S' H' g r fr nd => by
    obtain ⟨p, dx, fv, hσ, hp, hlen, mt⟩ := E.setF (f := f) g hd r fr nd
    exact ⟨.ref p, hσ, p, C, dx, fv, rfl, hp, c, n, by rw [hlen]; omega, q _ S' _ (hput ▸ mt)⟩)
theorem he_v (he : XV X e ds d) : ∀ G S0 S H σ, Env X.K G S0 S H σ ds → ∀ Q : VK, (∀ v as S' H', Gr S H S' H' → FIR X.K S' H' (.fz d) v as → (∀ x ∈ as, H x = none ∧ S' x = none) → as.Nodup → Q v H') → wE X e σ H Q := fun G S0 S H σ E Q q =>
  he G S0 S H σ E Q fun v S' H' g r => q v [] S' H' g (.fz r) (fun _ z => by cases z) .nil
theorem he_l (he : XL X e ds xs) : ∀ G S0 S H σ, Env X.K G S0 S H σ ds → ∀ Q : VK, (∀ v as S' H', Gr S H S' H' → FIR X.K S' H' (.ow none xs) v as → (∀ x ∈ as, H x = none ∧ S' x = none) → as.Nodup → Q v H') → wE X e σ H Q := fun G S0 S H σ E Q q =>
  he G S0 S H σ E Q fun p vs S' H' g h1 h2 h3 h4 => q _ [p] S' H' g (.ow (fun _ z => by cases z) h3 h4) (fun x hx => by rcases List.mem_singleton.mp hx with rfl; exact ⟨h1, h2⟩) (by simp)
section
variable {g : FI} (i k : Nat) (c : Cls X.K C) (n : NoAttr X.K C f) (hd : ds[i]? = some (.ob C oa fs) := by rfl) (hk : fs[k]? = some (f, g) := by rfl) {FN : List Str} (nd : FN.Nodup) (hn : fs.map (·.1) = FN := by rfl) (hl : fs.length < 900 := by exact Nat.lt_of_lt_of_le (Nat.lt_succ_self _) (Nat.le_of_ble_eq_true rfl)) (hN : X.N[i]? = some x := by rfl) (hv : Vis X.env.scope x := by first | exact Or.inl rfl | exact Or.inr (Or.inl rfl) | exact Or.inr (Or.inr rfl))
    (h1 : (x == ("__debug__" : Str)) = false := by decide) (h2 : (x == ("__classdict__" : Str)) = false := by decide) (hs : swapsWith e (some (.Attribute (.Name x px) f pos')) pos.line X.env = pure false := by rfl)
include c n hd hk nd hn hl hN hv h1 h2 hs
theorem xs_fld (he : XV X e ds d) : XS X W (.Assign [.Attribute (.Name x px) f pos'] e pos) ds (.nx (ds.set i (.ob C oa (fs.set k (f, .fz d))))) := xs_fldP i (putI_at (hn ▸ nd) hk) (he_v he) c n hl hd hN hv h1 h2 hs
theorem xs_fldL (he : XL X e ds xs) : XS X W (.Assign [.Attribute (.Name x px) f pos'] e pos) ds (.nx (ds.set i (.ob C oa (fs.set k (f, .ow none xs))))) := xs_fldP i (putI_at (hn ▸ nd) hk) (he_l he) c n hl hd hN hv h1 h2 hs
end
section
variable (i : Nat) (c : Cls X.K C) (n : NoAttr X.K C f) (hd : ds[i]? = some (.ob C oa fs) := by rfl) {FN : List Str} (hn : fs.map (·.1) = FN := by rfl) (hm : f ∉ FN := by decide +kernel) (hl : fs.length < 900 := by exact Nat.lt_of_lt_of_le (Nat.lt_succ_self _) (Nat.le_of_ble_eq_true rfl)) (hN : X.N[i]? = some x := by rfl) (hv : Vis X.env.scope x := by first | exact Or.inl rfl | exact Or.inr (Or.inl rfl) | exact Or.inr (Or.inr rfl))
    (h1 : (x == ("__debug__" : Str)) = false := by decide) (h2 : (x == ("__classdict__" : Str)) = false := by decide) (hs : swapsWith e (some (.Attribute (.Name x px) f pos')) pos.line X.env = pure false := by rfl)
include c n hd hn hm hl hN hv h1 h2 hs
/-- a new field -/
theorem xs_fld0 (he : XV X e ds d) : XS X W (.Assign [.Attribute (.Name x px) f pos'] e pos) ds (.nx (ds.set i (.ob C oa (fs ++ [(f, .fz d)])))) := xs_fldP i (putI_no (by rw [hn]; exact hm)) (he_v he) c n hl hd hN hv h1 h2 hs
theorem xs_fldL0 (he : XL X e ds xs) : XS X W (.Assign [.Attribute (.Name x px) f pos'] e pos) ds (.nx (ds.set i (.ob C oa (fs ++ [(f, .ow none xs)])))) := xs_fldP i (putI_no (by rw [hn]; exact hm)) (he_l he) c n hl hd hN hv h1 h2 hs
end
/-- x.f[m] = e -/
theorem xs_fldIx (i k : Nat) {m : Int} {j : Nat} {pt : Pos} (he : XV X e ds d) (hb : XV X b ds (.int m)) (c : Cls X.K C) (n : NoAttr X.K C f) (hj : ixN xs.length m = some j) (hd : ds[i]? = some (.ob C oa fs) := by rfl) (hk : fs[k]? = some (f, .ow ob xs) := by rfl) {FN : List Str} (nd : FN.Nodup) (hn : fs.map (·.1) = FN := by rfl)
    (hN : X.N[i]? = some x := by rfl) (hv : Vis X.env.scope x := by first | exact Or.inl rfl | exact Or.inr (Or.inl rfl) | exact Or.inr (Or.inr rfl))
    (h1 : (x == ("__debug__" : Str)) = false := by decide) (h2 : (x == ("__classdict__" : Str)) = false := by decide) (hbs : attributeBase (.Name x px) f X.env (eval (.Name x px) X.env) = eval (.Name x px) X.env := by rfl)
    (ha : ∀ v, assign (.Subscript (.Attribute (.Name x px) f pos') b pt) X.env v = (do
      let ov ← holding [v] (eval (.Attribute (.Name x px) f pos') X.env)
      let iv ← holding [v, ov] (eval b X.env)
      standAt pt
      holding [v, ov, iv] (setItem ov iv v)
      release [v, ov, iv] []) := by intro _; rfl)
    (hs : swapsWithSole [.Subscript (.Attribute (.Name x px) f pos') b pt] e pos.line X.env = pure false := by rfl) (hw : swappedStores [.Subscript (.Attribute (.Name x px) f pos') b pt] e X.env = pure none := by rfl)
    (h3 : (assignEach [.Subscript (.Attribute (.Name x px) f pos') b pt] X.env).map (·.2) = [assign (.Subscript (.Attribute (.Name x px) f pos') b pt) X.env] := by rfl) :
    XS X W (.Assign [.Subscript (.Attribute (.Name x px) f pos') b pt] e pos) ds (.nx (ds.set i (.ob C oa (fs.set k (f, .ow ob (xs.set j d)))))) := .mk fun G S0 S H σ E Z q =>
  ws_of (ps_asg pe_w (pg_sub (pe_fld (pe_var (i := i) hN hv h1 h2) hbs) pe_w set_list ha) hs hw h3) (he G S0 S H σ E _ fun v S' H' g r => by
    have E' := E.grow g
    obtain ⟨p, dx, fv, a, vs, hσ, hp, hl, _, ha, ra, _, _⟩ := E'.fldo hd (look_at (hn ▸ nd) hk)
    refine ⟨.ref p, hσ, p, C, dx, fv, _, rfl, hp, c, n, hl, hb G S0 S' H' σ E' _ fun kv S2 H2 g2 rk => ?_⟩
    cases rk
    have E2 := E'.grow g2
    obtain ⟨p', dx', fv', a', vs', hσ', hp', hl', hz', ha', ra', _, mt⟩ := E2.fldo hd (look_at (hn ▸ nd) hk)
    rw [hσ] at hσ'
    cases hσ'
    rw [g2.h _ _ hp] at hp'
    cases hp'
    rw [hl] at hl'
    cases hl'
    have q2 := mt (vs'.set j v) (xs.set j d) ob (da_set j ra' (dp_same g2.s r)) hz'
    rw [putI_at (hn ▸ nd) hk] at q2
    exact ⟨a, vs', m, j, rfl, rfl, ha', by rw [da_len ra']; exact hj, q _ S2 _ q2⟩)
/-- x.f.append(e) -/
theorem xs_fldApp (i k : Nat) {pa pc : Pos} (he : XV X e ds d) (c : Cls X.K C) (n : NoAttr X.K C f) (hz : xs.length < 100000) (hd : ds[i]? = some (.ob C oa fs) := by rfl) (hk : fs[k]? = some (f, .ow ob xs) := by rfl) {FN : List Str} (nd : FN.Nodup) (hn : fs.map (·.1) = FN := by rfl)
    (hN : X.N[i]? = some x := by rfl) (hv : Vis X.env.scope x := by first | exact Or.inl rfl | exact Or.inr (Or.inl rfl) | exact Or.inr (Or.inr rfl))
    (h1 : (x == ("__debug__" : Str)) = false := by decide) (h2 : (x == ("__classdict__" : Str)) = false := by decide) (hbs : attributeBase (.Name x px) f X.env (eval (.Name x px) X.env) = eval (.Name x px) X.env := by rfl)
    (hbase : attributeBase (.Attribute (.Name x px) f pos') "append" X.env (eval (.Attribute (.Name x px) f pos') X.env) = eval (.Attribute (.Name x px) f pos') X.env := by rfl)
    (hline : (pa.endLine == pc.line) = true := by rfl) (hst : isStar e = false := by rfl)
    (hsw : swapsWith (.Call (.Attribute (.Attribute (.Name x px) f pos') "append" pa) [e] [] pc) none pos.line X.env = pure false := by rfl) :
    XS X W (.Expr (.Call (.Attribute (.Attribute (.Name x px) f pos') "append" pa) [e] [] pc) pos) ds (.nx (ds.set i (.ob C oa (fs.set k (f, .ow ob (xs ++ [d])))))) := .mk fun G S0 S H σ E Z q => by
  refine ws_of (ps_expr (pe_bm PySem.F.plainAttrs_list PySem.F.slot_list_append PySem.F.type_list_append (fun pins s σ H x xs v us Q I rx rv h => mt_append pins s σ H x xs v us Q I rx rv h) (pe_fld (pe_var (i := i) hN hv h1 h2) hbs) (pa_cons pe_w pa_nil (se hst)) hbase (sfew (by simp [hst]) (by simp)) hline (se hst) (spl rfl)) hsw) ?_
  obtain ⟨p, dx, fv, a, vs, hσ, hp, hl, _, ha, ra, _, _⟩ := E.fldo hd (look_at (hn ▸ nd) hk)
  refine ⟨.ref p, hσ, p, C, dx, fv, _, rfl, hp, c, n, hl, ty_list ha, he G S0 S H σ E _ fun v S2 H2 g2 r => ?_⟩
  have E2 := E.grow g2
  obtain ⟨p', dx', fv', a', vs', hσ', hp', hl', hz', ha', ra', _, mt⟩ := E2.fldo hd (look_at (hn ▸ nd) hk)
  rw [hσ] at hσ'
  cases hσ'
  rw [g2.h _ _ hp] at hp'
  cases hp'
  rw [hl] at hl'
  cases hl'
  have q2 := mt (vs' ++ [v]) (xs ++ [d]) ob (da_append ra' (da_one r)) hz'
  rw [putI_at (hn ▸ nd) hk] at q2
  exact ⟨a, vs', v, rfl, rfl, ha', szlt _ (by rw [da_len ra']; exact hz), q _ S2 _ q2⟩
end
end Lay
/-! Lay15: methods; own objects made; dicts of the frame's own. -/
namespace Lay
open PySem L2
theorem passes0 {X : Cx} : Passes (L2.CX X.prog X.w) X (fun _ _ _ => False) := fun _ _ _ _ _ _ _ h => (law_cx h).elim
/-- a method of the text -/
structure Mn (K : Fg) (C : Addr) (m qual : Str) (st : Stmt) (ps : List Str) : Prop where
  ex : ∃ f fd, Meth K C m f ∧ Fun K m qual st f fd ∧ Binds K fd ps []
/-- the class x of the text, its __init__ by st -/
structure Cn (K : Fg) (mg : Str → Option Value) (x qual : Str) (C : Addr) (st : Stmt) (ps : List Str) : Prop where
  g : mg x = some (.ref C)
  cl : Cls K C
  ex : ∃ f fd, Mk K C f ∧ Fun K "__init__" qual st f fd ∧ Binds K fd ps []
/-- a method of an object that will not change -/
structure Dm (P : Program) (w : World) (K : Fg) (mg : Str → Option Value) (base : Heap) (C : Addr) (m : Str) (k : Nat) (F : Fs) : Prop where
  ex : ∃ f fd ps, Meth K C m f ∧ Binds K fd ps [] ∧ FnOk P w K mg base (L2.CX P w) k f fd ps (spF K F)
section
variable {P : Program} {w : World} {K : Fg} {mg : Str → Option Value} {base : Heap}
theorem dm_of {C : Addr} {m qual : Str} {st : Stmt} {N ps : List Str} (k : Nat) {F : Fs} (U : Mn K C m qual st ps) (S : FnScope N ps (defScope st)) (len : ∀ args r, F args r → args.length = ps.length)
    (body : ∀ (f : Addr) (cdv : Value) (A : Around) (outer : List PySem.Env) (s : Shared) (H : Hp) (E : XK) (args : List D) (r : Res), Room k (A.deeper (PyProof.Rows.envOfC qual (defScope st) s.heap.objs.size f cdv)) →
      Takes (cxOf (L2.CX P w) P w K mg base N qual (defScope st) f cdv A outer s H E) (fun cls d _ H => E cls d H) →
      PassesOwn (model P w) (A.deeper (PyProof.Rows.envOfC qual (defScope st) s.heap.objs.size f cdv)) (PyProof.Rows.envOfC qual (defScope st) s.heap.objs.size f cdv) (cxOf (L2.CX P w) P w K mg base N qual (defScope st) f cdv A outer s H E).xe → F args r →
      XF (cxOf (L2.CX P w) P w K mg base N qual (defScope st) f cdv A outer s H E) (fun cls d _ H => E cls d H) (defBody st) (ctx0 N.length args) r) : Dm P w K mg base C m (k + 1) F := by
  obtain ⟨f, fd, hm, hf, hb⟩ := U.ex
  exact ⟨f, fd, ps, hm, hb, fn_ok hf S len fun cdv A outer s H E args r hr hF => body f cdv A outer s H E args r hr (takes_of rfl rfl rfl rfl) (passes_of rfl) hF⟩
end
section
variable {X : Cx} {W : WX} {e o : Expr} {es : List Expr} {ds : List It} {pos apos : Pos} {d : D} {args : List D} {m : Str} {C : Addr} {k : Nat} {F : Fs} {fs : List (Str × D)} {pl : Sem Bool} {FN : List Str}
theorem xv_meth (T : Dm X.prog X.w X.K X.mg X.base C m k F) (c : Cls X.K C) (hr : Room k X.A) (he : XV X o ds (.ins C fs)) (ha : XA X (e :: es) ds args) (hF : F (.ins C fs :: args) (.ok d)) (hn : fs.map (·.1) = FN := by rfl) (hm : m ∉ FN := by decide +kernel)
    (hst : starEach (e :: es) X.env = (false, eval e X.env) :: starEach es X.env := by exact se rfl) (hpl : (backTo pos (starEach es X.env)).any (·.1) = false := by exact spl rfl)
    (ht : eval (.Call (.Attribute o m apos) (e :: es) [] pos) X.env = (do
      let ov ← eval o X.env
      standAt apos.atName
      let (f, first) ← holding [ov] (getMethod ov m pl)
      callWith pos f first (backTo pos (starEach (e :: es) X.env)) (backToKw pos (keywordEach [] X.env))) := by rfl) : XV X (.Call (.Attribute o m apos) (e :: es) [] pos) ds d := .mk fun G S0 S H σ E Q q => by
  obtain ⟨f, fd, ps, hm', hb, fo⟩ := T.ex
  refine we_of (pe_meth pe_w c hm' fo hr hb .nil passes0 pa_w hst hpl ht) (he G S0 S H σ E _ fun v S1 H1 g1 r1 => ?_)
  cases r1 with
  | @ins a _ dx fv _ h rf =>
    refine ⟨a, dx, fv, rfl, g1.sh _ _ h, rpF_none rf (look_no (by rw [hn]; exact hm)), ha G S0 S1 H1 σ (E.grow g1) _ fun vs S2 H2 g2 r2 => ?_⟩
    rw [List.append_nil]
    exact ⟨S2, .ins C fs :: args, .ok d, g2.sh, .cons (.ins (g2.s _ _ h) (df_same g2.s rf)) r2, hF, fun v S' H' g' r => q v S' H' ((g1.trans g2).trans g') r⟩
theorem xv_meth0 (T : Dm X.prog X.w X.K X.mg X.base C m k F) (c : Cls X.K C) (hr : Room k X.A) (he : XV X o ds (.ins C fs)) (hF : F [.ins C fs] (.ok d)) (hn : fs.map (·.1) = FN := by rfl) (hm : m ∉ FN := by decide +kernel)
    (ht : eval (.Call (.Attribute o m apos) [] [] pos) X.env = (do
      let ov ← eval o X.env
      standAt apos.atName
      let (f, first) ← holding [ov] (getMethod ov m pl)
      callWith pos f first (backTo pos (starEach [] X.env)) (backToKw pos (keywordEach [] X.env))) := by rfl) : XV X (.Call (.Attribute o m apos) [] [] pos) ds d := .mk fun G S0 S H σ E Q q => by
  obtain ⟨f, fd, ps, hm', hb, fo⟩ := T.ex
  refine we_of (pe_meth0 pe_w c hm' fo hr hb .nil passes0 ht) (he G S0 S H σ E _ fun v S1 H1 g1 r1 => ?_)
  cases r1 with
  | @ins a _ dx fv _ h rf =>
    refine ⟨a, dx, fv, rfl, g1.sh _ _ h, rpF_none rf (look_no (by rw [hn]; exact hm)), ?_⟩
    exact ⟨S1, [.ins C fs], .ok d, g1.sh, .cons (.ins h rf) .nil, hF, fun v S' H' g' r => q v S' H' (g1.trans g') r⟩
end
/-! ### methods of an object that they change -/
abbrev Ofs := List D → List (Str × FI) → List (Str × FI) → D → Prop
def lessL (as : List Addr) (H : Hp) : Hp := fun b => if b ∈ as then none else H b
theorem lessL_in {as : List Addr} {H : Hp} {b : Addr} (h : b ∈ as) : lessL as H b = none := if_pos h
theorem lessL_no {as : List Addr} {H : Hp} {b : Addr} (h : b ∉ as) : lessL as H b = H b := if_neg h
theorem lessL_same {as : List Addr} {H : Hp} : Same (lessL as H) H := fun b u e => by
  by_cases z : b ∈ as
  · rw [lessL_in z] at e; cases e
  · rw [lessL_no z] at e; exact e
def spO (K : Fg) (C : Addr) (F : Ofs) : Sp := fun vs H Q E => ∃ S a dx vs' args fs fs' d fv bs, vs = .ref a :: vs' ∧ H a = some (.ins C dx fv) ∧ FsR K S H fs fv bs ∧ (a :: bs).Nodup ∧ (∀ x ∈ a :: bs, S x = none) ∧ Same S H ∧ RpA K S vs' args ∧ F args fs fs' d ∧
  ∀ v S' H' dx' fv' bs', Fnl (lessL (a :: bs) H) S S' H' → (a :: bs').Nodup → (∀ x ∈ a :: bs', S' x = none ∧ lessL (a :: bs) H x = none) → H' a = some (.ins C dx' fv') → FsR K S' H' fs' fv' bs' → Rp K S' v d → Q v H'
theorem env_startG {K : Fg} {G S H : Hp} (k : Same S H) (kG : Same G H) {N : List Str} {vs : List V} {args : List D} (r : RpA K S vs args) : EnvA K G S S H (L2.start N vs) (ctx0 N.length args) (fun _ => []) := by
  refine ⟨k, kG, Same.refl _, fun _ _ => rfl, ?_, fun i it hi => ?_, fun _ => .nil, fun i j a h => (by cases h), fun i a h => (by cases h)⟩
  · simp [L2.start, ctx0, da_len r]
  · unfold ctx0 at hi
    by_cases h : i < args.length
    · rw [List.getElem?_append_left (by simpa using h), List.getElem?_map] at hi
      rw [List.getElem?_eq_getElem h] at hi
      cases hi
      obtain ⟨v, hv, rv⟩ := da_get r (List.getElem?_eq_getElem h)
      have hl := da_len r
      have e : (L2.start N vs)[i]? = some (some v) := by
        unfold L2.start
        rw [List.getElem?_append_left (by simpa [hl] using h), List.getElem?_map, hv]
        rfl
      rw [e]
      exact .fz rv
    · rw [List.getElem?_append_right (by simpa using h), List.getElem?_replicate] at hi
      split at hi
      · cases hi; exact .no _
      · cases hi
/-- the slots at the entry of a method of an own object -/
def ctxO (n : Nat) (C a : Addr) (fs : List (Str × FI)) (args : List D) : List It := (ctx0 n (.non :: args)).set 0 (.ob C (some a) fs)
theorem env_obj {K : Fg} {S H : Hp} {a C dx : Addr} {fs : List (Str × FI)} {fv : List (Str × V)} {bs : List Addr} (k : Same S H) (ha : H a = some (.ins C dx fv)) (rf : FsR K S H fs fv bs) (nd : (a :: bs).Nodup) (hS : ∀ x ∈ a :: bs, S x = none) {N : List Str} {vs : List V} {args : List D} (r : RpA K S vs args) :
    Env K (lessL (a :: bs) H) S S H (L2.start N (.ref a :: vs)) (ctxO N.length C a fs args) := by
  have e := env_startG (N := N) k (lessL_same (as := a :: bs)) (.cons .non r)
  have q := e.put (S' := S) (H' := H) 0 (it := .ob C (some a) fs) (v := some (.ref a)) (as := a :: bs) (Same.refl _) k lessL_same (fun _ _ => rfl) (.ob (fun b hb => by cases hb; rfl) ha rf) nd (fun j b _ hb => by cases hb) (fun b hb =>
    ⟨hS b hb, lessL_in hb, fun j _ hj => by cases hj⟩)
  exact ⟨_, q⟩
def FitsO (C a : Addr) (fs' : List (Str × FI)) (d : D) : Ou → Prop
  | .nx ds => d = .non ∧ ∃ rest, ds = .ob C (some a) fs' :: rest
  | .rs d' it => d = d' ∧ it = .ob C (some a) fs'
  | _ => False
theorem FO.nx {X : Cx} {W : WX} {body : List Stmt} {ds rest : List It} {C a : Addr} {fs' : List (Str × FI)} (h : XSs X W body ds (.nx (.ob C (some a) fs' :: rest))) : ∃ o, XSs X W body ds o ∧ FitsO C a fs' .non o := ⟨_, h, rfl, rest, rfl⟩
theorem FO.rs {X : Cx} {W : WX} {body : List Stmt} {ds : List It} {C a : Addr} {fs' : List (Str × FI)} {d : D} (h : XSs X W body ds (.rs d (.ob C (some a) fs'))) : ∃ o, XSs X W body ds o ∧ FitsO C a fs' d o := ⟨_, h, rfl, rfl⟩
/-- a method that changes its object -/
structure Do (P : Program) (w : World) (K : Fg) (mg : Str → Option Value) (base : Heap) (C : Addr) (m : Str) (k : Nat) (F : Ofs) : Prop where
  ex : ∃ f fd ps, Meth K C m f ∧ Binds K fd ps [] ∧ FnOk P w K mg base (L2.CX P w) k f fd ps (spO K C F)
/-- a class, its __init__ by F -/
structure Dc (P : Program) (w : World) (K : Fg) (mg : Str → Option Value) (base : Heap) (x : Str) (C : Addr) (k : Nat) (F : Ofs) : Prop where
  ex : ∃ f fd ps, mg x = some (.ref C) ∧ Mk K C f ∧ Binds K fd ps [] ∧ FnOk P w K mg base (L2.CX P w) k f fd ps (spO K C F)
section
variable {P : Program} {w : World} {K : Fg} {mg : Str → Option Value} {base : Heap} {C : Addr} {m qual : Str} {st : Stmt} {N ps : List Str} {F : Ofs}
theorem obj_ok {x : Str} {f : Addr} {fd : FuncData} {k : Nat} (U : Fun K x qual st f fd) (S : FnScope N ps (defScope st)) (len : ∀ args fs fs' d, F args fs fs' d → args.length + 1 = ps.length)
    (body : ∀ (cdv : Value) (A : Around) (outer : List PySem.Env) (s : Shared) (H : Hp) (E : XK) (a : Addr) (args : List D) (fs fs' : List (Str × FI)) (d : D), Room k (A.deeper (PyProof.Rows.envOfC qual (defScope st) s.heap.objs.size f cdv)) →
      Takes (cxOf (L2.CX P w) P w K mg base N qual (defScope st) f cdv A outer s H E) (fun cls d _ H => E cls d H) →
      PassesOwn (model P w) (A.deeper (PyProof.Rows.envOfC qual (defScope st) s.heap.objs.size f cdv)) (PyProof.Rows.envOfC qual (defScope st) s.heap.objs.size f cdv) (cxOf (L2.CX P w) P w K mg base N qual (defScope st) f cdv A outer s H E).xe → F args fs fs' d →
      ∃ o, XSs (cxOf (L2.CX P w) P w K mg base N qual (defScope st) f cdv A outer s H E) (fun cls d _ H => E cls d H) (defBody st) (ctxO N.length C a fs args) o ∧ FitsO C a fs' d o) : FnOk P w K mg base (L2.CX P w) (k + 1) f fd ps (spO K C F) := by
  refine U.okX S (fun vs H Q E ⟨S, a, dx, vs', args, fs, fs', d, fv, bs, e, _, _, _, _, _, ra, hf, _⟩ => by rw [e, List.length_cons, da_len ra]; exact len args fs fs' d hf) fun cdv A outer s H vs Q E hr ⟨S, a, dx, vs', args, fs, fs', d, fv, bs, e, ha, rf, nd, hS, ks, ra, hf, q⟩ => ?_
  subst e
  obtain ⟨o, ho, ht⟩ := body cdv A outer s H E a args fs fs' d hr (takes_of rfl rfl rfl rfl) (passes_of rfl) hf
  refine ⟨_, pss_w, ho (lessL (a :: bs) H) S S H _ (env_obj ks ha rf nd hS ra) _ ?_⟩
  have fin : ∀ {σ : L2.St} {S' H' : Hp} {rest : List It} {v : V}, Env K (lessL (a :: bs) H) S S' H' σ (.ob C (some a) fs' :: rest) → Rp K S' v d → Q v H' := fun {σ S' H' rest v} E rv => by
    obtain ⟨B, e⟩ := E
    obtain ⟨p, dx', fv', bs', _, hB, hp, hH, r⟩ := e.obj (i := 0) rfl
    have hpa := hp a rfl
    subst hpa
    have nd' := e.nd 0
    rw [hB] at nd'
    exact q v S' H' dx' fv' bs' (Env.fin ⟨B, e⟩) nd' (fun x hx => (e.fr 0 x (by rw [hB]; exact hx)).2) hH r rv
  cases o with
  | nx ds =>
    obtain ⟨h1, rest, h2⟩ := ht
    subst h1 h2
    exact fun σ S' H' E => fin E .non
  | rs d' it =>
    obtain ⟨h1, h2⟩ := ht
    subst h1 h2
    exact fun v σ S' H' ds E r => fin E r
  | _ => exact ht.elim
theorem do_of (k : Nat) (U : Mn K C m qual st ps) (S : FnScope N ps (defScope st)) (len : ∀ args fs fs' d, F args fs fs' d → args.length + 1 = ps.length)
    (body : ∀ (f : Addr) (cdv : Value) (A : Around) (outer : List PySem.Env) (s : Shared) (H : Hp) (E : XK) (a : Addr) (args : List D) (fs fs' : List (Str × FI)) (d : D), Room k (A.deeper (PyProof.Rows.envOfC qual (defScope st) s.heap.objs.size f cdv)) →
      Takes (cxOf (L2.CX P w) P w K mg base N qual (defScope st) f cdv A outer s H E) (fun cls d _ H => E cls d H) →
      PassesOwn (model P w) (A.deeper (PyProof.Rows.envOfC qual (defScope st) s.heap.objs.size f cdv)) (PyProof.Rows.envOfC qual (defScope st) s.heap.objs.size f cdv) (cxOf (L2.CX P w) P w K mg base N qual (defScope st) f cdv A outer s H E).xe → F args fs fs' d →
      ∃ o, XSs (cxOf (L2.CX P w) P w K mg base N qual (defScope st) f cdv A outer s H E) (fun cls d _ H => E cls d H) (defBody st) (ctxO N.length C a fs args) o ∧ FitsO C a fs' d o) : Do P w K mg base C m (k + 1) F := by
  obtain ⟨f, fd, hm, hf, hb⟩ := U.ex
  exact ⟨f, fd, ps, hm, hb, obj_ok hf S len (body f)⟩
theorem dc_of {x : Str} (k : Nat) (U : Cn K mg x qual C st ps) (S : FnScope N ps (defScope st)) (len : ∀ args fs fs' d, F args fs fs' d → args.length + 1 = ps.length)
    (body : ∀ (f : Addr) (cdv : Value) (A : Around) (outer : List PySem.Env) (s : Shared) (H : Hp) (E : XK) (a : Addr) (args : List D) (fs fs' : List (Str × FI)) (d : D), Room k (A.deeper (PyProof.Rows.envOfC qual (defScope st) s.heap.objs.size f cdv)) →
      Takes (cxOf (L2.CX P w) P w K mg base N qual (defScope st) f cdv A outer s H E) (fun cls d _ H => E cls d H) →
      PassesOwn (model P w) (A.deeper (PyProof.Rows.envOfC qual (defScope st) s.heap.objs.size f cdv)) (PyProof.Rows.envOfC qual (defScope st) s.heap.objs.size f cdv) (cxOf (L2.CX P w) P w K mg base N qual (defScope st) f cdv A outer s H E).xe → F args fs fs' d →
      ∃ o, XSs (cxOf (L2.CX P w) P w K mg base N qual (defScope st) f cdv A outer s H E) (fun cls d _ H => E cls d H) (defBody st) (ctxO N.length C a fs args) o ∧ FitsO C a fs' d o) : Dc P w K mg base x C (k + 1) F := by
  obtain ⟨f, fd, hm, hf, hb⟩ := U.ex
  exact ⟨f, fd, ps, U.g, hm, hb, obj_ok hf S len (body f)⟩
end
/-! ### made objects -/
section
variable {X : Cx} {W : WX} {e a b c : Expr} {es : List Expr} {ds ds' ds1 ds2 : List It} {pos p apos px : Pos} {d : D} {args xs : List D} {x y m : Str} {C : Addr} {k : Nat} {F : Ofs} {fs fs' : List (Str × FI)} {pl : Sem Bool} {FN : List Str}
/-- gives a new object -/
structure XO (X : Cx) (e : Expr) (ds : List It) (C : Addr) (fs : List (Str × FI)) : Prop where
  mk ::
  run : ∀ G S0 S H σ, Env X.K G S0 S H σ ds → ∀ Q : VK, (∀ p S' H' dx fv bs, Gr S H S' H' → (p :: bs).Nodup → (∀ x ∈ p :: bs, H x = none ∧ S' x = none) → H' p = some (.ins C dx fv) → FsR X.K S' H' fs fv bs → Q (.ref p) H') → wE X e σ H Q
instance {X : Cx} {e : Expr} {ds : List It} {C : Addr} {fs : List (Str × FI)} : CoeFun (XO X e ds C fs) (fun _ => ∀ G S0 S H σ, Env X.K G S0 S H σ ds → ∀ Q : VK, (∀ p S' H' dx fv bs, Gr S H S' H' → (p :: bs).Nodup → (∀ x ∈ p :: bs, H x = none ∧ S' x = none) → H' p = some (.ins C dx fv) → FsR X.K S' H' fs fv bs → Q (.ref p) H') → wE X e σ H Q) := ⟨XO.run⟩
theorem xo_make (T : Dc X.prog X.w X.K X.mg X.base x C k F) (hr : Room (k + 1) X.A) (ha : XA X (e :: es) ds args) (hF : F args [] fs' .non) (hg : Gl X x := by rfl) (hdb : (x == ("__debug__" : Str)) = false := by decide)
    (he : starEach (e :: es) X.env = (false, eval e X.env) :: starEach es X.env := by exact se rfl) (hpl : (backTo pos (starEach es X.env)).any (·.1) = false := by exact spl rfl) : XO X (.Call (.Name x p) (e :: es) [] pos) ds C fs' := .mk fun G S0 S H σ E Q q => by
  obtain ⟨f, fd, ps, hm, M, hb, Fo⟩ := T.ex
  refine we_of (pe_make M Fo hr hg hm hb .nil passes0 pa_w hdb he hpl) (ha G S0 S H σ E _ fun vs S1 H1 g r => fun a dx h1 h2 hne => ?_)
  have k1 : Same H1 (upd H1 dx (.own a)) := same_new h2
  have h3 : upd H1 dx (.own a) a = none := by rw [upd_ne (fun z => hne z.symm)]; exact h1
  have k2 : Same (upd H1 dx (.own a)) (upd (upd H1 dx (.own a)) a (.ins C dx [])) := same_new h3
  have hS1 : S1 a = none := g.sh.free h1
  refine ⟨S1, a, dx, vs, args, [], fs', .non, [], [], by rw [List.append_nil], upd_same, .nil, by simp, (fun x hx => by rcases List.mem_singleton.mp hx with rfl; exact hS1), (g.sh.trans k1).trans k2, r, hF, fun v S' H' dx' fv bs fn nd hfr hH rf rv => ?_⟩
  cases rv
  refine ⟨rfl, q a S' H' dx' fv bs ⟨g.s.trans fn.s0, fun b u hb => ?_, fn.sh, fun b hb => ?_⟩ nd (fun x hx => ⟨?_, (hfr x hx).1⟩) hH rf⟩
  · have hb1 := g.h _ _ hb
    have ne : b ≠ a := fun z => by rw [z, h1] at hb1; cases hb1
    exact fn.gh _ _ (by rw [lessL_no (by simpa using ne)]; exact k2 _ _ (k1 _ _ hb1))
  · have hb1 : H1 b ≠ none := Same.nn g.h hb
    have ne : b ≠ a := fun z => hb1 (by rw [z]; exact h1)
    rw [fn.gs b (by rw [lessL_no (by simpa using ne)]; exact Same.nn k2 (Same.nn k1 hb1)), g.old b hb]
  · by_cases z : x = a
    · rw [z]; exact g.h.free h1
    · have := (hfr x hx).2
      rw [lessL_no (by simpa using z)] at this
      exact g.h.free (k1.free (k2.free this))
/-- a new object of frozen fields, that will not change -/
theorem XO.v {gs : List (Str × D)} (h : XO X e ds C (allF gs)) : XV X e ds (.ins C gs) := .mk fun G S0 S H σ E Q q =>
  h G S0 S H σ E Q fun p S' H' dx fv bs g nd hf hH rf => by
    obtain ⟨h1, h2⟩ := hf p List.mem_cons_self
    exact q _ _ H' (g.freeze h1 hH h2) (.ins upd_same (df_same (same_new h2) (fsr_all rf)))
theorem XO.is (h : XO X e ds C fs) (q : fs = fs') : XO X e ds C fs' := q ▸ h
/-- y = a new object -/
theorem xs_ownO (i : Nat) {p : Pos} (hN : X.N.Nodup) (he : XO X e ds C fs) (hi : X.N[i]? = some y := by rfl) (hx : Loc X.env.scope y := by first | exact Or.inl rfl | exact Or.inr rfl) (hs : swapsWith e (some (.Name y p)) pos.line X.env = pure false := by rfl)
    (hf : X.fn y = true ∨ X.env.scope.names.lookup y = some .local := by first | exact .inl rfl | exact .inr rfl) : XS X W (.Assign [.Name y p] e pos) ds (.nx (ds.set i (.ob C none fs))) := .mk fun G S0 S H σ E Z q =>
  ws_of (ps_set hN hi hx pe_w hs hf) (he G S0 S H σ E _ fun p S' H' dx fv bs g nd hf hH rf => q _ S' H' (by
    obtain ⟨A, e0⟩ := E
    have e := e0.grow g
    exact ⟨_, e.put i (it := .ob C none fs) (as := p :: bs) (Same.refl _) e.sh e.gh e.gs (.ob (fun _ z => by cases z) hH rf) nd (fun j a _ ha => ⟨rfl, (e.fr j a ha).2.1⟩) fun a ha =>
      ⟨(hf a ha).2, e0.gh.free (hf a ha).1, fun j _ hj => e0.own hj (hf a ha).1⟩⟩))
/-! ### expressions that change the frame's objects -/
structure XM (X : Cx) (e : Expr) (ds ds' : List It) (d : D) : Prop where
  mk ::
  run : ∀ G S0 S H σ, Env X.K G S0 S H σ ds → ∀ Q : VK, (∀ v S' H', Env X.K G S0 S' H' σ ds' → Rp X.K S' v d → Q v H') → wE X e σ H Q
instance {X : Cx} {e : Expr} {ds ds' : List It} {d : D} : CoeFun (XM X e ds ds' d) (fun _ => ∀ G S0 S H σ, Env X.K G S0 S H σ ds → ∀ Q : VK, (∀ v S' H', Env X.K G S0 S' H' σ ds' → Rp X.K S' v d → Q v H') → wE X e σ H Q) := ⟨XM.run⟩
structure XMA (X : Cx) (es : List Expr) (ds ds' : List It) (ys : List D) : Prop where
  mk ::
  run : ∀ G S0 S H σ, Env X.K G S0 S H σ ds → ∀ Q : List V → Hp → Prop, (∀ vs S' H', Env X.K G S0 S' H' σ ds' → RpA X.K S' vs ys → Q vs H') → wA X es σ H Q
instance {X : Cx} {es : List Expr} {ds ds' : List It} {ys : List D} : CoeFun (XMA X es ds ds' ys) (fun _ => ∀ G S0 S H σ, Env X.K G S0 S H σ ds → ∀ Q : List V → Hp → Prop, (∀ vs S' H', Env X.K G S0 S' H' σ ds' → RpA X.K S' vs ys → Q vs H') → wA X es σ H Q) := ⟨XMA.run⟩
theorem XV.xm (h : XV X e ds d) : XM X e ds ds d := .mk fun G S0 S H σ E Q q => h G S0 S H σ E Q fun v S' H' g r => q v S' H' (E.grow g) r
theorem XA.xm (h : XA X es ds xs) : XMA X es ds ds xs := .mk fun G S0 S H σ E Q q => h G S0 S H σ E Q fun v S' H' g r => q v S' H' (E.grow g) r
theorem xma_cons (ha : XM X e ds ds1 d) (hr : XMA X es ds1 ds2 xs) (hs : starEach (e :: es) X.env = (false, eval e X.env) :: starEach es X.env := by exact se rfl) : XMA X (e :: es) ds ds2 (d :: xs) := .mk fun G S0 S H σ E Q q =>
  wa_of (pa_cons pe_w pa_w hs) (ha G S0 S H σ E _ fun v S1 H1 E1 r1 => hr G S1 S1 H1 σ E1.rebase _ fun vs S2 H2 E2 r2 => q _ S2 H2 (E2.base E1.s0 E1.gs) (.cons (dp_same E2.s0 r1) r2))
theorem XM.is {d' : D} (h : XM X e ds ds' d) (q : d = d') : XM X e ds ds' d' := q ▸ h
theorem xs_exprM (he : XM X e ds ds' d) (hs : swapsWith e none pos.line X.env = pure false := by rfl) : XS X W (.Expr e pos) ds (.nx ds') := .mk fun G S0 S H σ E Z q =>
  ws_of (ps_expr pe_w hs) (he G S0 S H σ E _ fun v S' H' E' r => q σ S' H' E')
theorem xs_setM (i : Nat) {p : Pos} (hN : X.N.Nodup) (he : XM X e ds ds' d) (hi : X.N[i]? = some y := by rfl) (hx : Loc X.env.scope y := by first | exact Or.inl rfl | exact Or.inr rfl) (hs : swapsWith e (some (.Name y p)) pos.line X.env = pure false := by rfl)
    (hf : X.fn y = true ∨ X.env.scope.names.lookup y = some .local := by first | exact .inl rfl | exact .inr rfl) : XS X W (.Assign [.Name y p] e pos) ds (.nx (ds'.set i (.fz d))) := .mk fun G S0 S H σ E Z q =>
  ws_of (ps_set hN hi hx pe_w hs hf) (he G S0 S H σ E _ fun v S' H' E' r => q _ S' H' (E'.putD i r))
theorem xs_retM (he : XM X e ds ds' d) : XS X W (.Return (some e) pos) ds (.rt d) := .mk fun G S0 S H σ E Z q =>
  ws_of (ps_ret pe_w) (he G S0 S H σ E _ fun v S' H' E' r => q v S' H' E'.fin r)
/-- behind a method of the object of slot i -/
theorem obj_after {G S0 S H : Hp} {σ : St} {A : Nat → List Addr} {i : Nat} {q : Addr} {bs : List Addr} {oa : Option Addr} (e : EnvA X.K G S0 S H σ ds A) (hA : A i = q :: bs) (hσ : σ[i]? = some (some (.ref q))) (hz : ∀ a, oa = some a → q = a)
    {S' H' : Hp} {dx' : Addr} {fv' : List (Str × V)} {bs' : List Addr} (fn : Fnl (lessL (q :: bs) H) S S' H') (nd : (q :: bs').Nodup) (hf : ∀ x ∈ q :: bs', S' x = none ∧ lessL (q :: bs) H x = none) (hH : H' q = some (.ins C dx' fv')) (rf : FsR X.K S' H' fs' fv' bs') :
    Env X.K G S0 S' H' σ (ds.set i (.ob C oa fs')) := by
  have gno : ∀ b, G b ≠ none → b ∉ q :: bs := fun b hb z => hb (e.fr i b (by rw [hA]; exact z)).2.2
  have w := e.put (S' := S') (H' := H') i (it := .ob C oa fs') (v := some (.ref q)) (as := q :: bs') fn.s0 fn.sh
    (fun b u w => fn.gh _ _ (by rw [lessL_no (gno b (by rw [w]; exact fun z => by cases z))]; exact e.gh _ _ w))
    (fun b hb => (fn.gs b (by rw [lessL_no (gno b hb)]; exact Same.nn e.gh hb)).trans (e.gs b hb)) (.ob hz hH rf) nd
    (fun j b hj hb => by
      have hno : b ∉ q :: bs := fun z => hj (e.dj j i b hb (by rw [hA]; exact z))
      have hn := e.own hb
      refine ⟨?_, ?_⟩
      · obtain ⟨u, hu⟩ := some_nn hn
        rw [hu]
        exact fn.gh _ _ (by rw [lessL_no hno]; exact hu)
      · rw [fn.gs b (by rw [lessL_no hno]; exact hn)]
        exact (e.fr j b hb).2.1)
    fun x hx => by
      obtain ⟨h1, h2⟩ := hf x hx
      by_cases z : x ∈ q :: bs
      · have hm : x ∈ A i := by rw [hA]; exact z
        exact ⟨h1, (e.fr i x hm).2.2, fun j hj hx' => hj (e.dj j i x hx' hm)⟩
      · rw [lessL_no z] at h2
        exact ⟨h1, e.gh.free h2, fun j _ hj => e.own hj h2⟩
  rw [set_get hσ] at w
  exact ⟨_, w⟩
/-- x.m(e, ..) -/
theorem xm_meth (i : Nat) {oa : Option Addr} {fs0 : List (Str × FI)} (T : Do X.prog X.w X.K X.mg X.base C m k F) (c : Cls X.K C) (hr : Room k X.A) (ha : XMA X (e :: es) ds ds1 args) (hF : F args fs fs' d) (hd : ds[i]? = some (.ob C oa fs0) := by rfl) (hd1 : ds1[i]? = some (.ob C oa fs) := by rfl)
    (hn : fs0.map (·.1) = FN := by rfl) (hm : m ∉ FN := by decide +kernel) (hN : X.N[i]? = some x := by rfl) (hv : Vis X.env.scope x := by first | exact Or.inl rfl | exact Or.inr (Or.inl rfl) | exact Or.inr (Or.inr rfl))
    (h1 : (x == ("__debug__" : Str)) = false := by decide) (h2 : (x == ("__classdict__" : Str)) = false := by decide)
    (hst : starEach (e :: es) X.env = (false, eval e X.env) :: starEach es X.env := by exact se rfl) (hpl : (backTo pos (starEach es X.env)).any (·.1) = false := by exact spl rfl)
    (ht : eval (.Call (.Attribute (.Name x px) m apos) (e :: es) [] pos) X.env = (do
      let ov ← eval (.Name x px) X.env
      standAt apos.atName
      let (f, first) ← holding [ov] (getMethod ov m pl)
      callWith pos f first (backTo pos (starEach (e :: es) X.env)) (backToKw pos (keywordEach [] X.env))) := by rfl) : XM X (.Call (.Attribute (.Name x px) m apos) (e :: es) [] pos) ds (ds1.set i (.ob C oa fs')) d := .mk fun G S0 S H σ E Q q => by
  obtain ⟨f, fd, ps, hm', hb, fo⟩ := T.ex
  refine we_of (pe_meth (pe_var (i := i) hN hv h1 h2) c hm' fo hr hb .nil passes0 pa_w hst hpl ht) ?_
  obtain ⟨A0, e0⟩ := id E
  obtain ⟨p, dx, fv, bs, hσ, _, _, hp, rf⟩ := e0.obj hd
  refine ⟨.ref p, hσ, p, dx, fv, rfl, hp, fsr_none rf (look_no (by rw [hn]; exact hm)), ha G S0 S H σ E _ fun vs S1 H1 E1 r1 => ?_⟩
  obtain ⟨A, e⟩ := E1
  obtain ⟨p', dx', fv', bs', hσ', hA, hz, hp', rf'⟩ := e.obj hd1
  rw [hσ] at hσ'
  cases hσ'
  have nd := e.nd i
  rw [hA] at nd
  rw [List.append_nil]
  exact ⟨S1, p, dx', vs, args, fs, fs', d, fv', bs', rfl, hp', rf', nd, fun x hx => (e.fr i x (by rw [hA]; exact hx)).2.1, e.sh, r1, hF, fun v S' H' dx2 fv2 bs2 fn nd2 hf2 hH rf2 rv => q v S' H' (obj_after e hA hσ hz fn nd2 hf2 hH rf2) rv⟩
/-- x.m() -/
theorem xm_meth0 (i : Nat) {oa : Option Addr} (T : Do X.prog X.w X.K X.mg X.base C m k F) (c : Cls X.K C) (hr : Room k X.A) (hF : F [] fs fs' d) (hd : ds[i]? = some (.ob C oa fs) := by rfl)
    (hn : fs.map (·.1) = FN := by rfl) (hm : m ∉ FN := by decide +kernel) (hN : X.N[i]? = some x := by rfl) (hv : Vis X.env.scope x := by first | exact Or.inl rfl | exact Or.inr (Or.inl rfl) | exact Or.inr (Or.inr rfl))
    (h1 : (x == ("__debug__" : Str)) = false := by decide) (h2 : (x == ("__classdict__" : Str)) = false := by decide)
    (ht : eval (.Call (.Attribute (.Name x px) m apos) [] [] pos) X.env = (do
      let ov ← eval (.Name x px) X.env
      standAt apos.atName
      let (f, first) ← holding [ov] (getMethod ov m pl)
      callWith pos f first (backTo pos (starEach [] X.env)) (backToKw pos (keywordEach [] X.env))) := by rfl) : XM X (.Call (.Attribute (.Name x px) m apos) [] [] pos) ds (ds.set i (.ob C oa fs')) d := .mk fun G S0 S H σ E Q q => by
  obtain ⟨f, fd, ps, hm', hb, fo⟩ := T.ex
  refine we_of (pe_meth0 (pe_var (i := i) hN hv h1 h2) c hm' fo hr hb .nil passes0 ht) ?_
  obtain ⟨A, e⟩ := id E
  obtain ⟨p, dx, fv, bs, hσ, hA, hz, hp, rf⟩ := e.obj hd
  have nd := e.nd i
  rw [hA] at nd
  refine ⟨.ref p, hσ, p, dx, fv, rfl, hp, fsr_none rf (look_no (by rw [hn]; exact hm)), ?_⟩
  exact ⟨S, p, dx, [], [], fs, fs', d, fv, bs, rfl, hp, rf, nd, fun x hx => (e.fr i x (by rw [hA]; exact hx)).2.1, e.sh, .nil, hF, fun v S' H' dx2 fv2 bs2 fn nd2 hf2 hH rf2 rv => q v S' H' (obj_after e hA hσ hz fn nd2 hf2 hH rf2) rv⟩
end
/-! ### dicts of the frame's own, keys whole numbers -/
section
variable {K : Fg} {S : Hp}
theorem dkr_val {n : Int} : ∀ {ds : List (Int × D)} {kvs : List (Key × V)}, DkR K S ds kvs → (∀ d, ds.lookup n = some d → ∃ v, valV kvs (.inl n) = some v ∧ Rp K S v d) ∧ (ds.lookup n = none → valV kvs (.inl n) = none)
  | _, _, .nil => ⟨(fun d h => by cases h), (fun _ => rfl)⟩
  | (m, x) :: ds, _, .cons (v := v) r t => by
    obtain ⟨h1, h2⟩ := dkr_val (n := n) t
    by_cases e : n = m
    · subst e
      refine ⟨fun d h => ?_, fun h => ?_⟩
      · simp only [List.lookup, beq_self_eq_true] at h
        cases h
        exact ⟨v, valV_pos rfl, r⟩
      · simp only [List.lookup, beq_self_eq_true] at h
        cases h
    · have e1 : (n == m) = false := by simp [e]
      have e2 : ¬ ((Sum.inl m, v) : Key × V).1 = .inl n := fun z => e (Sum.inl.inj z).symm
      refine ⟨fun d h => ?_, fun h => ?_⟩
      · simp only [List.lookup, e1] at h
        rw [valV_neg e2]
        exact h1 d h
      · simp only [List.lookup, e1] at h
        rw [valV_neg e2]
        exact h2 h
theorem dkr_snoc {n : Int} {d : D} {v : V} (r : Rp K S v d) : ∀ {ds : List (Int × D)} {kvs : List (Key × V)}, DkR K S ds kvs → DkR K S (ds ++ [(n, d)]) (kvs ++ [(.inl n, v)])
  | _, _, .nil => .cons r .nil
  | _, _, .cons r1 t => .cons r1 (dkr_snoc r t)
theorem dkr_put {n : Int} {d : D} {v : V} {ds : List (Int × D)} {kvs : List (Key × V)} (h : DkR K S ds kvs) (r : Rp K S v d) (hn : ds.lookup n = none) : DkR K S (ds ++ [(n, d)]) (putK kvs (.inl n) v) := by
  unfold putK
  rw [valV_any, (dkr_val h).2 hn]
  rw [if_neg (by simp)]
  exact dkr_snoc r h
theorem dkr_len : ∀ {ds : List (Int × D)} {kvs : List (Key × V)}, DkR K S ds kvs → kvs.length = ds.length
  | _, _, .nil => rfl
  | _, _, .cons _ t => by rw [List.length_cons, List.length_cons, dkr_len t]
end
section
variable {X : Cx} {W : WX} {e a b c : Expr} {ds : List It} {pos px pos' : Pos} {d : D} {x y : Str} {kvs : List (Int × D)} {n : Int}
/-- y = {a: b} -/
theorem xs_dict1 (i : Nat) {p pd : Pos} (hN : X.N.Nodup) (ha : XV X a ds (.int n)) (hb : XV X b ds d) (hi : X.N[i]? = some y := by rfl) (hx : Loc X.env.scope y := by first | exact Or.inl rfl | exact Or.inr rfl) (hs : swapsWith (.Dict [some a] [b] pd) (some (.Name y p)) pos.line X.env = pure false := by rfl)
    (hf : X.fn y = true ∨ X.env.scope.names.lookup y = some .local := by first | exact .inl rfl | exact .inr rfl) : XS X W (.Assign [.Name y p] (.Dict [some a] [b] pd) pos) ds (.nx (ds.set i (.dk [(n, d)]))) := .mk fun G S0 S H σ E Z q =>
  ws_of (ps_set hN hi hx (pe_disp (pps_cons pe_w pe_w pps_nil) rfl rfl (by simp) (by simp)) hs hf) fun u hu => by
    have g0 : Gr S H S (upd H u (.dK [])) := Gr.newH E.sh hu
    refine ha G S0 S _ σ (E.grow g0) _ fun v S1 H1 g1 r1 => hb G S0 S1 H1 σ ((E.grow g0).grow g1) _ fun z S2 H2 g2 r2 => ?_
    cases r1
    have g := (g0.trans g1).trans g2
    have h2 : H2 u = some (.dK []) := g2.h _ _ (g1.h _ _ upd_same)
    have su : S2 u = none := by
      rw [g2.old u (by rw [g1.h _ _ upd_same]; exact fun z => by cases z), g1.old u (by rw [upd_same]; exact fun z => by cases z)]
      exact E.sh.free hu
    refine ⟨h2, [(.inl n, z)], rfl, by simp, q _ S2 _ ?_⟩
    have g3 : Gr S H S2 (upd H2 u (.dK (mergeK [] [(.inl n, z)]))) := by
      refine ⟨g.s, fun b w hb => ?_, fun b w hb => ?_, g.old⟩
      · rw [upd_ne (fun z => by rw [z, hu] at hb; cases hb)]; exact g.h _ _ hb
      · rw [upd_ne (fun z => by rw [z, su] at hb; cases hb)]; exact g.sh _ _ hb
    exact E.put1 g3 i hu su (.dk upd_same (.cons r2 .nil))
/-- e in x, e not in x -/
theorem dk_has (i : Nat) (hu : X.A.units + 64 < cLine) (ha : XV X a ds (.int n)) {G S0 S H : Hp} {σ : St} (E : Env X.K G S0 S H σ ds) (hd : ds[i]? = some (.dk kvs)) {Q : VK} (q : ∀ S' H', Gr S H S' H' → Q (.bl (!(kvs.lookup n).isSome)) H') (hN : X.N[i]? = some x) (hv : Vis X.env.scope x) (h1 : (x == ("__debug__" : Str)) = false) (h2 : (x == ("__classdict__" : Str)) = false) : tDNotIn (wE X a) (tVar i) σ H Q :=
  ha G S0 S H σ E _ fun v S1 H1 g1 r1 => by
    cases r1
    obtain ⟨p, vs, hσ, hp, _, _, dk⟩ := (E.grow g1).dk hd
    refine ⟨.ref p, hσ, p, _, rfl, DGet.k (k := .inl n) hp, ?_⟩
    have e : (valV vs (.inl n)).isSome = (kvs.lookup n).isSome := by
      cases h : kvs.lookup n with
      | none => rw [(dkr_val dk).2 h]; rfl
      | some d => obtain ⟨v, hv, _⟩ := (dkr_val dk).1 d h; rw [hv]; rfl
    rw [e]
    exact q S1 H1 g1
theorem xt_dnin (i : Nat) (hu : X.A.units + 64 < cLine) (ha : XV X a ds (.int n)) (hd : ds[i]? = some (.dk kvs) := by rfl) (hN : X.N[i]? = some x := by rfl) (hv : Vis X.env.scope x := by first | exact Or.inl rfl | exact Or.inr (Or.inl rfl) | exact Or.inr (Or.inr rfl)) (h1 : (x == ("__debug__" : Str)) = false := by decide) (h2 : (x == ("__classdict__" : Str)) = false := by decide)
    (hm : behindInMarks .NotIn (.Name x px) = false := by rfl) : XT X (.Compare a [.NotIn] [.Name x px] pos) ds (!(kvs.lookup n).isSome) := .mk fun G S0 S H σ E Q q =>
  wt_of (pt_cmp (pc_dnotin (by omega) pe_w (pe_var (i := i) hN hv h1 h2)) hm) (dk_has i hu ha E hd (fun S' H' g => ⟨_, rfl, q S' H' g⟩) hN hv h1 h2)
theorem xv_dnin (i : Nat) (hu : X.A.units + 64 < cLine) (ha : XV X a ds (.int n)) (hd : ds[i]? = some (.dk kvs) := by rfl) (hN : X.N[i]? = some x := by rfl) (hv : Vis X.env.scope x := by first | exact Or.inl rfl | exact Or.inr (Or.inl rfl) | exact Or.inr (Or.inr rfl)) (h1 : (x == ("__debug__" : Str)) = false := by decide) (h2 : (x == ("__classdict__" : Str)) = false := by decide)
    (hm : behindInMarks .NotIn (.Name x px) = false := by rfl) : XV X (.Compare a [.NotIn] [.Name x px] pos) ds (.bl (!(kvs.lookup n).isSome)) := .mk fun G S0 S H σ E Q q =>
  we_of (pe_cmp (pc_dnotin (by omega) pe_w (pe_var (i := i) hN hv h1 h2)) hm) (dk_has i hu ha E hd (fun S' H' g => q _ S' H' g (.bl _)) hN hv h1 h2)
/-- x[e] -/
theorem xv_dget (i : Nat) (hu : X.A.units + 64 < cLine) (ha : XV X a ds (.int n)) (hk : kvs.lookup n = some d) (hd : ds[i]? = some (.dk kvs) := by rfl) (hN : X.N[i]? = some x := by rfl) (hv : Vis X.env.scope x := by first | exact Or.inl rfl | exact Or.inr (Or.inl rfl) | exact Or.inr (Or.inr rfl)) (h1 : (x == ("__debug__" : Str)) = false := by decide) (h2 : (x == ("__classdict__" : Str)) = false := by decide)
    (hs : NoSl a := by exact fun _ _ => rfl) : XV X (.Subscript (.Name x px) a pos) ds d := .mk fun G S0 S H σ E Q q => by
  refine we_of (pe_dget (by omega) (pe_var (i := i) hN hv h1 h2) pe_w hs) ?_
  obtain ⟨p, vs, hσ, hp, _, _, _⟩ := E.dk hd
  refine ⟨.ref p, hσ, ha G S0 S H σ E _ fun v S1 H1 g1 r1 => ?_⟩
  cases r1
  obtain ⟨p', vs', hσ', hp', _, _, dk⟩ := (E.grow g1).dk hd
  rw [hσ] at hσ'
  cases hσ'
  obtain ⟨v, hv', rv⟩ := (dkr_val dk).1 d hk
  exact ⟨p, v, rfl, by rw [← hv']; exact DGet.k (k := .inl n) hp', q v S1 H1 g1 rv⟩
/-- x[a] = e, a new key -/
theorem xs_dput (i : Nat) (hu : X.A.units + 64 < cLine) (he : XV X e ds d) (ha : XV X a ds (.int n)) (hk : kvs.lookup n = none) (hz : kvs.length < 100000) (hd : ds[i]? = some (.dk kvs) := by rfl) (hN : X.N[i]? = some x := by rfl) (hv : Vis X.env.scope x := by first | exact Or.inl rfl | exact Or.inr (Or.inl rfl) | exact Or.inr (Or.inr rfl)) (h1 : (x == ("__debug__" : Str)) = false := by decide) (h2 : (x == ("__classdict__" : Str)) = false := by decide)
    (hs : swapsWith e (some (.Subscript (.Name x px) a pos')) pos.line X.env = pure false := by rfl) : XS X W (.Assign [.Subscript (.Name x px) a pos'] e pos) ds (.nx (ds.set i (.dk (kvs ++ [(n, d)])))) := .mk fun G S0 S H σ E Z q =>
  ws_of (ps_dput (by omega) (pe_var (i := i) hN hv h1 h2) pe_w pe_w hs) (he G S0 S H σ E _ fun v S1 H1 g1 r1 => by
    obtain ⟨p, vs, hσ, hp, _, _, _⟩ := (E.grow g1).dk hd
    refine ⟨.ref p, hσ, ha G S0 S1 H1 σ (E.grow g1) _ fun w S2 H2 g2 r2 => ?_⟩
    cases r2
    have E2 := (E.grow g1).grow g2
    obtain ⟨p', vs', hσ', hp', _, _, dk⟩ := E2.dk hd
    rw [hσ] at hσ'
    cases hσ'
    exact ⟨p, _, rfl, DPut.k (k := .inl n) hp' (szlt _ (by rw [dkr_len dk]; exact hz)), q _ S2 _ (E2.mutK hd hσ (dkr_put dk (dp_same g2.s r1) hk))⟩)
end
/-! ### what the head tells of a class -/
section
variable {K : Fg} {h : Heap} {mg : Str → Option Value} {C : Addr}
theorem na_mk {f : Str} (a : PySem.W.findIn K (.ref C) f = some none) : NoAttr K C f := a
theorem mn_mk {m qual : Str} {st : Stmt} {ps : List Str} {f : Addr} {oc : Value} {od an : Option Addr} {osl : Array (Option Value)} {kV doc pm cdv ct : Value}
    (a : PySem.W.findIn K (.ref C) m = some (some (.ref f))) (i : PySem.W.isFn K (.ref f) = true) (l : K.lookup f = some ⟨oc, od, .func (PySem.W.fnOf m qual (defArgs st) (defBody st) (defScope st) .none kV doc pm an cdv ct), osl⟩) (c : PySem.W.codeIn K cdv qual = true) (k : PySem.W.keepIn K (.ref f) = true)
    (b : ∀ (kV doc pm : Value) (an : Option Addr) (cdv ct : Value) (us : List Value), us.length = ps.length → bindArgs (PySem.W.fnOf m qual (defArgs st) (defBody st) (defScope st) .none kV doc pm an cdv ct) ⟨us, []⟩ = pure (ps.zip us)) : Mn K C m qual st ps :=
  ⟨f, _, ⟨a, i, k⟩, fun_mk l c k, (fun_mk l c k).binds b⟩
theorem cn_mk {x qual : Str} {st : Stmt} {ps : List Str} {f : Addr} {oc : Value} {od an : Option Addr} {osl : Array (Option Value)} {kV doc pm cdv ct : Value} (X : K.In h) (G : h.Ns mainGlobals mg)
    (aC : PySem.W.nsIn K mainGlobals x = some (some (.ref C))) (a : PySem.W.findIn K (.ref C) "__init__" = some (some (.ref f))) (i : PySem.W.isFn K (.ref f) = true) (l : K.lookup f = some ⟨oc, od, .func (PySem.W.fnOf "__init__" qual (defArgs st) (defBody st) (defScope st) .none kV doc pm an cdv ct), osl⟩) (c : PySem.W.codeIn K cdv qual = true) (k : PySem.W.keepIn K (.ref f) = true)
    (b : ∀ (kV doc pm : Value) (an : Option Addr) (cdv ct : Value) (us : List Value), us.length = ps.length → bindArgs (PySem.W.fnOf "__init__" qual (defArgs st) (defBody st) (defScope st) .none kV doc pm an cdv ct) ⟨us, []⟩ = pure (ps.zip us))
    (pg : PySem.W.plainGet K C Str.empty = true) (hd : PySem.W.hasDictIn K C = true) (po : PySem.W.plainOver K C = true) (sa : PySem.W.findIn K (.ref C) "__setattr__" = some (some (.builtin "object.__setattr__"))) (mk : PySem.W.makesIn K C = true) (kc : PySem.W.keepIn K (.ref C) = true) : Cn K mg x qual C st ps :=
  ⟨PySem.W.mg_of X G aC, ⟨pg, hd, po, sa⟩, f, _, ⟨mk, a, i, kc⟩, fun_mk l c k, (fun_mk l c k).binds b⟩
end
end Lay
/-! Lay16: slices, least and greatest of a list, wide numbers, in of any data. -/
namespace Lay
open PySem L2
/-- the items of xs[lo:hi] -/
def cutD {α : Type} (xs : List α) (lo hi : Option Int) : List α := (xs.drop (HT.sIx xs.length 0 lo)).take (HT.sIx xs.length xs.length hi - HT.sIx xs.length 0 lo)
theorem cutD_from {α : Type} (xs : List α) {i : Int} (h : 0 ≤ i) : cutD xs (some i) none = xs.drop i.toNat := by
  unfold cutD
  rw [HT.sIx_none]
  have e : HT.sIx xs.length 0 (some i) = min i.toNat xs.length := by
    exact if_neg (by omega)
  rw [e]
  by_cases q : i.toNat ≤ xs.length
  · rw [Nat.min_eq_left q, List.take_of_length_le (by rw [List.length_drop]; omega)]
  · rw [Nat.min_eq_right (by omega), List.drop_length, List.drop_of_length_le (by omega)]; simp
theorem cutD_to {α : Type} (xs : List α) {i : Int} (h : 0 ≤ i) : cutD xs none (some i) = xs.take i.toNat := by
  unfold cutD
  have e : HT.sIx xs.length xs.length (some i) = min i.toNat xs.length := by
    exact if_neg (by omega)
  rw [HT.sIx_none, e, List.drop_zero, Nat.sub_zero]
  by_cases q : i.toNat ≤ xs.length
  · rw [Nat.min_eq_left q]
  · rw [Nat.min_eq_right (by omega), List.take_length, List.take_of_length_le (by omega)]
theorem cutD_init {α : Type} (xs : List α) : cutD xs none (some (-1)) = xs.dropLast := by
  unfold cutD
  have e : HT.sIx xs.length xs.length (some (-1)) = xs.length - 1 := by
    show (if (-1 : Int) < 0 then ((-1 : Int) + (xs.length : Int)).toNat else min (-1 : Int).toNat xs.length) = _
    rw [if_pos (by decide)]; omega
  rw [HT.sIx_none, e, List.drop_zero, Nat.sub_zero, List.dropLast_eq_take]
theorem cutD_last {α : Type} (xs : List α) : cutD xs (some (-1)) none = xs.drop (xs.length - 1) := by
  unfold cutD
  have e : HT.sIx xs.length 0 (some (-1)) = xs.length - 1 := by
    show (if (-1 : Int) < 0 then ((-1 : Int) + (xs.length : Int)).toNat else min (-1 : Int).toNat xs.length) = _
    rw [if_pos (by decide)]; omega
  rw [HT.sIx_none, e, List.take_of_length_le (by rw [List.length_drop]; omega)]
theorem cutD_map {α β : Type} (f : α → β) (xs : List α) (lo hi : Option Int) : cutD (xs.map f) lo hi = (cutD xs lo hi).map f := by
  unfold cutD
  rw [List.length_map, List.map_take, List.map_drop]
theorem da_cut {K : Fg} {S : Hp} {vs : List V} {xs : List D} (lo hi : Option Int) (h : RpA K S vs xs) : RpA K S (cutV vs lo hi) (cutD xs lo hi) := by
  unfold cutV cutD
  rw [da_len h]
  exact da_take _ (da_drop _ h)
section
variable {X : Cx} {e a b c : Expr} {ds : List It} {pos p2 : Pos} {A B d : D} {i j : Int} {xs ys : List D}
def wO (X : Cx) (o : Option Expr) : TO := fun σ H Q => ∀ pins s, Inv X pins σ H s → wpAny (model X.prog X.w) X.A (evalPart o X.env) (fun u s' => ∃ o H', Inv X pins σ H' s' ∧ IsPart u o ∧ Q o H') X.xe s
theorem po_w {o : Option Expr} : PO X o (wO X o) := ⟨fun pins s _ _ _ I h => h pins s I⟩
theorem wo_of {o : Option Expr} {t : TO} (h : PO X o t) {σ : St} {H : Hp} {Q : Option Int → Hp → Prop} (q : t σ H Q) : wO X o σ H Q := fun pins s I => h.run pins s σ H Q I q
structure XP (X : Cx) (o : Option Expr) (ds : List It) (v : Option Int) : Prop where
  mk ::
  run : ∀ G S0 S H σ, Env X.K G S0 S H σ ds → ∀ Q : Option Int → Hp → Prop, (∀ S' H', Gr S H S' H' → Q v H') → wO X o σ H Q
theorem xp_none : XP X none ds none := .mk fun G S0 S H σ E Q q => wo_of po_none (q S H E.gr)
theorem xp_some (h : XV X e ds (.int i)) : XP X (some e) ds (some i) := .mk fun G S0 S H σ E Q q => wo_of (po_some pe_w) (h G S0 S H σ E _ fun v S' H' g r => by cases r; exact ⟨i, rfl, q S' H' g⟩)
/-- xs[lo:hi] -/
theorem xl_sl {lo hi : Option Expr} {l h : Option Int} (ha : XB X a ds (.lst xs)) (hl : XP X lo ds l) (hh : XP X hi ds h) : XL X (.Subscript a (.Slice lo hi none p2) pos) ds (cutD xs l h) := .mk fun G S0 S H σ E Q q =>
  we_of (pe_slice sl_list pe_w po_w po_w) (ha G S0 S H σ E _ fun v S1 H1 g1 r1 => hl.run G S0 S1 H1 σ (E.grow g1) _ fun S2 H2 g2 => hh.run G S0 S2 H2 σ ((E.grow g1).grow g2) _ fun S3 H3 g3 => by
    have g := (g1.trans g2).trans g3
    obtain ⟨p, vs, rfl, hp, ra⟩ := (r1.gr (g2.trans g3)).lst g3.sh
    exact ⟨p, vs, rfl, sq_of hp, fun n hn => q n _ S3 _ (g.trans (Gr.newH g3.sh hn)) (g.h.free hn) (g3.sh.free hn) upd_same (da_cut l h ra)⟩)
/-- t[lo:hi] of a tuple -/
theorem xv_slT {lo hi : Option Expr} {l h : Option Int} (ha : XB X a ds (.tup xs)) (hl : XP X lo ds l) (hh : XP X hi ds h) : XV X (.Subscript a (.Slice lo hi none p2) pos) ds (.tup (cutD xs l h)) := .mk fun G S0 S H σ E Q q =>
  we_of (pe_slice sl_tupA pe_w po_w po_w) (ha G S0 S H σ E _ fun v S1 H1 g1 r1 => hl.run G S0 S1 H1 σ (E.grow g1) _ fun S2 H2 g2 => hh.run G S0 S2 H2 σ ((E.grow g1).grow g2) _ fun S3 H3 g3 => by
    have g := (g1.trans g2).trans g3
    obtain ⟨p, vs, rfl, hp, ra⟩ := (r1.gr (g2.trans g3)).tup
    refine ⟨p, vs, rfl, st_of (g3.sh _ _ hp), fun hw => q _ S3 H3 g (.tup hp ?_), fun _ n hn => q _ _ _ (g.trans (Gr.new g3.sh hn)) (.tup upd_same (da_same (same_new (g3.sh.free hn)) (da_cut l h ra)))⟩
    have e : cutV vs l h = vs := by unfold cutV; rw [hw.1, hw.2, List.drop_zero, Nat.sub_zero, List.take_length]
    have := da_cut l h ra
    rw [e] at this
    exact this)
/-- xs[::-1] -/
theorem xl_rev {k : Nat} {p1 p3 p4 : Pos} (ha : XB X a ds (.lst xs)) : XL X (.Subscript a (.Slice none none (some (.UnaryOp .USub (.Constant (.int 1) k p1) p4)) p3) pos) ds xs.reverse := .mk fun G S0 S H σ E Q q =>
  we_of (pe_revL pe_w) (ha G S0 S H σ E _ fun v S1 H1 g1 r1 => by
    obtain ⟨p, vs, rfl, hp, ra⟩ := r1.lst g1.sh
    exact ⟨p, vs, rfl, sq_of hp, fun n hn => q n _ S1 _ (g1.trans (Gr.newH g1.sh hn)) (g1.h.free hn) (g1.sh.free hn) upd_same (da_reverse ra)⟩)
/-! ### least and greatest of a list -/
def lmin (ns : List Int) : Int := ns.min?.getD 0
def lmax (ns : List Int) : Int := ns.max?.getD 0
theorem lmin_of {ns : List Int} {m : Int} (h : m ∈ ns) (hl : ∀ y ∈ ns, m ≤ y) : lmin ns = m := by
  unfold lmin
  rw [List.min?_eq_some_iff.mpr ⟨h, hl⟩]; rfl
theorem lmax_of {ns : List Int} {m : Int} (h : m ∈ ns) (hl : ∀ y ∈ ns, y ≤ m) : lmax ns = m := by
  unfold lmax
  rw [List.max?_eq_some_iff.mpr ⟨h, hl⟩]; rfl
theorem lmin_spec {ns : List Int} (h : ns ≠ []) : lmin ns ∈ ns ∧ ∀ y ∈ ns, lmin ns ≤ y := by
  cases e : ns.min? with
  | none => exact absurd (List.min?_eq_none_iff.mp e) h
  | some m =>
    have := List.min?_eq_some_iff.mp e
    unfold lmin
    rw [e]; exact this
theorem lmax_spec {ns : List Int} (h : ns ≠ []) : lmax ns ∈ ns ∧ ∀ y ∈ ns, y ≤ lmax ns := by
  cases e : ns.max? with
  | none => exact absurd (List.max?_eq_none_iff.mp e) h
  | some m =>
    have := List.max?_eq_some_iff.mp e
    unfold lmax
    rw [e]; exact this
theorem xv_minL {p : Pos} {ns : List Int} (hc : X.calm = true) (hm : X.mg "min" = none) (ha : XB X e ds A) (h : A = .lst (ns.map .int)) (hne : ns ≠ []) (hg : Gl X "min" := by rfl) (hs : isStar e = false := by rfl) :
    XV X (.Call (.Name "min" p) [e] [] pos) ds (.int (lmin ns)) := by
  subst h
  exact xv_callB (cr_min hc) hm boot_min (xab_cons ha xab_nil (se hs)) (fun S H vs Q k r q => by
    obtain ⟨v, rfl, r1⟩ := rba1 r
    obtain ⟨p, vs, rfl, h1, h2⟩ := r1.lst k
    have e := da_ints h2
    subst e
    exact ⟨p, ns, rfl, sq_of h1, List.length_pos_iff.mpr hne, fun m hm hl => by rw [← lmin_of hm hl]; exact q _ S H (.refl k) (.int _)⟩) hg (he := se hs) (hpl := spl rfl)
theorem xv_maxL {p : Pos} {ns : List Int} (hc : X.calm = true) (hm : X.mg "max" = none) (ha : XB X e ds A) (h : A = .lst (ns.map .int)) (hne : ns ≠ []) (hg : Gl X "max" := by rfl) (hs : isStar e = false := by rfl) :
    XV X (.Call (.Name "max" p) [e] [] pos) ds (.int (lmax ns)) := by
  subst h
  exact xv_callB (cr_max hc) hm boot_max (xab_cons ha xab_nil (se hs)) (fun S H vs Q k r q => by
    obtain ⟨v, rfl, r1⟩ := rba1 r
    obtain ⟨p, vs, rfl, h1, h2⟩ := r1.lst k
    have e := da_ints h2
    subst e
    exact ⟨p, ns, rfl, sq_of h1, List.length_pos_iff.mpr hne, fun m hm hl => by rw [← lmax_of hm hl]; exact q _ S H (.refl k) (.int _)⟩) hg (he := se hs) (hpl := spl rfl)
/-! ### wide numbers -/
theorem xv_mulW (ha : XB X a ds (.int i)) (hb : XB X b ds (.int j)) (hc : CMulW i j) : XV X (.BinOp a .Mult b pos) ds (.int (i * j)) :=
  xv_bin op_mulW ha hb fun S H x y Q k r1 r2 q => ⟨i, j, r1.int, r2.int, hc, q _ S H (.refl k) (.int _)⟩
theorem xv_divW (ha : XB X a ds (.int i)) (hb : XB X b ds (.int j)) (hc : CDivW i j) : XV X (.BinOp a .FloorDiv b pos) ds (.int (i / j)) :=
  xv_bin op_fdivW ha hb fun S H x y Q k r1 r2 q => ⟨i, j, r1.int, r2.int, hc, q _ S H (.refl k) (.int _)⟩
/-! ### in, of data of any depth -/
theorem inD_py {A : D} : ∀ {xs : List D}, (pyAll xs).any (fun z => PyData.eqv z (py A)) = inD A xs
  | [] => rfl
  | x :: xs => by
    show (PyData.eqv (py x) (py A) || (pyAll xs).any fun z => PyData.eqv z (py A)) = (eqD x A || inD A xs)
    rw [inD_py]; rfl
theorem xv_inD (hu : X.A.units + 65 < cLine) (ha : XB X a ds A) (hb : XB X b ds (.lst xs)) (h1 : okE A = true) (h2 : okE (.lst xs) = true) (hm : behindInMarks .In b = false := by rfl) : XV X (.Compare a [.In] [b] pos) ds (.bl (inD A xs)) :=
  xv_cmp (op_inD hu) ha hb hm fun S H x y Q k r1 r2 q => ⟨py A, pyAll xs, rb_dp k r1 (okE_l h1), rb_dp k r2 (okE_l h2), okE_r h1, okE_r h2, by rw [inD_py]; exact q⟩
theorem xt_inD (hu : X.A.units + 65 < cLine) (ha : XB X a ds A) (hb : XB X b ds (.lst xs)) (h1 : okE A = true) (h2 : okE (.lst xs) = true) (hm : behindInMarks .In b = false := by rfl) : XT X (.Compare a [.In] [b] pos) ds (inD A xs) :=
  xt_cmp (op_inD hu) ha hb hm fun S H x y Q k r1 r2 q => ⟨py A, pyAll xs, rb_dp k r1 (okE_l h1), rb_dp k r2 (okE_l h2), okE_r h1, okE_r h2, by rw [inD_py]; exact q⟩
theorem xt_ninD (hu : X.A.units + 65 < cLine) (ha : XB X a ds A) (hb : XB X b ds (.lst xs)) (h1 : okE A = true) (h2 : okE (.lst xs) = true) (hm : behindInMarks .NotIn b = false := by rfl) : XT X (.Compare a [.NotIn] [b] pos) ds (!inD A xs) :=
  xt_cmp (op_notInD hu) ha hb hm fun S H x y Q k r1 r2 q => ⟨py A, pyAll xs, rb_dp k r1 (okE_l h1), rb_dp k r2 (okE_l h2), okE_r h1, okE_r h2, by rw [inD_py]; exact q⟩
theorem xv_ninD (hu : X.A.units + 65 < cLine) (ha : XB X a ds A) (hb : XB X b ds (.lst xs)) (h1 : okE A = true) (h2 : okE (.lst xs) = true) (hm : behindInMarks .NotIn b = false := by rfl) : XV X (.Compare a [.NotIn] [b] pos) ds (.bl (!inD A xs)) :=
  xv_cmp (op_notInD hu) ha hb hm fun S H x y Q k r1 r2 q => ⟨py A, pyAll xs, rb_dp k r1 (okE_l h1), rb_dp k r2 (okE_l h2), okE_r h1, okE_r h2, by rw [inD_py]; exact q⟩
/-- t + u of tuples -/
theorem xv_catT (ha : XB X a ds (.tup xs)) (hb : XB X b ds (.tup ys)) (hne : xs ≠ []) (hz : xs.length + ys.length ≤ 100000) : XV X (.BinOp a .Add b pos) ds (.tup (xs ++ ys)) :=
  xv_bin op_catT ha hb fun S H x y Q k r1 r2 q => by
    obtain ⟨p, vs, rfl, hp, ra⟩ := r1.tup
    obtain ⟨p', vs', rfl, hp', rb⟩ := r2.tup
    refine ⟨p, p', vs, vs', rfl, rfl, st_of (k _ _ hp), st_of (k _ _ hp'), fun z => hne ?_, sz _ (by rw [da_len ra, da_len rb]; exact hz), fun h0 => ?_, fun _ n hn => q _ _ _ (Gr.new k hn) (.tup upd_same (da_same (same_new (k.free hn)) (da_append ra rb)))⟩
    · rw [z] at ra; cases ra; rfl
    · rw [h0] at rb
      cases rb
      rw [List.append_nil] at q
      exact q _ S H (.refl k) (.tup hp ra)
/-! ### more -/
theorem xr_if {W : WX} {C : Addr} {k : Bool} (hc : XT X c ds k) (ha : k = true → XR X W a ds C) (hb : k = false → XR X W b ds C) : XR X W (.IfExp c a b pos) ds C := .mk fun G S0 S H σ E q Q =>
  we_of (pe_ifExp pt_w pe_w pe_w) (hc G S0 S H σ E _ fun S' H' g => by
    cases k with
    | true => rw [if_pos rfl]; exact ha rfl G S0 S' H' σ (E.grow g) (fun S2 H2 g2 => q S2 H2 (g.trans g2)) _
    | false => rw [if_neg Bool.false_ne_true]; exact hb rfl G S0 S' H' σ (E.grow g) (fun S2 H2 g2 => q S2 H2 (g.trans g2)) _)
/-- x, y = a, b -/
theorem xs_par {W : WX} {d1 d2 : D} (i j : Nat) {x y : Str} {px py pt : Pos} {kt k2 pt2} (hc : X.calm = true) (hN : X.N.Nodup) (ha : XV X a ds d1) (hb : XV X b ds d2) (hij : i ≠ j := by decide) (hi : X.N[i]? = some x := by rfl) (hj : X.N[j]? = some y := by rfl)
    (hx : X.env.scope.names.lookup x = some .local := by rfl) (hy : X.env.scope.names.lookup y = some .local := by rfl) (h1 : starEach [a, b] X.env = (false, eval a X.env) :: starEach [b] X.env := by exact se rfl) (h2 : starEach [b] X.env = (false, eval b X.env) :: starEach [] X.env := by exact se rfl)
    (hw : swappedStores [.Tuple [.Name x px, .Name y py] kt pt] (.Tuple [a, b] k2 pt2) X.env = pure (some [x, y]) := by rfl)
    (hs : swapsWithSole [.Tuple [.Name x px, .Name y py] kt pt] (.Tuple [a, b] k2 pt2) pos.line X.env = pure false := by rfl) : XS X W (.Assign [.Tuple [.Name x px, .Name y py] kt pt] (.Tuple [a, b] k2 pt2) pos) ds (.nx ((ds.set i (.fz d1)).set j (.fz d2))) := .mk fun G S0 S H σ E Z q =>
  ws_of (ps_par hc hN hi hj hij hx hy (pa_cons pe_w (pa_cons pe_w pa_nil h2) h1) hw hs) (ha G S0 S H σ E _ fun v S1 H1 g1 r1 => hb G S0 S1 H1 σ (E.grow g1) _ fun v2 S2 H2 g2 r2 => ⟨v, v2, rfl, q _ S2 H2 ((((E.grow g1).grow g2).putD i (dp_same g2.s r1)).putD j r2)⟩)
/-- the type of data, by its name -/
def tyN : D → Option String
  | .bl _ => some "bool"
  | .int _ => some "int"
  | .str _ => some "str"
  | .lst _ => some "list"
  | .tup _ => some "tuple"
  | _ => none
theorem rb_ty {K : Fg} {S H : Hp} {v : V} {A : D} {n : String} (k : Same S H) (h : Rb K S H v A) (t : tyN A = some n) : TyX K H v (.type n) := by
  cases A with
  | bl b => rw [h.bl]; cases t; exact .base (.bl b)
  | int b => rw [h.int]; cases t; exact .base (.int b)
  | str b => rw [h.str]; cases t; exact .base (.str b)
  | lst xs => obtain ⟨p, vs, rfl, hp, _⟩ := h.lst k; cases t; exact .base (.lst hp)
  | tup xs => obtain ⟨p, vs, rfl, hp, _⟩ := h.tup; cases t; exact .base (.tup (k _ _ hp))
  | _ => cases t
/-- isinstance(x, T), T a built-in class -/
theorem xv_isT {p p2 : Pos} {y : Str} {T n : String} {k : Bool} (hm : X.mg "isinstance" = none) (hmy : X.mg y = none) (hby : bootBuiltins y = some (.type T)) (ha : XB X e ds A) (ht : tyN A = some n) (hk : kitB n T = some k) (hg : Gl X "isinstance" := by rfl) (hgy : Gl X y := by rfl) (hst : isStar e = false := by rfl) (hny : y ≠ "__name__" := by decide) (hdy : (y == ("__debug__" : Str)) = false := by decide) :
    XV X (.Call (.Name "isinstance" p) [e, .Name y p2] [] pos) ds (.bl k) := .mk fun G S0 S H σ E Q q =>
  we_of (pe_callB call_isi hg hm boot_isinstance' (pa_cons pe_w (pa_cons (pe_bltn (v := .ty T) hgy hmy hby rfl hny hdy) pa_nil (se rfl)) (se hst)) (he := se hst) (hpl := spl rfl)) (ha G S0 S H σ E _ fun v S1 H1 g r => ⟨v, .ty T, .type n, .type T, k, rfl, .ty T, rb_ty g.sh r ht, kit_ty hk, q _ S1 H1 g (.bl k)⟩)
theorem boot_bool : bootBuiltins ("bool" : Str) = some (.type "bool") := by decide +kernel
theorem boot_int' : bootBuiltins ("int" : Str) = some (.type "int") := by decide +kernel
theorem boot_tuple' : bootBuiltins ("tuple" : Str) = some (.type "tuple") := by decide +kernel
theorem boot_list' : bootBuiltins ("list" : Str) = some (.type "list") := by decide +kernel
end
end Lay
/-! Lay17: sorted(set(xs)) of a list of whole numbers. -/
namespace Lay
open PySem L2 PySem.Spec PyProof.Rows
/-- an empty set, as it is made -/
abbrev e0 (w : World) : Obj := { cls := .type "set", dict := none, data := .set #[] 0 (.fresh 0 0 (!w.params.followText "set-order")) }
section
variable {P : Program} {w : World} {A : Around} {E : Value → Shared → Prop} {s : Shared}
theorem set_ofL {l : Addr} {its : Array Value} (ns : List Int) {Q : Value → Shared → Prop} (hh : A.handled = none) (hl : s.heap.IsList l its) (hit : IntsAre its.toList ns) (hb : ns.length + 1 < scanBound)
    (h : ∀ (h' : Heap) (tk c : Nat), SetR w h' s.heap.objs.size (fun j => decide (j ∈ ns)) c → c ≤ ns.length → (∀ b o, s.heap.get? b = some o → h'.get? b = some o) → Q (.ref s.heap.objs.size) { s with heap := h', toks := tk }) : wpAny (model P w) A (call (.type "set") [.ref l]) Q E s := by
  have len : its.size = ns.length := by have q := IntsAre.length hit; rwa [Array.length_toList] at q
  obtain ⟨c, tl, hmro⟩ := F.called_set.mro
  have hmade := F.called_set.made; have hsub := F.called_set.sub
  refine wpAny_call (codeAny_of_tree ?_)
  refine wpAny_pure ⟨Code.quiet_builtin _ (by decide +kernel), codeAny_builtin F.entry_type_call (by
    rw [Around.under_plain (weight_type_call_type "set" [.ref l] []) rfl]
    have z1 := F.called_set.notType; have z2 := F.called_set.canCreate; have z3 := F.typeCall_set_1 (.ref l)
    repeat (any_goals (first | assumption | wp_step))
    refine codeAny_mono (code_set_led1 (.ref l) (E := E) (Q₁ := fun u t => u = .ref s.heap.objs.size ∧ t = { s with heap := s.heap.push (e0 w) }) ⟨rfl, rfl⟩) fun r t hr => ?_
    rcases r with e | fl
    · exact hr
    rcases fl with _ | _ | _ | u
    · exact hr.elim
    · exact hr.elim
    · exact hr.elim
    obtain ⟨rfl, rfl⟩ := hr
    have hS : (s.heap.push (e0 w)).get? s.heap.objs.size = some (e0 w) := Heap.get?_push_size _ rfl
    have hT : Shared.TypeIs { s with heap := s.heap.push (e0 w) } (.ref s.heap.objs.size) "set" := ⟨_, hS, rfl⟩
    have y1 := F.called_set.init.lookup; have y2 := F.called_set.init.bind (.ref s.heap.objs.size)
    repeat (any_goals (first | assumption | wp_step))
    refine codeAny_mono (codeAny_call_builtin (R := wants (fun r t => r = .none ∧ ∃ h' tk c, t = { s with heap := h', toks := tk } ∧ SetR w h' s.heap.objs.size (fun j => decide (j ∈ ns)) c ∧ c ≤ ns.length ∧ ∀ b o, s.heap.get? b = some o → h'.get? b = some o) E) F.called_set.init.plain F.entry_set_init (check_set_init_1 hT ?_)) fun r t hr => ?_
    rotate_left
    · rcases r with e | fl
      · exact hr
      · rcases fl with _ | _ | _ | u
        · exact hr.elim
        · exact hr.elim
        · exact hr.elim
        · obtain ⟨rfl, h', tk, c, rfl, x1, x2, x3⟩ := hr
          repeat (any_goals (first | assumption | wp_step))
          exact h _ _ _ x1 x2 x3
    · obtain ⟨⟨oc, od, dt, sl⟩, ol, hc, n, hd⟩ := hl
      simp only at hc hd
      subst hc hd
      have ol' := Heap.get?_push_of_some (e0 w) ol
      have w1 := F.sub_list_set; have w2 := F.sub_list_frozenset
      have w3 : (Value.type "list" == Value.type "dict") = false := by decide
      have isl : (s.heap.push (e0 w)).IsList l its := ⟨_, ol', rfl, n, rfl⟩
      unfold Builtin.«set.__init__» noKeywords Builtin.Frozenset.updateFrom
      generalize gI : pyIter = PI
      wp_walk
      subst gI
      refine wpAny_pyIter_list isl (wpAny_bind (wpAny_runValue ?_))
      have lS : l < s.heap.objs.size := Heap.lt_size ol
      have sz : (s.heap.push (e0 w)).objs.size = s.heap.objs.size + 1 := Heap.size_push ..
      have neI : l ≠ (s.heap.push (e0 w)).objs.size := by rw [sz]; exact Nat.ne_of_lt (Nat.lt_succ_of_lt lS)
      have nf : s.heap.objs.size ∉ [(s.heap.push (e0 w)).objs.size, l] := by rw [sz]; intro z; exact (List.mem_cons.mp z).elim (fun z => absurd z (Nat.ne_of_lt (Nat.lt_succ_self _))) fun z => absurd (List.mem_singleton.mp z) (Nat.ne_of_gt lS)
      refine set_update_ints (P := P) ((Walks.list (show A.in1.in1.in1.handled = none by simp [hh]) _ l neI its).toS) s.heap.objs.size nf ns len hb (fun i v hv => ?_) (its.size - 0) 0 _ (by omega) (Nat.zero_le _) ⟨⟨_, Heap.get?_push_size _ rfl, rfl, rfl⟩, isl.push _⟩ ⟨0, Nat.le_refl 0, setR_new_at (Heap.get?_push_of_some _ hS)⟩ fun t c hm hc hS' => ?_
      · have hi : i < ns.length := by rw [← len]; exact (Array.getElem?_eq_some_iff.mp hv).1
        obtain ⟨tt, e⟩ := IntsAre.int_at hit i v (by rw [Array.getElem?_toList]; exact hv)
        exact ⟨ns[i], tt, List.getElem?_eq_getElem hi, by rw [e, List.getD_eq_getElem?_getD, List.getElem?_eq_getElem hi]; rfl⟩
      · obtain ⟨h', g', d', tk', os'⟩ := t
        obtain rfl : g' = s.gens := hm.gens
        obtain rfl : d' = s.drawn := hm.drawn
        obtain rfl : os' = s.os := hm.os
        rw [len] at hc
        refine wpAny_pure (wpAny_pure ⟨rfl, h', tk', c, rfl, hS', hc, fun b o e => ?_⟩)
        have b0 := Heap.lt_size e
        exact hm.heap b o (by rw [sz]; intro z; exact (List.mem_cons.mp z).elim (fun z => absurd z (Nat.ne_of_lt b0)) fun z => absurd (List.mem_singleton.mp z) (Nat.ne_of_lt (Nat.lt_succ_of_lt b0))) (Heap.get?_push_of_some _ (Heap.get?_push_of_some _ e)))⟩
end
/-- set(xs) of whole numbers -/
def rSetI (K : Fg) (w : World) : List V → Hp → VK → Prop := fun vs H Q => ∃ (l : Addr) (ns : List Int), vs = [.ref l] ∧ SqL K H l (ns.map V.int) ∧ ns.length ≤ 1000 ∧ ∀ a c, H a = none → c ≤ ns.length → Q (.ref a) (upd H a (SetO w a (fun j => decide (j ∈ ns)) c))
section
variable {X : Cx}
theorem cr_setI (hc : X.calm = true) : CallR X (.type "set") (rSetI X.K X.w) := by
  rintro pins s σ H vs us Q I r ⟨l, ns, rfl, hs, hz, q⟩
  obtain ⟨its, rv, hl, _⟩ := I.list hs
  obtain ⟨u, rfl, ru⟩ := vals1 r
  obtain rfl : u = Value.ref l := ru
  refine set_ofL (P := X.prog) ns (I.ok.hd hc) hl.isList (by simpa using ints_of_vals rv) (by unfold scanBound; omega) fun h' tk c R hcn k => ?_
  exact ⟨.ref s.heap.objs.size, _, I.laid (t' := tk) (fun b u e => k b u e) (Nat.le_refl _) (setO_new R), rfl, q _ _ (I.hok.fresh (Nat.le_refl _)) hcn⟩
variable {e : Expr} {ds : List It} {pos : Pos} {A : D}
theorem xl_sortsetI {p p2 pos2 : Pos} {xs ys : List Int} (hc : X.calm = true) (hm : X.mg "sorted" = none) (hm2 : X.mg "set" = none) (ha : XB X e ds A) (hA : A = .lst (xs.map .int)) (hz : xs.length < 64) (hy : ys.Pairwise (· < ·)) (hmem : ∀ x, x ∈ ys ↔ x ∈ xs) (hg : Gl X "sorted" := by rfl) (hg2 : Gl X "set" := by rfl) (hs : isStar e = false := by rfl) :
    XL X (.Call (.Name "sorted" p) [.Call (.Name "set" p2) [e] [] pos2] [] pos) ds (ys.map .int) := .mk fun G S0 S H σ E Q q =>
  we_of (pe_callB (cr_sortedSet hc) hg hm boot_sorted' (pa_cons (pe_callTy (cr_setI hc) hg2 hm2 boot_set' (pa_cons pe_w pa_nil (se hs)) (he := se hs) (hpl := spl rfl)) pa_nil (se rfl)) (he := se rfl) (hpl := spl rfl)) (ha G S0 S H σ E _ fun v S1 H1 g1 r1 => by
    obtain ⟨l, vs, rfl, hl, ra⟩ := (hA ▸ r1).lst g1.sh
    have z := da_ints ra
    subst z
    refine ⟨l, xs, rfl, sq_of hl, by omega, fun a c ha0 hcn => ⟨a, _, c, rfl, upd_same, by omega, fun ns' n pw hmm _ hn => ?_⟩⟩
    have eq : ns' = ys := rise_unique id pw hy fun x => by rw [hmem, hmm, decide_eq_true_eq]
    subst eq
    have g2 : Gr S1 H1 S1 (upd H1 a (SetO X.w a (fun j => decide (j ∈ xs)) c)) := Gr.newH g1.sh ha0
    have g3 := Gr.newH (o := .lst (ns'.map V.int)) g2.sh hn
    have gg := (g1.trans g2).trans g3
    exact q n _ S1 _ gg (g1.h.free (g2.h.free hn)) (g1.sh.free (g2.h.free hn)) upd_same (ints_da ns'))
end
end Lay
/-! Lay18: isinstance of a caught error, with a tuple of classes. -/
namespace Lay
open PySem L2 PyProof.Rows
def rIsXT (K : Fg) (C : Addr) : List V → Hp → VK → Prop := fun xs H Q => ∃ (a tp : Addr) (cs : List V) (us : List Value) (b : Bool), xs = [.ref a, .ref tp] ∧ H a = some (ExT C a) ∧ H tp = some (.tup cs) ∧ Paired ClsV cs us ∧ PySem.W.kitAny K (.ref C) us = some b ∧ Q (.bl b) H
section
variable {X : Cx} {e : Expr} {ds : List It} {pos : Pos}
theorem call_isXT {C : Addr} (h : EI X.K C) : CallR X (.builtin "isinstance") (rIsXT X.K C) := by
  rintro pins s σ H xs us Q I r ⟨a, tp, cs, ws, k, rfl, ha, hT, hc, hk, q⟩
  obtain ⟨u1, u2, rfl, r1, r2⟩ := vals2 r
  obtain rfl : u1 = Value.ref a := r1
  obtain rfl : u2 = Value.ref tp := r2
  obtain ⟨⟨oe, vs, g1, ⟨g2, g3⟩, g4⟩, _⟩ : ObjOk X.prog X.w H s.heap a (ExT C a) := I.hok a _ ha
  have J : PySem.W.InstAt s.heap a oe C none := by
    cases oe
    dsimp only at g2 g3 g4
    subst g2 g3 g4
    exact ⟨g1, rfl, rfl, trivial⟩
  obtain ⟨_, its, rv, ⟨oc, od, dt, sl⟩, z1, z2, n, z3⟩ := (show ObjOk X.prog X.w H s.heap tp (.tup cs) from I.hok tp _ hT)
  have e3 := ClsV.all hc rv
  subst e3
  simp only at z2 z3
  subst z2 z3
  exact PySem.W.kia_tup (PySem.W.handS_kitx_exc h.ex.hg h.ex.hk h.ex.hs h.ex.hd h.ex.ha h.ex.hn h.ex.ht h.ex.hm) I.kIn J z1 hk (fun z => nomatch z) fun tk => ⟨.bl k, H, I.tok tk, rfl, q⟩
/-- isinstance(x, (Y1, .., Y4)), x an exception of the class at C -/
theorem xv_isX4 {p p1 p2 p3 p4 p5 : Pos} {x1} {y1 y2 y3 y4 : Str} {C C1 C2 C3 C4 : Addr} {k : Bool} (hm : X.mg "isinstance" = none) (h : EI X.K C) (m1 : X.mg y1 = some (.ref C1)) (m2 : X.mg y2 = some (.ref C2)) (m3 : X.mg y3 = some (.ref C3)) (m4 : X.mg y4 = some (.ref C4))
    (hk : PySem.W.kitAny X.K (.ref C) [.ref C1, .ref C2, .ref C3, .ref C4] = some k) (ha : XB X e ds (.exc C)) (hg : Gl X "isinstance" := by rfl) (g1 : Gl X y1 := by rfl) (g2 : Gl X y2 := by rfl) (g3 : Gl X y3 := by rfl) (g4 : Gl X y4 := by rfl)
    (d1 : (y1 == ("__debug__" : Str)) = false := by decide) (d2 : (y2 == ("__debug__" : Str)) = false := by decide) (d3 : (y3 == ("__debug__" : Str)) = false := by decide) (d4 : (y4 == ("__debug__" : Str)) = false := by decide) (hst : isStar e = false := by rfl) :
    XV X (.Call (.Name "isinstance" p) [e, .Tuple [.Name y1 p1, .Name y2 p2, .Name y3 p3, .Name y4 p4] x1 p5] [] pos) ds (.bl k) := .mk fun G S0 S H σ E Q q =>
  we_of (pe_callB (call_isXT h) hg hm boot_isinstance' (pa_cons pe_w (pa_cons (pe_tup (pa_cons (pe_glob (v := .ref C1) g1 m1 rfl d1) (pa_cons (pe_glob (v := .ref C2) g2 m2 rfl d2) (pa_cons (pe_glob (v := .ref C3) g3 m3 rfl d3) (pa_cons (pe_glob (v := .ref C4) g4 m4 rfl d4) pa_nil (se rfl)) (se rfl)) (se rfl)) (se rfl))) pa_nil (se rfl)) (se hst)) (he := se hst) (hpl := spl rfl)) (ha G S0 S H σ E _ fun v S1 H1 g r => by
    rcases r with r | ⟨_, _, _, _, z, _⟩
    · cases r with
      | @exc a _ ha =>
        refine ⟨sz _ (Nat.le_of_ble_eq_true rfl), fun t ht => ?_⟩
        have gg := g.trans (Gr.new (o := .tup [.ref C1, .ref C2, .ref C3, .ref C4]) g.sh ht)
        exact ⟨a, t, _, _, k, rfl, by rw [upd_ne (ne_of_none (g.sh _ _ ha) ht)]; exact g.sh _ _ ha, upd_same, .cons (.own C1) (.cons (.own C2) (.cons (.own C3) (.cons (.own C4) .nil))), hk, q _ _ _ gg (.bl k)⟩
    · cases z)
end
theorem kit_no4 {K : Fg} {mg : Str → Option Value} {cE : Addr} {cls : Fin 5 → Addr} (E : E5 K mg cE cls) {i a b c d : Fin 5} (h : (i ≠ a ∧ i ≠ b) ∧ i ≠ c ∧ i ≠ d) : PySem.W.kitAny K (.ref (cls i)) [.ref (cls a), .ref (cls b), .ref (cls c), .ref (cls d)] = some false := by
  have one : ∀ j, i ≠ j → PySem.W.kitOne K (.ref (cls i)) (.ref (cls j)) = some false := fun j z => kit_ref (E.ei i) (E.ei j) (by rw [E.sub, decide_eq_false z])
  exact kitAny_cons (one a h.1.1) (fun _ => kitAny_cons (one b h.1.2) (fun _ => kitAny_cons (one c h.2.1) (fun _ => kitAny_cons (one d h.2.2) (fun _ => kitAny_nil) (fun z => by cases z)) (fun z => by cases z)) (fun z => by cases z)) (fun z => by cases z)
end Lay
/-! Lay19: for over a list that an own object's field holds. -/
namespace Lay
open PySem L2
inductive FrP (X : Cx) (W : WX) (tg : Expr) (body : List Stmt) (Pin : List It → Prop) : List D → List It → Ou → Prop where
  | nil {ds ds' : List It} : Pin ds → Le ds ds' → FrP X W tg body Pin [] ds (.nx ds')
  | step {d : D} {xs : List D} {ds ds1 a b : List It} {o o' : Ou} : Pin ds → XG X tg d ds ds1 → XSs X W body ds1 o' → turns o' = some a → Le a b → FrP X W tg body Pin xs b o → FrP X W tg body Pin (d :: xs) ds o
def PinAt (i k : Nat) (C : Addr) (f : Str) (q : Addr) (xs : List D) (FN : List Str) (ds : List It) : Prop := ∃ (oa : Option Addr) (fs : List (Str × FI)), ds[i]? = some (.ob C oa fs) ∧ fs[k]? = some (f, .ow (some q) xs) ∧ fs.map (·.1) = FN
theorem FrP.pin {X : Cx} {W : WX} {tg : Expr} {body : List Stmt} {Pin : List It → Prop} {xs : List D} {ds : List It} {o : Ou} (h : FrP X W tg body Pin xs ds o) : Pin ds := by
  cases h with
  | nil h _ => exact h
  | step h _ _ _ _ _ => exact h
theorem upd_as {H : Hp} {a : Addr} {o : HO} (h : H a = some o) : upd H a o = H := by
  funext b
  by_cases z : b = a
  · subst z; rw [upd_same, h]
  · rw [upd_ne z]
section
variable {X : Cx} {W : WX} {tg : Expr} {body : List Stmt} {ds : List It} {pos px pp : Pos} {x f : Str} {C : Addr} {oa ob : Option Addr} {fs : List (Str × FI)} {xs : List D} {o : Ou}
theorem xs_forF (i k : Nat) (hp : PassesOwn (model X.prog X.w) X.A X.env X.xe) (hc : X.calm = true) (c : Cls X.K C) (n : NoAttr X.K C f) {FN : List Str} (nd : FN.Nodup) (hf : ∀ q : Addr, FrP X W tg body (PinAt i k C f q xs FN) xs (ds.set i (.ob C oa (fs.set k (f, .ow (some q) xs)))) o)
    (hd : ds[i]? = some (.ob C oa fs) := by rfl) (hk : fs[k]? = some (f, .ow ob xs) := by rfl) (hn : fs.map (·.1) = FN := by rfl) (hN : X.N[i]? = some x := by rfl) (hv : Vis X.env.scope x := by first | exact Or.inl rfl | exact Or.inr (Or.inl rfl) | exact Or.inr (Or.inr rfl))
    (h1 : (x == ("__debug__" : Str)) = false := by decide) (h2 : (x == ("__classdict__" : Str)) = false := by decide) (hb : attributeBase (.Name x px) f X.env (eval (.Name x px) X.env) = eval (.Name x px) X.env := by rfl)
    (hs : ∀ y, foldedSetIterable (.Attribute (.Name x px) f pp) X.env y = pure y := by intro _; rfl) : XS X W (.For tg (.Attribute (.Name x px) f pp) body [] pos) ds o := .mk fun G S0 S H σ E Z q => by
  refine ws_of (ps_for hp hc (pi_list (pe_fld (pe_var (i := i) hN hv h1 h2) hb)) pg_w pss_w hs) ?_
  obtain ⟨p, dx, fv, a, vs, hσ, hpo, hl, _, ha, ra, _, mt⟩ := E.fldo hd (look_at (hn ▸ nd) hk)
  have E0 := mt vs xs (some a) ra (fun b z => by cases z; rfl)
  rw [upd_as ha, putI_at (hn ▸ nd) hk] at E0
  have hf := hf a
  refine ⟨.ref p, hσ, p, C, dx, fv, _, rfl, hpo, c, n, hl, a, rfl, ⟨vs, sq_of ha⟩, ?_⟩
  refine ⟨fun j m σ H => m = xs.length - j ∧ j ≤ xs.length ∧ ∃ S ds', Env X.K G S0 S H σ ds' ∧ FrP X W tg body (PinAt i k C f a xs FN) (xs.drop j) ds' o, ⟨xs.length, by simp, Nat.zero_le _, S, _, E0, hf⟩, ?_⟩
  rintro j m σ2 H2 ⟨rfl, hj, S2, ds2, E2, F⟩
  obtain ⟨oa2, fs2, d1, d2, d3⟩ := F.pin
  obtain ⟨p2, dx2, fv2, a2, vs2, _, _, _, hz2, ha2, ra2, _, _⟩ := E2.fldo d1 (look_at (d3 ▸ nd) d2)
  have e2 := hz2 a rfl
  subst e2
  have sq : SqL X.K H2 a2 vs2 := sq_of ha2
  by_cases hlt : j < xs.length
  · rw [List.drop_eq_getElem_cons hlt] at F
    obtain ⟨v, hv2, rv⟩ := da_get ra2 (List.getElem?_eq_getElem hlt)
    refine .inr ⟨⟨vs2, v, sq, hv2⟩, fun σ' H' => ∃ S ds', Env X.K G S0 S H' σ' ds' ∧ FrP X W tg body (PinAt i k C f a2 xs FN) (xs.drop (j + 1)) ds' o, fun σ' H' ⟨S', ds', h2, h3⟩ => ⟨xs.length - (j + 1), by omega, rfl, hlt, S', ds', h2, h3⟩, fun y H3 hy => ?_⟩
    obtain ⟨e, hy⟩ := hy
    subst e
    have z := hy vs2 sq
    rw [hv2] at z
    cases z
    cases F with
    | @step _ _ _ ds3 a b _ o' hpn hg hb ht hl F =>
      refine hg G S0 S2 _ σ2 _ E2 rv _ fun σ' E' => hb G S2 S2 _ σ' E'.rebase _ ?_
      cases o' with
      | nx z => cases ht; exact fun σ'' S'' H'' E'' => ⟨S'', b, hl _ _ _ _ _ _ (E''.base E2.s0 E2.gs), F⟩
      | ct z => cases ht; exact fun σ'' S'' H'' E'' => ⟨S'', b, hl _ _ _ _ _ _ (E''.base E2.s0 E2.gs), F⟩
      | _ => cases ht
  · have e : j = xs.length := by omega
    subst e
    rw [List.drop_length] at F
    cases F with
    | nil _ hL => exact .inl ⟨⟨vs2, sq, by rw [da_len ra2]; exact Nat.le_refl _⟩, q σ2 S2 H2 (hL _ _ _ _ _ _ E2)⟩
end
/-- the list's address is forgotten -/
theorem Le.unpin {ds : List It} {C : Addr} {oa : Option Addr} {fs : List (Str × FI)} {f : Str} {ob : Option Addr} {xs : List D} (i k : Nat) {FN : List Str} (nd : FN.Nodup) (hd : ds[i]? = some (.ob C oa fs) := by rfl) (hk : fs[k]? = some (f, .ow ob xs) := by rfl) (hn : fs.map (·.1) = FN := by rfl) : Le ds (ds.set i (.ob C oa (fs.set k (f, .ow none xs)))) := .mk fun K G S0 S H σ E => by
  obtain ⟨p, dx, fv, a, vs, hσ, hpo, hl, _, ha, ra, _, mt⟩ := E.fldo hd (look_at (hn ▸ nd) hk)
  have E0 := mt vs xs none ra (fun b z => by cases z)
  rw [upd_as ha, putI_at (hn ▸ nd) hk] at E0
  exact E0
section
variable {X : Cx} {ds : List It} {c a b : Expr} {d : D} {pos : Pos}
theorem xv_ifN (hc : XT X c ds false) (hb : XV X b ds d) : XV X (.IfExp c a b pos) ds d := xv_if hc (fun h => nomatch h) fun _ => hb
theorem xv_ifY (hc : XT X c ds true) (ha : XV X a ds d) : XV X (.IfExp c a b pos) ds d := xv_if hc (fun _ => ha) fun h => nomatch h
end
theorem blk_in {N : List Str} {sc sc' scope : Scope} {own : List (Str × Nat)} (e : sc = sc') (h : blkC N sc' scope own = true) : blkC N sc scope own = true := e ▸ h
end Lay
/-! Lay20: tuple * int. -/
namespace Lay
open PySem L2 PySem.Spec PyProof.Rows
/-- once the tuple: the tuple itself -/
theorem tuple_mul_one (l : Addr) (its : Array Value) (n : Nat) (dd : Option Addr) (sl : Array (Option Value)) (u : Tok) :
    Meets (Builtin.«tuple.__mul__» ⟨[.ref l, .int 1 u], []⟩) (fun _ R s => s.heap.get? l = some { cls := .type "tuple", dict := dd, data := .seq its n, slots := sl } ∧ R (.ok (.ret (Value.ref l))) s) :=
  .of_wp fun prog w A R s h => by
    obtain ⟨hp, g, d, tk, os⟩ := s
    obtain ⟨hl, h⟩ := h
    have f1 := AutoSeq1.idx_int
    have c0 : (decide ((1 : Int) < -(2 ^ 63)) || decide ((1 : Int) ≥ 2 ^ 63)) = false := by decide
    have c1 : (its.isEmpty || (1 : Int) == 1) = true := by rw [Bool.or_eq_true]; exact .inr rfl
    wp_walk using wpAny_loadPart' hl
    repeat (first
      | (refine wpAny_ite_false (decide_eq_false (by rw [c0]; exact Bool.false_ne_true)) ?_; wp_walk using wpAny_loadPart' hl)
      | (refine wpAny_ite_true (decide_eq_true c1) ?_; wp_walk using wpAny_loadPart' hl))
    exact ⟨_, rfl, h⟩
def rRepOne (K : PySem.W.Frag) : R2 := fun x y H Q => ∃ l xs, x = .ref l ∧ y = .int 1 ∧ SqT K H l xs ∧ Q (.ref l) H
section
variable {X : Cx} {a b : Expr} {ds : List It} {pos : Pos}
theorem op_repOne : OpR X (binaryOp .Mult) (rRepOne X.K) := by
  rintro pins s σ H x y v u Q I rx ry ⟨l, xs, rfl, rfl, hT, q⟩
  cases rx
  obtain ⟨t, rfl⟩ := ry
  obtain ⟨its, r, ⟨⟨cls, dd, data, sl⟩, ho, hc, n, hd⟩, hs⟩ := I.tuple hT
  simp only at hc hd
  subst hc hd
  exact wpAny_binaryOp_repeat_ref (T := "tuple") (U := "int") (by decide) ⟨_, ho, rfl⟩ (fun s' => typeIs_int s' 1 t) noFill_tuple_mul F.fills_int_mul F.slot_int_rmul repeat_tuple F.slot_int_index.lookup (call_meets F.slot_int_rmul (typeIs_int s 1 t) F.entry_int_rmul (F.args_int_rmul_2 _ _) (int_rmul_tuple 1 t l its.toArray n dd sl) ⟨ho, rfl, ⟨_, ho, rfl⟩, call_meets F.slot_tuple_mul ⟨_, ho, rfl⟩ F.entry_tuple_mul (F.args_tuple_mul_2 _ _) (tuple_mul_one l its.toArray n dd sl t) ⟨ho, ⟨.ref l, H, I, rfl, q⟩⟩⟩)
/-- t * n of a tuple -/
theorem xv_repT {xs : List D} {j : Int} (ha : XB X a ds (.tup xs)) (hb : XB X b ds (.int j)) (hne : xs ≠ []) (h1 : 1 ≤ j) (h2 : j ≤ 1000) (hz : xs.length ≤ 1000) : XV X (.BinOp a .Mult b pos) ds (.tup (List.replicate j.toNat xs).flatten) := by
  by_cases e : j = 1
  · subst e
    have q : (List.replicate (1 : Int).toNat xs).flatten = xs := by show [xs].flatten = xs; simp
    rw [q]
    exact xv_bin op_repOne ha hb fun S H x y Q k r1 r2 q => by
      obtain ⟨p, vs, rfl, hp, ra⟩ := r1.tup
      exact ⟨p, vs, rfl, r2.int, st_of (k _ _ hp), q _ S H (.refl k) (.tup hp ra)⟩
  · exact xv_bin op_repT ha hb fun S H x y Q k r1 r2 q => by
      obtain ⟨p, vs, rfl, hp, ra⟩ := r1.tup
      exact ⟨p, j, vs, rfl, r2.int, st_of (k _ _ hp), fun z => hne (by rw [z] at ra; cases ra; rfl), by omega, h2, by rw [da_len ra]; exact hz, fun n hn => q _ _ _ (Gr.new k hn) (.tup upd_same (da_same (same_new (k.free hn)) (da_rep ra _)))⟩
end
end Lay
/-! Lay21: t + u of tuples, the first perhaps without items. -/
namespace Lay
open PySem L2
section
variable {X : Cx} {a b : Expr} {ds : List It} {pos : Pos} {xs ys : List D}
theorem xv_catA (ha : XB X a ds (.tup xs)) (hb : XB X b ds (.tup ys)) (hz : xs.length + ys.length ≤ 100000) : XV X (.BinOp a .Add b pos) ds (.tup (xs ++ ys)) :=
  xv_bin op_catA ha hb fun S H x y Q k r1 r2 q => by
    obtain ⟨p, vs, rfl, hp, ra⟩ := r1.tup
    obtain ⟨p', vs', rfl, hp', rb⟩ := r2.tup
    refine ⟨p, p', vs, vs', rfl, rfl, st_of (k _ _ hp), st_of (k _ _ hp'), sz _ (by rw [da_len ra, da_len rb]; exact hz), fun h0 => ?_, fun _ h0 => ?_, fun _ _ n hn => q _ _ _ (Gr.new k hn) (.tup upd_same (da_same (same_new (k.free hn)) (da_append ra rb)))⟩
    · rw [h0] at ra
      cases ra
      exact q _ S H (.refl k) (.tup hp' rb)
    · rw [h0] at rb
      cases rb
      rw [List.append_nil] at q
      exact q _ S H (.refl k) (.tup hp ra)
variable {e : Expr}
theorem xv_tupT {p : Pos} (hm : X.mg "tuple" = none) (ha : XB X e ds (.tup xs)) (hg : Gl X "tuple" := by rfl) (hs : starEach [e] X.env = (false, eval e X.env) :: starEach [] X.env := by exact se rfl) (hpl : (backTo pos (starEach [] X.env)).any (·.1) = false := by exact spl rfl) : XV X (.Call (.Name "tuple" p) [e] [] pos) ds (.tup xs) :=
  xv_callTy call_tupleT hm boot_tuple (xab_cons ha xab_nil hs) (fun S H vs Q k r q => by
    obtain ⟨v, rfl, r1⟩ := rba1 r
    obtain ⟨p, vs, rfl, h1, h2⟩ := r1.tup
    exact ⟨p, vs, rfl, st_of (k _ _ h1), q _ S H (.refl k) (.tup h1 h2)⟩) hg (he := hs) (hpl := hpl)
end
end Lay
set_option autoImplicit true
namespace Prog
open PySem L2 Lay

def top (i : Nat) : Stmt := PySem.Challenge.pw_pursehall_k40_whole_lines_settled.main.body.getD i (.Pass ⟨0, 0, 0, 0⟩)

/-! the law's own draws -/
def cell (s : List Int) (k : Int) : Int := if s.isEmpty then 0 else s.getD (k % s.length).toNat 0
@[irreducible] def mix (s : List Int) (k : Int) : Int :=
  let n := (cell s k + 104729 * (k + 1)) % 4294967291
  let n := n * 48271 % 4294967279
  (n / 64 * 69621 + n) % 4294967231
theorem mix_nonneg (s : List Int) (k : Int) : 0 ≤ mix s k := by unfold mix; exact Int.emod_nonneg _ (by decide)
theorem mix_lt (s : List Int) (k : Int) : mix s k < 4294967231 := by unfold mix; exact Int.emod_lt_of_pos _ (by decide)

/-! machines, as the document has them -/
abbrev Deed := Int × Int × Int × Int
def dl (d : Deed) : List Int := [d.1, d.2.1, d.2.2.1, d.2.2.2]
def eDeed (d : Deed) : D := .tup ((dl d).map .int)
def eMach (p k : Int) (ds : List Deed) : D := .tup [.int p, .int k, .lst (ds.map eDeed)]
def deedOk (p kn : Int) (d : Deed) : Bool := decide (0 ≤ d.1) && decide (d.1 < p) && (decide (0 ≤ d.2.2.1) && decide (d.2.2.1 < p)) && (decide (0 ≤ d.2.1) && decide (d.2.1 < kn)) && (decide (0 ≤ d.2.2.2) && decide (d.2.2.2 ≤ 1000))
def dlt (c d : Deed) : Bool := HT.lexLt (dl c) (dl d)
def prevOk : Option Deed → Deed → Bool
  | none, _ => true
  | some c, d => dlt c d
def look (p kn : Int) : Option Deed → List Deed → Bool
  | _, [] => true
  | prev, d :: ds => deedOk p kn d && prevOk prev d && look p kn (some d) ds
def goodM (p kn : Int) (ds : List Deed) : Bool := decide (1 ≤ p) && decide (p ≤ 200) && (decide (1 ≤ kn) && decide (kn ≤ 8)) && decide (ds.length ≤ 600) && look p kn none ds
def dAt (ds : List Deed) (n : Int) : Deed := ds.getD n.toNat (0, 0, 0, 0)
theorem ix_deed {ds : List Deed} {n : Int} (h0 : 0 ≤ n) (h1 : n < ds.length) : ixD (.lst (ds.map eDeed)) n = some (eDeed (dAt ds n)) := ix_map (atI_d _ h0 h1)
theorem in_of {n : Int} {m : Nat} (h : (!(cmpI .LtE 0 n && cmpI .Lt n (m : Int))) = false) : 0 ≤ n ∧ n < m := by simpa [cmpI] using h
theorem ix_deedC {ds : List Deed} {n : Int} (h : (!(cmpI .LtE 0 n && cmpI .Lt n (((ds.map eDeed).length : Nat) : Int))) = false) : ixD (.lst (ds.map eDeed)) n = some (eDeed (dAt ds n)) := by
  obtain ⟨h0, h1⟩ := in_of h
  rw [List.length_map] at h1
  exact ix_deed h0 h1
theorem ix_lastM {α : Type} {f : α → D} {xs : List α} {x : α} (h : xs.getLast? = some x) : ixD (.lst (xs.map f)) (-1) = some (f x) := by
  refine ix_map ?_
  have hn : xs ≠ [] := by intro z; rw [z] at h; cases h
  rw [atI_lastD hn, ← List.getLast?_eq_some_getLast hn, h]
/-- a deed done at a place: where it leads -/
def step (ds : List Deed) (here n : Int) : Option Int := if 0 ≤ n ∧ n < ds.length ∧ (dAt ds n).1 = here then some (dAt ds n).2.2.1 else none
/-- the places that a row comes to, behind here -/
def goneL (ds : List Deed) : Int → List Int → Option (List Int)
  | _, [] => some []
  | here, n :: r => match step ds here n with
    | none => none
    | some h => (goneL ds h r).map (h :: ·)
theorem goneL_len (ds : List Deed) : ∀ (row : List Int) (here : Int) (l : List Int), goneL ds here row = some l → l.length = row.length
  | [], here, l, h => by cases h; rfl
  | n :: r, here, l, h => by
    unfold goneL at h
    split at h
    · cases h
    · rename_i h2 hs
      cases e : goneL ds h2 r with
      | none => rw [e] at h; cases h
      | some l2 => rw [e] at h; cases h; simp [goneL_len ds r h2 l2 e]
theorem goneL_some {ds : List Deed} {here n h : Int} {r : List Int} (e : step ds here n = some h) : goneL ds here (n :: r) = (goneL ds h r).map (h :: ·) := by
  conv => lhs; unfold goneL
  rw [e]
theorem goneL_none {ds : List Deed} {here n : Int} {r : List Int} (e : step ds here n = none) : goneL ds here (n :: r) = none := by
  conv => lhs; unfold goneL
  rw [e]
theorem step_to {ds : List Deed} {here n h : Int} (e : step ds here n = some h) : h = (dAt ds n).2.2.1 := by
  unfold step at e
  split at e
  · cases e; rfl
  · cases e
/-- what the deeds of a row cost -/
def costL (ds : List Deed) (row : List Int) : Int := (row.map fun n => (dAt ds n).2.2.2).sum
theorem goneL_in {ds : List Deed} : ∀ (row : List Int) (here : Int) (l : List Int), goneL ds here row = some l → ∀ n ∈ row, 0 ≤ n ∧ n < ds.length
  | [], here, l, _, n, hn => by cases hn
  | n :: r, here, l, h, m, hm => by
    cases e : step ds here n with
    | none => rw [goneL_none e] at h; cases h
    | some h2 =>
      rw [goneL_some e] at h
      have hin : 0 ≤ n ∧ n < ds.length := by
        unfold step at e
        split at e
        · omega
        · cases e
      rcases List.mem_cons.mp hm with rfl | hm
      · exact hin
      · cases e3 : goneL ds h2 r with
        | none => rw [e3] at h; cases h
        | some l2 => exact goneL_in r h2 l2 e3 m hm
theorem look_mem {p kn : Int} : ∀ (ds : List Deed) (prev : Option Deed), look p kn prev ds = true → ∀ d ∈ ds, deedOk p kn d = true
  | [], _, _, d, h => by cases h
  | c :: ds, prev, e, d, h => by
    unfold look at e
    rw [Bool.and_eq_true, Bool.and_eq_true] at e
    rcases List.mem_cons.mp h with rfl | h
    · exact e.1.1
    · exact look_mem ds _ e.2 d h
theorem goodM_d {p kn : Int} {ds : List Deed} (h : goodM p kn ds = true) : (1 ≤ p ∧ p ≤ 200) ∧ (1 ≤ kn ∧ kn ≤ 8) ∧ ds.length ≤ 600 ∧ ∀ d ∈ ds, (0 ≤ d.1 ∧ d.1 < p) ∧ (0 ≤ d.2.2.1 ∧ d.2.2.1 < p) ∧ (0 ≤ d.2.1 ∧ d.2.1 < kn) ∧ 0 ≤ d.2.2.2 ∧ d.2.2.2 ≤ 1000 := by
  unfold goodM at h
  simp only [Bool.and_eq_true, decide_eq_true_eq] at h
  obtain ⟨⟨⟨h1, h2⟩, h3⟩, h4⟩ := h
  refine ⟨h1, h2, h3, fun d hd => ?_⟩
  have q := look_mem ds none h4 d hd
  unfold deedOk at q
  simp only [Bool.and_eq_true, decide_eq_true_eq] at q
  obtain ⟨⟨⟨q1, q2⟩, q3⟩, q4⟩ := q
  exact ⟨q1, q2, q3, q4⟩
theorem dAt_mem {ds : List Deed} {n : Int} (h0 : 0 ≤ n) (h1 : n < ds.length) : dAt ds n ∈ ds := by
  unfold dAt
  rw [List.getD_eq_getElem?_getD, List.getElem?_eq_getElem (by omega)]
  exact List.getElem_mem _
theorem goneL_cons {ds : List Deed} {here n : Int} {r : List Int} {l : List Int} (h : goneL ds here (n :: r) = some l) : (0 ≤ n ∧ n < ds.length ∧ (dAt ds n).1 = here) ∧ ∃ l2, goneL ds (dAt ds n).2.2.1 r = some l2 ∧ l = (dAt ds n).2.2.1 :: l2 := by
  cases e : step ds here n with
  | none => rw [goneL_none e] at h; cases h
  | some h2 =>
    rw [goneL_some e] at h
    have e2 := step_to e
    subst e2
    refine ⟨?_, ?_⟩
    · unfold step at e
      split at e
      · assumption
      · cases e
    · cases e3 : goneL ds (dAt ds n).2.2.1 r with
      | none => rw [e3] at h; cases h
      | some l2 => rw [e3] at h; cases h; exact ⟨l2, rfl, rfl⟩
theorem step_at {ds : List Deed} {here n : Int} (h0 : 0 ≤ n) (h1 : n < ds.length) (h : (dAt ds n).1 = here) : step ds here n = some (dAt ds n).2.2.1 := by
  unfold step
  rw [if_pos ⟨h0, h1, h⟩]

/-! the law's drawn machines -/
def cd (d : Deed) : Int := TS.code 1024 (dl d)
def dins (d : Deed) : List Deed → List Deed
  | [] => [d]
  | x :: xs => if cd d < cd x then d :: x :: xs else if cd d = cd x then x :: xs else x :: dins d xs
/-- sorted, each once -/
def dsort : List Deed → List Deed
  | [] => []
  | d :: ds => dins d (dsort ds)
def BdD (d : Deed) : Prop := TS.Bd 1024 (dl d)
theorem dl_inj {c d : Deed} (h : dl c = dl d) : c = d := by
  obtain ⟨a, b, c', e⟩ := c
  obtain ⟨a2, b2, c2, e2⟩ := d
  simp only [dl, List.cons.injEq] at h
  obtain ⟨h1, h2, h3, h4, _⟩ := h
  rw [h1, h2, h3, h4]
theorem cd_inj {c d : Deed} (hc : BdD c) (hd : BdD d) (h : cd c = cd d) : c = d := dl_inj (code_inj hc hd rfl h)
theorem dins_mem {d : Deed} (hd : BdD d) : ∀ {xs : List Deed}, (∀ x ∈ xs, BdD x) → ∀ y, y ∈ dins d xs ↔ y = d ∨ y ∈ xs
  | [], _, y => by simp [dins]
  | x :: xs, h, y => by
    have ih := dins_mem hd (xs := xs) (fun z hz => h z (List.mem_cons_of_mem _ hz)) y
    unfold dins
    split
    · simp
    · split
      · rename_i h1 h2
        have e := cd_inj hd (h x List.mem_cons_self) h2
        subst e
        simp
      · simp only [List.mem_cons, ih]
        constructor
        · rintro (h | h | h) <;> simp [h]
        · rintro (h | h | h) <;> simp [h]
theorem dins_rise {d : Deed} : ∀ {xs : List Deed}, xs.Pairwise (fun a b => cd a < cd b) → (dins d xs).Pairwise (fun a b => cd a < cd b) ∧ ∀ y ∈ dins d xs, y = d ∨ y ∈ xs
  | [], _ => by simp [dins]
  | x :: xs, h => by
    rw [List.pairwise_cons] at h
    obtain ⟨ih1, ih2⟩ := dins_rise (d := d) h.2
    unfold dins
    split
    · rename_i h1
      refine ⟨?_, fun y hy => by simpa using hy⟩
      rw [List.pairwise_cons, List.pairwise_cons]
      refine ⟨fun y hy => ?_, h.1, h.2⟩
      rcases List.mem_cons.mp hy with rfl | hy
      · exact h1
      · have := h.1 y hy; omega
    · split
      · refine ⟨by rw [List.pairwise_cons]; exact ⟨h.1, h.2⟩, fun y hy => .inr hy⟩
      · rename_i h1 h2
        refine ⟨?_, fun y hy => ?_⟩
        · rw [List.pairwise_cons]
          refine ⟨fun y hy => ?_, ih1⟩
          rcases ih2 y hy with rfl | hy
          · omega
          · exact h.1 y hy
        · rcases List.mem_cons.mp hy with rfl | hy
          · exact .inr List.mem_cons_self
          · rcases ih2 y hy with z | z
            · exact .inl z
            · exact .inr (List.mem_cons_of_mem _ z)
theorem dsort_rise : ∀ (ds : List Deed), (dsort ds).Pairwise (fun a b => cd a < cd b)
  | [] => .nil
  | d :: ds => (dins_rise (dsort_rise ds)).1
theorem dsort_mem : ∀ {ds : List Deed}, (∀ d ∈ ds, BdD d) → ∀ y, y ∈ dsort ds ↔ y ∈ ds
  | [], _, y => by simp [dsort]
  | d :: ds, h, y => by
    have ih := dsort_mem (ds := ds) fun z hz => h z (List.mem_cons_of_mem _ hz)
    unfold dsort
    rw [dins_mem (h d List.mem_cons_self) (fun x hx => h x (List.mem_cons_of_mem _ ((ih x).mp hx))) y, ih y, List.mem_cons]
theorem dins_len {d : Deed} : ∀ (xs : List Deed), (dins d xs).length ≤ xs.length + 1
  | [] => by simp [dins]
  | x :: xs => by
    have := dins_len (d := d) xs
    unfold dins
    split
    · simp
    · split <;> simp <;> omega
theorem dsort_len : ∀ (ds : List Deed), (dsort ds).length ≤ ds.length
  | [] => by simp [dsort]
  | d :: ds => by
    have := dsort_len ds
    have := dins_len (d := d) (dsort ds)
    simp only [dsort, List.length_cons]; omega
/-- code and the tuples' own order -/
theorem lex_code {B : Int} : ∀ {ns ms : List Int}, TS.Bd B ns → TS.Bd B ms → ns.length = ms.length → (HT.lexLt ns ms = true ↔ TS.code B ns < TS.code B ms)
  | [], [], _, _, _ => by simp [HT.lexLt, TS.code]
  | [], _ :: _, _, _, h => by cases h
  | _ :: _, [], _, _, h => by cases h
  | d :: r, d' :: r', h, h', hl => by
    have hl' : r.length = r'.length := by simpa using hl
    obtain ⟨a1, a2⟩ := code_bd h.tail
    obtain ⟨b1, b2⟩ := code_bd h'.tail
    have ih := lex_code h.tail h'.tail hl'
    simp only [TS.code, HT.lexLt]
    rw [← hl'] at b2 ⊢
    have hp : 0 < B ^ r.length := Int.pow_pos (by have := h.head; omega)
    rcases Int.lt_trichotomy d d' with z | z | z
    · have : (d + 1) * B ^ r.length ≤ d' * B ^ r.length := Int.mul_le_mul_of_nonneg_right (by omega) (Int.le_of_lt hp)
      rw [Int.add_mul] at this
      rw [if_neg (by omega), decide_eq_true z]
      constructor
      · intro _; omega
      · intro _; rfl
    · subst z
      rw [if_pos rfl, ih]
      omega
    · have : (d' + 1) * B ^ r.length ≤ d * B ^ r.length := Int.mul_le_mul_of_nonneg_right (by omega) (Int.le_of_lt hp)
      rw [Int.add_mul] at this
      rw [if_neg (by omega), decide_eq_false (by omega)]
      constructor
      · intro q; cases q
      · intro q; omega
theorem dlt_cd {c d : Deed} (hc : BdD c) (hd : BdD d) : dlt c d = true ↔ cd c < cd d := lex_code hc hd rfl
/-- what look asks, of a list that rises by code -/
theorem look_of {p kn : Int} : ∀ (ds : List Deed) (prev : Option Deed), (∀ d ∈ ds, BdD d ∧ deedOk p kn d = true) → ds.Pairwise (fun a b => cd a < cd b) → (∀ c, prev = some c → BdD c ∧ ∀ d ∈ ds, cd c < cd d) → look p kn prev ds = true
  | [], _, _, _, _ => rfl
  | d :: ds, prev, h, hp, hc => by
    rw [List.pairwise_cons] at hp
    obtain ⟨hb, ho⟩ := h d List.mem_cons_self
    have h1 : prevOk prev d = true := by
      cases prev with
      | none => rfl
      | some c =>
        obtain ⟨c1, c2⟩ := hc c rfl
        exact (dlt_cd c1 hb).mpr (c2 d List.mem_cons_self)
    have h2 := look_of ds (some d) (fun x hx => h x (List.mem_cons_of_mem _ hx)) hp.2 fun c e => by cases e; exact ⟨hb, hp.1⟩
    unfold look
    rw [ho, h1, h2]
    rfl

def mPl (s : List Int) (k most : Int) : Int := 1 + mix s k % most
def mKn (s : List Int) (k : Int) : Int := 1 + mix s (k + 1) % 3
def mCost (n : Int) : Int := ([0, 1, 2, 3, 5, 9, 1, 0] : List Int).getD (n / 4096 % 8).toNat 0
def mDeed (s : List Int) (k most : Int) (j : Int) : Deed :=
  let n := mix s (k + 3 + j)
  (n % mPl s k most, n / 16 % mKn s k, n / 64 % mPl s k most, mCost n)
def mMany (s : List Int) (k most : Int) : Nat := (mix s (k + 2) % (2 * most + 1)).toNat
def mRaw (s : List Int) (k most : Int) : List Deed := (List.range (mMany s k most)).map fun (j : Nat) => mDeed s k most (j : Int)
def mDs (s : List Int) (k most : Int) : List Deed := dsort (mRaw s k most)
theorem mPl_bd {s : List Int} {k most : Int} (h : 1 ≤ most) : 1 ≤ mPl s k most ∧ mPl s k most ≤ most := by
  unfold mPl
  have h1 := Int.emod_nonneg (mix s k) (show most ≠ 0 by omega)
  have h2 := Int.emod_lt_of_pos (mix s k) (show 0 < most by omega)
  omega
theorem mKn_bd (s : List Int) (k : Int) : 1 ≤ mKn s k ∧ mKn s k ≤ 3 := by unfold mKn; omega
theorem mCost_bd (n : Int) : 0 ≤ mCost n ∧ mCost n ≤ 9 := by
  unfold mCost
  have : (n / 4096 % 8).toNat < 8 := by omega
  generalize (n / 4096 % 8).toNat = m at this
  match m, this with
  | 0, _ => decide
  | 1, _ => decide
  | 2, _ => decide
  | 3, _ => decide
  | 4, _ => decide
  | 5, _ => decide
  | 6, _ => decide
  | 7, _ => decide
theorem mMany_bd {s : List Int} {k most : Int} (h : 1 ≤ most) : (mMany s k most : Int) ≤ 2 * most := by
  unfold mMany
  have h1 := Int.emod_nonneg (mix s (k + 2)) (show 2 * most + 1 ≠ 0 by omega)
  have h2 := Int.emod_lt_of_pos (mix s (k + 2)) (show 0 < 2 * most + 1 by omega)
  omega
theorem mDeed_bd {s : List Int} {k most : Int} (h : 1 ≤ most) (h7 : most ≤ 200) (j : Int) : BdD (mDeed s k most j) ∧ deedOk (mPl s k most) (mKn s k) (mDeed s k most j) = true := by
  obtain ⟨p1, p2⟩ := mPl_bd (s := s) (k := k) h
  obtain ⟨k1, k2⟩ := mKn_bd s k
  obtain ⟨c1, c2⟩ := mCost_bd (mix s (k + 3 + j))
  have a1 := Int.emod_nonneg (mix s (k + 3 + j)) (show mPl s k most ≠ 0 by omega)
  have a2 := Int.emod_lt_of_pos (mix s (k + 3 + j)) (show 0 < mPl s k most by omega)
  have b1 := Int.emod_nonneg (mix s (k + 3 + j) / 16) (show mKn s k ≠ 0 by omega)
  have b2 := Int.emod_lt_of_pos (mix s (k + 3 + j) / 16) (show 0 < mKn s k by omega)
  have d1 := Int.emod_nonneg (mix s (k + 3 + j) / 64) (show mPl s k most ≠ 0 by omega)
  have d2 := Int.emod_lt_of_pos (mix s (k + 3 + j) / 64) (show 0 < mPl s k most by omega)
  constructor
  · intro m hm
    simp only [dl, mDeed, List.mem_cons, List.not_mem_nil, or_false] at hm
    rcases hm with rfl | rfl | rfl | rfl <;> omega
  · unfold deedOk
    simp only [mDeed, Bool.and_eq_true, decide_eq_true_eq]
    exact ⟨⟨⟨⟨decide_eq_true a1, decide_eq_true a2⟩, decide_eq_true d1, decide_eq_true d2⟩, decide_eq_true b1, decide_eq_true b2⟩, decide_eq_true c1, decide_eq_true (Int.le_trans c2 (by omega))⟩
theorem mRaw_bd {s : List Int} {k most : Int} (h : 1 ≤ most) (h7 : most ≤ 200) : ∀ d ∈ mRaw s k most, BdD d ∧ deedOk (mPl s k most) (mKn s k) d = true := fun d hd => by
  obtain ⟨j, _, rfl⟩ := List.mem_map.mp hd
  exact mDeed_bd h h7 j
theorem mDs_mem {s : List Int} {k most : Int} (h : 1 ≤ most) (h7 : most ≤ 200) (d : Deed) : d ∈ mDs s k most ↔ d ∈ mRaw s k most := dsort_mem (fun d hd => (mRaw_bd h h7 d hd).1) d
theorem mDs_bd {s : List Int} {k most : Int} (h : 1 ≤ most) (h7 : most ≤ 200) : ∀ d ∈ mDs s k most, BdD d ∧ deedOk (mPl s k most) (mKn s k) d = true := fun d hd => mRaw_bd h h7 d ((mDs_mem h h7 d).mp hd)
theorem mDs_len {s : List Int} {k most : Int} (h : 1 ≤ most) : ((mDs s k most).length : Int) ≤ 2 * most := by
  have h1 := dsort_len (mRaw s k most)
  have h2 := mMany_bd (s := s) (k := k) h
  have h3 : (mRaw s k most).length = mMany s k most := by simp [mRaw]
  unfold mDs
  omega
theorem mDs_rise (s : List Int) (k most : Int) : (mDs s k most).Pairwise (fun a b => cd a < cd b) := dsort_rise _
theorem mDs_good {s : List Int} {k most : Int} (h : 1 ≤ most) (h7 : most ≤ 200) : goodM (mPl s k most) (mKn s k) (mDs s k most) = true := by
  obtain ⟨p1, p2⟩ := mPl_bd (s := s) (k := k) h
  obtain ⟨k1, k2⟩ := mKn_bd s k
  have hl := mDs_len (s := s) (k := k) h
  unfold goodM
  rw [decide_eq_true p1, decide_eq_true (show mPl s k most ≤ 200 by omega), decide_eq_true k1, decide_eq_true (show mKn s k ≤ 8 by omega), decide_eq_true (show (mDs s k most).length ≤ 600 by omega),
    look_of _ none (mDs_bd h h7) (mDs_rise s k most) (fun c e => by cases e)]
  rfl
/-- the deeds that can be done at a place -/
def mSome (ds : List Deed) (here : Int) : List Nat := (List.range ds.length).filter fun (n : Nat) => decide ((dAt ds (n : Int)).1 = here)
def mPick (s : List Int) (k : Int) (ds : List Deed) (here : Int) (j : Nat) : Int := ((mSome ds here).getD (mix s (k + 1 + j) % (mSome ds here).length).toNat 0 : Nat)
def rowStep (s : List Int) (k : Int) (ds : List Deed) (st : List Int × Int) (j : Nat) : List Int × Int :=
  if (mSome ds st.2).isEmpty then st else (st.1 ++ [mPick s k ds st.2 j], (dAt ds (mPick s k ds st.2 j)).2.2.1)
def rowSt (s : List Int) (k : Int) (ds : List Deed) (n : Nat) : List Int × Int := (List.range n).foldl (rowStep s k ds) ([], 0)
def mRow (s : List Int) (k : Int) (ds : List Deed) (most : Int) : List Int := (rowSt s k ds (mix s k % (most + 1)).toNat).1
theorem rowSt_succ (s : List Int) (k : Int) (ds : List Deed) (n : Nat) : rowSt s k ds (n + 1) = rowStep s k ds (rowSt s k ds n) n := by
  unfold rowSt; rw [List.range_succ, List.foldl_append]; rfl
theorem mPick_mem {s : List Int} {k : Int} {ds : List Deed} {here : Int} {j : Nat} (h : (mSome ds here).isEmpty = false) : ∃ n ∈ mSome ds here, mPick s k ds here j = (n : Int) ∧ (mSome ds here)[(mix s (k + 1 + j) % (mSome ds here).length).toNat]? = some n := by
  have hl : 0 < (mSome ds here).length := by
    rw [List.isEmpty_eq_false_iff] at h
    exact List.length_pos_iff.mpr h
  have h1 := Int.emod_nonneg (mix s (k + 1 + j)) (show ((mSome ds here).length : Int) ≠ 0 by omega)
  have h2 := Int.emod_lt_of_pos (mix s (k + 1 + j)) (show (0 : Int) < ((mSome ds here).length : Int) by omega)
  unfold mPick
  generalize he : (mix s (k + 1 + j) % ((mSome ds here).length : Int)).toNat = m
  have hm : m < (mSome ds here).length := by omega
  refine ⟨(mSome ds here)[m], List.getElem_mem hm, ?_, ?_⟩
  · rw [List.getD_eq_getElem?_getD, List.getElem?_eq_getElem hm]; rfl
  · rw [List.getElem?_eq_getElem hm]
theorem mSome_spec {ds : List Deed} {here : Int} {n : Nat} (h : n ∈ mSome ds here) : n < ds.length ∧ (dAt ds n).1 = here := by
  unfold mSome at h
  rw [List.mem_filter, List.mem_range, decide_eq_true_eq] at h
  exact h
theorem step_pick {s : List Int} {k : Int} {ds : List Deed} {here : Int} {j : Nat} (h : (mSome ds here).isEmpty = false) : step ds here (mPick s k ds here j) = some (dAt ds (mPick s k ds here j)).2.2.1 := by
  obtain ⟨n, hn, e, _⟩ := mPick_mem (s := s) (k := k) (j := j) h
  obtain ⟨h1, h2⟩ := mSome_spec hn
  unfold step
  rw [e, if_pos ⟨by omega, by omega, h2⟩]
theorem getLast_snoc {a x : Int} {l : List Int} (h : a :: (l ++ [x]) ≠ []) : (a :: (l ++ [x])).getLast h = x := by
  have e : (a :: (l ++ [x])).getLast? = some x := List.getLast?_concat (l := a :: l)
  rw [List.getLast?_eq_some_getLast h] at e
  exact Option.some.inj e
/-- a row goes on -/
theorem goneL_snoc {ds : List Deed} : ∀ (row : List Int) (here : Int) (l : List Int) (n h : Int), goneL ds here row = some l → step ds ((here :: l).getLast (by simp)) n = some h → goneL ds here (row ++ [n]) = some (l ++ [h])
  | [], here, l, n, h, e, es => by
    cases e
    have es' : step ds here n = some h := es
    show goneL ds here [n] = _
    rw [goneL_some es']
    rfl
  | m :: r, here, l, n, h, e, es => by
    cases e1 : step ds here m with
    | none => rw [goneL_none e1] at e; cases e
    | some h1 =>
      rw [goneL_some e1] at e
      cases e2 : goneL ds h1 r with
      | none => rw [e2] at e; cases e
      | some l2 =>
        rw [e2] at e
        cases e
        have ih := goneL_snoc r h1 l2 n h e2 (by simpa using es)
        show goneL ds here (m :: (r ++ [n])) = _
        rw [goneL_some e1, ih]
        rfl
theorem rowSt_good (s : List Int) (k : Int) (ds : List Deed) : ∀ n, ∃ l, goneL ds 0 (rowSt s k ds n).1 = some l ∧ (0 :: l).getLast (by simp) = (rowSt s k ds n).2 ∧ (rowSt s k ds n).1.length ≤ n
  | 0 => ⟨[], rfl, rfl, by simp [rowSt]⟩
  | n + 1 => by
    obtain ⟨l, h1, h2, h3⟩ := rowSt_good s k ds n
    rw [rowSt_succ]
    unfold rowStep
    cases e : (mSome ds (rowSt s k ds n).2).isEmpty with
    | true => rw [if_pos rfl]; exact ⟨l, h1, h2, by omega⟩
    | false =>
      rw [if_neg Bool.false_ne_true]
      have q := goneL_snoc (rowSt s k ds n).1 0 l _ _ h1 (by rw [h2]; exact step_pick (s := s) (k := k) (j := n) e)
      exact ⟨_, q, getLast_snoc _, by rw [List.length_append, List.length_singleton]; omega⟩
theorem mRow_good (s : List Int) (k : Int) (ds : List Deed) (most : Int) (hm : 0 ≤ most) : ∃ l, goneL ds 0 (mRow s k ds most) = some l ∧ ((mRow s k ds most).length : Int) ≤ most := by
  obtain ⟨l, h1, _, h3⟩ := rowSt_good s k ds (mix s k % (most + 1)).toNat
  have h4 := Int.emod_nonneg (mix s k) (show most + 1 ≠ 0 by omega)
  have h5 := Int.emod_lt_of_pos (mix s k) (show 0 < most + 1 by omega)
  exact ⟨l, h1, by unfold mRow; omega⟩

/-! machines may be compared -/
theorem okN_deed (d : Deed) : okN 1 (eDeed d) := okN_tup (n := 0) fun x hx => by
  obtain ⟨i, _, rfl⟩ := List.mem_map.mp hx
  exact okN_int
theorem okN_deeds (ds : List Deed) : okN 2 (.lst (ds.map eDeed)) := okN_lst (n := 1) fun x hx => by
  obtain ⟨d, _, rfl⟩ := List.mem_map.mp hx
  exact okN_deed d
theorem okN_mach (p k : Int) (ds : List Deed) : okN 3 (eMach p k ds) := okN_tup (n := 2) fun x hx => by
  simp only [List.mem_cons, List.not_mem_nil, or_false] at hx
  rcases hx with rfl | rfl | rfl
  · exact okN_int
  · exact okN_int
  · exact okN_deeds ds
theorem okN_ints (ns : List Int) : okN 1 (.lst (ns.map .int)) := okN_lst (n := 0) fun x hx => by
  obtain ⟨i, _, rfl⟩ := List.mem_map.mp hx
  exact okN_int
theorem okN_intsT (ns : List Int) : okN 1 (.tup (ns.map .int)) := okN_tup (n := 0) fun x hx => by
  obtain ⟨i, _, rfl⟩ := List.mem_map.mp hx
  exact okN_int
theorem eqD_deed (c d : Deed) : eqD (eDeed c) (eDeed d) = decide (c = d) := by
  obtain ⟨a, b, e, f⟩ := c
  obtain ⟨a', b', e', f'⟩ := d
  show ((a == a') && ((b == b') && ((e == e') && ((f == f') && true)))) = _
  rw [Bool.eq_iff_iff]
  simp [Prod.ext_iff, and_assoc]
theorem idx_no {l : List Deed} {d : Deed} {j : Nat} (h : ∀ (m : Nat) (z : Deed), m < j → l[m]? = some z → z ≠ d) (m : Nat) (z' : D) (hm : m < j) (hz : (l.map eDeed)[m]? = some z') : eqD z' (eDeed d) = false := by
  rw [List.getElem?_map] at hz
  cases w : l[m]? with
  | none => rw [w] at hz; cases hz
  | some c =>
    rw [w] at hz
    cases hz
    rw [eqD_deed]
    exact decide_eq_false (h m c hm w)
theorem costL_cons (ds : List Deed) (n : Int) (r : List Int) : costL ds (n :: r) = (dAt ds n).2.2.2 + costL ds r := by
  unfold costL
  rw [List.map_cons, List.sum_cons]

/-! fractions -/
abbrev Fr2 := Int × Int
def eF (x : Fr2) : D := .tup [.int x.1, .int x.2]
def partM (t u : Int) : Fr2 := (t / (Int.gcd t u : Int), u / (Int.gcd t u : Int))
theorem part_d {t u : Int} (h : 0 < u) : 0 < (Int.gcd t u : Int) ∧ (Int.gcd t u : Int) ≤ u ∧ (Int.gcd t u : Int) * (partM t u).1 = t ∧ (Int.gcd t u : Int) * (partM t u).2 = u ∧ 0 < (partM t u).2 ∧ (partM t u).2 ≤ u ∧ Int.gcd (partM t u).1 (partM t u).2 = 1 := by
  have g0 : 0 < Int.gcd t u := Int.gcd_pos_of_ne_zero_right t (by omega)
  have e1 : (Int.gcd t u : Int) * (t / (Int.gcd t u : Int)) = t := Int.mul_ediv_cancel' (Int.gcd_dvd_left t u)
  have e2 : (Int.gcd t u : Int) * (u / (Int.gcd t u : Int)) = u := Int.mul_ediv_cancel' (Int.gcd_dvd_right t u)
  have hle : (Int.gcd t u : Int) ≤ u := Int.le_of_dvd h (Int.gcd_dvd_right t u)
  have gp : 0 < (Int.gcd t u : Int) := by omega
  have up : 0 < u / (Int.gcd t u : Int) := by
    rcases (show 0 < u / (Int.gcd t u : Int) ∨ u / (Int.gcd t u : Int) ≤ 0 by omega) with z | z
    · exact z
    · have := Int.mul_nonpos_of_nonneg_of_nonpos (Int.le_of_lt gp) z
      omega
  refine ⟨gp, hle, e1, e2, up, ?_, Int.gcd_ediv_gcd_ediv_gcd g0⟩
  have := Int.mul_le_mul_of_nonneg_right (show 1 ≤ (Int.gcd t u : Int) by omega) (Int.le_of_lt up)
  show u / (Int.gcd t u : Int) ≤ u
  omega
theorem part_num {t u : Int} (h : 0 < u) : (partM t u).1.natAbs ≤ t.natAbs := by
  obtain ⟨g0, _, e1, _⟩ := part_d (t := t) h
  generalize partM t u = x at *
  have e : t.natAbs = Int.gcd t u * x.1.natAbs := by
    conv => lhs; rw [← e1, Int.natAbs_mul]
    rw [Int.natAbs_natCast]
  rw [e]
  exact Nat.le_mul_of_pos_left _ (by omega)
/-- cross-multiplied -/
theorem part_cross {t u : Int} (h : 0 < u) : (partM t u).1 * u = t * (partM t u).2 := by
  obtain ⟨g0, _, e1, e2, _⟩ := part_d (t := t) h
  generalize partM t u = x at *
  generalize (Int.gcd t u : Int) = g at *
  rw [← e1, ← e2]
  grind
theorem part_less {t u t' u' : Int} (h : 0 < u) (h' : 0 < u') : (partM t u).1 * (partM t' u').2 < (partM t' u').1 * (partM t u).2 ↔ t * u' < t' * u := by
  obtain ⟨g0, _, e1, e2, p1, _⟩ := part_d (t := t) h
  obtain ⟨g0', _, e1', e2', p1', _⟩ := part_d (t := t') h'
  generalize partM t u = x at *
  generalize partM t' u' = y at *
  generalize (Int.gcd t u : Int) = g at *
  generalize (Int.gcd t' u' : Int) = g' at *
  have a1 : t * u' = (g * g') * (x.1 * y.2) := by rw [← e1, ← e2']; grind
  have a2 : t' * u = (g * g') * (y.1 * x.2) := by rw [← e1', ← e2]; grind
  have gg : 0 < g * g' := Int.mul_pos g0 g0'
  rw [a1, a2]
  exact (Int.mul_lt_mul_left gg).symm
theorem lowest_eq {n d n' d' : Int} (hd : 0 < d) (hd' : 0 < d') (g : Int.gcd n d = 1) (g' : Int.gcd n' d' = 1) (h : n * d' = n' * d) : n = n' ∧ d = d' := by
  have c1 : d.natAbs ∣ d'.natAbs := by
    have hh : n.natAbs * d'.natAbs = n'.natAbs * d.natAbs := by rw [← Int.natAbs_mul, ← Int.natAbs_mul, h]
    have cop : Nat.Coprime d.natAbs n.natAbs := by
      have : Nat.gcd n.natAbs d.natAbs = 1 := g
      rw [Nat.Coprime, Nat.gcd_comm]; exact this
    exact cop.dvd_of_dvd_mul_left (by rw [hh]; exact Nat.dvd_mul_left _ _)
  have c2 : d'.natAbs ∣ d.natAbs := by
    have hh : n.natAbs * d'.natAbs = n'.natAbs * d.natAbs := by rw [← Int.natAbs_mul, ← Int.natAbs_mul, h]
    have cop : Nat.Coprime d'.natAbs n'.natAbs := by
      have : Nat.gcd n'.natAbs d'.natAbs = 1 := g'
      rw [Nat.Coprime, Nat.gcd_comm]; exact this
    exact cop.dvd_of_dvd_mul_left (by rw [← hh]; exact Nat.dvd_mul_left _ _)
  have e := Nat.dvd_antisymm c1 c2
  have e2 : d = d' := by omega
  subst e2
  exact ⟨Int.eq_of_mul_eq_mul_right (by omega) h, rfl⟩
/-- a fraction in lowest terms -/
def Low (x : Fr2) : Prop := 0 < x.2 ∧ Int.gcd x.1 x.2 = 1
theorem part_low {t u : Int} (h : 0 < u) : Low (partM t u) := by
  obtain ⟨_, _, _, _, a, _, b⟩ := part_d (t := t) h
  exact ⟨a, b⟩
theorem part_eq {t u : Int} {x : Fr2} (h : 0 < u) (l : Low x) : partM t u = x ↔ t * x.2 = x.1 * u := by
  obtain ⟨a, b⟩ := part_low (t := t) h
  constructor
  · intro e
    have := part_cross (t := t) h
    rw [e] at this
    exact this.symm
  · intro e
    have c := part_cross (t := t) h
    have hc : (partM t u).1 * x.2 = x.1 * (partM t u).2 := by
      have h1 : (partM t u).1 * x.2 * u = x.1 * (partM t u).2 * u := by
        have : (partM t u).1 * u * x.2 = t * (partM t u).2 * x.2 := by rw [c]
        grind
      exact Int.eq_of_mul_eq_mul_right (by omega) h1
    obtain ⟨q1, q2⟩ := lowest_eq a l.1 b l.2 hc
    exact Prod.ext q1 q2
theorem part_zero {u : Int} (h : 0 < u) : partM 0 u = (0, 1) := (part_eq h ⟨by decide, rfl⟩).mpr (by simp)
/-! Euclid -/
theorem gcd_step {a b : Int} (ha : 0 ≤ a) (hb : 0 < b) : Int.gcd b (a % b) = Int.gcd a b := by
  show Nat.gcd b.natAbs (a % b).natAbs = Nat.gcd a.natAbs b.natAbs
  have e : (a % b).natAbs = a.natAbs % b.natAbs := Int.natAbs_emod_of_nonneg ha b
  rw [e, Nat.gcd_comm b.natAbs, ← Nat.gcd_rec, Nat.gcd_comm]
theorem gcd_zero {a : Int} (ha : 0 ≤ a) : (Int.gcd a 0 : Int) = a := by
  show ((Nat.gcd a.natAbs 0 : Nat) : Int) = a
  rw [Nat.gcd_zero_right]
  omega
def plusM (x y : Fr2) : Fr2 := partM (x.1 * y.2 + y.1 * x.2) (x.2 * y.2)
def lessB (x y : Fr2) : Bool := decide (x.1 * y.2 < y.1 * x.2)
theorem plus_less {x y x' y' : Fr2} (h1 : 0 < x.2) (h2 : 0 < y.2) (h3 : 0 < x'.2) (h4 : 0 < y'.2) : lessB (plusM x y) (plusM x' y') = decide ((x.1 * y.2 + y.1 * x.2) * (x'.2 * y'.2) < (x'.1 * y'.2 + y'.1 * x'.2) * (x.2 * y.2)) :=
  decide_eq_decide.mpr (part_less (Int.mul_pos h1 h2) (Int.mul_pos h3 h4))
theorem okN_F (x : Fr2) : okN 1 (eF x) := okN_intsT [x.1, x.2]
theorem eqD_F (x y : Fr2) : eqD (eF x) (eF y) = decide (x = y) := by
  obtain ⟨a, b⟩ := x
  obtain ⟨c, d⟩ := y
  show ((a == c) && ((b == d) && true)) = _
  rw [Bool.eq_iff_iff]
  simp [Prod.ext_iff]
theorem ix_F1 (x : Fr2) : ixD (eF x) 0 = some (.int x.1) := rfl
theorem ix_F2 (x : Fr2) : ixD (eF x) 1 = some (.int x.2) := rfl

/-! fractions as the library's own -/
def eQ (q : Rat) : D := .tup [.int q.num, .int (q.den : Int)]
theorem ix_Q1 (q : Rat) : ixD (eQ q) 0 = some (.int q.num) := rfl
theorem ix_Q2 (q : Rat) : ixD (eQ q) 1 = some (.int (q.den : Int)) := rfl
theorem eQ_low (q : Rat) : Low (q.num, (q.den : Int)) := ⟨by have := q.den_pos; show (0 : Int) < (q.den : Int); omega, by have := q.reduced; show Nat.gcd q.num.natAbs (q.den : Int).natAbs = 1; rw [Int.natAbs_natCast]; exact this⟩
theorem part_rat {t u : Int} (h : 0 < u) : eF (partM t u) = eQ (Rat.divInt t u) := by
  have e : partM t u = ((Rat.divInt t u).num, ((Rat.divInt t u).den : Int)) := by
    refine (part_eq h (eQ_low _)).mpr ?_
    show t * ((Rat.divInt t u).den : Int) = (Rat.divInt t u).num * u
    have q := Rat.num_divInt_den (Rat.divInt t u)
    have hd : (((Rat.divInt t u).den : Nat) : Int) ≠ 0 := by have := (Rat.divInt t u).den_pos; omega
    rw [Rat.divInt_eq_divInt_iff hd (by omega)] at q
    exact q.symm
  rw [e]; rfl
def SQ (n : Nat) (q : Rat) : Prop := q.num.natAbs < 2 ^ n ∧ q.den < 2 ^ n
theorem log2_le {x n : Nat} (h : x < 2 ^ n) : x.log2 ≤ n := by
  by_cases z : x = 0
  · subst z; simp
  · exact Nat.le_of_lt ((Nat.log2_lt z).mpr h)
theorem cmw {i j : Int} {n m : Nat} (hi : i.natAbs < 2 ^ n) (hj : j.natAbs < 2 ^ m) (h : n + m < 1000000) : CMulW i j := by
  have := log2_le hi
  have := log2_le hj
  unfold CMulW
  omega
theorem SQ.mono {n m : Nat} {q : Rat} (h : SQ n q) (l : n ≤ m) : SQ m q := ⟨Nat.lt_of_lt_of_le h.1 (Nat.pow_le_pow_right (by decide) l), Nat.lt_of_lt_of_le h.2 (Nat.pow_le_pow_right (by decide) l)⟩
theorem mul_lt2 {a b n m : Nat} (ha : a < 2 ^ n) (hb : b < 2 ^ m) : a * b < 2 ^ (n + m) := by
  rw [Nat.pow_add]
  have h0 : 0 < 2 ^ m := Nat.pow_pos (by decide)
  calc a * b ≤ a * 2 ^ m := Nat.mul_le_mul_left a (Nat.le_of_lt hb)
    _ < 2 ^ n * 2 ^ m := Nat.mul_lt_mul_of_pos_right ha h0
theorem divInt_nn {t u : Int} (h : u ≠ 0) : Rat.divInt (-t) (-u) = Rat.divInt t u := (Rat.divInt_eq_divInt_iff (by omega) h).mpr (by rw [Int.mul_neg, Int.neg_mul])
theorem divInt_SQ {t u : Int} {n : Nat} (hu : u ≠ 0) (h1 : t.natAbs < 2 ^ n) (h2 : u.natAbs < 2 ^ n) : SQ n (Rat.divInt t u) := by
  have key : ∀ t u : Int, 0 < u → t.natAbs < 2 ^ n → u.natAbs < 2 ^ n → SQ n (Rat.divInt t u) := fun t u hu h1 h2 => by
    have e := part_rat (t := t) hu
    have a1 := part_num (t := t) hu
    obtain ⟨_, _, _, _, _, a2, _⟩ := part_d (t := t) hu
    have e1 : (partM t u).1 = (Rat.divInt t u).num := by injection e with e; injection e with e e'; injection e
    have e2 : (partM t u).2 = ((Rat.divInt t u).den : Int) := by injection e with e; injection e with e e'; injection e' with e'; injection e'
    rw [e1] at a1
    rw [e2] at a2
    exact ⟨by omega, by omega⟩
  rcases (show 0 < u ∨ u < 0 by omega) with z | z
  · exact key t u z h1 h2
  · rw [← divInt_nn hu]
    exact key (-t) (-u) (by omega) (by omega) (by omega)
theorem den_ne (q : Rat) : (q.den : Int) ≠ 0 := by have := q.den_pos; omega
theorem add_Q (a b : Rat) : Rat.divInt (a.num * b.den + b.num * a.den) (a.den * b.den) = a + b := by
  conv => rhs; rw [← Rat.num_divInt_den a, ← Rat.num_divInt_den b]
  rw [Rat.divInt_add_divInt _ _ (den_ne a) (den_ne b)]
theorem sub_Q (a b : Rat) : Rat.divInt (a.num * b.den - b.num * a.den) (a.den * b.den) = a - b := by
  conv => rhs; rw [← Rat.num_divInt_den a, ← Rat.num_divInt_den b]
  rw [Rat.divInt_sub_divInt _ _ (den_ne a) (den_ne b)]
theorem mul_Q (a b : Rat) : Rat.divInt (a.num * b.num) (a.den * b.den) = a * b := by
  conv => rhs; rw [← Rat.num_divInt_den a, ← Rat.num_divInt_den b]
  rw [Rat.divInt_mul_divInt]
theorem div_Q (a b : Rat) : Rat.divInt (a.num * b.den) (a.den * b.num) = a / b := by
  conv => rhs; rw [← Rat.num_divInt_den a, ← Rat.num_divInt_den b]
  rw [Rat.div_def, Rat.inv_divInt, Rat.divInt_mul_divInt]
theorem SQ.d {n : Nat} {q : Rat} (h : SQ n q) : (q.den : Int).natAbs < 2 ^ n := by rw [Int.natAbs_natCast]; exact h.2
theorem num_le {a b : Nat} {i j u v : Int} (hi : i.natAbs < 2 ^ a) (hv : v.natAbs < 2 ^ b) (hj : j.natAbs < 2 ^ b) (hu : u.natAbs < 2 ^ a) : (i * v).natAbs < 2 ^ (a + b) ∧ (j * u).natAbs < 2 ^ (a + b) := by
  rw [Int.natAbs_mul, Int.natAbs_mul]
  exact ⟨mul_lt2 hi hv, by rw [Nat.add_comm]; exact mul_lt2 hj hu⟩
theorem den2 {a b : Nat} {x y : Rat} (hx : SQ a x) (hy : SQ b y) : ((x.den : Int) * y.den).natAbs < 2 ^ (a + b) := by rw [Int.natAbs_mul]; exact mul_lt2 hx.d hy.d
theorem pow_s (n : Nat) : (2 : Nat) ^ (n + 1) = 2 ^ n + 2 ^ n := by rw [Nat.pow_succ]; omega
theorem add_SQ {a b : Nat} {x y : Rat} (hx : SQ a x) (hy : SQ b y) : SQ (a + b + 1) (x + y) := by
  obtain ⟨h1, h2⟩ := num_le hx.1 hy.d hy.1 hx.d
  have h3 := den2 hx hy
  have := pow_s (a + b)
  rw [← add_Q]
  exact divInt_SQ (Int.mul_ne_zero (den_ne x) (den_ne y)) (by omega) (by omega)
theorem sub_SQ {a b : Nat} {x y : Rat} (hx : SQ a x) (hy : SQ b y) : SQ (a + b + 1) (x - y) := by
  obtain ⟨h1, h2⟩ := num_le hx.1 hy.d hy.1 hx.d
  have h3 := den2 hx hy
  have := pow_s (a + b)
  rw [← sub_Q]
  exact divInt_SQ (Int.mul_ne_zero (den_ne x) (den_ne y)) (by omega) (by omega)
theorem mul_SQ {a b : Nat} {x y : Rat} (hx : SQ a x) (hy : SQ b y) : SQ (a + b) (x * y) := by
  rw [← mul_Q]
  exact divInt_SQ (Int.mul_ne_zero (den_ne x) (den_ne y)) (by rw [Int.natAbs_mul]; exact mul_lt2 hx.1 hy.1) (den2 hx hy)
theorem div_SQ {a b : Nat} {x y : Rat} (hx : SQ a x) (hy : SQ b y) (h0 : y ≠ 0) : SQ (a + b) (x / y) := by
  rw [← div_Q]
  exact divInt_SQ (Int.mul_ne_zero (den_ne x) (fun z => h0 (Rat.num_eq_zero.mp z))) (by rw [Int.natAbs_mul]; exact mul_lt2 hx.1 hy.d) (by rw [Int.natAbs_mul]; exact mul_lt2 hx.d hy.1)
theorem int_SQ {n : Nat} {i : Int} (h : i.natAbs < 2 ^ n) (h0 : 1 ≤ n) : SQ n (i : Rat) := ⟨h, by show 1 < 2 ^ n; exact Nat.one_lt_two_pow (by omega)⟩
theorem eQ_int (i : Int) : D.tup [.int i, .int 1] = eQ (i : Rat) := rfl
/-- the products of two rows, together -/
def dotGo : Rat → List Rat → List Rat → Rat
  | acc, x :: xs, y :: ys => dotGo (acc + x * y) xs ys
  | acc, _, _ => acc
def dotQ (xs ys : List Rat) : Rat := dotGo 0 xs ys
/-- a row of fractions -/
def eRow (n : Nat) (r : Nat → Rat) : D := .lst ((List.range n).map fun j => eQ (r j))
theorem ix_row {n j : Nat} {r : Nat → Rat} (h : j < n) : ixD (eRow n r) (j : Int) = some (eQ (r j)) := by
  have e : ((List.range n).map fun j => eQ (r j))[j]? = some (eQ (r j)) := by rw [List.getElem?_map, List.getElem?_range h]; rfl
  obtain ⟨hlt, q⟩ := List.getElem?_eq_some_iff.mp e
  show atI _ _ = _
  rw [atI_ge (by omega) (by omega)]
  exact congrArg some q

/-! tableaux -/
def sumR : Nat → (Nat → Rat) → Rat
  | 0, _ => 0
  | k + 1, f => sumR k f + f k
theorem sumR_congr {f g : Nat → Rat} : ∀ {m : Nat}, (∀ i, i < m → f i = g i) → sumR m f = sumR m g
  | 0, _ => rfl
  | m + 1, h => by
    show sumR m f + f m = sumR m g + g m
    rw [sumR_congr fun i hi => h i (by omega), h m (by omega)]
theorem sumR_add (f g : Nat → Rat) : ∀ m : Nat, sumR m (fun i => f i + g i) = sumR m f + sumR m g
  | 0 => by show (0 : Rat) = 0 + 0; grind
  | m + 1 => by
    show sumR m (fun i => f i + g i) + (f m + g m) = (sumR m f + f m) + (sumR m g + g m)
    rw [sumR_add f g m]; grind
theorem sumR_mul (z : Rat) (f : Nat → Rat) : ∀ m : Nat, sumR m (fun i => z * f i) = z * sumR m f
  | 0 => by show (0 : Rat) = z * 0; grind
  | m + 1 => by
    show sumR m (fun i => z * f i) + z * f m = z * (sumR m f + f m)
    rw [sumR_mul z f m]; grind
theorem sumR_zero : ∀ m : Nat, sumR m (fun _ => 0) = 0
  | 0 => rfl
  | m + 1 => by show sumR m (fun _ => 0) + 0 = 0; rw [sumR_zero m]; grind
theorem sumR_one {f : Nat → Rat} {k : Nat} : ∀ {m : Nat}, k < m → (∀ i, i < m → i ≠ k → f i = 0) → sumR m f = f k
  | 0, h, _ => by omega
  | m + 1, h, hz => by
    show sumR m f + f m = f k
    by_cases e : k = m
    · subst e
      rw [sumR_congr (g := fun _ => 0) fun i hi => hz i (by omega) (by omega), sumR_zero]; grind
    · rw [sumR_one (by omega) fun i hi hk => hz i (by omega) hk, hz m (by omega) (fun z => e z.symm)]; grind
theorem sumR_swap (f : Nat → Nat → Rat) (m : Nat) : ∀ l : Nat, sumR m (fun i => sumR l (fun k => f i k)) = sumR l (fun k => sumR m (fun i => f i k))
  | 0 => by show sumR m (fun _ => 0) = 0; exact sumR_zero m
  | l + 1 => by
    show sumR m (fun i => sumR l (fun k => f i k) + f i l) = sumR l (fun k => sumR m (fun i => f i k)) + sumR m (fun i => f i l)
    rw [sumR_add, sumR_swap f m l]
theorem sumR_pos {f : Nat → Rat} : ∀ {m : Nat}, 0 < sumR m f → ∃ i, i < m ∧ 0 < f i
  | 0, h => by exact absurd h (by show ¬ (0 : Rat) < 0; grind)
  | m + 1, h => by
    have h : 0 < sumR m f + f m := h
    by_cases z : 0 < f m
    · exact ⟨m, by omega, z⟩
    · obtain ⟨i, hi, q⟩ := sumR_pos (m := m) (f := f) (by grind)
      exact ⟨i, by omega, q⟩
/-- x is told by the rows -/
def Span (m : Nat) (a : Nat → Nat → Rat) (x : Nat → Rat) : Prop := ∃ l : Nat → Rat, ∀ j, x j = sumR m fun i => l i * a i j
theorem Span.row {m : Nat} {a : Nat → Nat → Rat} {k : Nat} (h : k < m) : Span m a (a k) := ⟨fun i => if i = k then 1 else 0, fun j => by
  show a k j = sumR m fun i => (if i = k then (1 : Rat) else 0) * a i j
  rw [sumR_one (k := k) h fun i _ hk => by rw [if_neg hk]; grind, if_pos rfl]; grind⟩
theorem Span.sub {m : Nat} {a : Nat → Nat → Rat} {x y : Nat → Rat} (z : Rat) (hx : Span m a x) (hy : Span m a y) : Span m a fun j => x j - z * y j := by
  obtain ⟨l, hl⟩ := hx
  obtain ⟨r, hr⟩ := hy
  refine ⟨fun i => l i + (-z) * r i, fun j => ?_⟩
  show x j - z * y j = sumR m fun i => (l i + (-z) * r i) * a i j
  have e : (sumR m fun i => (l i + (-z) * r i) * a i j) = sumR m fun i => l i * a i j + (-z) * (r i * a i j) := sumR_congr fun i _ => by grind
  rw [e, sumR_add, sumR_mul, hl, hr]; grind
theorem Span.mul {m : Nat} {a : Nat → Nat → Rat} {x : Nat → Rat} (z : Rat) (hx : Span m a x) : Span m a fun j => z * x j := by
  obtain ⟨l, hl⟩ := hx
  refine ⟨fun i => z * l i, fun j => ?_⟩
  show z * x j = sumR m fun i => (z * l i) * a i j
  have e : (sumR m fun i => (z * l i) * a i j) = sumR m fun i => z * (l i * a i j) := sumR_congr fun i _ => by grind
  rw [e, sumR_mul, hl]
theorem Span.trans {m : Nat} {a b : Nat → Nat → Rat} {x : Nat → Rat} (hx : Span m a x) (h : ∀ k, k < m → Span m b (a k)) : Span m b x := by
  obtain ⟨l, hl⟩ := hx
  have : ∀ k, ∃ r : Nat → Rat, k < m → ∀ j, a k j = sumR m fun i => r i * b i j := fun k => by
    by_cases hk : k < m
    · obtain ⟨r, hr⟩ := h k hk; exact ⟨r, fun _ => hr⟩
    · exact ⟨fun _ => 0, fun z => absurd z hk⟩
  let r : Nat → Nat → Rat := fun k => Classical.choose (this k)
  have hr : ∀ k, k < m → ∀ j, a k j = sumR m fun i => r k i * b i j := fun k => Classical.choose_spec (this k)
  refine ⟨fun i => sumR m fun k => l k * r k i, fun j => ?_⟩
  show x j = sumR m fun i => (sumR m fun k => l k * r k i) * b i j
  have e1 : (sumR m fun k => l k * a k j) = sumR m fun k => sumR m fun i => l k * (r k i * b i j) := sumR_congr fun k hk => by rw [hr k hk, sumR_mul]
  rw [hl, e1, sumR_swap]
  refine sumR_congr fun i _ => ?_
  have e2 : (sumR m fun k => l k * (r k i * b i j)) = sumR m fun k => b i j * (l k * r k i) := sumR_congr fun k _ => by grind
  rw [e2, sumR_mul]; grind
structure Tab where
  a : Nat → Nat → Rat
  c : Nat → Rat
  b : Nat → Nat
structure TOk (m n : Nat) (A : Nat → Nat → Rat) (C : Nat → Rat) (t : Tab) : Prop where
  to : ∀ k, k < m → Span m A (t.a k)
  of : ∀ k, k < m → Span m t.a (A k)
  cs : Span m A fun j => C j - 1 * t.c j
  unit : ∀ k i, k < m → i < m → t.a k (t.b i) = if k = i then 1 else 0
  c0 : ∀ i, i < m → t.c (t.b i) = 0
  bn : ∀ i, i < m → t.b i < n
  nn : ∀ k, k < m → 0 ≤ t.a k n
def piv (t : Tab) (r s : Nat) : Tab where
  a := fun k j => if k = r then t.a r j / t.a r s else t.a k j - t.a k s * (t.a r j / t.a r s)
  c := fun j => t.c j - t.c s * (t.a r j / t.a r s)
  b := fun i => if i = r then s else t.b i
theorem piv_ok {m n : Nat} {A : Nat → Nat → Rat} {C : Nat → Rat} {t : Tab} (h : TOk m n A C t) {r s : Nat} (hr : r < m) (hs : s < n) (hp : 0 < t.a r s) (hmin : ∀ k, k < m → 0 < t.a k s → t.a r n / t.a r s ≤ t.a k n / t.a k s) : TOk m n A C (piv t r s) := by
  have hne : t.a r s ≠ 0 := by grind
  have spr : Span m t.a fun j => t.a r j / t.a r s := by
    have q := (Span.row (a := t.a) hr).mul (1 / t.a r s)
    obtain ⟨l, hl⟩ := q
    exact ⟨l, fun j => by rw [← hl]; grind⟩
  refine ⟨fun k hk => ?_, fun k hk => ?_, ?_, fun k i hk hi => ?_, fun i hi => ?_, fun i hi => ?_, fun k hk => ?_⟩
  · have q : Span m t.a ((piv t r s).a k) := by
      by_cases e : k = r
      · have e2 : (piv t r s).a k = fun j => t.a r j / t.a r s := by funext j; unfold piv; simp [e]
        rw [e2]; exact spr
      · have e2 : (piv t r s).a k = fun j => t.a k j - t.a k s * (t.a r j / t.a r s) := by funext j; unfold piv; simp [e]
        rw [e2]; exact (Span.row hk).sub _ spr
    exact q.trans h.to
  · refine (h.of k hk).trans fun i hi => ?_
    have q : Span m (piv t r s).a ((piv t r s).a r) := Span.row hr
    have e2 : (piv t r s).a r = fun j => t.a r j / t.a r s := by funext j; unfold piv; simp
    by_cases e : i = r
    · subst e
      obtain ⟨l, hl⟩ := q.mul (t.a i s)
      exact ⟨l, fun j => by rw [← hl, e2]; grind⟩
    · have q2 : Span m (piv t r s).a ((piv t r s).a i) := Span.row hi
      have e3 : (piv t r s).a i = fun j => t.a i j - t.a i s * (t.a r j / t.a r s) := by funext j; unfold piv; simp [e]
      obtain ⟨l, hl⟩ := q2.sub (-(t.a i s)) q
      exact ⟨l, fun j => by rw [← hl, e2, e3]; grind⟩
  · obtain ⟨l, hl⟩ := h.cs.sub (-(t.c s)) (spr.trans h.to)
    exact ⟨l, fun j => by rw [← hl]; unfold piv; grind⟩
  · have u1 := h.unit r i hr hi
    have u2 := h.unit k i hk hi
    unfold piv
    by_cases e1 : k = r <;> by_cases e2 : i = r <;> simp only [e1, e2, if_true, if_false] <;> simp_all <;> grind
  · have u1 := h.unit r i hr hi
    have u2 := h.c0 i hi
    unfold piv
    by_cases e2 : i = r
    · simp only [e2, if_true]; grind
    · have : ¬ r = i := fun z => e2 z.symm
      simp only [e2, if_false]
      rw [if_neg this] at u1
      rw [u1, u2]; grind
  · unfold piv
    show (if i = r then s else t.b i) < n
    split
    · exact hs
    · exact h.bn i hi
  · have a1 := h.nn r hr
    have a2 := h.nn k hk
    have rn : 0 ≤ t.a r n / t.a r s := by
      rw [Rat.div_def]
      exact Rat.mul_nonneg a1 (by have := Rat.inv_pos.mpr hp; grind)
    unfold piv
    by_cases e1 : k = r
    · simp only [e1, if_true]; exact rn
    · simp only [e1, if_false]
      by_cases z : 0 < t.a k s
      · have q := hmin k hk z
        have : t.a k s * (t.a r n / t.a r s) ≤ t.a k s * (t.a k n / t.a k s) := Rat.mul_le_mul_of_nonneg_left q (by grind)
        have e : t.a k s * (t.a k n / t.a k s) = t.a k n := by grind
        grind
      · have : t.a k s * (t.a r n / t.a r s) ≤ 0 := by
          have := Rat.mul_nonneg (a := -(t.a k s)) (b := t.a r n / t.a r s) (by grind) rn
          grind
        grind

/-! the least column, the least leaving: no basis comes twice -/
structure StepAt (m n : Nat) (t : Tab) (r s : Nat) : Prop where
  sn : s < n
  neg : t.c s < 0
  low : ∀ j, j < s → 0 ≤ t.c j
  rm : r < m
  pos : 0 < t.a r s
  min : ∀ k, k < m → 0 < t.a k s → t.a r n / t.a r s ≤ t.a k n / t.a k s
  tie : ∀ k, k < m → 0 < t.a k s → t.a k n / t.a k s = t.a r n / t.a r s → t.b r ≤ t.b k
section
variable {m n : Nat} {A : Nat → Nat → Rat} {C : Nat → Rat}
theorem TOk.inj {t : Tab} (h : TOk m n A C t) {i k : Nat} (hi : i < m) (hk : k < m) (e : t.b i = t.b k) : i = k := by
  have u1 := h.unit i k hi hk
  have u2 := h.unit i i hi hi
  rw [if_pos rfl, e] at u2
  by_cases z : i = k
  · exact z
  · rw [if_neg z, u2] at u1
    exact absurd u1 (by grind)
theorem tab_rel {t u : Tab} (ht : TOk m n A C t) (hu : TOk m n A C u) (j : Nat) : u.c j = t.c j - sumR m fun i => t.c (u.b i) * u.a i j := by
  have q : Span m A fun j => t.c j - u.c j := by
    obtain ⟨l, hl⟩ := hu.cs.sub 1 ht.cs
    exact ⟨l, fun j => by rw [← hl]; grind⟩
  obtain ⟨v, hv⟩ := q.trans hu.of
  have hvi : ∀ i, i < m → t.c (u.b i) = v i := fun i hi => by
    have e := hv (u.b i)
    rw [sumR_one (k := i) hi fun k hk hne => by rw [hu.unit k i hk hi, if_neg hne]; grind, hu.unit i i hi hi, if_pos rfl] at e
    have e' : t.c (u.b i) - u.c (u.b i) = v i * 1 := e
    rw [hu.c0 i hi] at e'
    grind
  have e := hv j
  have e' : t.c j - u.c j = sumR m fun i => v i * u.a i j := e
  rw [sumR_congr (f := fun i => t.c (u.b i) * u.a i j) (g := fun i => v i * u.a i j) fun i hi => by rw [hvi i hi], ← e']
  grind
theorem tab_same {t u : Tab} (ht : TOk m n A C t) (hu : TOk m n A C u) (hb : ∀ i, i < m → t.b i = u.b i) : (∀ k j, k < m → t.a k j = u.a k j) ∧ ∀ j, t.c j = u.c j := by
  refine ⟨fun k j hk => ?_, fun j => ?_⟩
  · obtain ⟨v, hv⟩ := (ht.to k hk).trans hu.of
    have hvi : ∀ i, i < m → v i = if k = i then 1 else 0 := fun i hi => by
      have e := hv (u.b i)
      rw [sumR_one (k := i) hi fun l hl hne => by rw [hu.unit l i hl hi, if_neg hne]; grind, hu.unit i i hi hi, if_pos rfl, ← hb i hi, ht.unit k i hk hi] at e
      grind
    rw [hv j, sumR_one (k := k) hk fun i hi hne => by rw [hvi i hi, if_neg (fun z => hne z.symm)]; grind, hvi k hk, if_pos rfl]
    grind
  · have e := tab_rel ht hu j
    rw [sumR_congr (g := fun _ => 0) fun i hi => by rw [← hb i hi, ht.c0 i hi]; grind, sumR_zero] at e
    grind
def basic (m : Nat) (t : Tab) (x : Nat) : Prop := ∃ i, i < m ∧ t.b i = x
def valT (m n : Nat) (t : Tab) (x : Nat) : Rat := sumR m fun i => if t.b i = x then t.a i n else 0
theorem val_basic {t : Tab} (h : TOk m n A C t) {i : Nat} (hi : i < m) : valT m n t (t.b i) = t.a i n := by
  unfold valT
  rw [sumR_one (k := i) hi fun k hk hne => by rw [if_neg fun e => hne (h.inj hk hi e)], if_pos rfl]
theorem val_non {t : Tab} {x : Nat} (h : ¬ basic m t x) : valT m n t x = 0 := by
  unfold valT
  rw [sumR_congr (g := fun _ => 0) fun i hi => by rw [if_neg fun e => h ⟨i, hi, e⟩], sumR_zero]
theorem bland {T : Nat → Tab} {R S : Nat → Nat} {lo hi : Nat} (hlt : lo < hi) (hok : ∀ k, lo ≤ k → k ≤ hi → TOk m n A C (T k)) (hst : ∀ k, lo ≤ k → k < hi → StepAt m n (T k) (R k) (S k) ∧ T (k + 1) = piv (T k) (R k) (S k)) (hb : ∀ i, i < m → (T lo).b i = (T hi).b i) : False := by
  obtain ⟨sa, sc⟩ := tab_same (hok lo (Nat.le_refl _) (by omega)) (hok hi (by omega) (Nat.le_refl _)) hb
  have th0 : ∀ k, lo ≤ k → k < hi → 0 ≤ (T k).a (R k) n / (T k).a (R k) (S k) := fun k h1 h2 => by
    obtain ⟨st, _⟩ := hst k h1 h2
    have a1 := (hok k h1 (by omega)).nn (R k) st.rm
    rw [Rat.div_def]
    exact Rat.mul_nonneg a1 (by have := Rat.inv_pos.mpr st.pos; grind)
  have up : ∀ k, lo ≤ k → k < hi → (T k).c n ≤ (T (k + 1)).c n := fun k h1 h2 => by
    obtain ⟨st, e⟩ := hst k h1 h2
    rw [e]
    show (T k).c n ≤ (T k).c n - (T k).c (S k) * ((T k).a (R k) n / (T k).a (R k) (S k))
    have := Rat.mul_nonneg (a := -((T k).c (S k))) (b := (T k).a (R k) n / (T k).a (R k) (S k)) (by have := st.neg; grind) (th0 k h1 h2)
    grind
  have mono : ∀ d k, lo ≤ k → k + d ≤ hi → (T k).c n ≤ (T (k + d)).c n := by
    intro d
    induction d with
    | zero => intro k _ _; exact Rat.le_refl
    | succ d ih =>
      intro k h1 h2
      have q1 := ih k h1 (by omega)
      have q2 := up (k + d) (by omega) (by omega)
      exact Rat.le_trans q1 q2
  have flat : ∀ k, lo ≤ k → k < hi → (T k).a (R k) n = 0 := fun k h1 h2 => by
    obtain ⟨st, e⟩ := hst k h1 h2
    have q1 := mono (k - lo) lo (Nat.le_refl _) (by omega)
    have q2 := mono (hi - (k + 1)) (k + 1) (by omega) (by omega)
    rw [show lo + (k - lo) = k by omega] at q1
    rw [show k + 1 + (hi - (k + 1)) = hi by omega, ← sc n] at q2
    have q3 := up k h1 h2
    have e2 : (T (k + 1)).c n = (T k).c n := by grind
    rw [e] at e2
    have e3 : (T k).c n - (T k).c (S k) * ((T k).a (R k) n / (T k).a (R k) (S k)) = (T k).c n := e2
    have a1 := st.neg
    have a2 := st.pos
    have e4 : (T k).c (S k) * ((T k).a (R k) n / (T k).a (R k) (S k)) = 0 := by grind
    rcases Rat.mul_eq_zero.mp e4 with z | z
    · rw [z] at a1; exact absurd a1 (by grind)
    · have : (T k).a (R k) n = (T k).a (R k) n / (T k).a (R k) (S k) * (T k).a (R k) (S k) := by grind
      rw [z] at this; grind
  have vstep : ∀ k, lo ≤ k → k < hi → ∀ x, valT m n (T (k + 1)) x = valT m n (T k) x := fun k h1 h2 x => by
    obtain ⟨st, e⟩ := hst k h1 h2
    have z := flat k h1 h2
    have z2 : (T k).a (R k) n / (T k).a (R k) (S k) = 0 := by rw [z]; grind
    unfold valT
    rw [e]
    refine sumR_congr fun i hi => ?_
    by_cases e1 : i = R k
    · subst e1
      have a1 : (piv (T k) (R k) (S k)).a (R k) n = 0 := by unfold piv; simp only [if_true]; exact z2
      rw [a1, z]; simp
    · have a1 : (piv (T k) (R k) (S k)).a i n = (T k).a i n := by unfold piv; simp only [e1, if_false]; rw [z2]; grind
      have b1 : (piv (T k) (R k) (S k)).b i = (T k).b i := by unfold piv; simp only [e1, if_false]
      rw [a1, b1]
  have vlo : ∀ d, lo + d ≤ hi → ∀ x, valT m n (T (lo + d)) x = valT m n (T lo) x := by
    intro d
    induction d with
    | zero => intro _ x; rfl
    | succ d ih => intro h x; rw [← ih (by omega) x]; exact vstep (lo + d) (by omega) (by omega) x
  have vv : ∀ k l, lo ≤ k → k ≤ hi → lo ≤ l → l ≤ hi → ∀ x, valT m n (T k) x = valT m n (T l) x := fun k l h1 h2 h3 h4 x => by
    have q1 := vlo (k - lo) (by omega) x
    have q2 := vlo (l - lo) (by omega) x
    rw [show lo + (k - lo) = k by omega] at q1
    rw [show lo + (l - lo) = l by omega] at q2
    rw [q1, q2]
  -- the greatest that enters
  have mx : ∀ d, lo + d < hi → ∃ k1, lo ≤ k1 ∧ k1 ≤ lo + d ∧ ∀ k, lo ≤ k → k ≤ lo + d → S k ≤ S k1 := by
    intro d
    induction d with
    | zero => intro _; exact ⟨lo, by omega, by omega, fun k h1 h2 => by rw [show k = lo by omega]; exact Nat.le_refl _⟩
    | succ d ih =>
      intro h
      obtain ⟨k1, h1, h2, h3⟩ := ih (by omega)
      by_cases q : S (lo + d + 1) ≤ S k1
      · exact ⟨k1, h1, by omega, fun k g1 g2 => by
          by_cases e : k = lo + d + 1
          · rw [e]; exact q
          · exact h3 k g1 (by omega)⟩
      · exact ⟨lo + d + 1, by omega, by omega, fun k g1 g2 => by
          by_cases e : k = lo + d + 1
          · rw [e]; exact Nat.le_refl _
          · have := h3 k g1 (by omega); omega⟩
  obtain ⟨k1, k1l, k1h, hmax⟩ := mx (hi - 1 - lo) (by omega)
  have k1h' : k1 < hi := by omega
  have hmax : ∀ k, lo ≤ k → k < hi → S k ≤ S k1 := fun k h1 h2 => hmax k h1 (by omega)
  obtain ⟨st1, e1⟩ := hst k1 k1l k1h'
  have ok1 := hok k1 k1l (by omega)
  have nb1 : ∀ x, (T k1).c x ≠ 0 → ¬ basic m (T k1) x := fun x hx ⟨i, hi, e⟩ => hx (by rw [← e]; exact ok1.c0 i hi)
  have bb : ∀ x, basic m (T lo) x ↔ basic m (T hi) x := fun x => ⟨fun ⟨i, h, e⟩ => ⟨i, h, by rw [← hb i h]; exact e⟩, fun ⟨i, h, e⟩ => ⟨i, h, by rw [hb i h]; exact e⟩⟩
  -- where it leaves
  have lv : ∃ k2, lo ≤ k2 ∧ k2 < hi ∧ (T k2).b (R k2) = S k1 := by
    rcases Classical.em (∃ k2, lo ≤ k2 ∧ k2 < hi ∧ (T k2).b (R k2) = S k1) with h | h
    · exact h
    · exfalso
      have keep : ∀ k, lo ≤ k → k < hi → basic m (T k) (S k1) → basic m (T (k + 1)) (S k1) := fun k h1 h2 ⟨i, hi', e⟩ => by
        obtain ⟨st, e2⟩ := hst k h1 h2
        refine ⟨i, hi', ?_⟩
        rw [e2]
        unfold piv
        show (if i = R k then S k else (T k).b i) = S k1
        rw [if_neg (fun z => h ⟨k, h1, h2, by rw [← z]; exact e⟩)]
        exact e
      have go : ∀ d k, lo ≤ k → k + d ≤ hi → basic m (T k) (S k1) → basic m (T (k + d)) (S k1) := by
        intro d
        induction d with
        | zero => intro k _ _ h; exact h
        | succ d ih => intro k h1 h2 h3; exact keep (k + d) (by omega) (by omega) (ih k h1 (by omega) h3)
      have b1 : basic m (T (k1 + 1)) (S k1) := ⟨R k1, st1.rm, by rw [e1]; unfold piv; show (if R k1 = R k1 then S k1 else _) = S k1; rw [if_pos rfl]⟩
      have b2 := go (hi - (k1 + 1)) (k1 + 1) (by omega) (by omega) b1
      rw [show k1 + 1 + (hi - (k1 + 1)) = hi by omega] at b2
      have b3 := go (k1 - lo) lo (Nat.le_refl _) (by omega) ((bb _).mpr b2)
      rw [show lo + (k1 - lo) = k1 by omega] at b3
      exact nb1 _ (by have := st1.neg; grind) b3
  obtain ⟨k2, k2l, k2h, hx⟩ := lv
  obtain ⟨st2, e2⟩ := hst k2 k2l k2h
  have ok2 := hok k2 k2l (by omega)
  -- what is basic there and not here has entered
  have fk : ∀ y, basic m (T k2) y → ¬ basic m (T k1) y → y ≤ S k1 := fun y hy hn => by
    rcases Classical.em (∃ k, lo ≤ k ∧ k < hi ∧ S k = y) with ⟨k, h1, h2, e⟩ | h
    · rw [← e]; exact hmax k h1 h2
    · exfalso
      have keep : ∀ k, lo ≤ k → k < hi → ¬ basic m (T k) y → ¬ basic m (T (k + 1)) y := fun k h1 h2 q ⟨i, hi', e⟩ => by
        obtain ⟨st, e3⟩ := hst k h1 h2
        rw [e3] at e
        unfold piv at e
        have e : (if i = R k then S k else (T k).b i) = y := e
        split at e
        · exact h ⟨k, h1, h2, e⟩
        · exact q ⟨i, hi', e⟩
      have go : ∀ d k, lo ≤ k → k + d ≤ hi → ¬ basic m (T k) y → ¬ basic m (T (k + d)) y := by
        intro d
        induction d with
        | zero => intro k _ _ h; exact h
        | succ d ih => intro k h1 h2 h3; exact keep (k + d) (by omega) (by omega) (ih k h1 (by omega) h3)
      have b2 := go (hi - k1) k1 (by omega) (by omega) hn
      rw [show k1 + (hi - k1) = hi by omega] at b2
      have b3 := go (k2 - lo) lo (Nat.le_refl _) (by omega) (fun z => b2 ((bb _).mp z))
      rw [show lo + (k2 - lo) = k2 by omega] at b3
      exact b3 hy
  have ele := hmax k2 k2l k2h
  have ene : S k2 ≠ S k1 := fun z => by
    have a1 := st2.neg
    rw [z, ← hx, ok2.c0 _ st2.rm] at a1
    exact absurd a1 (by grind)
  have c1e := st1.low (S k2) (by omega)
  have rel := tab_rel ok1 ok2 (S k2)
  have neg2 := st2.neg
  obtain ⟨i, hi', hp⟩ := sumR_pos (m := m) (f := fun i => (T k1).c ((T k2).b i) * (T k2).a i (S k2)) (by grind)
  have hcy : (T k1).c ((T k2).b i) ≠ 0 := fun z => by
    have hp' : 0 < (T k1).c ((T k2).b i) * (T k2).a i (S k2) := hp
    rw [z] at hp'; exact absurd hp' (by grind)
  have hnb := nb1 _ hcy
  have hle := fk _ ⟨i, hi', rfl⟩ hnb
  have hp' : 0 < (T k1).c ((T k2).b i) * (T k2).a i (S k2) := hp
  by_cases hy : (T k2).b i = S k1
  · have : i = R k2 := ok2.inj hi' st2.rm (by rw [hy, hx])
    subst this
    rw [hy] at hp'
    have a1 := st1.neg
    have a2 := st2.pos
    have := Rat.mul_nonneg (a := -((T k1).c (S k1))) (b := (T k2).a (R k2) (S k2)) (by grind) (by grind)
    grind
  · have c1y := st1.low ((T k2).b i) (by omega)
    have apos : 0 < (T k2).a i (S k2) := by
      rcases Classical.em (0 < (T k2).a i (S k2)) with z | z
      · exact z
      · have := Rat.mul_nonneg (a := (T k1).c ((T k2).b i)) (b := -((T k2).a i (S k2))) c1y (by grind)
        grind
    have v2 := val_basic ok2 hi'
    rw [vv k2 k1 k2l (by omega) k1l (by omega), val_non hnb] at v2
    have r1 := st2.min i hi' apos
    have r2 := th0 k2 k2l k2h
    have r3 : (T k2).a i n / (T k2).a i (S k2) = 0 := by rw [← v2]; grind
    have tie := st2.tie i hi' apos (by grind)
    rw [hx] at tie
    omega
end

/-! the size of what solves whole equations alone -/
def sumZ : Nat → (Nat → Int) → Int
  | 0, _ => 0
  | k + 1, f => sumZ k f + f k
theorem sumZ_cast (f : Nat → Int) : ∀ m : Nat, ((sumZ m f : Int) : Rat) = sumR m fun k => (f k : Rat)
  | 0 => rfl
  | m + 1 => by
    show ((sumZ m f + f m : Int) : Rat) = sumR m (fun k => (f k : Rat)) + (f m : Rat)
    rw [Rat.intCast_add, sumZ_cast f m]
theorem sumZ_bd {f : Nat → Int} {B : Nat} : ∀ {m : Nat}, (∀ k, k < m → (f k).natAbs ≤ B) → (sumZ m f).natAbs ≤ m * B
  | 0, _ => by simp [sumZ]
  | m + 1, h => by
    have h1 := sumZ_bd (m := m) fun k hk => h k (by omega)
    have h2 := h m (by omega)
    show (sumZ m f + f m).natAbs ≤ _
    rw [Nat.succ_mul]
    omega
def Kb : Nat → Nat → Nat
  | 0, _ => 1
  | m + 1, M => (m + 1) * (M * Kb m (2 * (M * M)))
theorem mul_bd {a b : Int} {A B : Nat} (ha : a.natAbs ≤ A) (hb : b.natAbs ≤ B) : (a * b).natAbs ≤ A * B := by rw [Int.natAbs_mul]; exact Nat.mul_le_mul ha hb
theorem elim : ∀ (m M : Nat) (eqs : List ((Nat → Int) × Int)) (lam : Nat → Rat), (∀ e ∈ eqs, (∀ k, k < m → (e.1 k).natAbs ≤ M) ∧ e.2.natAbs ≤ M) → (∀ e ∈ eqs, (sumR m fun k => (e.1 k : Rat) * lam k) = (e.2 : Rat)) →
    (∀ mu : Nat → Rat, (∀ e ∈ eqs, (sumR m fun k => (e.1 k : Rat) * mu k) = 0) → ∀ k, k < m → mu k = 0) → ∃ D : Int, D ≠ 0 ∧ D.natAbs ≤ Kb m M ∧ ∀ k, k < m → ∃ N : Int, N.natAbs ≤ Kb m M ∧ (D : Rat) * lam k = (N : Rat)
  | 0, M, eqs, lam, _, _, _ => ⟨1, by decide, Nat.le_refl 1, fun k hk => by omega⟩
  | m + 1, M, eqs, lam, hb, hs, hu => by
    have hp : ∃ e ∈ eqs, e.1 m ≠ 0 := by
      rcases Classical.em (∃ e ∈ eqs, e.1 m ≠ 0) with h | h
      · exact h
      · exfalso
        have q := hu (fun k => if k = m then 1 else 0) (fun e he => by
          have z : e.1 m = 0 := by
            rcases Classical.em (e.1 m = 0) with z | z
            · exact z
            · exact absurd ⟨e, he, z⟩ h
          have q := sumR_one (f := fun k => (e.1 k : Rat) * (if k = m then 1 else 0)) (k := m) (m := m + 1) (by omega) fun i _ hne => by rw [if_neg hne]; grind
          rw [q, z]; simp) m (by omega)
        simp at q
    obtain ⟨e0, he0, hp⟩ := hp
    have hpq : (e0.1 m : Rat) ≠ 0 := fun z => hp (by exact_mod_cast z)
    have s0 := hs e0 he0
    have s0 : (sumR m fun k => (e0.1 k : Rat) * lam k) + (e0.1 m : Rat) * lam m = (e0.2 : Rat) := s0
    have part : ∀ (e : (Nat → Int) × Int) (x : Nat → Rat), (sumR m fun k => ((e0.1 m * e.1 k - e.1 m * e0.1 k : Int) : Rat) * x k) = (e0.1 m : Rat) * (sumR m fun k => (e.1 k : Rat) * x k) - (e.1 m : Rat) * (sumR m fun k => (e0.1 k : Rat) * x k) := fun e x => by
      have a1 : (sumR m fun k => ((e0.1 m * e.1 k - e.1 m * e0.1 k : Int) : Rat) * x k) = sumR m fun k => (e0.1 m : Rat) * ((e.1 k : Rat) * x k) + (-(e.1 m : Rat)) * ((e0.1 k : Rat) * x k) := sumR_congr fun k _ => by
        rw [Rat.intCast_sub, Rat.intCast_mul, Rat.intCast_mul]; grind
      rw [a1, sumR_add, sumR_mul, sumR_mul]; grind
    obtain ⟨D, d0, d1, dn⟩ := elim m (2 * (M * M)) (eqs.map fun e => (fun k => e0.1 m * e.1 k - e.1 m * e0.1 k, e0.1 m * e.2 - e.1 m * e0.2)) lam (fun e' he' => by
        obtain ⟨e, he, rfl⟩ := List.mem_map.mp he'
        obtain ⟨b1, b2⟩ := hb e he
        obtain ⟨c1, c2⟩ := hb e0 he0
        refine ⟨fun k hk => ?_, ?_⟩
        · have q1 := mul_bd (c1 m (by omega)) (b1 k (by omega))
          have q2 := mul_bd (b1 m (by omega)) (c1 k (by omega))
          show (e0.1 m * e.1 k - e.1 m * e0.1 k).natAbs ≤ _
          omega
        · have q1 := mul_bd (c1 m (by omega)) b2
          have q2 := mul_bd (b1 m (by omega)) c2
          show (e0.1 m * e.2 - e.1 m * e0.2).natAbs ≤ _
          omega) (fun e' he' => by
        obtain ⟨e, he, rfl⟩ := List.mem_map.mp he'
        have s1 := hs e he
        have s1 : (sumR m fun k => (e.1 k : Rat) * lam k) + (e.1 m : Rat) * lam m = (e.2 : Rat) := s1
        show (sumR m fun k => ((e0.1 m * e.1 k - e.1 m * e0.1 k : Int) : Rat) * lam k) = ((e0.1 m * e.2 - e.1 m * e0.2 : Int) : Rat)
        rw [part, Rat.intCast_sub, Rat.intCast_mul, Rat.intCast_mul, ← s0, ← s1]; grind) (fun mu hmu k hk => by
        have q := hu (fun k => if k < m then mu k else -(sumR m fun k => (e0.1 k : Rat) * mu k) / (e0.1 m : Rat)) (fun e he => by
          have h1 := hmu _ (List.mem_map.mpr ⟨e, he, rfl⟩)
          have h1 : (sumR m fun k => ((e0.1 m * e.1 k - e.1 m * e0.1 k : Int) : Rat) * mu k) = 0 := h1
          rw [part] at h1
          show (sumR m fun k => (e.1 k : Rat) * (if k < m then mu k else -(sumR m fun k => (e0.1 k : Rat) * mu k) / (e0.1 m : Rat))) + (e.1 m : Rat) * (if m < m then mu m else -(sumR m fun k => (e0.1 k : Rat) * mu k) / (e0.1 m : Rat)) = 0
          rw [if_neg (Nat.lt_irrefl m), sumR_congr (g := fun k => (e.1 k : Rat) * mu k) fun k hk => by rw [if_pos hk]]
          generalize (sumR m fun k => (e0.1 k : Rat) * mu k) = y at *
          generalize (sumR m fun k => (e.1 k : Rat) * mu k) = z at *
          grind) k (by omega)
        have q : (if k < m then mu k else _) = 0 := q
        rw [if_pos hk] at q
        exact q)
    have hN : ∀ k, ∃ N : Int, k < m → N.natAbs ≤ Kb m (2 * (M * M)) ∧ (D : Rat) * lam k = (N : Rat) := fun k => by
      by_cases hk : k < m
      · obtain ⟨N, h⟩ := dn k hk; exact ⟨N, fun _ => h⟩
      · exact ⟨0, fun z => absurd z hk⟩
    obtain ⟨N, hN⟩ : ∃ N : Nat → Int, ∀ k, k < m → (N k).natAbs ≤ Kb m (2 * (M * M)) ∧ (D : Rat) * lam k = (N k : Rat) := ⟨fun k => Classical.choose (hN k), fun k => Classical.choose_spec (hN k)⟩
    obtain ⟨c1, c2⟩ := hb e0 he0
    have cm := c1 m (by omega)
    generalize hK : Kb m (2 * (M * M)) = K at *
    have hKK : M * K ≤ Kb (m + 1) M := by
      show M * K ≤ (m + 1) * (M * Kb m (2 * (M * M)))
      rw [hK]
      exact Nat.le_mul_of_pos_left _ (by omega)
    refine ⟨e0.1 m * D, Int.mul_ne_zero hp d0, Nat.le_trans (mul_bd cm d1) hKK, fun k hk => ?_⟩
    by_cases hkm : k = m
    · subst hkm
      refine ⟨D * e0.2 - sumZ k fun i => e0.1 i * N i, ?_, ?_⟩
      · have q1 := mul_bd d1 c2
        have q2 := sumZ_bd (f := fun i => e0.1 i * N i) (B := M * K) (m := k) fun i hi => mul_bd (c1 i (by omega)) (hN i hi).1
        have e1 : Kb (k + 1) M = (k + 1) * (M * K) := by show (k + 1) * (M * Kb k (2 * (M * M))) = _; rw [hK]
        rw [e1, Nat.succ_mul]
        rw [Nat.mul_comm K M] at q1
        omega
      · rw [Rat.intCast_mul, Rat.intCast_sub, Rat.intCast_mul, sumZ_cast]
        have e2 : (sumR k fun i => ((e0.1 i * N i : Int) : Rat)) = (D : Rat) * sumR k fun i => (e0.1 i : Rat) * lam i := by
          rw [← sumR_mul]
          refine sumR_congr fun i hi => ?_
          rw [Rat.intCast_mul, ← (hN i hi).2]; grind
        rw [e2, ← s0]; grind
    · obtain ⟨h1, h2⟩ := hN k (by omega)
      refine ⟨e0.1 m * N k, Nat.le_trans (mul_bd cm h1) hKK, ?_⟩
      rw [Rat.intCast_mul, Rat.intCast_mul, ← h2]; grind

/-! settling ends -/
def bcode (n : Nat) (b : Nat → Nat) : Nat → Nat
  | 0 => 0
  | m + 1 => b m + n * bcode n b m
theorem bcode_lt {n : Nat} {b : Nat → Nat} : ∀ {m : Nat}, (∀ i, i < m → b i < n) → bcode n b m < n ^ m
  | 0, _ => by simp [bcode]
  | m + 1, h => by
    have ih := bcode_lt (m := m) fun i hi => h i (by omega)
    have hm := h m (by omega)
    show b m + n * bcode n b m < n ^ (m + 1)
    have q : n * bcode n b m + n ≤ n * n ^ m := by
      have := Nat.mul_le_mul_left n (show bcode n b m + 1 ≤ n ^ m from ih)
      rw [Nat.mul_succ] at this
      exact this
    rw [Nat.pow_succ, Nat.mul_comm (n ^ m) n]
    omega
theorem bcode_inj {n : Nat} {b b' : Nat → Nat} : ∀ {m : Nat}, (∀ i, i < m → b i < n) → (∀ i, i < m → b' i < n) → bcode n b m = bcode n b' m → ∀ i, i < m → b i = b' i
  | 0, _, _, _, i, hi => by omega
  | m + 1, h, h', e, i, hi => by
    have e : b m + n * bcode n b m = b' m + n * bcode n b' m := e
    have hm := h m (by omega)
    have hm' := h' m (by omega)
    have em : b m = b' m := by
      have q := congrArg (· % n) e
      simp only [Nat.add_mul_mod_self_left] at q
      rwa [Nat.mod_eq_of_lt hm, Nat.mod_eq_of_lt hm'] at q
    have ec : bcode n b m = bcode n b' m := by
      rw [em] at e
      exact Nat.eq_of_mul_eq_mul_left (by omega) (Nat.add_left_cancel e)
    by_cases q : i = m
    · rw [q]; exact em
    · exact bcode_inj (m := m) (fun i hi => h i (by omega)) (fun i hi => h' i (by omega)) ec i (by omega)
theorem nodup_short : ∀ (l : List Nat) (N : Nat), l.Nodup → (∀ x ∈ l, x < N) → l.length ≤ N
  | [], _, _, _ => Nat.zero_le _
  | x :: l, 0, _, h => absurd (h x List.mem_cons_self) (by omega)
  | x :: l, N + 1, hn, h => by
    rw [List.nodup_cons] at hn
    have q := nodup_short (l.map fun y => if y = N then x else y) N (by
      rw [List.Nodup, List.pairwise_map]
      refine List.Pairwise.imp_of_mem (R := fun a b => a ≠ b) (fun {a b} ha hb hab => ?_) hn.2
      have ax : a ≠ x := fun z => hn.1 (z ▸ ha)
      have bx : b ≠ x := fun z => hn.1 (z ▸ hb)
      by_cases h1 : a = N <;> by_cases h2 : b = N <;> simp only [h1, h2, if_true, if_false] <;> omega) (fun y hy => by
      obtain ⟨z, hz, rfl⟩ := List.mem_map.mp hy
      have a1 := h z (List.mem_cons_of_mem _ hz)
      have a2 := h x List.mem_cons_self
      have a3 : z ≠ x := fun e => hn.1 (e ▸ hz)
      show (if z = N then x else z) < N
      split <;> omega)
    rw [List.length_map] at q
    rw [List.length_cons]; omega
theorem pigeon {f : Nat → Nat} {N : Nat} (h : ∀ k, k ≤ N → f k < N) : ∃ i j, i < j ∧ j ≤ N ∧ f i = f j := by
  rcases Classical.em (∃ i j, i < j ∧ j ≤ N ∧ f i = f j) with q | q
  · exact q
  · exfalso
    have := nodup_short ((List.range (N + 1)).map f) N (by
      rw [List.Nodup, List.pairwise_map]
      refine List.Pairwise.imp_of_mem (R := fun a b => a < b) (fun {a b} ha hb hab e => ?_) List.pairwise_lt_range
      have := List.mem_range.mp hb
      exact q ⟨a, b, hab, by omega, e⟩) (fun x hx => by
      obtain ⟨k, hk, rfl⟩ := List.mem_map.mp hx
      have := List.mem_range.mp hk
      exact h k (by omega))
    rw [List.length_map, List.length_range] at this
    omega
theorem settle_ind {m n : Nat} {A : Nat → Nat → Rat} {C : Nat → Rat} {P : Tab → Prop} (hstep : ∀ t, TOk m n A C t → (∀ r s, StepAt m n t r s → P (piv t r s)) → P t) (t0 : Tab) (h0 : TOk m n A C t0) : P t0 := by
  rcases Classical.em (P t0) with h | hn
  · exact h
  · exfalso
    have nxt : ∀ t : Tab, ∃ rs : Nat × Nat, TOk m n A C t → ¬ P t → StepAt m n t rs.1 rs.2 ∧ ¬ P (piv t rs.1 rs.2) := fun t => by
      rcases Classical.em (TOk m n A C t ∧ ¬ P t) with ⟨h1, h2⟩ | h
      · rcases Classical.em (∃ r s, StepAt m n t r s ∧ ¬ P (piv t r s)) with ⟨r, s, h3⟩ | h3
        · exact ⟨(r, s), fun _ _ => h3⟩
        · exact absurd (hstep t h1 fun r s hs => by
            rcases Classical.em (P (piv t r s)) with q | q
            · exact q
            · exact absurd ⟨r, s, hs, q⟩ h3) h2
      · exact ⟨(0, 0), fun h1 h2 => absurd ⟨h1, h2⟩ h⟩
    obtain ⟨rs, hrs⟩ : ∃ rs : Tab → Nat × Nat, ∀ t, TOk m n A C t → ¬ P t → StepAt m n t (rs t).1 (rs t).2 ∧ ¬ P (piv t (rs t).1 (rs t).2) := ⟨fun t => Classical.choose (nxt t), fun t => Classical.choose_spec (nxt t)⟩
    let T : Nat → Tab := fun k => Nat.rec t0 (fun _ t => piv t (rs t).1 (rs t).2) k
    have hT : ∀ k, TOk m n A C (T k) ∧ ¬ P (T k) := by
      intro k
      induction k with
      | zero => exact ⟨h0, hn⟩
      | succ k ih =>
        obtain ⟨q1, q2⟩ := hrs (T k) ih.1 ih.2
        exact ⟨piv_ok ih.1 q1.rm q1.sn q1.pos q1.min, q2⟩
    obtain ⟨i, j, hij, _, he⟩ := pigeon (f := fun k => bcode n (T k).b m) (N := n ^ m) fun k _ => bcode_lt (hT k).1.bn
    exact bland (T := T) (R := fun k => (rs (T k)).1) (S := fun k => (rs (T k)).2) hij (fun k _ _ => (hT k).1) (fun k _ _ => ⟨(hrs (T k) (hT k).1 (hT k).2).1, rfl⟩) (bcode_inj (hT i).1.bn (hT j).1.bn he)

/-! the size of a tableau -/
section
variable {m n w M : Nat} {A : Nat → Nat → Rat} {C : Nat → Rat} {Ai : Nat → Nat → Int} {t : Tab}
/-- x is told by the rows: its shares are small where x is whole at the basis -/
theorem small_of (h : TOk m n A C t) (hA : ∀ k j, k < m → A k j = (Ai k j : Rat)) (hM : ∀ k j, k < m → (Ai k j).natAbs ≤ M) (hh : ∀ k l, k < m → l < m → A k (w + l) = if k = l then 1 else 0) {x : Nat → Rat} {xi : Nat → Int} (hx : Span m A x) (hxb : ∀ i, i < m → x (t.b i) = (xi i : Rat)) (hxM : ∀ i, i < m → (xi i).natAbs ≤ M) :
    ∃ D : Int, D ≠ 0 ∧ D.natAbs ≤ Kb m M ∧ ∀ j, ∃ P : Int, P.natAbs ≤ m * (Kb m M * M) ∧ (D : Rat) * x j = (P : Rat) := by
  obtain ⟨lam, hl⟩ := hx
  obtain ⟨D, d0, d1, dn⟩ := elim m M ((List.range m).map fun i => (fun k => Ai k (t.b i), xi i)) lam (fun e he => by
      obtain ⟨i, hi, rfl⟩ := List.mem_map.mp he
      exact ⟨fun k hk => hM k _ hk, hxM i (List.mem_range.mp hi)⟩) (fun e he => by
      obtain ⟨i, hi, rfl⟩ := List.mem_map.mp he
      have hi := List.mem_range.mp hi
      show (sumR m fun k => (Ai k (t.b i) : Rat) * lam k) = (xi i : Rat)
      rw [← hxb i hi, hl]
      exact sumR_congr fun k hk => by rw [hA k _ hk]; grind) (fun mu hmu k hk => by
      have hs : Span m A fun j => sumR m fun l => mu l * A l j := ⟨mu, fun _ => rfl⟩
      obtain ⟨v, hv⟩ := hs.trans h.of
      have hvi : ∀ i, i < m → v i = 0 := fun i hi => by
        have e := hv (t.b i)
        rw [sumR_one (f := fun l => v l * t.a l (t.b i)) (k := i) hi fun l hl' hne => by rw [h.unit l i hl' hi, if_neg hne]; grind, h.unit i i hi hi, if_pos rfl] at e
        have z := hmu _ (List.mem_map.mpr ⟨i, List.mem_range.mpr hi, rfl⟩)
        have z : (sumR m fun l => (Ai l (t.b i) : Rat) * mu l) = 0 := z
        rw [sumR_congr (g := fun l => mu l * A l (t.b i)) fun l hl' => by rw [hA l _ hl']; grind] at z
        have e : (sumR m fun l => mu l * A l (t.b i)) = v i * 1 := e
        rw [z] at e
        grind
      have e := hv (w + k)
      have e : (sumR m fun l => mu l * A l (w + k)) = sumR m fun i => v i * t.a i (w + k) := e
      rw [sumR_congr (f := fun i => v i * t.a i (w + k)) (g := fun _ => 0) fun i hi => by rw [hvi i hi]; grind, sumR_zero, sumR_one (k := k) hk fun l hl' hne => by rw [hh l k hl' hk, if_neg hne]; grind, hh k k hk hk, if_pos rfl] at e
      grind)
  obtain ⟨N, hN⟩ : ∃ N : Nat → Int, ∀ k, k < m → (N k).natAbs ≤ Kb m M ∧ (D : Rat) * lam k = (N k : Rat) := ⟨fun k => if hk : k < m then Classical.choose (dn k hk) else 0, fun k hk => by simp only [hk, dif_pos]; exact Classical.choose_spec (dn k hk)⟩
  refine ⟨D, d0, d1, fun j => ⟨sumZ m fun k => N k * Ai k j, sumZ_bd fun k hk => mul_bd (hN k hk).1 (hM k j hk), ?_⟩⟩
  rw [hl, sumZ_cast, ← sumR_mul]
  refine sumR_congr fun k hk => ?_
  rw [Rat.intCast_mul, ← (hN k hk).2, hA k j hk]; grind
end

theorem frac_SQ {q : Rat} {D P : Int} {n : Nat} (hD : D ≠ 0) (h : (D : Rat) * q = (P : Rat)) (h1 : P.natAbs < 2 ^ n) (h2 : D.natAbs < 2 ^ n) : SQ n q := by
  have hq : (D : Rat) ≠ 0 := fun z => hD (by exact_mod_cast z)
  have e : q = Rat.divInt P D := by
    rw [Rat.divInt_eq_div]
    grind
  rw [e]
  exact divInt_SQ hD h1 h2

/-! the first tableau -/
def A0 (w m : Nat) (rows : Nat → Nat → Int) (g : Nat → Int) (k j : Nat) : Int := if j < w then rows k j else if j < w + m then (if j = w + k then 1 else 0) else g k
def hRow (w m : Nat) (j : Nat) : Rat := if w ≤ j ∧ j < w + m then 1 else 0
def tab0 (w m : Nat) (A : Nat → Nat → Rat) : Tab := ⟨A, fun j => hRow w m j - sumR m fun k => A k j, fun i => w + i⟩
theorem A0_help {w m : Nat} {rows : Nat → Nat → Int} {g : Nat → Int} {k l : Nat} (hl : l < m) : A0 w m rows g k (w + l) = if k = l then 1 else 0 := by
  unfold A0
  rw [if_neg (by omega), if_pos (by omega)]
  by_cases e : k = l
  · rw [if_pos (by omega), if_pos e]
  · rw [if_neg (by omega), if_neg e]
theorem tab0_ok {w m : Nat} {rows : Nat → Nat → Int} {g : Nat → Int} (hg : ∀ k, k < m → 0 ≤ g k) : TOk m (w + m) (fun k j => (A0 w m rows g k j : Rat)) (hRow w m) (tab0 w m fun k j => (A0 w m rows g k j : Rat)) := by
  have hh : ∀ k l, l < m → ((A0 w m rows g k (w + l) : Int) : Rat) = if k = l then 1 else 0 := fun k l hl => by
    rw [A0_help hl]; split <;> rfl
  refine ⟨fun k hk => Span.row (a := fun k j => (A0 w m rows g k j : Rat)) hk, fun k hk => Span.row (a := fun k j => (A0 w m rows g k j : Rat)) hk, ⟨fun _ => 1, fun j => ?_⟩, fun k i hk hi => hh k i hi, fun i hi => ?_, fun i hi => ?_, fun k hk => ?_⟩
  · show hRow w m j - 1 * (hRow w m j - sumR m fun k => (A0 w m rows g k j : Rat)) = sumR m fun i => 1 * (A0 w m rows g i j : Rat)
    rw [sumR_mul]; grind
  · show hRow w m (w + i) - (sumR m fun k => (A0 w m rows g k (w + i) : Rat)) = 0
    rw [sumR_one (k := i) hi fun k hk hne => by rw [hh k i hi, if_neg hne], hh i i hi, if_pos rfl]
    unfold hRow
    rw [if_pos ⟨by omega, by omega⟩]; grind
  · show w + i < w + m
    omega
  · show (0 : Rat) ≤ (A0 w m rows g k (w + m) : Rat)
    have e : A0 w m rows g k (w + m) = g k := by unfold A0; rw [if_neg (by omega), if_neg (by omega)]
    rw [e]
    exact_mod_cast hg k hk
theorem hRow_nn (w m j : Nat) : 0 ≤ hRow w m j := by unfold hRow; split <;> grind
theorem leave_ex {w m : Nat} {A : Nat → Nat → Rat} {t : Tab} (h : TOk m (w + m) A (hRow w m) t) {s : Nat} (hs : t.c s < 0) : ∃ k, k < m ∧ 0 < t.a k s := by
  obtain ⟨v, hv⟩ := h.cs.trans h.of
  have hvi : ∀ i, i < m → v i = hRow w m (t.b i) := fun i hi => by
    have e := hv (t.b i)
    have e : hRow w m (t.b i) - 1 * t.c (t.b i) = sumR m fun l => v l * t.a l (t.b i) := e
    rw [sumR_one (k := i) hi fun l hl hne => by rw [h.unit l i hl hi, if_neg hne]; grind, h.unit i i hi hi, if_pos rfl, h.c0 i hi] at e
    grind
  have e := hv s
  have e : hRow w m s - 1 * t.c s = sumR m fun l => v l * t.a l s := e
  have h0 := hRow_nn w m s
  obtain ⟨i, hi, q⟩ := sumR_pos (m := m) (f := fun l => v l * t.a l s) (by grind)
  have q : 0 < v i * t.a i s := q
  refine ⟨i, hi, ?_⟩
  rw [hvi i hi] at q
  have hn := hRow_nn w m (t.b i)
  rcases Classical.em (0 < t.a i s) with z | z
  · exact z
  · have := Rat.mul_nonneg (a := hRow w m (t.b i)) (b := -(t.a i s)) hn (by grind)
    grind

/-! which row leaves; settling as a relation -/
def ratT (n : Nat) (t : Tab) (s k : Nat) : Rat := t.a k n / t.a k s
/-- the code's look: the ratios' difference, then the unknowns' -/
def lessT (n : Nat) (t : Tab) (s k r : Nat) : Bool := decide ((ratT n t s k - ratT n t s r).num < 0) || (decide ((ratT n t s k - ratT n t s r).num = 0) && decide (t.b k < t.b r))
def lvStep (n : Nat) (t : Tab) (s : Nat) (best : Option Nat) (k : Nat) : Option Nat :=
  if 0 < t.a k s then (match best with | none => some k | some r => if lessT n t s k r then some k else some r) else best
def lvM (n : Nat) (t : Tab) (s : Nat) : Nat → Option Nat
  | 0 => none
  | k + 1 => lvStep n t s (lvM n t s k) k
theorem num_neg {q : Rat} : q.num < 0 ↔ q < 0 := by
  rw [← Int.not_le, Rat.num_nonneg]; exact Rat.not_le
theorem num_pos {q : Rat} : 0 < q.num ↔ 0 < q := by
  constructor
  · intro h
    have a : 0 ≤ q := Rat.num_nonneg.mp (by omega)
    have b : q ≠ 0 := fun z => by rw [z] at h; exact absurd h (by decide)
    grind
  · intro h
    have a : 0 ≤ q.num := Rat.num_nonneg.mpr (by grind)
    have b : q.num ≠ 0 := fun z => by rw [Rat.num_eq_zero] at z; grind
    omega
def LvI (n : Nat) (t : Tab) (s j : Nat) : Option Nat → Prop
  | none => ∀ k, k < j → ¬ 0 < t.a k s
  | some r => (r < j ∧ 0 < t.a r s) ∧ ∀ k, k < j → 0 < t.a k s → ratT n t s r ≤ ratT n t s k ∧ (ratT n t s k = ratT n t s r → t.b r ≤ t.b k)
theorem lv_ok {n : Nat} {t : Tab} {s : Nat} : ∀ j, LvI n t s j (lvM n t s j)
  | 0 => fun _ h => by omega
  | j + 1 => by
    have ih := lv_ok (n := n) (t := t) (s := s) j
    show LvI n t s (j + 1) (lvStep n t s (lvM n t s j) j)
    unfold lvStep
    by_cases h : 0 < t.a j s
    · rw [if_pos h]
      cases hm : lvM n t s j with
      | none =>
        rw [hm] at ih
        refine ⟨⟨by omega, h⟩, fun k hk hp => ?_⟩
        by_cases e : k = j
        · subst e; exact ⟨by grind, fun _ => Nat.le_refl _⟩
        · exact absurd hp (ih k (by omega))
      | some r =>
        rw [hm] at ih
        obtain ⟨⟨r1, r2⟩, r3⟩ := ih
        cases hl : lessT n t s j r with
        | true =>
          show LvI n t s (j + 1) (if lessT n t s j r = true then some j else some r)
          rw [if_pos hl]
          unfold lessT at hl
          simp only [Bool.or_eq_true, Bool.and_eq_true, decide_eq_true_eq, num_neg, Rat.num_eq_zero] at hl
          refine ⟨⟨by omega, h⟩, fun k hk hp => ?_⟩
          by_cases e : k = j
          · subst e; exact ⟨by grind, fun _ => Nat.le_refl _⟩
          · obtain ⟨q1, q2⟩ := r3 k (by omega) hp
            rcases hl with z | ⟨z1, z2⟩
            · exact ⟨by grind, fun z => by exact absurd z (by grind)⟩
            · exact ⟨by grind, fun z => by have := q2 (by grind); omega⟩
        | false =>
          show LvI n t s (j + 1) (if lessT n t s j r = true then some j else some r)
          rw [if_neg (by rw [hl]; decide)]
          unfold lessT at hl
          rw [Bool.eq_false_iff] at hl
          simp only [ne_eq, Bool.or_eq_true, Bool.and_eq_true, decide_eq_true_eq, num_neg, Rat.num_eq_zero, not_or, not_and] at hl
          refine ⟨⟨by omega, r2⟩, fun k hk hp => ?_⟩
          by_cases e : k = j
          · subst e; exact ⟨by grind, fun z => by have := hl.2 (by grind); omega⟩
          · exact r3 k (by omega) hp
    · rw [if_neg h]
      cases hm : lvM n t s j with
      | none =>
        rw [hm] at ih
        intro k hk
        by_cases e : k = j
        · subst e; exact h
        · exact ih k (by omega)
      | some r =>
        rw [hm] at ih
        obtain ⟨⟨r1, r2⟩, r3⟩ := ih
        refine ⟨⟨by omega, r2⟩, fun k hk hp => ?_⟩
        by_cases e : k = j
        · subst e; exact absurd hp h
        · exact r3 k (by omega) hp
theorem step_of {m n : Nat} {t : Tab} {s r : Nat} (hs : s < n) (hneg : t.c s < 0) (hlow : ∀ j, j < s → 0 ≤ t.c j) (h : lvM n t s m = some r) : StepAt m n t r s := by
  have q := lv_ok (n := n) (t := t) (s := s) m
  rw [h] at q
  obtain ⟨⟨r1, r2⟩, r3⟩ := q
  exact ⟨hs, hneg, hlow, r1, r2, fun k hk hp => (r3 k hk hp).1, fun k hk hp z => (r3 k hk hp).2 z⟩
inductive Settles (m n : Nat) : Tab → Tab → Prop where
  | done {t : Tab} : (∀ j, j < n → 0 ≤ t.c j) → Settles m n t t
  | step {t u : Tab} {r s : Nat} : StepAt m n t r s → lvM n t s m = some r → Settles m n (piv t r s) u → Settles m n t u
theorem Settles.ok {m n : Nat} {A : Nat → Nat → Rat} {C : Nat → Rat} {t u : Tab} (h : Settles m n t u) (ht : TOk m n A C t) : TOk m n A C u ∧ ∀ j, j < n → 0 ≤ u.c j := by
  induction h with
  | done q => exact ⟨ht, q⟩
  | step st _ _ ih => exact ih (piv_ok ht st.rm st.sn st.pos st.min)
theorem least_neg {c : Nat → Rat} : ∀ n : Nat, (∀ j, j < n → 0 ≤ c j) ∨ ∃ s, s < n ∧ c s < 0 ∧ ∀ j, j < s → 0 ≤ c j
  | 0 => .inl fun _ h => by omega
  | n + 1 => by
    rcases least_neg (c := c) n with h | ⟨s, h1, h2, h3⟩
    · by_cases z : 0 ≤ c n
      · exact .inl fun j hj => by
          by_cases e : j = n
          · subst e; exact z
          · exact h j (by omega)
      · exact .inr ⟨n, by omega, by grind, h⟩
    · exact .inr ⟨s, by omega, h2, h3⟩
theorem settles_ex {w m : Nat} {A : Nat → Nat → Rat} {t : Tab} (ht : TOk m (w + m) A (hRow w m) t) : ∃ u, Settles m (w + m) t u := by
  refine settle_ind (P := fun t => ∃ u, Settles m (w + m) t u) ?_ t ht
  intro t ht ih
  rcases least_neg (c := t.c) (w + m) with h | ⟨s, h1, h2, h3⟩
  · exact ⟨t, .done h⟩
  · obtain ⟨k, hk, hp⟩ := leave_ex ht h2
    cases hl : lvM (w + m) t s m with
    | none =>
      have q := lv_ok (n := w + m) (t := t) (s := s) m
      rw [hl] at q
      exact absurd hp (q k hk)
    | some r =>
      have st := step_of h1 h2 h3 hl
      obtain ⟨u, hu⟩ := ih r s st
      exact ⟨u, .step st hl hu⟩

/-! what a settled system tells -/
def sgn (x : Int) : Int := if x < 0 then -1 else 1
theorem sgn_sq (x : Int) : sgn x * sgn x = 1 := by unfold sgn; split <;> rfl
theorem sgn_nn (x : Int) : 0 ≤ sgn x * x := by unfold sgn; split <;> omega
theorem sgn_abs (x y : Int) : (sgn x * y).natAbs = y.natAbs := by unfold sgn; split <;> omega
/-- the first tableau of a system with its signs turned -/
def AS (w m : Nat) (R : Nat → Nat → Int) (g : Nat → Int) (k j : Nat) : Int := A0 w m (fun k j => sgn (g k) * R k j) (fun k => sgn (g k) * g k) k j
def T0 (w m : Nat) (R : Nat → Nat → Int) (g : Nat → Int) : Tab := tab0 w m fun k j => (AS w m R g k j : Rat)
theorem T0_ok {w m : Nat} {R : Nat → Nat → Int} {g : Nat → Int} : TOk m (w + m) (fun k j => (AS w m R g k j : Rat)) (hRow w m) (T0 w m R g) := tab0_ok fun k _ => sgn_nn (g k)
/-- the system's end -/
def Ends (w m : Nat) (R : Nat → Nat → Int) (g : Nat → Int) (u : Tab) : Prop := Settles m (w + m) (T0 w m R g) u
theorem ends_ex (w m : Nat) (R : Nat → Nat → Int) (g : Nat → Int) : ∃ u, Ends w m R g u := settles_ex T0_ok
theorem AS_row {w m : Nat} {R : Nat → Nat → Int} {g : Nat → Int} {k j : Nat} (h : j < w) : AS w m R g k j = sgn (g k) * R k j := by unfold AS A0; rw [if_pos h]
theorem AS_help {w m : Nat} {R : Nat → Nat → Int} {g : Nat → Int} {k l : Nat} (h : l < m) : AS w m R g k (w + l) = if k = l then 1 else 0 := A0_help h
theorem AS_goal {w m : Nat} {R : Nat → Nat → Int} {g : Nat → Int} {k : Nat} : AS w m R g k (w + m) = sgn (g k) * g k := by unfold AS A0; rw [if_neg (by omega), if_neg (by omega)]
theorem sumR_nn {f : Nat → Rat} : ∀ {m : Nat}, (∀ i, i < m → 0 ≤ f i) → 0 ≤ sumR m f
  | 0, _ => by show (0 : Rat) ≤ 0; grind
  | m + 1, h => by
    show 0 ≤ sumR m f + f m
    have := sumR_nn (m := m) fun i hi => h i (by omega)
    have := h m (by omega)
    grind
theorem sumR_np {f : Nat → Rat} : ∀ {m : Nat}, (∀ i, i < m → f i ≤ 0) → sumR m f ≤ 0
  | 0, _ => by show (0 : Rat) ≤ 0; grind
  | m + 1, h => by
    show sumR m f + f m ≤ 0
    have := sumR_np (m := m) fun i hi => h i (by omega)
    have := h m (by omega)
    grind
theorem sumR_all0 {f : Nat → Rat} : ∀ {m : Nat}, (∀ i, i < m → 0 ≤ f i) → sumR m f = 0 → ∀ i, i < m → f i = 0
  | 0, _, _, i, hi => by omega
  | m + 1, h, e, i, hi => by
    have e : sumR m f + f m = 0 := e
    have q1 := sumR_nn (m := m) fun i hi => h i (by omega)
    have q2 := h m (by omega)
    by_cases z : i = m
    · subst z; grind
    · exact sumR_all0 (m := m) (fun i hi => h i (by omega)) (by grind) i (by omega)
section
variable {w m : Nat} {R : Nat → Nat → Int} {g : Nat → Int} {u : Tab}
theorem ends_ok (h : Ends w m R g u) : TOk m (w + m) (fun k j => (AS w m R g k j : Rat)) (hRow w m) u ∧ ∀ j, j < w + m → 0 ≤ u.c j := Settles.ok h T0_ok
theorem hRow_n : hRow w m (w + m) = 0 := by unfold hRow; rw [if_neg (by omega)]
theorem hRow_h {i : Nat} (h : i < m) : hRow w m (w + i) = 1 := by unfold hRow; rw [if_pos ⟨by omega, by omega⟩]
theorem hRow_x {j : Nat} (h : j < w) : hRow w m j = 0 := by unfold hRow; rw [if_neg (by omega)]
theorem valT_nn (h : Ends w m R g u) (j : Nat) : 0 ≤ valT m (w + m) u j := by
  obtain ⟨ok, _⟩ := ends_ok h
  refine sumR_nn fun i hi => ?_
  split
  · exact ok.nn i hi
  · grind
/-- the costs' last number -/
theorem cost_end (h : Ends w m R g u) : u.c (w + m) = - sumR m fun i => hRow w m (u.b i) * u.a i (w + m) := by
  obtain ⟨ok, _⟩ := ends_ok h
  obtain ⟨v, hv⟩ := ok.cs.trans ok.of
  have hvi : ∀ i, i < m → v i = hRow w m (u.b i) := fun i hi => by
    have e := hv (u.b i)
    have e : hRow w m (u.b i) - 1 * u.c (u.b i) = sumR m fun l => v l * u.a l (u.b i) := e
    rw [sumR_one (k := i) hi fun l hl hne => by rw [ok.unit l i hl hi, if_neg hne]; grind, ok.unit i i hi hi, if_pos rfl, ok.c0 i hi] at e
    grind
  have e := hv (w + m)
  have e : hRow w m (w + m) - 1 * u.c (w + m) = sumR m fun l => v l * u.a l (w + m) := e
  rw [sumR_congr (g := fun i => hRow w m (u.b i) * u.a i (w + m)) fun i hi => by rw [hvi i hi], hRow_n] at e
  grind
theorem cost_np (h : Ends w m R g u) : u.c (w + m) ≤ 0 := by
  have := sumR_nn (m := m) (f := fun i => hRow w m (u.b i) * u.a i (w + m)) fun i hi => Rat.mul_nonneg (hRow_nn _ _ _) ((ends_ok h).1.nn i hi)
  rw [cost_end h]; grind
theorem sol_worths (h : Ends w m R g u) (h0 : u.c (w + m) = 0) {k : Nat} (hk : k < m) : (sumR w fun j => (R k j : Rat) * valT m (w + m) u j) = (g k : Rat) := by
  obtain ⟨ok, _⟩ := ends_ok h
  have z : ∀ i, i < m → w ≤ u.b i → u.a i (w + m) = 0 := fun i hi hb => by
    have e := cost_end h
    rw [h0] at e
    have q := sumR_all0 (m := m) (f := fun i => hRow w m (u.b i) * u.a i (w + m)) (fun i hi => Rat.mul_nonneg (hRow_nn _ _ _) (ok.nn i hi)) (by grind) i hi
    have q : hRow w m (u.b i) * u.a i (w + m) = 0 := q
    have b := ok.bn i hi
    rw [show u.b i = w + (u.b i - w) by omega, hRow_h (by omega)] at q
    grind
  obtain ⟨v, hv⟩ := ok.of k hk
  have hvi : ∀ i, i < m → v i = (AS w m R g k (u.b i) : Rat) := fun i hi => by
    have e := hv (u.b i)
    rw [sumR_one (f := fun l => v l * u.a l (u.b i)) (k := i) hi fun l hl hne => by rw [ok.unit l i hl hi, if_neg hne]; grind, ok.unit i i hi hi, if_pos rfl] at e
    have e : (AS w m R g k (u.b i) : Rat) = v i * 1 := e
    rw [e]; grind
  have e := hv (w + m)
  have e : (AS w m R g k (w + m) : Rat) = sumR m fun i => v i * u.a i (w + m) := e
  rw [AS_goal] at e
  -- the sum by columns
  have s1 : (sumR w fun j => ((sgn (g k) * R k j : Int) : Rat) * valT m (w + m) u j) = sumR w fun j => sumR m fun i => if u.b i = j then ((sgn (g k) * R k j : Int) : Rat) * u.a i (w + m) else 0 := sumR_congr fun j hj => by
    unfold valT
    rw [← sumR_mul]
    refine sumR_congr fun i hi => ?_
    split
    · rfl
    · grind
  have s2 : (sumR m fun i => sumR w fun j => if u.b i = j then ((sgn (g k) * R k j : Int) : Rat) * u.a i (w + m) else 0) = sumR m fun i => v i * u.a i (w + m) := sumR_congr fun i hi => by
    by_cases hb : u.b i < w
    · rw [sumR_one (k := u.b i) hb fun j _ hne => by rw [if_neg fun z => hne z.symm], if_pos rfl, hvi i hi, AS_row hb]
    · rw [sumR_congr (g := fun _ => 0) fun j hj => by rw [if_neg (by omega)], sumR_zero, z i hi (by omega)]; grind
  rw [← s2, sumR_swap, ← s1] at e
  have s3 : (sumR w fun j => ((sgn (g k) * R k j : Int) : Rat) * valT m (w + m) u j) = (sgn (g k) : Rat) * sumR w fun j => (R k j : Rat) * valT m (w + m) u j := by
    rw [← sumR_mul]
    exact sumR_congr fun j _ => by rw [Rat.intCast_mul]; grind
  rw [s3, Rat.intCast_mul] at e
  have q : (sgn (g k) : Rat) * (sgn (g k) : Rat) = 1 := by rw [← Rat.intCast_mul, sgn_sq]; rfl
  grind
/-- a row's price -/
def prT (w : Nat) (g : Nat → Int) (u : Tab) (k : Nat) : Rat := (sgn (g k) : Rat) * (1 - u.c (w + k))
theorem prices_rel (h : Ends w m R g u) (j : Nat) : hRow w m j - u.c j = sumR m fun k => (1 - u.c (w + k)) * (AS w m R g k j : Rat) := by
  obtain ⟨ok, _⟩ := ends_ok h
  obtain ⟨l, hl⟩ := ok.cs
  have hli : ∀ k, k < m → l k = 1 - u.c (w + k) := fun k hk => by
    have e := hl (w + k)
    have e : hRow w m (w + k) - 1 * u.c (w + k) = sumR m fun i => l i * (AS w m R g i (w + k) : Rat) := e
    rw [sumR_one (k := k) hk fun i hi hne => by rw [AS_help hk, if_neg hne]; grind, AS_help hk, if_pos rfl, hRow_h hk] at e
    grind
  have e := hl j
  have e : hRow w m j - 1 * u.c j = sumR m fun i => l i * (AS w m R g i j : Rat) := e
  rw [sumR_congr (g := fun k => (1 - u.c (w + k)) * (AS w m R g k j : Rat)) fun i hi => by rw [hli i hi]] at e
  grind
theorem sol_prices (h : Ends w m R g u) {j : Nat} (hj : j < w) : (sumR m fun k => prT w g u k * (R k j : Rat)) ≤ 0 := by
  have e := prices_rel h j
  rw [hRow_x hj] at e
  have c := (ends_ok h).2 j (by omega)
  have s : (sumR m fun k => (1 - u.c (w + k)) * (AS w m R g k j : Rat)) = sumR m fun k => prT w g u k * (R k j : Rat) := sumR_congr fun k _ => by
    rw [AS_row hj, Rat.intCast_mul]; unfold prT; grind
  rw [s] at e
  grind
theorem sol_goal (h : Ends w m R g u) (h0 : u.c (w + m) ≠ 0) : 0 < sumR m fun k => prT w g u k * (g k : Rat) := by
  have e := prices_rel h (w + m)
  rw [hRow_n] at e
  have c := cost_np h
  have s : (sumR m fun k => (1 - u.c (w + k)) * (AS w m R g k (w + m) : Rat)) = sumR m fun k => prT w g u k * (g k : Rat) := sumR_congr fun k _ => by
    rw [AS_goal, Rat.intCast_mul]; unfold prT; grind
  rw [s] at e
  grind
end

/-! the size of all tableaux of a small system -/
theorem kb_bd {m : Nat} (h : m ≤ 4) : Kb m 2048 < 2 ^ 190 ∧ m * (Kb m 2048 * 2048) < 2 ^ 199 := by
  match m, h with
  | 0, _ => decide +kernel
  | 1, _ => decide +kernel
  | 2, _ => decide +kernel
  | 3, _ => decide +kernel
  | 4, _ => decide +kernel
theorem pow_le2 {a n m : Nat} (h : a < 2 ^ n) (l : n ≤ m) : a < 2 ^ m := Nat.lt_of_lt_of_le h (Nat.pow_le_pow_right (by decide) l)
theorem tab_SQ {m w : Nat} {Ai : Nat → Nat → Int} {t : Tab} (h : TOk m (w + m) (fun k j => (Ai k j : Rat)) (hRow w m) t) (hM : ∀ k j, k < m → (Ai k j).natAbs ≤ 2048) (hh : ∀ k l, k < m → l < m → Ai k (w + l) = if k = l then 1 else 0) (hm : m ≤ 4) :
    (∀ k j, k < m → SQ 200 (t.a k j)) ∧ ∀ j, SQ 200 (t.c j) := by
  obtain ⟨b1, b2⟩ := kb_bd hm
  have hhR : ∀ k l, k < m → l < m → ((Ai k (w + l) : Int) : Rat) = if k = l then 1 else 0 := fun k l hk hl => by
    rw [hh k l hk hl]; split <;> rfl
  have p200 : (2 : Nat) ^ 200 = 2 * 2 ^ 199 := by decide
  have p199 : (2 : Nat) ^ 190 < 2 ^ 199 := by decide
  constructor
  · intro k j hk
    obtain ⟨D, d0, d1, dj⟩ := small_of (A := fun k j => (Ai k j : Rat)) (Ai := Ai) (M := 2048) h (fun _ _ _ => rfl) hM hhR (x := t.a k) (xi := fun i => if k = i then 1 else 0) (h.to k hk) (fun i hi => by rw [h.unit k i hk hi]; split <;> rfl) (fun i _ => by split <;> decide)
    obtain ⟨Pn, p1, p2⟩ := dj j
    exact frac_SQ d0 p2 (by omega) (by omega)
  · intro j
    obtain ⟨D, d0, d1, dj⟩ := small_of (A := fun k j => (Ai k j : Rat)) (Ai := Ai) (M := 2048) h (fun _ _ _ => rfl) hM hhR (x := fun j => hRow w m j - 1 * t.c j) (xi := fun i => if w ≤ t.b i ∧ t.b i < w + m then 1 else 0) h.cs (fun i hi => by
      show hRow w m (t.b i) - 1 * t.c (t.b i) = _
      rw [h.c0 i hi]; unfold hRow; split <;> grind) (fun i _ => by split <;> decide)
    obtain ⟨Pn, p1, p2⟩ := dj j
    have p2 : (D : Rat) * (hRow w m j - 1 * t.c j) = (Pn : Rat) := p2
    by_cases z : w ≤ j ∧ j < w + m
    · have e : hRow w m j = 1 := by unfold hRow; rw [if_pos z]
      refine frac_SQ (P := D - Pn) d0 ?_ (by omega) (by omega)
      rw [Rat.intCast_sub, ← p2, e]; grind
    · have e : hRow w m j = 0 := by unfold hRow; rw [if_neg z]
      refine frac_SQ (P := -Pn) d0 ?_ (by omega) (by omega)
      rw [Rat.intCast_neg, ← p2, e]; grind
theorem AS_bd {w m : Nat} {R : Nat → Nat → Int} {g : Nat → Int} (hR : ∀ k j, k < m → j < w → (R k j).natAbs ≤ 2048) (hg : ∀ k, k < m → (g k).natAbs ≤ 2048) : ∀ k j, k < m → (AS w m R g k j).natAbs ≤ 2048 := by
  intro k j hk
  unfold AS A0
  split
  · next h => rw [sgn_abs]; exact hR k j hk h
  · split
    · split <;> decide
    · rw [sgn_abs]; exact hg k hk

/-! a system as an object's fields -/
theorem ix_rngD {m k : Nat} {f : Nat → D} (h : k < m) : ixD (.lst ((List.range m).map f)) (k : Int) = some (f k) := ix_map (by
  rw [atI_ge (by omega) (by rw [List.length_range]; omega)]
  simp)
theorem ix_rowL {n : Nat} {r : Nat → Rat} : ixD (eRow (n + 1) r) (-1) = some (eQ (r n)) := ix_lastM (f := fun j => eQ (r j)) (by rw [List.range_succ]; simp)
theorem eRow_congr {n : Nat} {x y : Nat → Rat} (h : ∀ j, j < n → x j = y j) : eRow n x = eRow n y := by
  unfold eRow
  exact congrArg D.lst (List.map_congr_left fun j hj => by rw [h j (List.mem_range.mp hj)])
theorem rng_congr {m : Nat} {f g : Nat → D} (h : ∀ k, k < m → f k = g k) : (List.range m).map f = (List.range m).map g := List.map_congr_left fun k hk => h k (List.mem_range.mp hk)
theorem set_rng {m i : Nat} {f : Nat → D} {d : D} : ((List.range m).map f).set i d = (List.range m).map fun k => if k = i then d else f k := by
  refine List.ext_getElem (by simp) fun k h1 h2 => ?_
  rw [List.getElem_set]
  simp only [List.getElem_map, List.getElem_range]
  by_cases e : i = k
  · rw [if_pos e, if_pos e.symm]
  · rw [if_neg e, if_neg fun z => e z.symm]
theorem rng_len {m : Nat} {f : Nat → D} : ((List.range m).map f).length = m := by rw [List.length_map, List.length_range]
def sysG (w m : Nat) (a : Nat → Nat → Rat) (b : Nat → Nat) (c : Nat → Rat) : List (Str × FI) :=
  [("wide", .fz (.int (w : Int))), ("rows", .ow none ((List.range m).map fun k => eRow (w + m + 1) (a k))), ("basis", .ow none ((List.range m).map fun i => .int (b i : Int))), ("costs", .fz (eRow (w + m + 1) c))]
def sysF (w m : Nat) (t : Tab) : List (Str × FI) := sysG w m t.a t.b t.c
/-- the rows while a column is brought in: r and those below i are done -/
def rwI (t : Tab) (r s i k : Nat) : Nat → Rat := if k = r then fun j => t.a r j / t.a r s else if k < i then (piv t r s).a k else t.a k
theorem rwI_end {t : Tab} {r s m k : Nat} (h : k < m) : rwI t r s m k = (piv t r s).a k := by
  unfold rwI
  by_cases e : k = r
  · rw [if_pos e]; funext j; unfold piv; simp [e]
  · rw [if_neg e, if_pos h]
theorem rwI_same {t : Tab} {r s i : Nat} (h : i = r) (k : Nat) : rwI t r s (i + 1) k = rwI t r s i k := by
  unfold rwI
  by_cases e : k = r
  · rw [if_pos e, if_pos e]
  · rw [if_neg e, if_neg e]
    by_cases z : k < i
    · rw [if_pos z, if_pos (by omega)]
    · rw [if_neg z, if_neg (by omega)]
theorem rwI_step {t : Tab} {r s i : Nat} (h : i ≠ r) (k : Nat) : rwI t r s (i + 1) k = if k = i then fun j => rwI t r s i i j - rwI t r s i i s * rwI t r s i r j else rwI t r s i k := by
  by_cases e : k = i
  · subst e
    rw [if_pos rfl]
    unfold rwI
    rw [if_neg h, if_pos (by omega), if_neg h, if_neg (by omega), if_pos rfl]
    funext j; unfold piv; simp [h]
  · rw [if_neg e]
    unfold rwI
    by_cases z : k = r
    · rw [if_pos z, if_pos z]
    · rw [if_neg z, if_neg z]
      by_cases y : k < i
      · rw [if_pos y, if_pos (by omega)]
      · rw [if_neg y, if_neg (by omega)]
def SmallT (m : Nat) (t : Tab) : Prop := (∀ k j, k < m → SQ 200 (t.a k j)) ∧ ∀ j, SQ 200 (t.c j)
theorem rwI_r {t : Tab} {r s m i : Nat} (hr : r < m) (h : SmallT m t) (h0 : t.a r s ≠ 0) (j : Nat) : SQ 400 (rwI t r s i r j) := by
  unfold rwI
  rw [if_pos rfl]
  exact div_SQ (h.1 r j hr) (h.1 r s hr) h0
theorem rwI_i {t : Tab} {r s m i : Nat} (hi : i < m) (h : SmallT m t) (hne : i ≠ r) (j : Nat) : SQ 200 (rwI t r s i i j) := by
  unfold rwI
  rw [if_neg hne, if_neg (by omega)]
  exact h.1 i j hi
/-- the best row so far -/
def bD (n : Nat) (t : Tab) (s : Nat) : Option Nat → D
  | none => .non
  | some r => .tup [eQ (ratT n t s r), .int (r : Int), .int (t.b r : Int)]
theorem lex_less {n : Nat} {t : Tab} {s k r : Nat} : HT.lexLt [(ratT n t s k - ratT n t s r).num, (t.b k : Int) - (t.b r : Int)] [0, 0] = lessT n t s k r := by
  rw [HT.lexLt_cons, HT.lexLt_cons, HT.lexLt_nil_nil]
  unfold lessT
  generalize (ratT n t s k - ratT n t s r).num = x
  by_cases h : x = 0
  · rw [if_pos h, h]
    by_cases z : (t.b k : Int) - (t.b r : Int) = 0
    · rw [if_pos z, decide_eq_false (show ¬ t.b k < t.b r by omega)]; rfl
    · rw [if_neg z]
      by_cases y : t.b k < t.b r
      · rw [decide_eq_true y, decide_eq_true (show (t.b k : Int) - (t.b r : Int) < 0 by omega)]; rfl
      · rw [decide_eq_false y, decide_eq_false (show ¬ (t.b k : Int) - (t.b r : Int) < 0 by omega)]; rfl
  · rw [if_neg h, decide_eq_false h]; simp
/-- the costs while the rows are taken off -/
def csI (w m : Nat) (A : Nat → Nat → Int) (i j : Nat) : Int := (if w ≤ j ∧ j < w + m then 1 else 0) - sumZ i fun k => A k j
theorem csI_Q {w m : Nat} {A : Nat → Nat → Int} (j : Nat) : ((csI w m A m j : Int) : Rat) = hRow w m j - sumR m fun k => (A k j : Rat) := by
  unfold csI hRow
  rw [Rat.intCast_sub, sumZ_cast]
  split <;> rfl
theorem csI_bd {w m : Nat} {A : Nat → Nat → Int} {i j : Nat} (hi : i ≤ 4) (hA : ∀ k, k < i → (A k j).natAbs ≤ 2048) : (csI w m A i j).natAbs ≤ 8200 := by
  have q := sumZ_bd (f := fun k => A k j) (m := i) hA
  have : i * 2048 ≤ 4 * 2048 := Nat.mul_le_mul_right _ hi
  unfold csI
  split <;> omega
theorem csI_step {w m : Nat} {A : Nat → Nat → Int} (i j : Nat) : ((csI w m A (i + 1) j : Int) : Rat) = (csI w m A i j : Rat) - 1 * (A i j : Rat) := by
  have e : csI w m A (i + 1) j = csI w m A i j - A i j := by
    unfold csI
    show _ - (sumZ i (fun k => A k j) + A i j) = _
    omega
  rw [e, Rat.intCast_sub]; grind
theorem row_cat {w m : Nat} {B : Nat → Nat → Int} {h : Nat → Int} {k : Nat} : (List.range w).map (fun j => eQ (B k j : Rat)) ++ (List.range m).map (fun j => eQ ((if j = k then 1 else 0 : Int) : Rat)) ++ [eQ (h k : Rat)] = (List.range (w + m + 1)).map fun j => eQ (A0 w m B h k j : Rat) := by
  rw [List.range_succ, List.map_append, List.range_add, List.map_append, List.map_map]
  have e1 : (List.range w).map (fun j => eQ (A0 w m B h k j : Rat)) = (List.range w).map fun j => eQ (B k j : Rat) := List.map_congr_left fun j hj => by unfold A0; rw [if_pos (List.mem_range.mp hj)]
  have e2 : (List.range m).map ((fun j => eQ (A0 w m B h k j : Rat)) ∘ fun x => w + x) = (List.range m).map (fun j => eQ ((if j = k then 1 else 0 : Int) : Rat)) := List.map_congr_left fun j hj => by
    show eQ (A0 w m B h k (w + j) : Rat) = _
    rw [A0_help (List.mem_range.mp hj)]
    by_cases e : j = k
    · rw [if_pos e, if_pos e.symm]
    · rw [if_neg e, if_neg fun z => e z.symm]
  have e3 : [w + m].map (fun j => eQ (A0 w m B h k j : Rat)) = [eQ (h k : Rat)] := by
    show [eQ (A0 w m B h k (w + m) : Rat)] = _
    unfold A0; rw [if_neg (by omega), if_neg (by omega)]
  rw [e1, e2, e3]
theorem repQ (x : Rat) (n : Nat) : (List.replicate n [eQ x]).flatten = (List.range n).map fun _ => eQ x := by
  induction n with
  | zero => rfl
  | succ n ih => rw [List.range_succ, List.map_append, ← ih, List.replicate_succ']; simp
theorem costs0 {w m : Nat} {A : Nat → Nat → Int} : (List.range w).map (fun _ => eQ 0) ++ (List.range m).map (fun _ => eQ 1) ++ [eQ 0] = (List.range (w + m + 1)).map fun j => eQ (csI w m A 0 j : Rat) := by
  rw [List.range_succ, List.map_append, List.range_add, List.map_append, List.map_map]
  have e1 : (List.range w).map (fun j => eQ (csI w m A 0 j : Rat)) = (List.range w).map fun _ => eQ 0 := List.map_congr_left fun j hj => by
    have := List.mem_range.mp hj
    unfold csI; rw [if_neg (by omega)]; rfl
  have e2 : (List.range m).map ((fun j => eQ (csI w m A 0 j : Rat)) ∘ fun x => w + x) = (List.range m).map (fun _ => eQ 1) := List.map_congr_left fun j hj => by
    have := List.mem_range.mp hj
    show eQ (csI w m A 0 (w + j) : Rat) = _
    unfold csI; rw [if_pos ⟨by omega, by omega⟩]; rfl
  have e3 : [w + m].map (fun j => eQ (csI w m A 0 j : Rat)) = [eQ 0] := by
    show [eQ (csI w m A 0 (w + m) : Rat)] = _
    unfold csI; rw [if_neg (by omega)]; rfl
  rw [e1, e2, e3]

abbrev s_part : Stmt := top 4
abbrev N_part : List Str := ["top", "under", "one", "other"]
abbrev P_part : List Str := ["top", "under"]
theorem sc_part : FnScope N_part P_part (defScope s_part) := ⟨rfl, rfl, rfl, by decide +kernel, rfl, by decide +kernel, by decide +kernel⟩

def F_part : Fs := fun args r => ∃ t u : Int, args = [.int t, .int u] ∧ (u ≠ 0 ∧ u.natAbs < 2 ^ 8900) ∧ r = .ok (eQ (Rat.divInt t u))
theorem df_part {P : Program} {w : World} {K : Fg} {mg : Str → Option Value} {base : Heap} (T : Tx K mg) (U : Dn K mg "part" s_part P_part) : Df P w K mg base "part" 1 F_part :=
  df_of 0 U sc_part (fun _ _ ⟨_, _, h, _⟩ => by rw [h]; rfl) fun f cdv A outer s H E args r hr tk hp hF => by
    obtain ⟨t, u, rfl, ⟨hu0, hub⟩, rfl⟩ := hF
    have nd := sc_part.nd
    suffices main : ∀ t u : Int, 0 < u → u.natAbs < 2 ^ 8900 → XSs _ _ _ [.fz (.int t), .fz (.int u), .no, .no] (.rt (eQ (Rat.divInt t u))) by
      by_cases h : u < 0
      · have q := main (-t) (-u) (by omega) (by omega)
        rw [divInt_nn hu0] at q
        exact XF.rt (xss_yes (XT.is (xt_lt ((xv_var 1)).br (xv_int).br) (decide_eq_true h)) (xss_one (xs_par 0 1 rfl nd (xv_neg ((xv_var 0)).br) (xv_neg ((xv_var 1)).br))) q)
      · exact XF.rt (xss_no0 (XT.is (xt_lt ((xv_var 1)).br (xv_int).br) (decide_eq_false h)) (main t u (by omega) hub))
    clear hu0 hub
    clear t u
    intro t u hu0 hub
    refine xss_cons (xs_par 2 3 rfl nd (xv_abs T.abs ((xv_var 0)).br) (xv_var 1)) ?_
    refine xss_whileX (Q := fun d1 => d1 = [.fz (.int t), .fz (.int u), .fz (.int (Int.gcd t u : Int)), .fz (.int 0)]) hp ?_ ?_
    · suffices loop : ∀ (n : Nat) (a b : Int), b.toNat ≤ n → 0 ≤ a → 0 ≤ b → (Int.gcd a b : Int) = Int.gcd t u → ∃ k, Wh _ _ _ _ k [.fz (.int t), .fz (.int u), .fz (.int a), .fz (.int b)] (.nx [.fz (.int t), .fz (.int u), .fz (.int (Int.gcd t u : Int)), .fz (.int 0)]) by
        obtain ⟨k, hw⟩ := loop _ (t.natAbs : Int) u (Nat.le_refl _) (by omega) (by omega) (by show ((Nat.gcd (t.natAbs : Int).natAbs u.natAbs : Nat) : Int) = _; rw [Int.natAbs_natCast]; rfl)
        exact ⟨k, _, rfl, hw⟩
      intro n
      induction n with
      | zero =>
        intro a b hn ha hb hg
        obtain rfl : b = 0 := by omega
        rw [gcd_zero ha] at hg
        rw [← hg]
        exact ⟨0, .stop (XT.is (xt_gt ((xv_var 3)).br (xv_int).br) (rfl))⟩
      | succ n ih =>
        intro a b hn ha hb hg
        by_cases h : 0 < b
        · have h1 := Int.emod_nonneg a (show b ≠ 0 by omega)
          have h2 := Int.emod_lt_of_pos a h
          obtain ⟨k, hw⟩ := ih b (a % b) (by omega) hb h1 (by rw [← hg, gcd_step ha h])
          exact ⟨k + 1, .step (XT.is (xt_gt ((xv_var 3)).br (xv_int).br) (decide_eq_true h)) (xss_one (xs_par 2 3 rfl nd (xv_var 3) (xv_mod ((xv_var 2)).br ((xv_var 3)).br (h)))) rfl .refl hw⟩
        · obtain rfl : b = 0 := by omega
          rw [gcd_zero ha] at hg
          rw [← hg]
          exact ⟨0, .stop (XT.is (xt_gt ((xv_var 3)).br (xv_int).br) (rfl))⟩
    · rintro d1 rfl
      obtain ⟨g0, g1, _⟩ := part_d (t := t) hu0
      have hd : ∀ x : Int, CDivW x (Int.gcd t u : Int) := fun x => ⟨g0, Nat.lt_of_le_of_lt (log2_le (n := 8900) (Nat.lt_of_le_of_lt (by omega) hub)) (by decide)⟩
      rw [← part_rat hu0]
      exact xss_ret (xv_tup (xa_cons (xv_divW ((xv_var 0)).br ((xv_var 2)).br (hd _)) (xa_cons (xv_divW ((xv_var 1)).br ((xv_var 2)).br (hd _)) xa_nil)))

abbrev s_plus : Stmt := top 5
abbrev N_plus : List Str := ["one", "other"]
abbrev P_plus : List Str := ["one", "other"]
theorem sc_plus : FnScope N_plus P_plus (defScope s_plus) := ⟨rfl, rfl, rfl, by decide +kernel, rfl, by decide +kernel, by decide +kernel⟩

def F_plus : Fs := fun args r => ∃ (x y : Rat) (a b : Nat), args = [eQ x, eQ y] ∧ (SQ a x ∧ SQ b y ∧ a + b ≤ 8900) ∧ r = .ok (eQ (x + y))
theorem df_plus {P : Program} {w : World} {K : Fg} {mg : Str → Option Value} {base : Heap} (T : Tx K mg) (U : Dn K mg "plus" s_plus P_plus) (D_part : Df P w K mg base "part" 1 F_part) : Df P w K mg base "plus" 2 F_plus :=
  df_of 1 U sc_plus (fun _ _ ⟨_, _, _, _, h, _⟩ => by rw [h]; rfl) fun f cdv A outer s H E args r hr tk hp hF => by
    obtain ⟨x, y, a, b, rfl, ⟨hx, hy, hab⟩, rfl⟩ := hF
    have nd := sc_plus.nd
    have xd : (x.den : Int).natAbs < 2 ^ a := by rw [Int.natAbs_natCast]; exact hx.2
    have yd : (y.den : Int).natAbs < 2 ^ b := by rw [Int.natAbs_natCast]; exact hy.2
    have c1 : CMulW x.num y.den := cmw hx.1 yd (by omega)
    have c2 : CMulW y.num x.den := cmw hy.1 xd (by omega)
    have c3 : CMulW x.den y.den := cmw xd yd (by omega)
    have c4 : CMulW x.num y.num := cmw hx.1 hy.1 (by omega)
    have c5 : CMulW x.den y.num := cmw xd hy.1 (by omega)
    have hu : (x.den * y.den : Int) ≠ 0 ∧ (x.den * y.den : Int).natAbs < 2 ^ 8900 := ⟨Int.mul_ne_zero (den_ne x) (den_ne y), by rw [Int.natAbs_mul]; exact Nat.lt_of_lt_of_le (mul_lt2 xd yd) (Nat.pow_le_pow_right (by decide) hab)⟩
    exact XF.rt (xss_ret (XV.is (xv_call D_part (hr.mono (by decide)) tk (xa_cons (xv_add ((xv_mulW ((xv_ix ((xv_var 0)).br (xv_int).br (ix_Q1 _))).br ((xv_ix ((xv_var 1)).br (xv_int).br (ix_Q2 _))).br c1)).br ((xv_mulW ((xv_ix ((xv_var 1)).br (xv_int).br (ix_Q1 _))).br ((xv_ix ((xv_var 0)).br (xv_int).br (ix_Q2 _))).br c2)).br) (xa_cons (xv_mulW ((xv_ix ((xv_var 0)).br (xv_int).br (ix_Q2 _))).br ((xv_ix ((xv_var 1)).br (xv_int).br (ix_Q2 _))).br c3) xa_nil)) (⟨_, _, rfl, hu, rfl⟩)) (congrArg eQ (add_Q x y))))

abbrev s_minus : Stmt := top 6
abbrev N_minus : List Str := ["one", "other"]
abbrev P_minus : List Str := ["one", "other"]
theorem sc_minus : FnScope N_minus P_minus (defScope s_minus) := ⟨rfl, rfl, rfl, by decide +kernel, rfl, by decide +kernel, by decide +kernel⟩

def F_minus : Fs := fun args r => ∃ (x y : Rat) (a b : Nat), args = [eQ x, eQ y] ∧ (SQ a x ∧ SQ b y ∧ a + b ≤ 8900) ∧ r = .ok (eQ (x - y))
theorem df_minus {P : Program} {w : World} {K : Fg} {mg : Str → Option Value} {base : Heap} (T : Tx K mg) (U : Dn K mg "minus" s_minus P_minus) (D_part : Df P w K mg base "part" 1 F_part) : Df P w K mg base "minus" 2 F_minus :=
  df_of 1 U sc_minus (fun _ _ ⟨_, _, _, _, h, _⟩ => by rw [h]; rfl) fun f cdv A outer s H E args r hr tk hp hF => by
    obtain ⟨x, y, a, b, rfl, ⟨hx, hy, hab⟩, rfl⟩ := hF
    have nd := sc_minus.nd
    have xd : (x.den : Int).natAbs < 2 ^ a := by rw [Int.natAbs_natCast]; exact hx.2
    have yd : (y.den : Int).natAbs < 2 ^ b := by rw [Int.natAbs_natCast]; exact hy.2
    have c1 : CMulW x.num y.den := cmw hx.1 yd (by omega)
    have c2 : CMulW y.num x.den := cmw hy.1 xd (by omega)
    have c3 : CMulW x.den y.den := cmw xd yd (by omega)
    have c4 : CMulW x.num y.num := cmw hx.1 hy.1 (by omega)
    have c5 : CMulW x.den y.num := cmw xd hy.1 (by omega)
    have hu : (x.den * y.den : Int) ≠ 0 ∧ (x.den * y.den : Int).natAbs < 2 ^ 8900 := ⟨Int.mul_ne_zero (den_ne x) (den_ne y), by rw [Int.natAbs_mul]; exact Nat.lt_of_lt_of_le (mul_lt2 xd yd) (Nat.pow_le_pow_right (by decide) hab)⟩
    exact XF.rt (xss_ret (XV.is (xv_call D_part (hr.mono (by decide)) tk (xa_cons (xv_sub ((xv_mulW ((xv_ix ((xv_var 0)).br (xv_int).br (ix_Q1 _))).br ((xv_ix ((xv_var 1)).br (xv_int).br (ix_Q2 _))).br c1)).br ((xv_mulW ((xv_ix ((xv_var 1)).br (xv_int).br (ix_Q1 _))).br ((xv_ix ((xv_var 0)).br (xv_int).br (ix_Q2 _))).br c2)).br) (xa_cons (xv_mulW ((xv_ix ((xv_var 0)).br (xv_int).br (ix_Q2 _))).br ((xv_ix ((xv_var 1)).br (xv_int).br (ix_Q2 _))).br c3) xa_nil)) (⟨_, _, rfl, hu, rfl⟩)) (congrArg eQ (sub_Q x y))))

abbrev s_times : Stmt := top 7
abbrev N_times : List Str := ["one", "other"]
abbrev P_times : List Str := ["one", "other"]
theorem sc_times : FnScope N_times P_times (defScope s_times) := ⟨rfl, rfl, rfl, by decide +kernel, rfl, by decide +kernel, by decide +kernel⟩

def F_times : Fs := fun args r => ∃ (x y : Rat) (a b : Nat), args = [eQ x, eQ y] ∧ (SQ a x ∧ SQ b y ∧ a + b ≤ 8900) ∧ r = .ok (eQ (x * y))
theorem df_times {P : Program} {w : World} {K : Fg} {mg : Str → Option Value} {base : Heap} (T : Tx K mg) (U : Dn K mg "times" s_times P_times) (D_part : Df P w K mg base "part" 1 F_part) : Df P w K mg base "times" 2 F_times :=
  df_of 1 U sc_times (fun _ _ ⟨_, _, _, _, h, _⟩ => by rw [h]; rfl) fun f cdv A outer s H E args r hr tk hp hF => by
    obtain ⟨x, y, a, b, rfl, ⟨hx, hy, hab⟩, rfl⟩ := hF
    have nd := sc_times.nd
    have xd : (x.den : Int).natAbs < 2 ^ a := by rw [Int.natAbs_natCast]; exact hx.2
    have yd : (y.den : Int).natAbs < 2 ^ b := by rw [Int.natAbs_natCast]; exact hy.2
    have c1 : CMulW x.num y.den := cmw hx.1 yd (by omega)
    have c2 : CMulW y.num x.den := cmw hy.1 xd (by omega)
    have c3 : CMulW x.den y.den := cmw xd yd (by omega)
    have c4 : CMulW x.num y.num := cmw hx.1 hy.1 (by omega)
    have c5 : CMulW x.den y.num := cmw xd hy.1 (by omega)
    have hu : (x.den * y.den : Int) ≠ 0 ∧ (x.den * y.den : Int).natAbs < 2 ^ 8900 := ⟨Int.mul_ne_zero (den_ne x) (den_ne y), by rw [Int.natAbs_mul]; exact Nat.lt_of_lt_of_le (mul_lt2 xd yd) (Nat.pow_le_pow_right (by decide) hab)⟩
    exact XF.rt (xss_ret (XV.is (xv_call D_part (hr.mono (by decide)) tk (xa_cons (xv_mulW ((xv_ix ((xv_var 0)).br (xv_int).br (ix_Q1 _))).br ((xv_ix ((xv_var 1)).br (xv_int).br (ix_Q1 _))).br c4) (xa_cons (xv_mulW ((xv_ix ((xv_var 0)).br (xv_int).br (ix_Q2 _))).br ((xv_ix ((xv_var 1)).br (xv_int).br (ix_Q2 _))).br c3) xa_nil)) (⟨_, _, rfl, hu, rfl⟩)) (congrArg eQ (mul_Q x y))))

abbrev s_over : Stmt := top 8
abbrev N_over : List Str := ["one", "other"]
abbrev P_over : List Str := ["one", "other"]
theorem sc_over : FnScope N_over P_over (defScope s_over) := ⟨rfl, rfl, rfl, by decide +kernel, rfl, by decide +kernel, by decide +kernel⟩

def F_over : Fs := fun args r => ∃ (x y : Rat) (a b : Nat), args = [eQ x, eQ y] ∧ (SQ a x ∧ SQ b y ∧ a + b ≤ 8900) ∧ y ≠ 0 ∧ r = .ok (eQ (x / y))
theorem df_over {P : Program} {w : World} {K : Fg} {mg : Str → Option Value} {base : Heap} (T : Tx K mg) (U : Dn K mg "over" s_over P_over) (D_part : Df P w K mg base "part" 1 F_part) : Df P w K mg base "over" 2 F_over :=
  df_of 1 U sc_over (fun _ _ ⟨_, _, _, _, h, _⟩ => by rw [h]; rfl) fun f cdv A outer s H E args r hr tk hp hF => by
    obtain ⟨x, y, a, b, rfl, ⟨hx, hy, hab⟩, hy0, rfl⟩ := hF
    have nd := sc_over.nd
    have xd : (x.den : Int).natAbs < 2 ^ a := by rw [Int.natAbs_natCast]; exact hx.2
    have yd : (y.den : Int).natAbs < 2 ^ b := by rw [Int.natAbs_natCast]; exact hy.2
    have c1 : CMulW x.num y.den := cmw hx.1 yd (by omega)
    have c2 : CMulW y.num x.den := cmw hy.1 xd (by omega)
    have c3 : CMulW x.den y.den := cmw xd yd (by omega)
    have c4 : CMulW x.num y.num := cmw hx.1 hy.1 (by omega)
    have c5 : CMulW x.den y.num := cmw xd hy.1 (by omega)
    have hu : (x.den * y.num : Int) ≠ 0 ∧ (x.den * y.num : Int).natAbs < 2 ^ 8900 := ⟨Int.mul_ne_zero (den_ne x) (fun z => hy0 (Rat.num_eq_zero.mp z)), by rw [Int.natAbs_mul]; exact Nat.lt_of_lt_of_le (mul_lt2 xd hy.1) (Nat.pow_le_pow_right (by decide) hab)⟩
    exact XF.rt (xss_ret (XV.is (xv_call D_part (hr.mono (by decide)) tk (xa_cons (xv_mulW ((xv_ix ((xv_var 0)).br (xv_int).br (ix_Q1 _))).br ((xv_ix ((xv_var 1)).br (xv_int).br (ix_Q2 _))).br c1) (xa_cons (xv_mulW ((xv_ix ((xv_var 0)).br (xv_int).br (ix_Q2 _))).br ((xv_ix ((xv_var 1)).br (xv_int).br (ix_Q1 _))).br c5) xa_nil)) (⟨_, _, rfl, hu, rfl⟩)) (congrArg eQ (div_Q x y))))

abbrev s_together : Stmt := top 9
abbrev N_together : List Str := ["some", "others", "found", "k"]
abbrev P_together : List Str := ["some", "others"]
theorem sc_together : FnScope N_together P_together (defScope s_together) := ⟨rfl, rfl, rfl, by decide +kernel, rfl, by decide +kernel, by decide +kernel⟩

def F_together : Fs := fun args r => ∃ (xs ys : List Rat) (n m : Nat), args = [.lst (xs.map eQ), .lst (ys.map eQ)] ∧ (xs.length ≤ ys.length ∧ xs.length ≤ 8) ∧ (∀ x ∈ xs, SQ n x) ∧ (∀ y ∈ ys, SQ m y) ∧ xs.length * (n + m + 1) ≤ 8800 ∧ r = .ok (eQ (dotQ xs ys))
theorem df_together {P : Program} {w : World} {K : Fg} {mg : Str → Option Value} {base : Heap} (T : Tx K mg) (U : Dn K mg "together" s_together P_together) (D_plus : Df P w K mg base "plus" 2 F_plus) (D_times : Df P w K mg base "times" 2 F_times) : Df P w K mg base "together" 3 F_together :=
  df_of 2 U sc_together (fun _ _ ⟨_, _, _, _, h, _⟩ => by rw [h]; rfl) fun f cdv A outer s H E args r hr tk hp hF => by
    obtain ⟨xs, ys, n, m, rfl, ⟨hl, hl8⟩, hx, hy, hs, rfl⟩ := hF
    have nd := sc_together.nd
    have hlx : (xs.map eQ).length = xs.length := List.length_map _
    refine XF.rt (xss_cons (xs_set (d := eQ 0) 2 nd (xv_tup (xa_cons xv_int (xa_cons xv_int xa_nil)))) ?_)
    suffices loop : ∀ (k i : Nat) (acc : Rat), i + k = xs.length → SQ (i * (n + m + 1) + 1) acc → Fr _ _ _ _ (rngF i k) [.fz (.lst (xs.map eQ)), .fz (.lst (ys.map eQ)), .fz (eQ acc), .no] (.nx [.fz (.lst (xs.map eQ)), .fz (.lst (ys.map eQ)), .fz (eQ (dotGo acc (xs.drop i) (ys.drop i))), .no]) by
      have q := loop xs.length 0 0 (by omega) ⟨by simp, by simp⟩
      refine xss_cons (ds1 := [.fz (.lst (xs.map eQ)), .fz (.lst (ys.map eQ)), .fz (eQ (dotGo 0 (xs.drop 0) (ys.drop 0))), .no]) (xs_for hp rfl (xi_range T.range (xv_len T.len ((xv_var 0)).br) (by omega) (by omega)) ?_) (xss_ret (xv_var 2))
      rw [rngD_F, Int.toNat_natCast, hlx]
      exact q
    intro k
    induction k with
    | zero =>
      intro i acc hi _
      have e : i = xs.length := by omega
      subst e
      rw [List.drop_length]
      rw [show dotGo acc [] (ys.drop xs.length) = acc by unfold dotGo; rfl]
      exact .nil
    | succ k ih =>
      intro i acc hi ha
      have h1 : i < xs.length := by omega
      have h2 : i < ys.length := by omega
      have e1 : xs.drop i = xs[i] :: xs.drop (i + 1) := List.drop_eq_getElem_cons h1
      have e2 : ys.drop i = ys[i] :: ys.drop (i + 1) := List.drop_eq_getElem_cons h2
      have s1 := hx _ (List.getElem_mem h1)
      have s2 := hy _ (List.getElem_mem h2)
      have s3 := mul_SQ s1 s2
      have hm : (i + 1) * (n + m + 1) ≤ xs.length * (n + m + 1) := Nat.mul_le_mul_right _ (by omega)
      have hm2 : (i + 1) * (n + m + 1) = i * (n + m + 1) + (n + m + 1) := Nat.succ_mul _ _
      have s4 := (add_SQ ha s3).mono (show i * (n + m + 1) + 1 + (n + m) + 1 ≤ (i + 1) * (n + m + 1) + 1 by omega)
      have x1 : ixD (.lst (xs.map eQ)) (i : Int) = some (eQ xs[i]) := ix_map (by rw [atI_ge (by omega) (by omega)]; simp [h1])
      have x2 : ixD (.lst (ys.map eQ)) (i : Int) = some (eQ ys[i]) := ix_map (by rw [atI_ge (by omega) (by omega)]; simp [h2])
      rw [e1, e2, rngF_succ]
      have q := ih (i + 1) (acc + xs[i] * ys[i]) (by omega) s4
      exact .step (xg_name 3 nd) (xss_one (xs_set 2 nd (xv_call D_plus (hr.mono (by decide)) tk (xa_cons (xv_var 2) (xa_cons (xv_call D_times (hr.mono (by decide)) tk (xa_cons (xv_ix ((xv_var 0)).br ((xv_var 3)).br (x1)) (xa_cons (xv_ix ((xv_var 1)).br ((xv_var 3)).br (x2)) xa_nil)) (⟨_, _, n, m, rfl, ⟨s1, s2, by omega⟩, rfl⟩)) xa_nil)) (⟨_, _, _, _, rfl, ⟨ha, s3, by omega⟩, rfl⟩)))) rfl (Le.fg [3] rfl) q

abbrev s_less_row : Stmt := top 10
abbrev N_less_row : List Str := ["row", "other", "factor", "j"]
abbrev P_less_row : List Str := ["row", "other", "factor"]
theorem sc_less_row : FnScope N_less_row P_less_row (defScope s_less_row) := ⟨rfl, rfl, rfl, by decide +kernel, rfl, by decide +kernel, by decide +kernel⟩

def F_less_row : Fs := fun args r => ∃ (n : Nat) (x y : Nat → Rat) (z : Rat) (a b c : Nat), args = [eRow n x, eRow n y, eQ z] ∧ n ≤ 100 ∧ (∀ j, j < n → SQ a (x j)) ∧ (∀ j, j < n → SQ b (y j)) ∧ SQ c z ∧ a + b + c ≤ 8900 ∧ r = .ok (eRow n fun j => x j - z * y j)
theorem df_less_row {P : Program} {w : World} {K : Fg} {mg : Str → Option Value} {base : Heap} (T : Tx K mg) (U : Dn K mg "less_row" s_less_row P_less_row) (D_minus : Df P w K mg base "minus" 2 F_minus) (D_times : Df P w K mg base "times" 2 F_times) : Df P w K mg base "less_row" 3 F_less_row :=
  df_of 2 U sc_less_row (fun _ _ ⟨_, _, _, _, _, _, _, h, _⟩ => by rw [h]; rfl) fun f cdv A outer s H E args r hr tk hp hF => by
    obtain ⟨n, x, y, z, a, b, c, rfl, hn, hx, hy, hz, hs, rfl⟩ := hF
    have nd := sc_less_row.nd
    have hl : ((List.range n).map fun j => eQ (x j)).length = n := by rw [List.length_map, List.length_range]
    have hj : ∀ j : Nat, j ∈ List.range (((((List.range n).map fun j => eQ (x j)).length : Nat) : Int).toNat) → j < n := fun j h => by rw [hl, Int.toNat_natCast] at h; exact List.mem_range.mp h
    unfold eRow
    have e1 : (List.range (((((List.range n).map fun j => eQ (x j)).length : Nat) : Int).toNat)).map (fun j => eQ (x j - z * y j)) = (List.range n).map fun j => eQ (x j - z * y j) := by rw [hl, Int.toNat_natCast]
    exact XF.rt (xss_ret ((xl_lc [("j", 3)] rfl nd (xi_range T.range (xv_len T.len ((xv_var 0)).br) (by omega) (by omega)) (blkOk_by (own := [("j", 3)]) (N := N_less_row) (sc := defScope s_less_row) (by decide +kernel)) ((lc_map (f := fun (n : Nat) => D.int n) (g := fun j => eQ (x j - z * y j)) (List.range _) fun x_1 hx_1 => ⟨_, (fun _ _ _ _ _ => (xgw_name 3 nd)), (fun _ _ _ _ _ => (xv_call D_minus (hr.mono (by decide)) takes0 (xa_cons (xv_ix ((xv_var 0)).br ((xv_var 3)).br (ix_row (hj x_1 hx_1))) (xa_cons (xv_call D_times (hr.mono (by decide)) takes0 (xa_cons (xv_var 2) (xa_cons (xv_ix ((xv_var 1)).br ((xv_var 3)).br (ix_row (hj x_1 hx_1))) xa_nil)) (⟨_, _, c, b, rfl, ⟨hz, hy _ (hj x_1 hx_1), by omega⟩, rfl⟩)) xa_nil)) (⟨_, _, _, _, rfl, ⟨hx _ (hj x_1 hx_1), mul_SQ hz (hy _ (hj x_1 hx_1)), by omega⟩, rfl⟩)))⟩).is e1) (by rw [rngD_F, rngF_len]; omega))).v)

structure Kc_System (K : Fg) (C : Addr) : Prop where
  cl : Cls K C
  n_wide : NoAttr K C "wide"
  n_rows : NoAttr K C "rows"
  n_basis : NoAttr K C "basis"
  n_costs : NoAttr K C "costs"
abbrev FN_System : List Str := ["wide", "rows", "basis", "costs"]
theorem nd_System : FN_System.Nodup := by decide +kernel

abbrev s_System_bring : Stmt := inClass (top 11) 1
abbrev N_System_bring : List Str := ["self", "at", "column", "factor", "one", "k"]
abbrev P_System_bring : List Str := ["self", "at", "column"]
theorem sc_System_bring : FnScope N_System_bring P_System_bring (defScope s_System_bring) := ⟨rfl, rfl, rfl, by decide +kernel, rfl, by decide +kernel, by decide +kernel⟩

def F_System_bring : Ofs := fun args fs fs' d => ∃ (w m r c : Nat) (t : Tab), args = [.int (r : Int), .int (c : Int)] ∧ (r < m ∧ c < w + m ∧ w + m < 99) ∧ t.a r c ≠ 0 ∧ SmallT m t ∧ fs = sysF w m t ∧ fs' = sysF w m (piv t r c) ∧ d = .non
theorem do_System_bring {P : Program} {w : World} {K : Fg} {mg : Str → Option Value} {base : Heap} {C : Addr} (T : Tx K mg) (K_System : Kc_System K C) (U : Mn K C "bring" "System.bring" s_System_bring P_System_bring) (D_over : Df P w K mg base "over" 2 F_over) (D_less_row : Df P w K mg base "less_row" 3 F_less_row) :
    Do P w K mg base C "bring" 4 F_System_bring :=
  do_of 3 U sc_System_bring (fun _ _ _ _ ⟨_, _, _, _, _, h, _⟩ => by rw [h]; rfl) fun f cdv A outer s H E a args fs fs' d hr tk hp hF => by
    obtain ⟨w, m, r, c, t, rfl, ⟨hrm, hcn, hn⟩, h0, hs, rfl, rfl, rfl⟩ := hF
    have nd := sc_System_bring.nd
    have hlen : ((List.range m).map fun k => eRow (w + m + 1) (t.a k)).length = m := rng_len
    have hri : ∀ {n : Nat} {f : Nat → D}, n = m → ixN ((List.range n).map f).length (r : Int) = some r := fun h => by rw [rng_len, ixN_ge (by omega) (by omega)]; rfl
    refine FO.nx (rest := [.fz (.int (r : Int)), .fz (.int (c : Int)), .fz (eQ (t.a r c)), .no, .no]) ?_
    refine xss_cons (xs_set 3 nd (xv_ix ((xv_ix (xb_fldO 0 1 K_System.cl K_System.n_rows rfl rfl nd_System) ((xv_var 1)).br (ix_rngD hrm))).br ((xv_var 2)).br (ix_row (by omega)))) ?_
    refine xss_cons (ds1 := [.ob C (some a) (sysG w m (rwI t r c 0) t.b t.c), .fz (.int (r : Int)), .fz (.int (c : Int)), .fz (eQ (t.a r c)), .no, .no]) (XS.is (xs_fldIx 0 1 ((xl_lc [("one", 4)] rfl nd (xi_list (xv_ix (xb_fldO 0 1 K_System.cl K_System.n_rows rfl rfl nd_System) ((xv_var 1)).br (ix_rngD hrm))) (blkOk_by (own := [("one", 4)]) (N := N_System_bring) (sc := defScope s_System_bring) (by decide +kernel)) ((lc_map (f := fun j => eQ (t.a r j)) (g := fun j => eQ (t.a r j / t.a r c)) (List.range (w + m + 1)) fun x_1 hx_1 => ⟨_, (fun _ _ _ _ _ => (xgw_name 4 nd)), (fun _ _ _ _ _ => (xv_call D_over (hr.mono (by decide)) takes0 (xa_cons (xv_var 4) (xa_cons (xv_var 3) xa_nil)) (⟨_, _, 200, 200, rfl, ⟨hs.1 r x_1 hrm, hs.1 r c hrm, by omega⟩, h0, rfl⟩)))⟩)) (by rw [rng_len]; omega))).v (xv_var 1) K_System.cl K_System.n_rows (hri rfl) rfl rfl nd_System) ?_) ?_
    · have e : (((List.range m).map fun k => eRow (w + m + 1) (t.a k)).set r (eRow (w + m + 1) fun j => t.a r j / t.a r c)) = (List.range m).map fun k => eRow (w + m + 1) (rwI t r c 0 k) := by
        rw [set_rng]
        refine rng_congr fun k hk => ?_
        unfold rwI
        by_cases e : k = r
        · rw [if_pos e, if_pos e]
        · rw [if_neg e, if_neg e, if_neg (by omega)]
      unfold sysG
      rw [← e]; rfl
    refine xss_cons (ds1 := [.ob C (some a) (sysG w m (rwI t r c m) t.b t.c), .fz (.int (r : Int)), .fz (.int (c : Int)), .fz (eQ (t.a r c)), .no, .no]) (xs_for hp rfl (xi_range T.range (xv_len T.len (xb_fldO 0 1 K_System.cl K_System.n_rows rfl rfl nd_System)) (by omega) (by rw [rng_len]; omega)) ?_) ?_
    · rw [rng_len, Int.toNat_natCast, rngD_F]
      suffices loop : ∀ (n i : Nat), i + n = m → Fr _ _ _ _ (rngF i n) [.ob C (some a) (sysG w m (rwI t r c i) t.b t.c), .fz (.int (r : Int)), .fz (.int (c : Int)), .fz (eQ (t.a r c)), .no, .no] (.nx [.ob C (some a) (sysG w m (rwI t r c m) t.b t.c), .fz (.int (r : Int)), .fz (.int (c : Int)), .fz (eQ (t.a r c)), .no, .no]) by
        exact loop m 0 (by omega)
      intro n
      induction n with
      | zero => intro i hi; obtain rfl : i = m := by omega
                exact .nil
      | succ n ih =>
        intro i hi
        have q := ih (i + 1) (by omega)
        have hi2 : i < m := by omega
        rw [rngF_succ]
        by_cases hne : i = r
        · rw [show rwI t r c (i + 1) = rwI t r c i from funext fun k => rwI_same hne k] at q
          exact .step (xg_name 5 nd) (xss_one (xs_no (XT.is (xt_neI ((xv_var 5)).br ((xv_var 1)).br) (by rw [hne, decide_eq_true rfl]; rfl)) xss_nil)) rfl (Le.fg [5] rfl) q
        · refine .step (o' := .nx [.ob C (some a) (sysG w m (rwI t r c (i + 1)) t.b t.c), .fz (.int (r : Int)), .fz (.int (c : Int)), .fz (eQ (t.a r c)), .no, .fz (.int (i : Int))]) (xg_name 5 nd) (xss_one (xs_yes (XT.is (xt_neI ((xv_var 5)).br ((xv_var 1)).br) (by rw [decide_eq_false (show ¬ (i : Int) = (r : Int) by omega)]; rfl)) (XSs.is (xss_one (xs_fldIx 0 1 ((xv_call D_less_row (hr.mono (by decide)) tk (xa_cons (xv_ix (xb_fldO 0 1 K_System.cl K_System.n_rows rfl rfl nd_System) ((xv_var 5)).br (ix_rngD hi2)) (xa_cons (xv_ix (xb_fldO 0 1 K_System.cl K_System.n_rows rfl rfl nd_System) ((xv_var 1)).br (ix_rngD hrm)) (xa_cons (xv_ix ((xv_ix (xb_fldO 0 1 K_System.cl K_System.n_rows rfl rfl nd_System) ((xv_var 5)).br (ix_rngD hi2))).br ((xv_var 2)).br (ix_row (by omega))) xa_nil))) (⟨w + m + 1, _, _, _, 200, 400, 200, rfl, by omega, fun j _ => rwI_i hi2 hs hne j, fun j _ => rwI_r hrm hs h0 j, rwI_i hi2 hs hne c, by omega, rfl⟩))) (xv_var 5) K_System.cl K_System.n_rows (j := i) (by rw [rng_len, ixN_ge (by omega) (by omega)]; rfl) rfl rfl nd_System)) ?_))) rfl (Le.fg [5] rfl) q
          have e : (((List.range m).map fun k => eRow (w + m + 1) (rwI t r c i k)).set i (eRow (w + m + 1) fun j => rwI t r c i i j - rwI t r c i i c * rwI t r c i r j)) = (List.range m).map fun k => eRow (w + m + 1) (rwI t r c (i + 1) k) := by
            rw [set_rng]
            refine rng_congr fun k hk => ?_
            rw [rwI_step hne k]
            by_cases e : k = i
            · rw [if_pos e, if_pos e]
            · rw [if_neg e, if_neg e]
          unfold sysG
          rw [← e]; rfl
    have er : ∀ k, k < m → rwI t r c m k = (piv t r c).a k := fun k hk => rwI_end hk
    refine xss_cons (ds1 := [.ob C (some a) (sysG w m (rwI t r c m) t.b (piv t r c).c), .fz (.int (r : Int)), .fz (.int (c : Int)), .fz (eQ (t.a r c)), .no, .no]) (XS.is (xs_fld 0 3 K_System.cl K_System.n_costs (nd := nd_System) (he := (xv_call D_less_row (hr.mono (by decide)) tk (xa_cons (xv_fldO 0 3 K_System.cl K_System.n_costs rfl rfl nd_System) (xa_cons (xv_ix (xb_fldO 0 1 K_System.cl K_System.n_rows rfl rfl nd_System) ((xv_var 1)).br (ix_rngD hrm)) (xa_cons (xv_ix ((xv_fldO 0 3 K_System.cl K_System.n_costs rfl rfl nd_System)).br ((xv_var 2)).br (ix_row (by omega))) xa_nil))) (⟨w + m + 1, _, _, _, 200, 400, 200, rfl, by omega, fun j _ => hs.2 j, fun j _ => rwI_r hrm hs h0 j, hs.2 c, by omega, rfl⟩)))) ?_) ?_
    · have e : (fun j => t.c j - t.c c * rwI t r c m r j) = (piv t r c).c := by
        funext j
        unfold rwI
        rw [if_pos rfl]; rfl
      unfold sysG
      rw [← e]; rfl
    refine XSs.is (xss_one (xs_fldIx 0 2 (xv_var 2) (xv_var 1) K_System.cl K_System.n_basis (hri rfl) rfl rfl nd_System)) ?_
    have e1 : ((List.range m).map fun i => D.int (t.b i : Int)).set r (.int (c : Int)) = (List.range m).map fun i => D.int ((piv t r c).b i : Int) := by
      rw [set_rng]
      refine rng_congr fun k hk => ?_
      unfold piv
      show _ = D.int (((if k = r then c else t.b k) : Nat) : Int)
      split <;> rfl
    have e2 : ((List.range m).map fun k => eRow (w + m + 1) (rwI t r c m k)) = (List.range m).map fun k => eRow (w + m + 1) ((piv t r c).a k) := rng_congr fun k hk => by rw [er k hk]
    unfold sysF sysG
    rw [← e1, ← e2]; rfl

abbrev s_System_leaving : Stmt := inClass (top 11) 2
abbrev N_System_leaving : List Str := ["self", "column", "best", "k", "ratio", "step"]
abbrev P_System_leaving : List Str := ["self", "column"]
theorem sc_System_leaving : FnScope N_System_leaving P_System_leaving (defScope s_System_leaving) := ⟨rfl, rfl, rfl, by decide +kernel, rfl, by decide +kernel, by decide +kernel⟩

def F_System_leaving : Ofs := fun args fs fs' d => ∃ (w m r c : Nat) (t : Tab), args = [.int (c : Int)] ∧ (c < w + m ∧ w + m < 99) ∧ lvM (w + m) t c m = some r ∧ SmallT m t ∧ fs = sysF w m t ∧ fs' = sysF w m t ∧ d = .int (r : Int)
theorem do_System_leaving {P : Program} {w : World} {K : Fg} {mg : Str → Option Value} {base : Heap} {C : Addr} (T : Tx K mg) (K_System : Kc_System K C) (U : Mn K C "leaving" "System.leaving" s_System_leaving P_System_leaving) (D_over : Df P w K mg base "over" 2 F_over) (D_minus : Df P w K mg base "minus" 2 F_minus) :
    Do P w K mg base C "leaving" 3 F_System_leaving :=
  do_of 2 U sc_System_leaving (fun _ _ _ _ ⟨_, _, _, _, _, h, _⟩ => by rw [h]; rfl) fun f cdv A outer s H E a args fs fs' d hr tk hp hF => by
    obtain ⟨w, m, r, c, t, rfl, ⟨hcn, hn⟩, hl, hs, rfl, rfl, rfl⟩ := hF
    have nd := sc_System_leaving.nd
    have hu := hr.units
    have h00 : D.tup [.int 0, .int 0] = .tup (([0, 0] : List Int).map .int) := rfl
    have h10 : D.tup [.int (-1), .int 0] = .tup (([-1, 0] : List Int).map .int) := rfl
    refine FO.rs ?_
    refine xss_cons (xs_set 2 nd xv_non) ?_
    refine xss_cons (ds1 := [.ob C (some a) (sysF w m t), .fz (.int (c : Int)), .fz (bD (w + m) t c (lvM (w + m) t c m)), .no, .no, .no]) (xs_for hp rfl (xi_range T.range (xv_len T.len (xb_fldO 0 1 K_System.cl K_System.n_rows rfl rfl nd_System)) (by omega) (by rw [rng_len]; omega)) ?_) ?_
    · rw [rng_len, Int.toNat_natCast, rngD_F]
      suffices loop : ∀ (n i : Nat), i + n = m → Fr _ _ _ _ (rngF i n) [.ob C (some a) (sysF w m t), .fz (.int (c : Int)), .fz (bD (w + m) t c (lvM (w + m) t c i)), .no, .no, .no] (.nx [.ob C (some a) (sysF w m t), .fz (.int (c : Int)), .fz (bD (w + m) t c (lvM (w + m) t c m)), .no, .no, .no]) by
        exact loop m 0 (by omega)
      intro n
      induction n with
      | zero => intro i hi; obtain rfl : i = m := by omega
                exact .nil
      | succ n ih =>
        intro i hi
        have q := ih (i + 1) (by omega)
        have hi2 : i < m := by omega
        rw [rngF_succ]
        rw [show lvM (w + m) t c (i + 1) = lvStep (w + m) t c (lvM (w + m) t c i) i from rfl] at q
        have hlv := lv_ok (n := w + m) (t := t) (s := c) i
        by_cases hpos : 0 < t.a i c
        · have hp2 : decide ((0 : Int) < (t.a i c).num) = true := decide_eq_true (num_pos.mpr hpos)
          have hne : t.a i c ≠ 0 := by grind
          have ratS : ∀ k, k < m → 0 < t.a k c → SQ 400 (ratT (w + m) t c k) := fun k hk h => div_SQ (hs.1 k (w + m) hk) (hs.1 k c hk) (by grind)
          cases hb : lvM (w + m) t c i with
          | none =>
            rw [hb, show lvStep (w + m) t c none i = some i by unfold lvStep; rw [if_pos hpos]] at q
            exact .step (xg_name 3 nd) (xss_one (xs_yes (XT.is (xt_gt ((xv_ix ((xv_ix ((xv_ix (xb_fldO 0 1 K_System.cl K_System.n_rows rfl rfl nd_System) ((xv_var 3)).br (ix_rngD hi2))).br ((xv_var 1)).br (ix_row (by omega)))).br (xv_int).br (ix_Q1 _))).br (xv_int).br) (hp2))
              (xss_cons (xs_set 4 nd (xv_call D_over (hr.mono (by decide)) tk (xa_cons (xv_ix ((xv_ix (xb_fldO 0 1 K_System.cl K_System.n_rows rfl rfl nd_System) ((xv_var 3)).br (ix_rngD hi2))).br ((xv_neg (xv_int).br)).br (ix_rowL)) (xa_cons (xv_ix ((xv_ix (xb_fldO 0 1 K_System.cl K_System.n_rows rfl rfl nd_System) ((xv_var 3)).br (ix_rngD hi2))).br ((xv_var 1)).br (ix_row (by omega))) xa_nil)) (⟨_, _, 200, 200, rfl, ⟨hs.1 i (w + m) hi2, hs.1 i c hi2, by omega⟩, hne, rfl⟩)))
              (xss_cons (xs_set 5 nd (xv_ifN (XT.is (xt_notN ((xv_var 2)).br) (by rfl)) (xv_tup (xa_cons (xv_neg (xv_int).br) (xa_cons xv_int xa_nil)))))
              (xss_one (xs_yes (XT.is (xt_ltT hu ((xv_var 5)).br ((xv_tup (xa_cons xv_int (xa_cons xv_int xa_nil)))).br (h10) (h00)) (rfl)) (xss_one (xs_set 2 nd (xv_tup (xa_cons (xv_var 4) (xa_cons (xv_var 3) (xa_cons (xv_ix (xb_fldO 0 2 K_System.cl K_System.n_basis rfl rfl nd_System) ((xv_var 3)).br (ix_rngD hi2)) xa_nil)))))))))))) rfl (Le.fg [3, 4, 5] rfl) q
          | some r0 =>
            rw [hb] at hlv
            obtain ⟨⟨h1, h2⟩, _⟩ := hlv
            have hbi : ixD (.lst ((List.range m).map fun i => D.int (t.b i : Int))) (i : Int) = some (.int (t.b i : Int)) := ix_rngD hi2
            have hb0 : ixD (bD (w + m) t c (some r0)) 0 = some (eQ (ratT (w + m) t c r0)) := rfl
            have hb2 : ixD (bD (w + m) t c (some r0)) 2 = some (.int (t.b r0 : Int)) := rfl
            have hst : ∀ {d : D}, d = .tup [.int (ratT (w + m) t c i - ratT (w + m) t c r0).num, .int ((t.b i : Int) - (t.b r0 : Int))] → d = .tup ([(ratT (w + m) t c i - ratT (w + m) t c r0).num, (t.b i : Int) - (t.b r0 : Int)].map .int) := fun h => h
            rw [hb, show lvStep (w + m) t c (some r0) i = (if lessT (w + m) t c i r0 then some i else some r0) by unfold lvStep; rw [if_pos hpos]] at q
            cases hls : lessT (w + m) t c i r0 with
            | true =>
              rw [hls, if_pos rfl] at q
              exact .step (xg_name 3 nd) (xss_one (xs_yes (XT.is (xt_gt ((xv_ix ((xv_ix ((xv_ix (xb_fldO 0 1 K_System.cl K_System.n_rows rfl rfl nd_System) ((xv_var 3)).br (ix_rngD hi2))).br ((xv_var 1)).br (ix_row (by omega)))).br (xv_int).br (ix_Q1 _))).br (xv_int).br) (hp2))
              (xss_cons (xs_set 4 nd (xv_call D_over (hr.mono (by decide)) tk (xa_cons (xv_ix ((xv_ix (xb_fldO 0 1 K_System.cl K_System.n_rows rfl rfl nd_System) ((xv_var 3)).br (ix_rngD hi2))).br ((xv_neg (xv_int).br)).br (ix_rowL)) (xa_cons (xv_ix ((xv_ix (xb_fldO 0 1 K_System.cl K_System.n_rows rfl rfl nd_System) ((xv_var 3)).br (ix_rngD hi2))).br ((xv_var 1)).br (ix_row (by omega))) xa_nil)) (⟨_, _, 200, 200, rfl, ⟨hs.1 i (w + m) hi2, hs.1 i c hi2, by omega⟩, hne, rfl⟩)))
              (xss_cons (xs_set 5 nd (xv_ifY (XT.is (xt_notN ((xv_var 2)).br) (by rfl)) (xv_tup (xa_cons (xv_ix ((xv_call D_minus (hr.mono (by decide)) tk (xa_cons (xv_var 4) (xa_cons (xv_ix ((xv_var 2)).br (xv_int).br (hb0)) xa_nil)) (⟨_, _, 400, 400, rfl, ⟨ratS i hi2 hpos, ratS r0 (by omega) h2, by omega⟩, rfl⟩))).br (xv_int).br (ix_Q1 _)) (xa_cons (xv_sub ((xv_ix (xb_fldO 0 2 K_System.cl K_System.n_basis rfl rfl nd_System) ((xv_var 3)).br (hbi))).br ((xv_ix ((xv_var 2)).br (xv_int).br (hb2))).br) xa_nil))))) (xss_one (xs_yes (XT.is (xt_ltT hu ((xv_var 5)).br ((xv_tup (xa_cons xv_int (xa_cons xv_int xa_nil)))).br (hst rfl) (h00)) (lex_less.trans hls)) (xss_one (xs_set 2 nd (xv_tup (xa_cons (xv_var 4) (xa_cons (xv_var 3) (xa_cons (xv_ix (xb_fldO 0 2 K_System.cl K_System.n_basis rfl rfl nd_System) ((xv_var 3)).br (ix_rngD hi2)) xa_nil))))))))))) ) rfl (Le.fg [3, 4, 5] rfl) q
            | false =>
              rw [hls, if_neg (by decide)] at q
              exact .step (xg_name 3 nd) (xss_one (xs_yes (XT.is (xt_gt ((xv_ix ((xv_ix ((xv_ix (xb_fldO 0 1 K_System.cl K_System.n_rows rfl rfl nd_System) ((xv_var 3)).br (ix_rngD hi2))).br ((xv_var 1)).br (ix_row (by omega)))).br (xv_int).br (ix_Q1 _))).br (xv_int).br) (hp2))
              (xss_cons (xs_set 4 nd (xv_call D_over (hr.mono (by decide)) tk (xa_cons (xv_ix ((xv_ix (xb_fldO 0 1 K_System.cl K_System.n_rows rfl rfl nd_System) ((xv_var 3)).br (ix_rngD hi2))).br ((xv_neg (xv_int).br)).br (ix_rowL)) (xa_cons (xv_ix ((xv_ix (xb_fldO 0 1 K_System.cl K_System.n_rows rfl rfl nd_System) ((xv_var 3)).br (ix_rngD hi2))).br ((xv_var 1)).br (ix_row (by omega))) xa_nil)) (⟨_, _, 200, 200, rfl, ⟨hs.1 i (w + m) hi2, hs.1 i c hi2, by omega⟩, hne, rfl⟩)))
              (xss_cons (xs_set 5 nd (xv_ifY (XT.is (xt_notN ((xv_var 2)).br) (by rfl)) (xv_tup (xa_cons (xv_ix ((xv_call D_minus (hr.mono (by decide)) tk (xa_cons (xv_var 4) (xa_cons (xv_ix ((xv_var 2)).br (xv_int).br (hb0)) xa_nil)) (⟨_, _, 400, 400, rfl, ⟨ratS i hi2 hpos, ratS r0 (by omega) h2, by omega⟩, rfl⟩))).br (xv_int).br (ix_Q1 _)) (xa_cons (xv_sub ((xv_ix (xb_fldO 0 2 K_System.cl K_System.n_basis rfl rfl nd_System) ((xv_var 3)).br (hbi))).br ((xv_ix ((xv_var 2)).br (xv_int).br (hb2))).br) xa_nil))))) (xss_one (xs_no (XT.is (xt_ltT hu ((xv_var 5)).br ((xv_tup (xa_cons xv_int (xa_cons xv_int xa_nil)))).br (hst rfl) (h00)) (lex_less.trans hls)) xss_nil))))) ) rfl (Le.fg [3, 4, 5] rfl) q
        · have hp2 : decide ((0 : Int) < (t.a i c).num) = false := decide_eq_false fun z => hpos (num_pos.mp z)
          rw [show lvStep (w + m) t c (lvM (w + m) t c i) i = lvM (w + m) t c i by unfold lvStep; rw [if_neg hpos]] at q
          exact .step (xg_name 3 nd) (xss_one (xs_no (XT.is (xt_gt ((xv_ix ((xv_ix ((xv_ix (xb_fldO 0 1 K_System.cl K_System.n_rows rfl rfl nd_System) ((xv_var 3)).br (ix_rngD hi2))).br ((xv_var 1)).br (ix_row (by omega)))).br (xv_int).br (ix_Q1 _))).br (xv_int).br) (hp2)) xss_nil)) rfl (Le.fg [3] rfl) q
    · rw [hl]
      exact xss_one (xs_retS (xv_ix ((xv_var 2)).br (xv_int).br (rfl)))

abbrev s_System_settle : Stmt := inClass (top 11) 3
abbrev N_System_settle : List Str := ["self", "column"]
abbrev P_System_settle : List Str := ["self"]
theorem sc_System_settle : FnScope N_System_settle P_System_settle (defScope s_System_settle) := ⟨rfl, rfl, rfl, by decide +kernel, rfl, by decide +kernel, by decide +kernel⟩

def GoodA (w m : Nat) (Ai : Nat → Nat → Int) : Prop := (∀ k j, k < m → (Ai k j).natAbs ≤ 2048) ∧ ∀ k l, k < m → l < m → Ai k (w + l) = if k = l then 1 else 0
def F_System_settle : Ofs := fun args fs fs' d => ∃ (w m : Nat) (Ai : Nat → Nat → Int) (t u : Tab), args = [] ∧ (w + m < 99 ∧ m ≤ 4) ∧ TOk m (w + m) (fun k j => (Ai k j : Rat)) (hRow w m) t ∧ GoodA w m Ai ∧ Settles m (w + m) t u ∧ fs = sysF w m t ∧ fs' = sysF w m u ∧ d = .non
theorem do_System_settle {P : Program} {w : World} {K : Fg} {mg : Str → Option Value} {base : Heap} {C : Addr} (T : Tx K mg) (K_System : Kc_System K C) (U : Mn K C "settle" "System.settle" s_System_settle P_System_settle) (D_System_bring : Do P w K mg base C "bring" 4 F_System_bring) (D_System_leaving : Do P w K mg base C "leaving" 3 F_System_leaving) :
    Do P w K mg base C "settle" 5 F_System_settle :=
  do_of 4 U sc_System_settle (fun _ _ _ _ ⟨_, _, _, _, _, h, _⟩ => by rw [h]; rfl) fun f cdv A outer s H E a args fs fs' d hr tk hp hF => by
    obtain ⟨w, m, Ai, t, u, rfl, ⟨hn, hm⟩, hok, hg, hset, rfl, rfl, rfl⟩ := hF
    have nd := sc_System_settle.nd
    refine FO.nx (rest := [.fz (.int ((w + m : Nat) : Int))]) ?_
    refine xss_cons (xs_set 1 nd xv_int) ?_
    refine xss_whileX (Q := fun d1 => d1 = [.ob C (some a) (sysF w m u), .fz (.int ((w + m : Nat) : Int))]) hp ?_ ?_
    · suffices loop : ∀ t u : Tab, Settles m (w + m) t u → TOk m (w + m) (fun k j => (Ai k j : Rat)) (hRow w m) t → ∀ c : Nat, c ≤ w + m → (∀ j, j < c → 0 ≤ t.c j) → ∃ k, Wh _ _ _ _ k [.ob C (some a) (sysF w m t), .fz (.int (c : Int))] (.nx [.ob C (some a) (sysF w m u), .fz (.int ((w + m : Nat) : Int))]) by
        obtain ⟨k, hw⟩ := loop t u hset hok 0 (by omega) (fun j hj => by omega)
        exact ⟨k, _, rfl, hw⟩
      clear hset hok t u
      intro t u hset
      induction hset with
      | @done t hall =>
        intro hok c hc hlow
        obtain ⟨n, hn2⟩ : ∃ n, c + n = w + m := ⟨w + m - c, by omega⟩
        clear hlow
        induction n generalizing c with
        | zero =>
          obtain rfl : c = w + m := by omega
          exact ⟨0, .stop (XT.is (xt_lt ((xv_var 1)).br ((xv_sub ((xv_len T.len ((xv_fldO 0 3 K_System.cl K_System.n_costs rfl rfl nd_System)).br)).br (xv_int).br)).br) (by rw [rng_len]; exact decide_eq_false (by omega)))⟩
        | succ n ih =>
          obtain ⟨k, hw⟩ := ih (c + 1) (by omega) (by omega)
          rw [show ((c + 1 : Nat) : Int) = (c : Int) + 1 by omega] at hw
          have hc0 : decide ((t.c c).num < 0) = false := decide_eq_false fun z => by have := num_neg.mp z; have := hall c (by omega); grind
          exact ⟨k + 1, .step (XT.is (xt_lt ((xv_var 1)).br ((xv_sub ((xv_len T.len ((xv_fldO 0 3 K_System.cl K_System.n_costs rfl rfl nd_System)).br)).br (xv_int).br)).br) (by rw [rng_len]; exact decide_eq_true (by omega))) (xss_one (xs_no (XT.is (xt_lt ((xv_ix ((xv_ix ((xv_fldO 0 3 K_System.cl K_System.n_costs rfl rfl nd_System)).br ((xv_var 1)).br (ix_row (by omega)))).br (xv_int).br (ix_Q1 _))).br (xv_int).br) (hc0)) (xss_one (xs_set 1 nd (xv_add ((xv_var 1)).br (xv_int).br))))) rfl .refl hw⟩
      | @step t u r s st hlv hset ih =>
        intro hok c hc hlow
        have hs := tab_SQ hok hg.1 hg.2 hm
        have hcs : c ≤ s := by
          rcases Nat.lt_or_ge s c with z | z
          · have := hlow s z; have := st.neg; exact absurd this (by grind)
          · exact z
        obtain ⟨n, hn2⟩ : ∃ n, c + n = s := ⟨s - c, by omega⟩
        have hsn := st.sn
        clear hlow
        induction n generalizing c with
        | zero =>
          obtain rfl : c = s := by omega
          obtain ⟨k, hw⟩ := ih (piv_ok hok st.rm st.sn st.pos st.min) 0 (by omega) (fun j hj => by omega)
          have hc0 : decide ((t.c c).num < 0) = true := decide_eq_true (num_neg.mpr st.neg)
          have hpos := st.pos
          have hne : t.a r c ≠ 0 := by grind
          exact ⟨k + 1, .step (XT.is (xt_lt ((xv_var 1)).br ((xv_sub ((xv_len T.len ((xv_fldO 0 3 K_System.cl K_System.n_costs rfl rfl nd_System)).br)).br (xv_int).br)).br) (by rw [rng_len]; exact decide_eq_true (by omega))) (xss_one (xs_yes (XT.is (xt_lt ((xv_ix ((xv_ix ((xv_fldO 0 3 K_System.cl K_System.n_costs rfl rfl nd_System)).br ((xv_var 1)).br (ix_row (by omega)))).br (xv_int).br (ix_Q1 _))).br (xv_int).br) (hc0))
            (xss_cons (xs_exprM (xm_meth (FN := FN_System) 0 D_System_bring K_System.cl (hr.mono (by decide)) (xma_cons (xm_meth (FN := FN_System) 0 D_System_leaving K_System.cl (hr.mono (by decide)) (xa_cons (xv_var 1) xa_nil).xm (⟨w, m, r, c, t, rfl, ⟨by omega, by omega⟩, hlv, hs, rfl, rfl, rfl⟩)) (XA.xm (xa_cons (xv_var 1) xa_nil))) ⟨w, m, r, c, t, rfl, ⟨st.rm, by omega, by omega⟩, hne, hs, rfl, rfl, rfl⟩)) (xss_one (xs_set 1 nd xv_int))))) rfl .refl hw⟩
        | succ n ihn =>
          obtain ⟨k, hw⟩ := ihn (c + 1) (by omega) (by omega) (by omega)
          rw [show ((c + 1 : Nat) : Int) = (c : Int) + 1 by omega] at hw
          have hc0 : decide ((t.c c).num < 0) = false := decide_eq_false fun z => by have := num_neg.mp z; have := st.low c (by omega); grind
          exact ⟨k + 1, .step (XT.is (xt_lt ((xv_var 1)).br ((xv_sub ((xv_len T.len ((xv_fldO 0 3 K_System.cl K_System.n_costs rfl rfl nd_System)).br)).br (xv_int).br)).br) (by rw [rng_len]; exact decide_eq_true (by omega))) (xss_one (xs_no (XT.is (xt_lt ((xv_ix ((xv_ix ((xv_fldO 0 3 K_System.cl K_System.n_costs rfl rfl nd_System)).br ((xv_var 1)).br (ix_row (by omega)))).br (xv_int).br (ix_Q1 _))).br (xv_int).br) (hc0)) (xss_one (xs_set 1 nd (xv_add ((xv_var 1)).br (xv_int).br))))) rfl .refl hw⟩
    · rintro d1 rfl
      exact xss_nil

abbrev s_System___init__ : Stmt := inClass (top 11) 0
abbrev N_System___init__ : List Str := ["self", "rows", "goals", "k", "helpers", "j", "row"]
abbrev P_System___init__ : List Str := ["self", "rows", "goals"]
theorem sc_System___init__ : FnScope N_System___init__ P_System___init__ (defScope s_System___init__) := ⟨rfl, rfl, rfl, by decide +kernel, rfl, by decide +kernel, by decide +kernel⟩

def F_System_init : Ofs := fun args fs fs' d => ∃ (w m : Nat) (B : Nat → Nat → Int) (h : Nat → Int), args = [.lst ((List.range m).map fun k => eRow w fun j => (B k j : Rat)), eRow m fun k => (h k : Rat)] ∧ (1 ≤ m ∧ m ≤ 4 ∧ w < 90) ∧ (∀ k j, k < m → (A0 w m B h k j).natAbs ≤ 2048) ∧ fs = [] ∧ fs' = sysF w m (tab0 w m fun k j => (A0 w m B h k j : Rat)) ∧ d = .non
theorem dc_System {P : Program} {w : World} {K : Fg} {mg : Str → Option Value} {base : Heap} {C : Addr} (T : Tx K mg) (K_System : Kc_System K C) (U : Cn K mg "System" "System.__init__" C s_System___init__ P_System___init__) (D_less_row : Df P w K mg base "less_row" 3 F_less_row) :
    Dc P w K mg base "System" C 4 F_System_init :=
  dc_of 3 U sc_System___init__ (fun _ _ _ _ ⟨_, _, _, _, h, _⟩ => by rw [h]; rfl) fun f cdv A outer s H E a args fs fs' d hr tk hp hF => by
    obtain ⟨w, m, B, h, rfl, ⟨h1, h4, hw⟩, hb, rfl, rfl, rfl⟩ := hF
    have nd := sc_System___init__.nd
    let rows := D.lst ((List.range m).map fun k => eRow w fun j => (B k j : Rat))
    let goals := eRow m fun k => (h k : Rat)
    let rw_ := fun k => eRow (w + m + 1) fun j => (A0 w m B h k j : Rat)
    have ix0 : ixD rows 0 = some (eRow w fun j => (B 0 j : Rat)) := ix_rngD (k := 0) (by omega)
    refine FO.nx (rest := [.fz rows, .fz goals, .no, .no, .no, .no]) ?_
    refine xss_cons (ds1 := [.ob C (some a) [("wide", .fz (.int (w : Int)))], .fz rows, .fz goals, .no, .no, .no, .no]) (XS.is (xs_fld0 0 K_System.cl K_System.n_wide (FN := []) (he := XV.is (d' := .int (w : Int)) (xv_len T.len ((xv_ix ((xv_var 1)).br (xv_int).br (ix0))).br) (by rw [rng_len]))) rfl) ?_
    refine xss_cons (xs_fldL0 0 K_System.cl K_System.n_rows (FN := ["wide"]) (he := (xl_lst xa_nil))) ?_
    refine xss_cons (ds1 := [.ob C (some a) [("wide", .fz (.int (w : Int))), ("rows", .ow none ((List.range m).map rw_))], .fz rows, .fz goals, .no, .no, .no, .no]) (xs_for hp rfl (xi_range T.range (xv_len T.len ((xv_var 1)).br) (by omega) (by rw [rng_len]; omega)) ?_) ?_
    · rw [rng_len, Int.toNat_natCast, rngD_F]
      suffices loop : ∀ (n i : Nat), i + n = m → Fr _ _ _ _ (rngF i n) [.ob C (some a) [("wide", .fz (.int (w : Int))), ("rows", .ow none ((List.range i).map rw_))], .fz rows, .fz goals, .no, .no, .no, .no] (.nx [.ob C (some a) [("wide", .fz (.int (w : Int))), ("rows", .ow none ((List.range m).map rw_))], .fz rows, .fz goals, .no, .no, .no, .no]) by
        exact loop m 0 (by omega)
      intro n
      induction n with
      | zero => intro i hi; obtain rfl : i = m := by omega
                exact .nil
      | succ n ih =>
        intro i hi
        have q := ih (i + 1) (by omega)
        have hi2 : i < m := by omega
        rw [List.range_succ, List.map_append] at q
        rw [rngF_succ]
        have ixr : ixD rows (i : Int) = some (eRow w fun j => (B i j : Rat)) := ix_rngD hi2
        have e1 : (List.range ((((List.range m).map fun k => eRow w fun j => (B k j : Rat)).length : Nat) : Int).toNat).map (fun (j : Nat) => D.tup [.int (if decide ((j : Int) = (i : Int)) = true then 1 else 0), .int 1]) = (List.range m).map fun j => eQ ((if j = i then 1 else 0 : Int) : Rat) := by
          rw [rng_len, Int.toNat_natCast]
          refine rng_congr fun j hj => ?_
          by_cases e : j = i
          · rw [if_pos e, decide_eq_true (show (j : Int) = (i : Int) by omega)]; rfl
          · rw [if_neg e, decide_eq_false (show ¬ (j : Int) = (i : Int) by omega)]; rfl
        refine .step (xg_name 3 nd) (xss_cons (xs_lc 4 [("j", 5)] rfl nd (xi_range T.range (xv_len T.len ((xv_var 1)).br) (by omega) (by rw [rng_len]; omega)) (blkOk_by (own := [("j", 5)]) (N := N_System___init__) (sc := defScope s_System___init__) (by decide +kernel)) ((lc_map (f := fun (n : Nat) => D.int n) (g := fun (j : Nat) => D.tup [.int (if decide ((j : Int) = (i : Int)) = true then 1 else 0), .int 1]) (List.range _) fun x_1 hx_1 => ⟨_, (fun _ _ _ _ _ => (xgw_name 5 nd)), (fun _ _ _ _ _ => (xv_tup (xa_cons (xv_int1 T.int ((xv_eqI ((xv_var 5)).br ((xv_var 3)).br)).br) (xa_cons xv_int xa_nil))))⟩).is e1) (by rw [rngD_F, rngF_len]; rw [rng_len]; omega))
          (xss_one (xs_fldApp 0 1 (XL.is (xl_cat ((xl_cat ((xv_ix ((xv_var 1)).br ((xv_var 3)).br (ixr))).br (xb_own 4) (by rw [rng_len, rng_len]; omega))).br ((xl_lst (xa_cons (xv_ix ((xv_var 2)).br ((xv_var 3)).br (ix_row hi2)) xa_nil))).br (by rw [List.length_append, rng_len, rng_len, List.length_singleton]; omega)) row_cat).v K_System.cl K_System.n_rows (by rw [rng_len]; omega) rfl rfl (FN := ["wide", "rows"]) (by decide)))) rfl (Le.fg [3, 4, 5] rfl) q
    have e2 : (List.range ((((List.range m).map fun k => eRow w fun j => (B k j : Rat)).length : Nat) : Int).toNat).map (fun (k : Nat) => D.int ((w : Int) + (k : Int))) = (List.range m).map fun i => D.int ((w + i : Nat) : Int) := by
      rw [rng_len, Int.toNat_natCast]
      exact rng_congr fun j hj => by rw [Int.natCast_add]
    refine xss_cons (xs_fldL0 0 K_System.cl K_System.n_basis (FN := ["wide", "rows"]) (he := (xl_lc [("k", 3)] rfl nd (xi_range T.range (xv_len T.len ((xv_var 1)).br) (by omega) (by rw [rng_len]; omega)) (blkOk_by (own := [("k", 3)]) (N := N_System___init__) (sc := defScope s_System___init__) (by decide +kernel)) ((lc_map (f := fun (n : Nat) => D.int n) (g := fun (k : Nat) => D.int ((w : Int) + (k : Int))) (List.range _) fun x_1 hx_1 => ⟨_, (fun _ _ _ _ _ => (xgw_name 3 nd)), (fun _ _ _ _ _ => (xv_add ((xv_fldO 0 0 K_System.cl K_System.n_wide rfl rfl (FN := ["wide", "rows"]) (by decide))).br ((xv_var 3)).br))⟩).is e2) (by rw [rngD_F, rngF_len]; rw [rng_len]; omega)))) ?_
    refine xss_cons (ds1 := [.ob C (some a) [("wide", .fz (.int (w : Int))), ("rows", .ow none ((List.range m).map rw_)), ("basis", .ow none ((List.range m).map fun i => D.int ((w + i : Nat) : Int))), ("costs", .fz (eRow (w + m + 1) fun j => (csI w m (A0 w m B h) 0 j : Rat)))], .fz rows, .fz goals, .no, .no, .no, .no]) (XS.is (xs_fld0 0 K_System.cl K_System.n_costs (FN := ["wide", "rows", "basis"]) (he := (XL.is (d' := (List.range (w + m + 1)).map fun j => eQ (csI w m (A0 w m B h) 0 j : Rat)) (xl_cat ((xl_cat ((xl_rep ((xl_lst (xa_cons (xv_tup (xa_cons xv_int (xa_cons xv_int xa_nil))) xa_nil))).br ((xv_fldO 0 0 K_System.cl K_System.n_wide rfl rfl (FN := ["wide", "rows", "basis"]) (by decide))).br (by omega) (by omega) (by simp; omega))).br ((xl_rep ((xl_lst (xa_cons (xv_tup (xa_cons xv_int (xa_cons xv_int xa_nil))) xa_nil))).br ((xv_len T.len ((xv_var 1)).br)).br (by omega) (by rw [rng_len]; omega) (by rw [rng_len]; simp; omega))).br (by rw [show (D.tup [.int 0, .int 1]) = eQ 0 from rfl, show (D.tup [.int 1, .int 1]) = eQ 1 from rfl, repQ, repQ, rng_len, rng_len, rng_len]; omega))).br ((xl_lst (xa_cons (xv_tup (xa_cons xv_int (xa_cons xv_int xa_nil))) xa_nil))).br (by rw [show (D.tup [.int 0, .int 1]) = eQ 0 from rfl, show (D.tup [.int 1, .int 1]) = eQ 1 from rfl, repQ, repQ, List.length_append, rng_len, rng_len, rng_len, List.length_singleton]; omega)) (by
        rw [show (D.tup [.int 0, .int 1]) = eQ 0 from rfl, show (D.tup [.int 1, .int 1]) = eQ 1 from rfl, repQ, repQ, rng_len, Int.toNat_natCast, Int.toNat_natCast]
        exact costs0)).v)) rfl) ?_
    refine xss_one (xs_forF 0 1 hp rfl K_System.cl K_System.n_rows nd_System fun q => ?_)
    have hd : (List.range m).map rw_ = (List.range' 0 m).map rw_ := by rw [List.range_eq_range']
    suffices loop : ∀ (n i : Nat), i + n = m → FrP _ _ _ _ (PinAt 0 1 C "rows" q ((List.range m).map rw_) FN_System) ((List.range' i n).map rw_) [.ob C (some a) [("wide", .fz (.int (w : Int))), ("rows", .ow (some q) ((List.range m).map rw_)), ("basis", .ow none ((List.range m).map fun i => D.int ((w + i : Nat) : Int))), ("costs", .fz (eRow (w + m + 1) fun j => (csI w m (A0 w m B h) i j : Rat)))], .fz rows, .fz goals, .no, .no, .no, .no]
        (.nx [.ob C (some a) (sysF w m (tab0 w m fun k j => (A0 w m B h k j : Rat))), .fz rows, .fz goals, .no, .no, .no, .no]) by
      have z := loop m 0 (by omega)
      rw [← hd] at z
      exact z
    intro n
    induction n with
    | zero =>
      intro i hi
      obtain rfl : i = m := by omega
      have e : (fun j => ((csI w i (A0 w i B h) i j : Int) : Rat)) = (tab0 w i fun k j => (A0 w i B h k j : Rat)).c := funext fun j => csI_Q j
      rw [e]
      exact .nil ⟨some a, _, rfl, rfl, rfl⟩ ((Le.unpin 0 1 (hd := rfl) (hk := rfl) (nd := nd_System)).trans (Le.eq rfl))
    | succ n ih =>
      intro i hi
      have z := ih (i + 1) (by omega)
      have hi2 : i < m := by omega
      rw [show (fun j => ((csI w m (A0 w m B h) (i + 1) j : Int) : Rat)) = fun j => (csI w m (A0 w m B h) i j : Rat) - 1 * (A0 w m B h i j : Rat) from funext fun j => csI_step i j] at z
      exact .step ⟨some a, _, rfl, rfl, rfl⟩ (xg_name 6 nd) (xss_one (xs_fld 0 3 K_System.cl K_System.n_costs (hd := rfl) (hk := rfl) (nd := nd_System) (he := (xv_call D_less_row (hr.mono (by decide)) tk (xa_cons (xv_fldO 0 3 K_System.cl K_System.n_costs rfl rfl nd_System) (xa_cons (xv_var 6) (xa_cons (xv_tup (xa_cons xv_int (xa_cons xv_int xa_nil))) xa_nil))) (⟨w + m + 1, _, _, 1, 14, 12, 1, rfl, by omega, fun j _ => int_SQ (Nat.lt_of_le_of_lt (csI_bd (by omega) fun k hk => hb k j (by omega)) (by decide)) (by decide), fun j _ => int_SQ (Nat.lt_of_le_of_lt (hb i j hi2) (by decide)) (by decide), ⟨by decide, by decide⟩, by omega, rfl⟩))))) rfl (Le.fg [6] rfl) z

abbrev s_solved : Stmt := top 12
abbrev N_solved : List Str := ["rows", "goals", "turned", "k", "some", "one", "system", "wide", "found"]
abbrev P_solved : List Str := ["rows", "goals"]
theorem sc_solved : FnScope N_solved P_solved (defScope s_solved) := ⟨rfl, rfl, rfl, by decide +kernel, rfl, by decide +kernel, by decide +kernel⟩

/-- solved's answer -/
def solD (w m : Nat) (g : Nat → Int) (u : Tab) : D := if u.c (w + m) = 0 then .tup [.str "worths", eRow w fun j => valT m (w + m) u j] else .tup [.str "prices", eRow m (prT w g u)]
def SmallS (w m : Nat) (R : Nat → Nat → Int) (g : Nat → Int) : Prop := (1 ≤ m ∧ m ≤ 4 ∧ w < 90) ∧ (∀ k j, k < m → j < w → (R k j).natAbs ≤ 2048) ∧ ∀ k, k < m → (g k).natAbs ≤ 2048
def F_solved : Fs := fun args r => ∃ (w m : Nat) (R : Nat → Nat → Int) (g : Nat → Int) (u : Tab), args = [.lst ((List.range m).map fun k => eRow w fun j => (R k j : Rat)), eRow m fun k => (g k : Rat)] ∧ SmallS w m R g ∧ Ends w m R g u ∧ r = .ok (solD w m g u)
/-- the worths as they are set: those of the first rows -/
theorem val_set {w m : Nat} {R : Nat → Nat → Int} {g : Nat → Int} {u : Tab} (h : Ends w m R g u) {i : Nat} (hi : i < m) (j : Nat) : (sumR (i + 1) fun k => if u.b k = j then u.a k (w + m) else 0) = if j = u.b i then u.a i (w + m) else sumR i fun k => if u.b k = j then u.a k (w + m) else 0 := by
  obtain ⟨ok, _⟩ := ends_ok h
  show (sumR i fun k => if u.b k = j then u.a k (w + m) else 0) + (if u.b i = j then u.a i (w + m) else 0) = _
  by_cases e : j = u.b i
  · rw [if_pos e, if_pos e.symm, sumR_congr (g := fun _ => 0) fun k hk => by rw [if_neg fun z => by have := ok.inj (show k < m by omega) hi (z.trans e); omega], sumR_zero]; grind
  · rw [if_neg e, if_neg fun z => e z.symm]; grind
theorem sgn_Q (i : Int) : SQ 2 ((sgn i : Int) : Rat) := int_SQ (by unfold sgn; split <;> decide) (by decide)
theorem df_solved {P : Program} {w : World} {K : Fg} {mg : Str → Option Value} {base : Heap} {C : Addr} (T : Tx K mg) (U : Dn K mg "solved" s_solved P_solved) (K_System : Kc_System K C) (D_times : Df P w K mg base "times" 2 F_times) (D_minus : Df P w K mg base "minus" 2 F_minus) (D_System : Dc P w K mg base "System" C 4 F_System_init) (D_System_settle : Do P w K mg base C "settle" 5 F_System_settle) :
    Df P w K mg base "solved" 6 F_solved :=
  df_of 5 U sc_solved (fun _ _ ⟨_, _, _, _, _, h, _⟩ => by rw [h]; rfl) fun f cdv A outer s H E args r hr tk hp hF => by
    obtain ⟨w, m, R, g, u, rfl, ⟨⟨m1, m4, hw⟩, hR, hg⟩, hend, rfl⟩ := hF
    have nd := sc_solved.nd
    obtain ⟨ok, _⟩ := ends_ok hend
    have hsm := tab_SQ ok (AS_bd hR hg) (fun k l hk hl => AS_help hl) m4
    let rows := D.lst ((List.range m).map fun k => eRow w fun j => (R k j : Rat))
    let goals := eRow m fun k => (g k : Rat)
    have ixr : ∀ k, k < m → ixD rows (k : Int) = some (eRow w fun j => (R k j : Rat)) := fun k h => ix_rngD h
    have ix0 : ixD rows 0 = some (eRow w fun j => (R 0 j : Rat)) := ixr 0 (by omega)
    refine XF.rt (xss_cons (xs_own 2 nd (xl_lst xa_nil)) ?_)
    refine xss_cons (ds1 := [.fz rows, .fz goals, .ow ((List.range m).map fun k => .int (sgn (g k))), .no, .no, .no, .no, .no, .no]) (xs_for hp rfl (xi_range T.range (xv_len T.len ((xv_var 0)).br) (by omega) (by rw [rng_len]; omega)) ?_) (XSs.freeze 2 ?_)
    · rw [rng_len, Int.toNat_natCast, rngD_F]
      suffices loop : ∀ (n i : Nat), i + n = m → Fr _ _ _ _ (rngF i n) [.fz rows, .fz goals, .ow ((List.range i).map fun k => .int (sgn (g k))), .no, .no, .no, .no, .no, .no] (.nx [.fz rows, .fz goals, .ow ((List.range m).map fun k => .int (sgn (g k))), .no, .no, .no, .no, .no, .no]) by
        exact loop m 0 (by omega)
      intro n
      induction n with
      | zero => intro i hi; obtain rfl : i = m := by omega
                exact .nil
      | succ n ih =>
        intro i hi
        have q := ih (i + 1) (by omega)
        have hi2 : i < m := by omega
        rw [List.range_succ, List.map_append] at q
        rw [rngF_succ]
        have e : (if decide ((g i : Rat).num < 0) = true then D.int (-1) else D.int 1) = .int (sgn (g i)) := by
          show (if decide (g i < 0) = true then D.int (-1) else D.int 1) = .int (sgn (g i))
          unfold sgn
          by_cases z : g i < 0
          · rw [decide_eq_true z, if_pos rfl, if_pos z]
          · rw [decide_eq_false z, if_neg Bool.false_ne_true, if_neg z]
        exact .step (xg_name 3 nd) (xss_one (xs_append 2 (XV.is (xv_ifd (xt_lt ((xv_ix ((xv_ix ((xv_var 1)).br ((xv_var 3)).br (ix_row hi2))).br (xv_int).br (ix_Q1 _))).br (xv_int).br) (fun hk => (xv_neg (xv_int).br)) (fun hk => xv_int)) e) (by rfl) (by rw [rng_len]; omega))) rfl (Le.fg [3] rfl) q
    have ixt : ∀ k, k < m → ixD (.lst ((List.range m).map fun k => .int (sgn (g k)))) (k : Int) = some (.int (sgn (g k))) := fun k h => ix_rngD h
    have hl : ∀ k : Nat, k ∈ List.range (((((List.range m).map fun k => eRow w fun j => (R k j : Rat)).length : Nat) : Int).toNat) → k < m := fun k h => by rw [rng_len, Int.toNat_natCast] at h; exact List.mem_range.mp h
    have hsq : ∀ k j, k < m → j < w → SQ 12 (R k j : Rat) := fun k j hk hj => int_SQ (Nat.lt_of_le_of_lt (hR k j hk hj) (by decide)) (by decide)
    have hgq : ∀ k, k < m → SQ 12 (g k : Rat) := fun k hk => int_SQ (Nat.lt_of_le_of_lt (hg k hk) (by decide)) (by decide)
    have hF1 : ∀ k j, k < m → j < w → F_times [.tup [.int (sgn (g k)), .int 1], eQ (R k j : Rat)] (.ok (eQ ((sgn (g k) : Rat) * (R k j : Rat)))) := fun k j hk hj => ⟨(sgn (g k) : Rat), _, 2, 12, rfl, ⟨sgn_Q _, hsq k j hk hj, by omega⟩, rfl⟩
    have e1 : (List.range (((((List.range m).map fun k => eRow w fun j => (R k j : Rat)).length : Nat) : Int).toNat)).map (fun k => D.lst ((List.range w).map fun j => eQ ((sgn (g k) : Rat) * (R k j : Rat)))) = (List.range m).map fun k => eRow w fun j => ((sgn (g k) * R k j : Int) : Rat) := by
      rw [rng_len, Int.toNat_natCast]
      exact rng_congr fun k _ => eRow_congr fun j _ => by rw [Rat.intCast_mul]
    have e2 : (List.range (((((List.range m).map fun k => eRow w fun j => (R k j : Rat)).length : Nat) : Int).toNat)).map (fun k => eQ ((sgn (g k) : Rat) * (g k : Rat))) = (List.range m).map fun k => eQ ((sgn (g k) * g k : Int) : Rat) := by
      rw [rng_len, Int.toNat_natCast]
      exact rng_congr fun k _ => by rw [Rat.intCast_mul]
    refine xss_cons (xs_lc 4 [("k", 3)] rfl nd (xi_range T.range (xv_len T.len ((xv_var 0)).br) (by omega) (by rw [rng_len]; omega)) (blkOk_by (own := [("k", 3)]) (N := N_solved) (sc := defScope s_solved) (by decide +kernel)) ((lc_map (f := fun (n : Nat) => D.int n) (g := fun k => D.lst ((List.range w).map fun j => eQ ((sgn (g k) : Rat) * (R k j : Rat)))) (List.range _) fun x_1 hx_1 => ⟨_, (fun _ _ _ _ _ => (xgw_name 3 nd)), (fun _ _ _ _ _ => (XL.v (xl_lc [("one", 5)] rfl nd (xi_list (xv_ix ((xv_var 0)).br ((xv_var 3)).br (ixr x_1 (hl x_1 hx_1)))) (blkOk_by (own := [("one", 5)]) (N := N_solved) (by rfl)) ((lc_map (f := fun j => eQ (R x_1 j : Rat)) (g := fun j => eQ ((sgn (g x_1) : Rat) * (R x_1 j : Rat))) (List.range w) fun x_2 hx_2 => ⟨_, (fun _ _ _ _ _ => (xgw_name 5 nd)), (fun _ _ _ _ _ => (xv_call D_times (hr.mono (by decide)) takes0 (xa_cons (xv_tup (xa_cons (xv_ix ((xv_var 2)).br ((xv_var 3)).br (ixt x_1 (hl x_1 hx_1))) (xa_cons xv_int xa_nil))) (xa_cons (xv_var 5) xa_nil)) (hF1 x_1 x_2 (hl x_1 hx_1) (List.mem_range.mp hx_2))))⟩)) (by rw [rng_len]; omega))))⟩).is e1) (by rw [rngD_F, rngF_len]; rw [rng_len]; omega)) (XSs.freeze 4 ?_)
    refine xss_cons (ds1 := [.fz rows, .fz goals, .fz (.lst ((List.range m).map fun k => .int (sgn (g k)))), .no, .fz (.lst ((List.range m).map fun k => eRow w fun j => ((sgn (g k) * R k j : Int) : Rat))), .no, .ob C none (sysF w m (T0 w m R g)), .no, .no]) (XS.is (xs_ownO 6 nd (xo_make D_System (hr.mono (by decide)) (xa_cons (xv_var 4) (xa_cons ((xl_lc [("k", 3)] rfl nd (xi_range T.range (xv_len T.len ((xv_var 0)).br) (by omega) (by rw [rng_len]; omega)) (blkOk_by (own := [("k", 3)]) (N := N_solved) (sc := defScope s_solved) (by decide +kernel)) ((lc_map (f := fun (n : Nat) => D.int n) (g := fun k => eQ ((sgn (g k) : Rat) * (g k : Rat))) (List.range _) fun x_1 hx_1 => ⟨_, (fun _ _ _ _ _ => (xgw_name 3 nd)), (fun _ _ _ _ _ => (xv_call D_times (hr.mono (by decide)) takes0 (xa_cons (xv_tup (xa_cons (xv_ix ((xv_var 2)).br ((xv_var 3)).br (ixt x_1 (hl x_1 hx_1))) (xa_cons xv_int xa_nil))) (xa_cons (xv_ix ((xv_var 1)).br ((xv_var 3)).br (ix_row (hl x_1 hx_1))) xa_nil)) (⟨(sgn (g x_1) : Rat), _, 2, 12, rfl, ⟨sgn_Q _, hgq x_1 (hl x_1 hx_1), by omega⟩, rfl⟩)))⟩).is e2) (by rw [rngD_F, rngF_len]; rw [rng_len]; omega))).v xa_nil)) (⟨w, m, fun k j => sgn (g k) * R k j, fun k => sgn (g k) * g k, rfl, ⟨m1, m4, hw⟩, fun k j hk => AS_bd hR hg k j hk, rfl, rfl, rfl⟩))) rfl) ?_
    refine xss_cons (ds1 := [.fz rows, .fz goals, .fz (.lst ((List.range m).map fun k => .int (sgn (g k)))), .no, .fz (.lst ((List.range m).map fun k => eRow w fun j => ((sgn (g k) * R k j : Int) : Rat))), .no, .ob C none (sysF w m u), .no, .no]) (XS.is (xs_exprM (xm_meth0 (FN := FN_System) 6 D_System_settle K_System.cl (hr.mono (by decide)) (⟨w, m, AS w m R g, T0 w m R g, u, rfl, ⟨by omega, m4⟩, T0_ok, ⟨AS_bd hR hg, fun k l hk hl => AS_help hl⟩, hend, rfl, rfl, rfl⟩))) rfl) ?_
    refine xss_cons (ds1 := [.fz rows, .fz goals, .fz (.lst ((List.range m).map fun k => .int (sgn (g k)))), .no, .fz (.lst ((List.range m).map fun k => eRow w fun j => ((sgn (g k) * R k j : Int) : Rat))), .no, .ob C none (sysF w m u), .fz (.int (w : Int)), .no]) (XS.is (xs_set 7 nd (XV.is (d' := .int (w : Int)) (xv_len T.len ((xv_ix ((xv_var 0)).br (xv_int).br (ix0))).br) (by rw [rng_len]))) rfl) ?_
    have hlast : ixD (eRow (w + m + 1) u.c) (-1) = some (eQ (u.c (w + m))) := ix_rowL
    unfold solD
    by_cases h0 : u.c (w + m) = 0
    · rw [if_pos h0]
      have ht : decide ((u.c (w + m)).num = 0) = true := decide_eq_true (Rat.num_eq_zero.mpr h0)
      refine xss_yesS (XT.is (xt_eqI ((xv_ix ((xv_ix ((xv_fldO 6 3 K_System.cl K_System.n_costs rfl rfl nd_System)).br ((xv_neg (xv_int).br)).br (hlast))).br (xv_int).br (ix_Q1 _))).br (xv_int).br) (ht)) ?_
      have rp : (List.replicate ((w : Int).toNat) [D.tup [.int 0, .int 1]]).flatten = (List.range w).map fun j => eQ (sumR 0 fun k => if u.b k = j then u.a k (w + m) else 0) := by
        rw [show (D.tup [.int 0, .int 1]) = eQ 0 from rfl, repQ, Int.toNat_natCast]; rfl
      refine xss_cons (xs_own 8 nd (XL.is (xl_rep ((xl_lst (xa_cons (xv_tup (xa_cons xv_int (xa_cons xv_int xa_nil))) xa_nil))).br ((xv_var 7)).br (by omega) (by omega) (by simp; omega)) rp)) ?_
      refine xss_cons (ds1 := [.fz rows, .fz goals, .fz (.lst ((List.range m).map fun k => .int (sgn (g k)))), .no, .fz (.lst ((List.range m).map fun k => eRow w fun j => ((sgn (g k) * R k j : Int) : Rat))), .no, .ob C none (sysF w m u), .fz (.int (w : Int)), .ow ((List.range w).map fun j => eQ (sumR m fun k => if u.b k = j then u.a k (w + m) else 0))]) (xs_for hp rfl (xi_range T.range (xv_len T.len ((xv_var 0)).br) (by omega) (by rw [rng_len]; omega)) ?_) (XSs.freeze 8 (xss_ret (xv_tup (xa_cons xv_str (xa_cons (xv_var 8) xa_nil)))))
      rw [rng_len, Int.toNat_natCast, rngD_F]
      suffices loop : ∀ (n i : Nat), i + n = m → Fr _ _ _ _ (rngF i n) [.fz rows, .fz goals, .fz (.lst ((List.range m).map fun k => .int (sgn (g k)))), .no, .fz (.lst ((List.range m).map fun k => eRow w fun j => ((sgn (g k) * R k j : Int) : Rat))), .no, .ob C none (sysF w m u), .fz (.int (w : Int)), .ow ((List.range w).map fun j => eQ (sumR i fun k => if u.b k = j then u.a k (w + m) else 0))]
          (.nx [.fz rows, .fz goals, .fz (.lst ((List.range m).map fun k => .int (sgn (g k)))), .no, .fz (.lst ((List.range m).map fun k => eRow w fun j => ((sgn (g k) * R k j : Int) : Rat))), .no, .ob C none (sysF w m u), .fz (.int (w : Int)), .ow ((List.range w).map fun j => eQ (sumR m fun k => if u.b k = j then u.a k (w + m) else 0))]) by
        exact loop m 0 (by omega)
      intro n
      induction n with
      | zero => intro i hi; obtain rfl : i = m := by omega
                exact .nil
      | succ n ih =>
        intro i hi
        have q := ih (i + 1) (by omega)
        have hi2 : i < m := by omega
        rw [rngF_succ]
        have hbi : ixD (.lst ((List.range m).map fun i => D.int (u.b i : Int))) (i : Int) = some (.int (u.b i : Int)) := ix_rngD hi2
        have hri : ixD (.lst ((List.range m).map fun k => eRow (w + m + 1) (u.a k))) (i : Int) = some (eRow (w + m + 1) (u.a i)) := ix_rngD hi2
        have hrl : ixD (eRow (w + m + 1) (u.a i)) (-1) = some (eQ (u.a i (w + m))) := ix_rowL
        by_cases hb : u.b i < w
        · have hb2 : decide ((u.b i : Int) < (w : Int)) = true := decide_eq_true (by omega)
          have es : (List.range w).map (fun j => eQ (sumR (i + 1) fun k => if u.b k = j then u.a k (w + m) else 0)) = ((List.range w).map fun j => eQ (sumR i fun k => if u.b k = j then u.a k (w + m) else 0)).set (u.b i) (eQ (u.a i (w + m))) := by
            rw [set_rng]
            refine rng_congr fun j _ => ?_
            rw [val_set hend hi2 j]
            split <;> rfl
          rw [es] at q
          exact .step (xg_name 3 nd) (xss_one (xs_yes (XT.is (xt_lt ((xv_ix (xb_fldO 6 2 K_System.cl K_System.n_basis rfl rfl nd_System) ((xv_var 3)).br (hbi))).br ((xv_var 7)).br) (hb2)) (xss_one (xs_setix 8 (xv_ix ((xv_ix (xb_fldO 6 1 K_System.cl K_System.n_rows rfl rfl nd_System) ((xv_var 3)).br (hri))).br ((xv_neg (xv_int).br)).br (hrl)) (xv_ix (xb_fldO 6 2 K_System.cl K_System.n_basis rfl rfl nd_System) ((xv_var 3)).br (hbi)) rfl (by rw [rng_len, ixN_ge (by omega) (by omega)]; rfl))))) rfl (Le.fg [3] rfl) q
        · have hb2 : decide ((u.b i : Int) < (w : Int)) = false := decide_eq_false (by omega)
          have es : (List.range w).map (fun j => eQ (sumR (i + 1) fun k => if u.b k = j then u.a k (w + m) else 0)) = (List.range w).map fun j => eQ (sumR i fun k => if u.b k = j then u.a k (w + m) else 0) := rng_congr fun j hj => by
            rw [val_set hend hi2 j, if_neg (by omega)]
          rw [es] at q
          exact .step (xg_name 3 nd) (xss_one (xs_no (XT.is (xt_lt ((xv_ix (xb_fldO 6 2 K_System.cl K_System.n_basis rfl rfl nd_System) ((xv_var 3)).br (hbi))).br ((xv_var 7)).br) (hb2)) xss_nil)) rfl (Le.fg [3] rfl) q
    · rw [if_neg h0]
      have ht : decide ((u.c (w + m)).num = 0) = false := decide_eq_false fun z => h0 (Rat.num_eq_zero.mp z)
      refine xss_no0 (XT.is (xt_eqI ((xv_ix ((xv_ix ((xv_fldO 6 3 K_System.cl K_System.n_costs rfl rfl nd_System)).br ((xv_neg (xv_int).br)).br (hlast))).br (xv_int).br (ix_Q1 _))).br (xv_int).br) (ht)) ?_
      have ixc : ∀ k, k < m → ixD (eRow (w + m + 1) u.c) ((w : Int) + (k : Int)) = some (eQ (u.c (w + k))) := fun k h => by
        rw [show (w : Int) + (k : Int) = ((w + k : Nat) : Int) by omega]
        exact ix_row (by omega)
      have e3 : (List.range (((((List.range m).map fun k => eRow w fun j => (R k j : Rat)).length : Nat) : Int).toNat)).map (fun k => eQ ((sgn (g k) : Rat) * (1 - u.c (w + k)))) = (List.range m).map fun k => eQ (prT w g u k) := by
        rw [rng_len, Int.toNat_natCast]; rfl
      have h1 : SQ 2 (1 : Rat) := ⟨by decide, by decide⟩
      exact xss_ret (xv_tup (xa_cons xv_str (xa_cons ((xl_lc [("k", 3)] rfl nd (xi_range T.range (xv_len T.len ((xv_var 0)).br) (by omega) (by rw [rng_len]; omega)) (blkOk_by (own := [("k", 3)]) (N := N_solved) (sc := defScope s_solved) (by decide +kernel)) ((lc_map (f := fun (n : Nat) => D.int n) (g := fun k => eQ ((sgn (g k) : Rat) * (1 - u.c (w + k)))) (List.range _) fun x_1 hx_1 => ⟨_, (fun _ _ _ _ _ => (xgw_name 3 nd)), (fun _ _ _ _ _ => (xv_call D_times (hr.mono (by decide)) takes0 (xa_cons (xv_tup (xa_cons (xv_ix ((xv_var 2)).br ((xv_var 3)).br (ixt x_1 (hl x_1 hx_1))) (xa_cons xv_int xa_nil))) (xa_cons (xv_call D_minus (hr.mono (by decide)) takes0 (xa_cons (xv_tup (xa_cons xv_int (xa_cons xv_int xa_nil))) (xa_cons (xv_ix ((xv_fldO 6 3 K_System.cl K_System.n_costs rfl rfl nd_System)).br ((xv_add ((xv_var 7)).br ((xv_var 3)).br)).br (ixc x_1 (hl x_1 hx_1))) xa_nil)) (⟨(1 : Rat), _, 2, 200, rfl, ⟨h1, hsm.2 _, by omega⟩, rfl⟩)) xa_nil)) (⟨(sgn (g x_1) : Rat), _, 2, 203, rfl, ⟨sgn_Q _, sub_SQ h1 (hsm.2 _), by omega⟩, rfl⟩)))⟩).is e3) (by rw [rngD_F, rngF_len]; rw [rng_len]; omega))).v xa_nil)))

/-! duties: what is settled of them -/
noncomputable def endT (w m : Nat) (R : Nat → Nat → Int) (g : Nat → Int) : Tab := Classical.choose (ends_ex w m R g)
theorem endT_ok (w m : Nat) (R : Nat → Nat → Int) (g : Nat → Int) : Ends w m R g (endT w m R g) := Classical.choose_spec (ends_ex w m R g)
theorem sumR_split (f : Nat → Rat) (a : Nat) : ∀ b : Nat, sumR (a + b) f = sumR a f + sumR b fun i => f (a + i)
  | 0 => by show sumR a f = sumR a f + 0; grind
  | b + 1 => by
    show sumR (a + b) f + f (a + b) = sumR a f + (sumR b (fun i => f (a + i)) + f (a + b))
    rw [sumR_split f a b]; grind
theorem sumR_mulr (z : Rat) (f : Nat → Rat) (m : Nat) : sumR m (fun i => f i * z) = sumR m f * z := by
  have e : sumR m (fun i => f i * z) = sumR m fun i => z * f i := sumR_congr fun i _ => by grind
  rw [e, sumR_mul]; grind
abbrev Form := List Int
def fA (x : Form) (k : Nat) : Int := x.getD k 0
abbrev Duty := List Form × Form
def gA (gs : List Form) (i : Nat) : Form := gs.getD i []
/-- a form's worth at a point -/
def wrT (f : Form) (p : Nat → Rat) : Rat := (sumR (f.length - 1) fun j => (fA f j : Rat) * p j) + (fA f (f.length - 1) : Rat)
def RS (gs : List Form) (k i : Nat) : Int := if i < gs.length then fA (gA gs i) k else if i - gs.length = k then 1 else 0
def RP (many : Nat) (gs : List Form) (k j : Nat) : Int := if j < many then fA (gA gs k) j else if j - many = k then -1 else 0
def gP (many : Nat) (gs : List Form) (k : Nat) : Int := -fA (gA gs k) many
noncomputable def uS (gs : List Form) (f : Form) : Tab := endT (gs.length + f.length) f.length (RS gs) (fA f)
noncomputable def uP (many : Nat) (gs : List Form) : Tab := endT (many + gs.length) gs.length (RP many gs) (gP many gs)
/-- the shares of a duty that is shown, as many as there are guards -/
noncomputable def shL (gs : List Form) (f : Form) (i : Nat) : Rat := valT f.length (gs.length + f.length + f.length) (uS gs f) i
noncomputable def told (gs : List Form) (f : Form) (k : Nat) : Rat := prT (gs.length + f.length) (fA f) (uS gs f) k
noncomputable def prP (many : Nat) (gs : List Form) (k : Nat) : Rat := prT (many + gs.length) (gP many gs) (uP many gs) k
noncomputable def baseP (many : Nat) (gs : List Form) (j : Nat) : Rat := if gs = [] then 0 else valT gs.length (many + gs.length + gs.length) (uP many gs) j
noncomputable def wholeP (many : Nat) (gs : List Form) : Rat := sumR gs.length fun i => prP many gs i * (gP many gs i : Rat)
noncomputable def shN (many : Nat) (gs : List Form) (i : Nat) : Rat := prP many gs i / wholeP many gs
/-- whether the first system comes to its goals; whether the guards keep anyone out -/
noncomputable def isLine (gs : List Form) (f : Form) : Prop := (uS gs f).c (gs.length + f.length + f.length) = 0
def isNone (many : Nat) (gs : List Form) : Prop := gs ≠ [] ∧ (uP many gs).c (many + gs.length + gs.length) ≠ 0
noncomputable def slopeT (f : Form) (way : Nat → Rat) : Rat := sumR (f.length - 1) fun j => (fA f j : Rat) * way j
noncomputable def farT (f : Form) (base way : Nat → Rat) : Rat := if wrT f base / (0 - slopeT f way) + 1 < 0 then 0 else wrT f base / (0 - slopeT f way) + 1
noncomputable def farP (f : Form) (base way : Nat → Rat) (j : Nat) : Rat := base j + farT f base way * way j
theorem wr_far (f : Form) (base way : Nat → Rat) (z : Rat) : wrT f (fun j => base j + z * way j) = wrT f base + z * slopeT f way := by
  unfold wrT slopeT
  have e : (sumR (f.length - 1) fun j => (fA f j : Rat) * (base j + z * way j)) = (sumR (f.length - 1) fun j => (fA f j : Rat) * base j) + z * sumR (f.length - 1) fun j => (fA f j : Rat) * way j := by
    rw [← sumR_mul, ← sumR_add]
    exact sumR_congr fun j _ => by grind
  rw [e]; grind
theorem farT_nn (f : Form) (base way : Nat → Rat) : 0 ≤ farT f base way := by unfold farT; split <;> grind
theorem far_low {f : Form} {base way : Nat → Rat} (hs : slopeT f way < 0) : wrT f (farP f base way) < 0 := by
  show wrT f (fun j => base j + farT f base way * way j) < 0
  rw [wr_far]
  unfold farT
  generalize hS : slopeT f way = S at *
  generalize wrT f base = h
  have hne : (0 - S) ≠ 0 := by grind
  have e : h / (0 - S) * (0 - S) = h := by grind
  split
  · next q =>
    have : (h / (0 - S) + 1) * (0 - S) ≤ 0 := by
      have := Rat.mul_nonneg (a := -(h / (0 - S) + 1)) (b := 0 - S) (by grind) (by grind)
      grind
    grind
  · have : (h / (0 - S) + 1) * S = -(h / (0 - S) * (0 - S)) + S := by grind
    grind
theorem far_keep {f g : Form} {base way : Nat → Rat} (hb : 0 ≤ wrT g base) (hw : 0 ≤ slopeT g way) : 0 ≤ wrT g (farP f base way) := by
  show 0 ≤ wrT g (fun j => base j + farT f base way * way j)
  rw [wr_far]
  have := Rat.mul_nonneg (farT_nn f base way) hw
  grind
section
variable {gs : List Form} {f : Form}
theorem gA_mem {i : Nat} (h : i < gs.length) : gA gs i ∈ gs := by
  unfold gA
  rw [List.getD_eq_getElem?_getD, List.getElem?_eq_getElem h]; exact List.getElem_mem h
theorem mem_gA {g : Form} (h : g ∈ gs) : ∃ i, i < gs.length ∧ gA gs i = g := by
  obtain ⟨i, hi, e⟩ := List.getElem_of_mem h
  exact ⟨i, hi, by unfold gA; rw [List.getD_eq_getElem?_getD, List.getElem?_eq_getElem hi]; exact e⟩
theorem RS_g {k i : Nat} (h : i < gs.length) : RS gs k i = fA (gA gs i) k := by unfold RS; rw [if_pos h]
theorem RS_s {k l : Nat} : RS gs k (gs.length + l) = if l = k then 1 else 0 := by
  unfold RS
  rw [if_neg (by omega)]
  by_cases e : l = k
  · rw [if_pos (by omega), if_pos e]
  · rw [if_neg (by omega), if_neg e]
theorem shL_nn (i : Nat) : 0 ≤ shL gs f i := valT_nn (endT_ok _ _ _ _) i
theorem shL_ok (h : isLine gs f) {k : Nat} (hk : k < f.length) : (sumR gs.length fun i => shL gs f i * (fA (gA gs i) k : Rat)) ≤ (fA f k : Rat) := by
  have e := sol_worths (endT_ok (gs.length + f.length) f.length (RS gs) (fA f)) h hk
  have e : (sumR (gs.length + f.length) fun j => (RS gs k j : Rat) * shL gs f j) = (fA f k : Rat) := e
  rw [sumR_split, sumR_one (m := f.length) (k := k) hk fun l hl hne => by rw [RS_s, if_neg hne]; grind, RS_s, if_pos rfl] at e
  have e1 : (sumR gs.length fun j => (RS gs k j : Rat) * shL gs f j) = sumR gs.length fun i => shL gs f i * (fA (gA gs i) k : Rat) := sumR_congr fun i hi => by rw [RS_g hi]; grind
  have := shL_nn (gs := gs) (f := f) (gs.length + k)
  rw [e1] at e
  grind
theorem told_g (i : Nat) (hi : i < gs.length) : (sumR f.length fun k => told gs f k * (fA (gA gs i) k : Rat)) ≤ 0 := by
  have e := sol_prices (endT_ok (gs.length + f.length) f.length (RS gs) (fA f)) (j := i) (by omega)
  have e : (sumR f.length fun k => told gs f k * (RS gs k i : Rat)) ≤ 0 := e
  rwa [sumR_congr (g := fun k => told gs f k * (fA (gA gs i) k : Rat)) fun k _ => by rw [RS_g hi]] at e
theorem told_np {l : Nat} (hl : l < f.length) : told gs f l ≤ 0 := by
  have e := sol_prices (endT_ok (gs.length + f.length) f.length (RS gs) (fA f)) (j := gs.length + l) (by omega)
  have e : (sumR f.length fun k => told gs f k * (RS gs k (gs.length + l) : Rat)) ≤ 0 := e
  rw [sumR_one (k := l) hl fun k hk hne => by rw [RS_s, if_neg fun z => hne z.symm]; grind, RS_s, if_pos rfl] at e
  grind
theorem told_f (h : ¬ isLine gs f) : 0 < sumR f.length fun k => told gs f k * (fA f k : Rat) := sol_goal (endT_ok (gs.length + f.length) f.length (RS gs) (fA f)) h
/-- a sum over a form's places is its worth at the shares of the last -/
theorem sum_wr {g : Form} {n : Nat} (hn : 1 ≤ n) (hg : g.length = n) (t : Nat → Rat) (hz : t (n - 1) ≠ 0) : (sumR n fun k => t k * (fA g k : Rat)) = wrT g (fun j => t j / t (n - 1)) * t (n - 1) := by
  obtain ⟨m, rfl⟩ : ∃ m, n = m + 1 := ⟨n - 1, by omega⟩
  show (sumR m fun k => t k * (fA g k : Rat)) + t m * (fA g m : Rat) = _
  unfold wrT
  rw [hg, show m + 1 - 1 = m from rfl]
  rw [show m + 1 - 1 = m from rfl] at hz
  have e : (sumR m fun j => (fA g j : Rat) * (t j / t m)) * t m = sumR m fun k => t k * (fA g k : Rat) := by
    rw [← sumR_mulr]
    exact sumR_congr fun j _ => by grind
  rw [Rat.add_mul, e]; grind
theorem sum_slope {g : Form} {n : Nat} (hn : 1 ≤ n) (hg : g.length = n) (t : Nat → Rat) (hz : t (n - 1) = 0) : slopeT g (fun j => 0 - t j) = - sumR n fun k => t k * (fA g k : Rat) := by
  obtain ⟨m, rfl⟩ : ∃ m, n = m + 1 := ⟨n - 1, by omega⟩
  show _ = - ((sumR m fun k => t k * (fA g k : Rat)) + t m * (fA g m : Rat))
  rw [show m + 1 - 1 = m from rfl] at hz
  unfold slopeT
  rw [hg, show m + 1 - 1 = m from rfl, hz]
  have e : (sumR m fun j => (fA g j : Rat) * (0 - t j)) = -1 * sumR m fun k => t k * (fA g k : Rat) := by
    rw [← sumR_mul]
    exact sumR_congr fun j _ => by grind
  rw [e]; grind
theorem RP_x {many k j : Nat} (h : j < many) : RP many gs k j = fA (gA gs k) j := by unfold RP; rw [if_pos h]
theorem RP_s {many k l : Nat} : RP many gs k (many + l) = if l = k then -1 else 0 := by
  unfold RP
  rw [if_neg (by omega)]
  by_cases e : l = k
  · rw [if_pos (by omega), if_pos e]
  · rw [if_neg (by omega), if_neg e]
theorem base_nn (many j : Nat) : 0 ≤ baseP many gs j := by
  unfold baseP
  split
  · grind
  · exact valT_nn (endT_ok _ _ _ _) j
theorem base_ok {many : Nat} (h : ¬ isNone many gs) {i : Nat} (hi : i < gs.length) (hg : (gA gs i).length = many + 1) : 0 ≤ wrT (gA gs i) (baseP many gs) := by
  have hne : gs ≠ [] := fun z => by rw [z] at hi; exact absurd hi (by simp)
  have h0 : (uP many gs).c (many + gs.length + gs.length) = 0 := by
    rcases Classical.em ((uP many gs).c (many + gs.length + gs.length) = 0) with z | z
    · exact z
    · exact absurd ⟨hne, z⟩ h
  have e := sol_worths (endT_ok (many + gs.length) gs.length (RP many gs) (gP many gs)) h0 hi
  have hb : ∀ j, baseP many gs j = valT gs.length (many + gs.length + gs.length) (uP many gs) j := fun j => by unfold baseP; rw [if_neg hne]
  have e : (sumR (many + gs.length) fun j => (RP many gs i j : Rat) * valT gs.length (many + gs.length + gs.length) (uP many gs) j) = (gP many gs i : Rat) := e
  rw [sumR_split, sumR_one (m := gs.length) (k := i) hi fun l hl hne => by rw [RP_s, if_neg hne]; grind, RP_s, if_pos rfl] at e
  have nn := base_nn (gs := gs) many (many + i)
  rw [hb] at nn
  unfold wrT
  rw [hg, show many + 1 - 1 = many from rfl]
  have e1 : (sumR many fun j => (RP many gs i j : Rat) * valT gs.length (many + gs.length + gs.length) (uP many gs) j) = sumR many fun j => (fA (gA gs i) j : Rat) * baseP many gs j := sumR_congr fun j hj => by rw [RP_x hj, hb]
  rw [e1] at e
  unfold gP at e
  rw [Rat.intCast_neg] at e
  grind
theorem prP_nn {many i : Nat} (hi : i < gs.length) : 0 ≤ prP many gs i := by
  have e := sol_prices (endT_ok (many + gs.length) gs.length (RP many gs) (gP many gs)) (j := many + i) (by omega)
  have e : (sumR gs.length fun k => prP many gs k * (RP many gs k (many + i) : Rat)) ≤ 0 := e
  rw [sumR_one (k := i) hi fun k hk hne => by rw [RP_s, if_neg fun z => hne z.symm]; grind, RP_s, if_pos rfl] at e
  have e : prP many gs i * ((-1 : Int) : Rat) ≤ 0 := e
  rw [Rat.intCast_neg] at e
  grind
theorem whole_pos {many : Nat} (h : isNone many gs) : 0 < wholeP many gs := sol_goal (endT_ok (many + gs.length) gs.length (RP many gs) (gP many gs)) h.2
theorem div_nn {a b : Rat} (ha : 0 ≤ a) (hb : 0 < b) : 0 ≤ a / b := by
  rw [Rat.div_def]
  exact Rat.mul_nonneg ha (by have := Rat.inv_pos.mpr hb; grind)
theorem shN_nn {many i : Nat} (h : isNone many gs) (hi : i < gs.length) : 0 ≤ shN many gs i := div_nn (prP_nn hi) (whole_pos h)
theorem shN_x {many j : Nat} (h : isNone many gs) (hj : j < many) : (sumR gs.length fun i => shN many gs i * (fA (gA gs i) j : Rat)) ≤ 0 := by
  have e := sol_prices (endT_ok (many + gs.length) gs.length (RP many gs) (gP many gs)) (j := j) (by omega)
  have e : (sumR gs.length fun k => prP many gs k * (RP many gs k j : Rat)) ≤ 0 := e
  rw [sumR_congr (g := fun i => prP many gs i * (fA (gA gs i) j : Rat)) fun i _ => by rw [RP_x hj]] at e
  have hw := whole_pos h
  have e2 : (sumR gs.length fun i => shN many gs i * (fA (gA gs i) j : Rat)) = (1 / wholeP many gs) * sumR gs.length fun i => prP many gs i * (fA (gA gs i) j : Rat) := by
    rw [← sumR_mul]
    exact sumR_congr fun i _ => by unfold shN; grind
  have := Rat.mul_nonneg (div_nn (a := 1) (by grind) hw) (show 0 ≤ - sumR gs.length fun i => prP many gs i * (fA (gA gs i) j : Rat) by grind)
  rw [e2]; grind
theorem shN_l {many : Nat} (h : isNone many gs) : (sumR gs.length fun i => shN many gs i * (fA (gA gs i) many : Rat)) = -1 := by
  have hw := whole_pos h
  have e2 : (sumR gs.length fun i => shN many gs i * (fA (gA gs i) many : Rat)) = sumR gs.length fun i => (-1 / wholeP many gs) * (prP many gs i * (gP many gs i : Rat)) := sumR_congr fun i _ => by
    unfold shN gP
    rw [Rat.intCast_neg]
    grind
  rw [e2, sumR_mul]
  show (-1 / wholeP many gs) * wholeP many gs = -1
  grind
/-- the point at which a duty fails -/
noncomputable def ptM (many : Nat) (gs : List Form) (f : Form) (j : Nat) : Rat := if told gs f many = 0 then farP f (baseP many gs) (fun j => 0 - told gs f j) j else told gs f j / told gs f many
theorem pt_slope {many : Nat} (hf : f.length = many + 1) (h : ¬ isLine gs f) (h0 : told gs f many = 0) : slopeT f (fun j => 0 - told gs f j) < 0 := by
  have := told_f h
  rw [hf] at this
  rw [sum_slope (n := many + 1) (by omega) hf (told gs f) h0]
  grind
theorem pt_nn {many : Nat} (hf : f.length = many + 1) {j : Nat} (hj : j < many) : 0 ≤ ptM many gs f j := by
  have t1 := told_np (gs := gs) (f := f) (l := j) (by omega)
  have t2 := told_np (gs := gs) (f := f) (l := many) (by omega)
  unfold ptM
  split
  · have := base_nn (gs := gs) many j
    have := Rat.mul_nonneg (farT_nn f (baseP many gs) fun j => 0 - told gs f j) (show 0 ≤ 0 - told gs f j by grind)
    unfold farP; grind
  · next h0 =>
    have e : told gs f j / told gs f many = (0 - told gs f j) / (0 - told gs f many) := by grind
    rw [e]
    exact div_nn (by grind) (by grind)
theorem pt_low {many : Nat} (hf : f.length = many + 1) (h : ¬ isLine gs f) : wrT f (ptM many gs f) < 0 := by
  have t2 := told_np (gs := gs) (f := f) (l := many) (by omega)
  by_cases h0 : told gs f many = 0
  · have e : ptM many gs f = farP f (baseP many gs) fun j => 0 - told gs f j := funext fun j => by unfold ptM; rw [if_pos h0]
    rw [e]
    exact far_low (pt_slope hf h h0)
  · have e : ptM many gs f = fun j => told gs f j / told gs f (many + 1 - 1) := funext fun j => by unfold ptM; rw [if_neg h0]; rfl
    have q := told_f h
    rw [hf, sum_wr (n := many + 1) (by omega) hf (told gs f) h0, show many + 1 - 1 = many from rfl] at q
    rw [e, show many + 1 - 1 = many from rfl]
    rcases Classical.em (wrT f (fun j => told gs f j / told gs f many) < 0) with z | z
    · exact z
    · have := Rat.mul_nonneg (a := wrT f fun j => told gs f j / told gs f many) (b := - told gs f many) (by grind) (by grind)
      grind
theorem pt_keep {many : Nat} (hf : f.length = many + 1) (hn : ¬ isNone many gs) {i : Nat} (hi : i < gs.length) (hg : (gA gs i).length = many + 1) : 0 ≤ wrT (gA gs i) (ptM many gs f) := by
  have t2 := told_np (gs := gs) (f := f) (l := many) (by omega)
  have tg := told_g (gs := gs) (f := f) i hi
  rw [hf] at tg
  by_cases h0 : told gs f many = 0
  · have e : ptM many gs f = farP f (baseP many gs) fun j => 0 - told gs f j := funext fun j => by unfold ptM; rw [if_pos h0]
    rw [e]
    refine far_keep (base_ok hn hi hg) ?_
    rw [sum_slope (n := many + 1) (by omega) hg (told gs f) h0]
    grind
  · have e : ptM many gs f = fun j => told gs f j / told gs f (many + 1 - 1) := funext fun j => by unfold ptM; rw [if_neg h0]; rfl
    rw [sum_wr (n := many + 1) (by omega) hg (told gs f) h0, show many + 1 - 1 = many from rfl] at tg
    rw [e, show many + 1 - 1 = many from rfl]
    rcases Classical.em (0 ≤ wrT (gA gs i) (fun j => told gs f j / told gs f many)) with z | z
    · exact z
    · have hm : told gs f many < 0 := by grind
      have := Rat.mul_pos (a := - wrT (gA gs i) fun j => told gs f j / told gs f many) (b := - told gs f many) (by grind) (by grind)
      grind
end

/-! line machines as data; what is none -/
def eFm (x : Form) : D := .tup (x.map .int)
abbrev LDeed := List Form × List Form × Form
def eLd (d : LDeed) : D := .tup [.lst (d.1.map eFm), .lst (d.2.1.map eFm), eFm d.2.2]
def eLn (many : Int) (ds : List LDeed) : D := .tup [.int many, .lst (ds.map eLd)]
def eDuty (d : Duty) : D := .tup [.lst (d.1.map eFm), eFm d.2]
def inB (v : Int) : Bool := decide (-1000 ≤ v) && decide (v ≤ 1000)
def okFm (many : Int) (x : Form) : Bool := decide ((x.length : Int) = many + 1) && x.all inB
def okLd (many : Int) (d : LDeed) : Bool := (decide (d.1.length ≤ 4) && decide ((d.2.1.length : Int) = many)) && (d.1 ++ d.2.1 ++ [d.2.2]).all (okFm many)
def okLn (many : Int) (ds : List LDeed) : Bool := (decide (1 ≤ many) && decide (many ≤ 4)) && (decide (1 ≤ ds.length) && decide (ds.length ≤ 8)) && ds.all (okLd many)
def okPair (many : Int) (ds : List LDeed) (prices : List Int) (purse : Form) : Bool := okLn many ds && (decide (prices.length = ds.length) && prices.all inB) && okFm many purse
/-- no list too long to be looked at -/
def ShortF (x : Form) : Prop := x.length ≤ 1000
def ShortLd (d : LDeed) : Prop := (d.1.length ≤ 1000 ∧ d.2.1.length ≤ 1000) ∧ (∀ x ∈ d.1, ShortF x) ∧ (∀ x ∈ d.2.1, ShortF x) ∧ ShortF d.2.2
def ShortLn (ds : List LDeed) : Prop := ds.length ≤ 1000 ∧ ∀ d ∈ ds, ShortLd d
theorem okFm_d {many : Int} {x : Form} (h : okFm many x = true) : (x.length : Int) = many + 1 ∧ ∀ v ∈ x, -1000 ≤ v ∧ v ≤ 1000 := by
  unfold okFm inB at h
  simp only [Bool.and_eq_true, decide_eq_true_eq, List.all_eq_true] at h
  exact h
theorem all_bl {x : List Int} : (x.map fun v => D.bl (cmpI .LtE (-1000) v && cmpI .LtE v 1000)) = (x.map inB).map D.bl := by rw [List.map_map]; rfl
theorem nbF {b : Bool} (h : (!b) = true) : b = false := by cases b with | true => cases h | false => rfl
theorem nbT {b : Bool} (h : (!b) = false) : b = true := by cases b with | true => rfl | false => cases h

abbrev s_look_form : Stmt := top 18
abbrev N_look_form : List Str := ["form", "many", "one"]
abbrev P_look_form : List Str := ["form", "many"]
theorem sc_look_form : FnScope N_look_form P_look_form (defScope s_look_form) := ⟨rfl, rfl, rfl, by decide +kernel, rfl, by decide +kernel, by decide +kernel⟩

def F_look_form (cF : Addr) : Fs := fun args r => ∃ (many : Int) (x : Form), args = [eFm x, .int many] ∧ ShortF x ∧ r = if okFm many x then .ok .non else .er cF
theorem df_look_form {P : Program} {w : World} {K : Fg} {mg : Str → Option Value} {base : Heap} {cF : Addr} (T : Tx K mg) (U : Dn K mg "look_form" s_look_form P_look_form) (EF : EC K mg "BadForm" cF) (c_MOST : ∃ t, mg "MOST" = some (.int 1000 t)) : Df P w K mg base "look_form" 1 (F_look_form cF) :=
  df_of 0 U sc_look_form (fun _ _ ⟨_, _, h, _⟩ => by rw [h]; rfl) fun f cdv A outer s H E args r hr tk hp hF => by
    obtain ⟨many, x, rfl, hlen, rfl⟩ := hF
    have nd := sc_look_form.nd
    unfold ShortF at hlen
    refine XF.mk (if okFm many x = true then .nx [.fz (eFm x), .fz (.int many), .no] else .er cF) ?_ (by split <;> rfl)
    refine xss_one (xs_if (XT.is ((xw_or (xt_neI ((xv_len T.len ((xv_var 0)).br)).br ((xv_add ((xv_var 1)).br (xv_int).br)).br) (fun hk => (xw_and1 (xt_not (xt_val (xv_all rfl T.all ((xl_lc [("one", 2)] rfl nd (xi_tup (xv_var 0)) (blkOk_by (own := [("one", 2)]) (N := N_look_form) (sc := defScope s_look_form) (by decide +kernel)) (lc_map (g := fun v => D.bl (cmpI .LtE (-1000) v && cmpI .LtE v 1000)) x fun x_1 hx => ⟨_, (fun _ _ _ _ _ => (xgw_name 2 nd)), (fun _ _ _ _ _ => (xv_chain ((xv_neg ((xv_glob c_MOST)).br)).br ((xv_var 2)).br ((xv_glob c_MOST)).br))⟩) (by rw [List.length_map]; omega))).br (congrArg D.lst all_bl)))))))).t (show _ = !okFm many x by
        unfold okFm
        rw [List.length_map, List.all_map, Bool.not_and]; rfl)) (fun hk => ?_) fun hk => ?_)
    · rw [show okFm many x = false from nbF hk, if_neg Bool.false_ne_true]
      exact xss_raise rfl tk EF
    · rw [show okFm many x = true from nbT hk, if_pos rfl]
      exact xss_nil

abbrev s_look_lines : Stmt := top 19
abbrev N_look_lines : List Str := ["lines", "many", "deeds", "guards", "changes", "cost", "form"]
abbrev P_look_lines : List Str := ["lines"]
theorem sc_look_lines : FnScope N_look_lines P_look_lines (defScope s_look_lines) := ⟨rfl, rfl, rfl, by decide +kernel, rfl, by decide +kernel, by decide +kernel⟩

def F_look_lines (cF : Addr) : Fs := fun args r => ∃ (many : Int) (ds : List LDeed), args = [eLn many ds] ∧ ShortLn ds ∧ r = if okLn many ds then .ok .non else .er cF
theorem df_look_lines {P : Program} {w : World} {K : Fg} {mg : Str → Option Value} {base : Heap} {cF : Addr} (T : Tx K mg) (U : Dn K mg "look_lines" s_look_lines P_look_lines) (EF : EC K mg "BadForm" cF) (c_MOST_NUMBERS : ∃ t, mg "MOST_NUMBERS" = some (.int 4 t)) (c_MOST_DEEDS : ∃ t, mg "MOST_DEEDS" = some (.int 8 t)) (c_MOST_GUARDS : ∃ t, mg "MOST_GUARDS" = some (.int 4 t)) (D_look_form : Df P w K mg base "look_form" 1 (F_look_form cF)) : Df P w K mg base "look_lines" 2 (F_look_lines cF) :=
  df_of 1 U sc_look_lines (fun _ _ ⟨_, _, h, _⟩ => by rw [h]; rfl) fun f cdv A outer s H E args r hr tk hp hF => by
    obtain ⟨many, ds, rfl, ⟨hlen, hsh⟩, rfl⟩ := hF
    have nd := sc_look_lines.nd
    refine XF.mk (if okLn many ds = true then .nx [.fz (eLn many ds), .fz (.int many), .fz (.lst (ds.map eLd)), .no, .no, .no, .no] else .er cF) ?_ (by split <;> rfl)
    refine xss_cons (xs_asg (xv_var 0) (xg_tup rfl (xgs_cons (xg_name 1 nd) (xgs_cons (xg_name 2 nd) xgs_nil)))) ?_
    refine xss_if (XT.is ((xw_or (xt_not (xt_chain (xv_int).br ((xv_var 1)).br ((xv_glob c_MOST_NUMBERS)).br)) (fun hk => (xw_and1 (xt_not (xt_chain (xv_int).br ((xv_len T.len ((xv_var 2)).br)).br ((xv_glob c_MOST_DEEDS)).br)))))).t (show _ = !((decide (1 ≤ many) && decide (many ≤ 4)) && (decide (1 ≤ ds.length) && decide (ds.length ≤ 8))) by
        rw [List.length_map, show decide (1 ≤ ds.length) = decide ((1 : Int) ≤ (ds.length : Int)) from decide_eq_decide.mpr (by omega), show decide (ds.length ≤ 8) = decide ((ds.length : Int) ≤ 8) from decide_eq_decide.mpr (by omega)]
        simp only [cmpI, Bool.not_and])) (fun hk ht => ?_) fun hk ht => ?_
    · rw [show okLn many ds = false by unfold okLn; rw [show ((decide (1 ≤ many) && decide (many ≤ 4)) && (decide (1 ≤ ds.length) && decide (ds.length ≤ 8))) = false from nbF hk]; rfl, if_neg Bool.false_ne_true]
      exact xss_yesS ht (xss_raise rfl tk EF)
    · refine xss_no0 ht ?_
      have hk2 : ((decide (1 ≤ many) && decide (many ≤ 4)) && (decide (1 ≤ ds.length) && decide (ds.length ≤ 8))) = true := nbT hk
      rw [show okLn many ds = ds.all (okLd many) by unfold okLn; rw [hk2]; rfl]
      refine xss_one (xs_for hp rfl (xi_list (xv_var 2)) ?_)
      suffices loop : ∀ l : List LDeed, (∀ d ∈ l, ShortLd d) → Fr _ _ _ _ (l.map eLd) [.fz (eLn many ds), .fz (.int many), .fz (.lst (ds.map eLd)), .no, .no, .no, .no] (if l.all (okLd many) = true then .nx [.fz (eLn many ds), .fz (.int many), .fz (.lst (ds.map eLd)), .no, .no, .no, .no] else .er cF) by
        exact loop ds hsh
      clear hk hk2 ht
      intro l
      induction l with
      | nil => intro _; exact .nil
      | cons d l ih =>
        intro hd
        obtain ⟨⟨s1, s2⟩, s3, s4, s5⟩ := hd d List.mem_cons_self
        have q := ih fun d hd' => hd d (List.mem_cons_of_mem _ hd')
        rw [List.all_cons]
        refine Fr.chk (okLd many d) (xg_tup rfl (xgs_cons (xg_name 3 nd) (xgs_cons (xg_name 4 nd) (xgs_cons (xg_name 5 nd) xgs_nil)))) (a := [.fz (eLn many ds), .fz (.int many), .fz (.lst (ds.map eLd)), .fz (.lst (d.1.map eFm)), .fz (.lst (d.2.1.map eFm)), .fz (eFm d.2.2), .no]) (o1 := .er cF) ?_ (Le.fg [3, 4, 5] rfl) rfl (fun hc => by rw [hc, Bool.true_and]; exact q) (fun hc => by rw [hc]; rfl)
        refine xss_if (XT.is ((xw_or (xt_gt ((xv_len T.len ((xv_var 3)).br)).br ((xv_glob c_MOST_GUARDS)).br) (fun hk => (xw_and1 (xt_neI ((xv_len T.len ((xv_var 4)).br)).br ((xv_var 1)).br))))).t (show _ = !(decide (d.1.length ≤ 4) && decide ((d.2.1.length : Int) = many)) by
          rw [List.length_map, List.length_map, Bool.not_and, show decide ((4 : Int) < (d.1.length : Int)) = !decide (d.1.length ≤ 4) by rw [← decide_not]; exact decide_eq_decide.mpr (by omega)])) (fun hk ht => ?_) fun hk ht => ?_
        · rw [show okLd many d = false by unfold okLd; rw [show (decide (d.1.length ≤ 4) && decide ((d.2.1.length : Int) = many)) = false from nbF hk]; rfl, if_neg Bool.false_ne_true]
          exact xss_yesS ht (xss_raise rfl tk EF)
        · refine xss_no0 ht ?_
          rw [show okLd many d = (d.1 ++ d.2.1 ++ [d.2.2]).all (okFm many) by unfold okLd; rw [show (decide (d.1.length ≤ 4) && decide ((d.2.1.length : Int) = many)) = true from nbT hk]; rfl]
          have ec : d.1.map eFm ++ d.2.1.map eFm ++ [eFm d.2.2] = (d.1 ++ d.2.1 ++ [d.2.2]).map eFm := by simp
          refine xss_one (xs_for hp rfl (xi_list (XL.is (xl_cat ((xl_cat ((xv_var 3)).br ((xv_var 4)).br (by rw [List.length_map, List.length_map]; omega))).br ((xl_lst (xa_cons (xv_var 5) xa_nil))).br (by rw [List.length_append, List.length_map, List.length_map, List.length_singleton]; omega)) ec).v) ?_)
          suffices inner : ∀ l : List Form, (∀ x ∈ l, ShortF x) → Fr _ _ _ _ (l.map eFm) [.fz (eLn many ds), .fz (.int many), .fz (.lst (ds.map eLd)), .fz (.lst (d.1.map eFm)), .fz (.lst (d.2.1.map eFm)), .fz (eFm d.2.2), .no] (if l.all (okFm many) = true then .nx [.fz (eLn many ds), .fz (.int many), .fz (.lst (ds.map eLd)), .fz (.lst (d.1.map eFm)), .fz (.lst (d.2.1.map eFm)), .fz (eFm d.2.2), .no] else .er cF) by
            refine inner (d.1 ++ d.2.1 ++ [d.2.2]) fun x hx => ?_
            rcases List.mem_append.mp hx with hx | hx
            · rcases List.mem_append.mp hx with hx | hx
              · exact s3 x hx
              · exact s4 x hx
            · rw [List.mem_singleton.mp hx]; exact s5
          intro l
          induction l with
          | nil => intro _; exact .nil
          | cons x l ih2 =>
            intro hx
            have q2 := ih2 fun y hy => hx y (List.mem_cons_of_mem _ hy)
            rw [List.all_cons]
            refine Fr.chk (okFm many x) (xg_name 6 nd) (a := [.fz (eLn many ds), .fz (.int many), .fz (.lst (ds.map eLd)), .fz (.lst (d.1.map eFm)), .fz (.lst (d.2.1.map eFm)), .fz (eFm d.2.2), .fz (eFm x)]) (o1 := .er cF) ?_ (Le.fg [6] rfl) rfl (fun hc => by rw [hc, Bool.true_and]; exact q2) (fun hc => by rw [hc]; rfl)
            cases hc : okFm many x with
            | true => rw [if_pos rfl]; exact xss_one (xs_expr (xv_call D_look_form (hr.mono (by decide)) tk (xa_cons (xv_var 6) (xa_cons (xv_var 1) xa_nil)) (⟨many, x, rfl, hx x List.mem_cons_self, by rw [hc]; rfl⟩)))
            | false => rw [if_neg Bool.false_ne_true]; exact (xss_stop (xs_exprR (xr_call D_look_form hr tk (xa_cons (xv_var 6) (xa_cons (xv_var 1) xa_nil)) ⟨many, x, rfl, hx x List.mem_cons_self, by rw [hc]; rfl⟩))).er

abbrev s_look_pair : Stmt := top 20
abbrev N_look_pair : List Str := ["lines", "prices", "purse", "price"]
abbrev P_look_pair : List Str := ["lines", "prices", "purse"]
theorem sc_look_pair : FnScope N_look_pair P_look_pair (defScope s_look_pair) := ⟨rfl, rfl, rfl, by decide +kernel, rfl, by decide +kernel, by decide +kernel⟩

def F_look_pair (cF : Addr) : Fs := fun args r => ∃ (many : Int) (ds : List LDeed) (prices : List Int) (purse : Form), args = [eLn many ds, .lst (prices.map .int), eFm purse] ∧ (ShortLn ds ∧ prices.length ≤ 1000 ∧ ShortF purse) ∧ r = if okPair many ds prices purse then .ok .non else .er cF
theorem df_look_pair {P : Program} {w : World} {K : Fg} {mg : Str → Option Value} {base : Heap} {cF : Addr} (T : Tx K mg) (U : Dn K mg "look_pair" s_look_pair P_look_pair) (EF : EC K mg "BadForm" cF) (c_MOST : ∃ t, mg "MOST" = some (.int 1000 t)) (D_look_form : Df P w K mg base "look_form" 1 (F_look_form cF)) (D_look_lines : Df P w K mg base "look_lines" 2 (F_look_lines cF)) : Df P w K mg base "look_pair" 3 (F_look_pair cF) :=
  df_of 2 U sc_look_pair (fun _ _ ⟨_, _, _, _, h, _⟩ => by rw [h]; rfl) fun f cdv A outer s H E args r hr tk hp hF => by
    obtain ⟨many, ds, prices, purse, rfl, ⟨h1, h2, h3⟩, rfl⟩ := hF
    have nd := sc_look_pair.nd
    unfold okPair
    cases hl : okLn many ds with
    | false =>
      rw [Bool.false_and, Bool.false_and, if_neg Bool.false_ne_true]
      exact XF.er (xss_stop (xs_exprR (xr_call D_look_lines (hr.mono (by decide)) tk (xa_cons (xv_var 0) xa_nil) ⟨many, ds, rfl, h1, by rw [hl]; rfl⟩))).er
    | true =>
      rw [Bool.true_and]
      refine XF.mk (if ((decide (prices.length = ds.length) && prices.all inB) && okFm many purse) = true then .nx [.fz (eLn many ds), .fz (.lst (prices.map .int)), .fz (eFm purse), .no] else .er cF) ?_ (by split <;> rfl)
      refine xss_cons (xs_expr (xv_call D_look_lines (hr.mono (by decide)) tk (xa_cons (xv_var 0) xa_nil) (⟨many, ds, rfl, h1, by rw [hl]; rfl⟩))) ?_
      refine xss_if (XT.is ((xw_or (xt_neI ((xv_len T.len ((xv_var 1)).br)).br ((xv_len T.len ((xv_ix ((xv_var 0)).br (xv_int).br (by rfl))).br)).br) (fun hk => (xw_and1 (xt_not (xt_val (xv_all rfl T.all ((xl_lc [("price", 3)] rfl nd (xi_list (xv_var 1)) (blkOk_by (own := [("price", 3)]) (N := N_look_pair) (sc := defScope s_look_pair) (by decide +kernel)) (lc_map (g := fun v => D.bl (cmpI .LtE (-1000) v && cmpI .LtE v 1000)) prices fun x_1 hx => ⟨_, (fun _ _ _ _ _ => (xgw_name 3 nd)), (fun _ _ _ _ _ => (xv_chain ((xv_neg ((xv_glob c_MOST)).br)).br ((xv_var 3)).br ((xv_glob c_MOST)).br))⟩) (by rw [List.length_map]; omega))).br (congrArg D.lst all_bl)))))))).t (show _ = !(decide (prices.length = ds.length) && prices.all inB) by
        rw [List.length_map, List.length_map, List.all_map, Bool.not_and, show decide ((prices.length : Int) = (ds.length : Int)) = decide (prices.length = ds.length) from decide_eq_decide.mpr (by omega)]; rfl)) (fun hk ht => ?_) fun hk ht => ?_
      · rw [show (decide (prices.length = ds.length) && prices.all inB) = false from nbF hk, Bool.false_and, if_neg Bool.false_ne_true]
        exact xss_yesS ht (xss_raise rfl tk EF)
      · refine xss_no0 ht ?_
        rw [show (decide (prices.length = ds.length) && prices.all inB) = true from nbT hk, Bool.true_and]
        cases hc : okFm many purse with
        | true => rw [if_pos rfl]; exact xss_one (xs_expr (xv_call D_look_form (hr.mono (by decide)) tk (xa_cons (xv_var 2) (xa_cons (xv_ix ((xv_var 0)).br (xv_int).br (rfl)) xa_nil)) (⟨many, purse, rfl, h3, by rw [hc]; rfl⟩)))
        | false => rw [if_neg Bool.false_ne_true]; exact (xss_stop (xs_exprR (xr_call D_look_form (hr.mono (by decide)) tk (xa_cons (xv_var 2) (xa_cons (xv_ix ((xv_var 0)).br (xv_int).br (rfl)) xa_nil)) ⟨many, purse, rfl, h3, by rw [hc]; rfl⟩))).er

/-! sums of products; forms as data; duties -/
theorem sumR_shift (f : Nat → Rat) : ∀ b : Nat, sumR (b + 1) f = f 0 + sumR b fun i => f (i + 1)
  | 0 => by show (0 : Rat) + f 0 = f 0 + 0; grind
  | b + 1 => by
    show sumR (b + 1) f + f (b + 1) = f 0 + (sumR b (fun i => f (i + 1)) + f (b + 1))
    rw [sumR_shift f b]; grind
theorem dot_go : ∀ (xs ys : List Rat) (acc : Rat), xs.length ≤ ys.length → dotGo acc xs ys = acc + sumR xs.length fun i => xs.getD i 0 * ys.getD i 0
  | [], ys, acc, _ => by rw [show dotGo acc [] ys = acc by unfold dotGo; rfl]; show acc = acc + 0; grind
  | x :: xs, [], acc, h => absurd h (by simp)
  | x :: xs, y :: ys, acc, h => by
    rw [show dotGo acc (x :: xs) (y :: ys) = dotGo (acc + x * y) xs ys by rw [dotGo], dot_go xs ys _ (by simpa using h), List.length_cons, sumR_shift]
    show acc + x * y + _ = acc + (x * y + sumR xs.length fun i => xs.getD i 0 * ys.getD i 0)
    grind
theorem dot_sum {xs ys : List Rat} (h : xs.length ≤ ys.length) : dotQ xs ys = sumR xs.length fun i => xs.getD i 0 * ys.getD i 0 := by
  unfold dotQ
  rw [dot_go xs ys 0 h]; grind
theorem sum_SQ {a : Nat} {f : Nat → Rat} : ∀ {n : Nat}, (∀ i, i < n → SQ a (f i)) → SQ (n * (a + 1) + 1) (sumR n f)
  | 0, _ => by rw [Nat.zero_mul]; show SQ (0 + 1) (0 : Rat); exact ⟨by decide, by decide⟩
  | n + 1, h => by
    have q := add_SQ (sum_SQ (n := n) fun i hi => h i (by omega)) (h n (by omega))
    exact q.mono (by rw [Nat.succ_mul]; omega)
theorem getD_rng {α : Type} {n i : Nat} {f : Nat → α} {d : α} (h : i < n) : ((List.range n).map f).getD i d = f i := by
  rw [List.getD_eq_getElem?_getD, List.getElem?_map, List.getElem?_range h]; rfl
theorem eRow_map (n : Nat) (r : Nat → Rat) : eRow n r = .lst (((List.range n).map r).map eQ) := by unfold eRow; rw [List.map_map]; rfl
theorem ix_tupL {n : Nat} {f : Nat → D} : ixD (.tup ((List.range (n + 1)).map f)) (-1) = some (f n) := by
  show atI _ _ = _
  have q := ix_lastM (f := f) (xs := List.range (n + 1)) (x := n) (by rw [List.range_succ]; simp)
  exact q
theorem fA_get {x : Form} {i : Nat} (h : i < x.length) : fA x i = x[i] := by unfold fA; rw [List.getD_eq_getElem?_getD, List.getElem?_eq_getElem h]; rfl
theorem fA_mem {x : Form} {i : Nat} (h : i < x.length) : fA x i ∈ x := by rw [fA_get h]; exact List.getElem_mem h
theorem form_rng (x : Form) : x = (List.range x.length).map (fA x) := by
  refine List.ext_getElem (by simp) fun i h1 h2 => ?_
  rw [List.getElem_map, List.getElem_range, fA_get h1]
theorem eFm_rng (x : Form) : eFm x = .tup ((List.range x.length).map fun j => .int (fA x j)) := by
  unfold eFm
  conv => lhs; rw [form_rng x]
  rw [List.map_map]; rfl
theorem ix_fm {x : Form} {i : Nat} (h : i < x.length) : ixD (eFm x) (i : Int) = some (.int (fA x i)) := by
  show atI _ _ = _
  rw [atI_ge (by omega) (by rw [List.length_map]; omega)]
  simp only [Int.toNat_natCast, List.getElem_map]
  rw [fA_get h]
theorem ix_fmL {x : Form} {n : Nat} (h : x.length = n + 1) : ixD (eFm x) (-1) = some (.int (fA x n)) := by
  rw [eFm_rng, h]; exact ix_tupL
theorem ix_gs {gs : List Form} {i : Nat} (h : i < gs.length) : ixD (.lst (gs.map eFm)) (i : Int) = some (eFm (gA gs i)) := ix_map (by
  rw [atI_ge (by omega) (by omega)]
  unfold gA
  rw [List.getD_eq_getElem?_getD, List.getElem?_eq_getElem (by omega)]
  simp)
/-- all of a form but its last, as fractions -/
theorem init_fm (x : Form) : (cutD (x.map D.int) none (some (-1))) = x.dropLast.map .int := by rw [cutD_init, List.map_dropLast]
def SmallF (b : Nat) (x : Form) : Prop := ∀ v ∈ x, v.natAbs ≤ b
theorem SmallF.at {b : Nat} {x : Form} (h : SmallF b x) (i : Nat) : (fA x i).natAbs ≤ b := by
  by_cases z : i < x.length
  · exact h _ (fA_mem z)
  · unfold fA; rw [List.getD_eq_getElem?_getD, List.getElem?_eq_none (by omega)]; show (0 : Int).natAbs ≤ b; simp
theorem fQ {b k : Nat} {x : Form} (h : SmallF b x) (hb : b < 2 ^ k) (hk : 1 ≤ k) (i : Nat) : SQ k (fA x i : Rat) := int_SQ (Nat.lt_of_le_of_lt (h.at i) hb) hk
abbrev rQ (x : List Int) : List Rat := x.map fun (v : Int) => (v : Rat)
theorem init_get {x : Form} {i : Nat} (h : i < x.length - 1) : (rQ x.dropLast).getD i 0 = (fA x i : Rat) := by
  rw [List.getD_eq_getElem?_getD, List.getElem?_map, List.getElem?_eq_getElem (by rw [List.length_dropLast]; omega), List.getElem_dropLast, fA_get (by omega)]; rfl
theorem wr_dot {x : Form} {n : Nat} {p : Nat → Rat} (h : x.length = n + 1) : dotQ (rQ x.dropLast) ((List.range n).map p) + (fA x n : Rat) = wrT x p := by
  have hl : (rQ x.dropLast).length = n := by rw [List.length_map, List.length_dropLast]; omega
  rw [dot_sum (by rw [hl, List.length_map, List.length_range]; exact Nat.le_refl _), hl]
  unfold wrT
  rw [h, show n + 1 - 1 = n from rfl]
  congr 1
  exact sumR_congr fun i hi => by rw [init_get (by omega), getD_rng hi]
/-- a form behind changes -/
def bhM (f : Form) (cs : List Form) (j : Nat) : Int := (if j + 1 = f.length then fA f j else 0) + sumZ cs.length fun k => fA f k * fA (gA cs k) j
def bhL (f : Form) (cs : List Form) : Form := (List.range f.length).map (bhM f cs)
def loM (d : LDeed) (price : Int) (f : Form) (j : Nat) : Int := fA f j - fA d.2.2 j - bhM f d.2.1 j + if j + 1 = f.length then price else 0
def loL (d : LDeed) (price : Int) (f : Form) : Form := (List.range f.length).map (loM d price f)
theorem fA_rng {n i : Nat} {f : Nat → Int} (h : i < n) : fA ((List.range n).map f) i = f i := getD_rng h
theorem bh_len {f : Form} {cs : List Form} : (bhL f cs).length = f.length := by unfold bhL; rw [List.length_map, List.length_range]
theorem lo_len {d : LDeed} {price : Int} {f : Form} : (loL d price f).length = f.length := by unfold loL; rw [List.length_map, List.length_range]
def dAtL (ds : List LDeed) (k : Nat) : LDeed := ds.getD k ([], [], [])
def dutK (ds : List LDeed) (prices : List Int) (purse : Form) (k : Nat) : List Duty := ((dAtL ds k).1, loL (dAtL ds k) (prices.getD k 0) purse) :: (dAtL ds k).2.1.map fun c => ((dAtL ds k).1, c)
def dutM (ds : List LDeed) (prices : List Int) (purse : Form) : List Duty := (List.range ds.length).flatMap (dutK ds prices purse) ++ [([], purse)]
theorem dAtL_get {ds : List LDeed} {k : Nat} (h : k < ds.length) : dAtL ds k = ds[k] := by unfold dAtL; rw [List.getD_eq_getElem?_getD, List.getElem?_eq_getElem h]; rfl
theorem dAtL_mem {ds : List LDeed} {k : Nat} (h : k < ds.length) : dAtL ds k ∈ ds := by rw [dAtL_get h]; exact List.getElem_mem h
theorem ix_ds {ds : List LDeed} {i : Nat} (h : i < ds.length) : ixD (.lst (ds.map eLd)) (i : Int) = some (eLd (dAtL ds i)) := ix_map (by
  rw [atI_ge (by omega) (by omega), dAtL_get h]
  simp)
theorem ix_pr {ps : List Int} {i : Nat} (h : i < ps.length) : ixD (.lst (ps.map D.int)) (i : Int) = some (.int (ps.getD i 0)) := ix_map (by
  rw [atI_ge (by omega) (by omega), List.getD_eq_getElem?_getD, List.getElem?_eq_getElem (by omega)]
  simp)
theorem bh_bd {f : Form} {cs : List Form} {j : Nat} (hf : SmallF 1000 f) (hc : ∀ c ∈ cs, SmallF 1000 c) (h4 : cs.length ≤ 4) : (bhM f cs j).natAbs ≤ 4001000 := by
  have q := sumZ_bd (f := fun k => fA f k * fA (gA cs k) j) (m := cs.length) (B := 1000000) fun k hk => by
    have a := hf.at k
    have b := (hc _ (gA_mem hk)).at j
    rw [Int.natAbs_mul]
    exact Nat.le_trans (Nat.mul_le_mul a b) (by decide)
  have : cs.length * 1000000 ≤ 4 * 1000000 := Nat.mul_le_mul_right _ h4
  have := hf.at j
  unfold bhM
  split <;> omega
/-- a deed that goes with a purse's length -/
structure LdN (n : Nat) (d : LDeed) : Prop where
  gl : d.1.length ≤ 4
  cl : d.2.1.length = n
  g : ∀ x ∈ d.1, x.length = n + 1 ∧ SmallF 1000 x
  c : ∀ x ∈ d.2.1, x.length = n + 1 ∧ SmallF 1000 x
  k : d.2.2.length = n + 1 ∧ SmallF 1000 d.2.2
theorem okFm_n {n : Nat} {x : Form} (h : okFm (n : Int) x = true) : x.length = n + 1 ∧ SmallF 1000 x := by
  obtain ⟨a, b⟩ := okFm_d h
  exact ⟨by omega, fun v hv => by have := b v hv; omega⟩
theorem okLd_n {n : Nat} {d : LDeed} (h : okLd (n : Int) d = true) : LdN n d := by
  unfold okLd at h
  simp only [Bool.and_eq_true, decide_eq_true_eq, List.all_eq_true] at h
  obtain ⟨⟨h1, h2⟩, h3⟩ := h
  exact ⟨h1, by omega, fun x hx => okFm_n (h3 x (by simp [hx])), fun x hx => okFm_n (h3 x (by simp [hx])), okFm_n (h3 _ (by simp))⟩
structure PairN (n : Nat) (ds : List LDeed) (prices : List Int) (purse : Form) : Prop where
  n1 : 1 ≤ n
  n4 : n ≤ 4
  d1 : 1 ≤ ds.length
  d8 : ds.length ≤ 8
  d : ∀ d ∈ ds, LdN n d
  p : prices.length = ds.length
  pb : ∀ v ∈ prices, v.natAbs ≤ 1000
  pu : purse.length = n + 1 ∧ SmallF 1000 purse
theorem okPair_n {many : Int} {ds : List LDeed} {prices : List Int} {purse : Form} (h : okPair many ds prices purse = true) : ∃ n : Nat, many = n ∧ PairN n ds prices purse := by
  unfold okPair okLn at h
  simp only [Bool.and_eq_true, decide_eq_true_eq, List.all_eq_true] at h
  obtain ⟨⟨⟨⟨⟨m1, m2⟩, d1, d8⟩, hd⟩, hp, hpb⟩, hpu⟩ := h
  obtain ⟨n, rfl⟩ : ∃ n : Nat, many = n := ⟨many.toNat, by omega⟩
  exact ⟨n, rfl, by omega, by omega, d1, d8, fun d hd' => okLd_n (hd d hd'), hp, fun v hv => by have := hpb v hv; unfold inB at this; simp only [Bool.and_eq_true, decide_eq_true_eq] at this; omega, okFm_n hpu⟩

abbrev s_worth : Stmt := top 21
abbrev N_worth : List Str := ["form", "point", "one"]
abbrev P_worth : List Str := ["form", "point"]
theorem sc_worth : FnScope N_worth P_worth (defScope s_worth) := ⟨rfl, rfl, rfl, by decide +kernel, rfl, by decide +kernel, by decide +kernel⟩

def F_worth : Fs := fun args r => ∃ (x : Form) (n b : Nat) (p : Nat → Rat), args = [eFm x, eRow n p] ∧ (x.length = n + 1 ∧ n ≤ 4) ∧ SmallF 8000000 x ∧ (∀ j, j < n → SQ b (p j)) ∧ n * (23 + b + 1) ≤ 8000 ∧ r = .ok (eQ (wrT x p))
theorem df_worth {P : Program} {w : World} {K : Fg} {mg : Str → Option Value} {base : Heap} (T : Tx K mg) (U : Dn K mg "worth" s_worth P_worth) (D_plus : Df P w K mg base "plus" 2 F_plus) (D_together : Df P w K mg base "together" 3 F_together) : Df P w K mg base "worth" 4 F_worth :=
  df_of 3 U sc_worth (fun _ _ ⟨_, _, _, _, h, _⟩ => by rw [h]; rfl) fun f cdv A outer s H E args r hr tk hp hF => by
    obtain ⟨x, n, b, p, rfl, ⟨hl, hn⟩, hx, hpS, hz, rfl⟩ := hF
    have nd := sc_worth.nd
    have hq : ∀ i, SQ 23 (fA x i : Rat) := fQ hx (by decide) (by decide)
    have hlen : (rQ x.dropLast).length = n := by rw [List.length_map, List.length_dropLast]; omega
    have e1 : (x.dropLast.map fun v => D.tup [.int v, .int 1]) = (rQ x.dropLast).map eQ := by rw [List.map_map]; rfl
    have hxs : ∀ y ∈ (rQ x.dropLast), SQ 23 y := fun y hy => by
      obtain ⟨v, hv, rfl⟩ := List.mem_map.mp hy
      exact int_SQ (Nat.lt_of_le_of_lt (hx v ((List.dropLast_sublist x).subset hv)) (by decide)) (by decide)
    have hys : ∀ y ∈ (List.range n).map p, SQ b y := fun y hy => by
      obtain ⟨j, hj, rfl⟩ := List.mem_map.mp hy
      exact hpS j (List.mem_range.mp hj)
    have hds : SQ (n * (23 + b + 1) + 1) (dotQ (rQ x.dropLast) ((List.range n).map p)) := by
      rw [dot_sum (by rw [hlen, List.length_map, List.length_range]; exact Nat.le_refl _), hlen]
      exact sum_SQ (a := 23 + b) fun i hi => mul_SQ (by rw [init_get (by omega)]; exact hq i) (by rw [getD_rng hi]; exact hpS i hi)
    have hF1 : F_together [.lst ((rQ x.dropLast).map eQ), eRow n p] (.ok (eQ (dotQ (rQ x.dropLast) ((List.range n).map p)))) := ⟨_, (List.range n).map p, 23, b, by rw [eRow_map], ⟨by rw [hlen, List.length_map, List.length_range]; exact Nat.le_refl _, by omega⟩, hxs, hys, by rw [hlen]; omega, rfl⟩
    have hF2 : F_plus [eQ (dotQ (rQ x.dropLast) ((List.range n).map p)), .tup [.int (fA x n), .int 1]] (.ok (eQ (wrT x p))) := ⟨_, (fA x n : Rat), _, 23, rfl, ⟨hds, hq n, by omega⟩, by rw [wr_dot hl]⟩
    have ec : cutD (x.map D.int) none (some (-1)) = x.dropLast.map .int := init_fm x
    exact XF.rt (xss_ret (xv_call D_plus (hr.mono (by decide)) tk (xa_cons (xv_call D_together (hr.mono (by decide)) tk (xa_cons ((xl_lc [("one", 2)] rfl nd (xi_tup (XV.is (xv_slT ((xv_var 0)).br xp_none (xp_some (xv_neg (xv_int).br))) (congrArg D.tup ec))) (blkOk_by (own := [("one", 2)]) (N := N_worth) (sc := defScope s_worth) (by decide +kernel)) ((lc_map (f := D.int) (g := fun v => D.tup [.int v, .int 1]) x.dropLast fun x_1 hx_1 => ⟨_, (fun _ _ _ _ _ => (xgw_name 2 nd)), (fun _ _ _ _ _ => (xv_tup (xa_cons (xv_var 2) (xa_cons xv_int xa_nil))))⟩).is e1) (by rw [List.length_map, List.length_dropLast]; omega))).v (xa_cons (xv_var 1) xa_nil)) (hF1)) (xa_cons (xv_tup (xa_cons (xv_ix ((xv_var 0)).br ((xv_neg (xv_int).br)).br (ix_fmL hl)) (xa_cons xv_int xa_nil))) xa_nil)) (hF2)))

abbrev s_behind : Stmt := top 22
abbrev N_behind : List Str := ["form", "changes", "found", "k", "j"]
abbrev P_behind : List Str := ["form", "changes"]
theorem sc_behind : FnScope N_behind P_behind (defScope s_behind) := ⟨rfl, rfl, rfl, by decide +kernel, rfl, by decide +kernel, by decide +kernel⟩

def F_behind : Fs := fun args r => ∃ (x : Form) (cs : List Form) (n : Nat), args = [eFm x, .lst (cs.map eFm)] ∧ (x.length = n + 1 ∧ SmallF 1000 x) ∧ (cs.length = n ∧ n ≤ 4) ∧ (∀ c ∈ cs, c.length = n + 1 ∧ SmallF 1000 c) ∧ r = .ok (eFm (bhL x cs))
/-- the sum while it is made -/
def bhI (f : Form) (cs : List Form) (k i j : Nat) : Int := (if j + 1 = f.length then fA f j else 0) + sumZ k (fun k => fA f k * fA (gA cs k) j) + if j < i then fA f k * fA (gA cs k) j else 0
theorem df_behind {P : Program} {w : World} {K : Fg} {mg : Str → Option Value} {base : Heap} (T : Tx K mg) (U : Dn K mg "behind" s_behind P_behind) : Df P w K mg base "behind" 1 F_behind :=
  df_of 0 U sc_behind (fun _ _ ⟨_, _, _, h, _⟩ => by rw [h]; rfl) fun f cdv A outer s H E args r hr tk hp hF => by
    obtain ⟨x, cs, n, rfl, ⟨hl, hx⟩, ⟨hc, hn⟩, hcs, rfl⟩ := hF
    have nd := sc_behind.nd
    have hlm : (x.map D.int).length = n + 1 := by rw [List.length_map, hl]
    have hcl : (cs.map eFm).length = n := by rw [List.length_map, hc]
    have e0 : ((List.replicate ((((x.map D.int).length : Nat) : Int).toNat) [D.int 0]).flatten) = (List.range (n + 1)).map fun _ => D.int 0 := by
      rw [hlm, Int.toNat_natCast]
      induction n + 1 with
      | zero => rfl
      | succ n ih => rw [List.range_succ, List.map_append, ← ih, List.replicate_succ']; simp
    refine XF.rt (xss_cons (xs_own 2 nd (XL.is (xl_rep ((xl_lst (xa_cons xv_int xa_nil))).br ((xv_len T.len ((xv_var 0)).br)).br (by omega) (by rw [hlm]; omega) (by rw [hlm]; simp; omega)) e0)) ?_)
    refine xss_cons (ds1 := [.fz (eFm x), .fz (.lst (cs.map eFm)), .ow ((List.range (n + 1)).map fun j => D.int (bhI x cs 0 0 j)), .no, .no]) (XS.is (xs_setix 2 (xv_ix ((xv_var 0)).br ((xv_neg (xv_int).br)).br (ix_fmL hl)) (xv_neg (xv_int).br) rfl (j := n) (by rw [rng_len]; unfold ixN; rw [if_neg (by omega), if_pos (by omega)]; congr 1; omega)) ?_) ?_
    · have e : ((List.range (n + 1)).map fun _ => D.int 0).set n (.int (fA x n)) = (List.range (n + 1)).map fun j => D.int (bhI x cs 0 0 j) := by
        rw [set_rng]
        refine rng_congr fun j hj => ?_
        unfold bhI
        by_cases z : j = n
        · subst z; rw [if_pos rfl, if_pos hl.symm, if_neg (by omega)]; show D.int _ = D.int (_ + 0 + 0); congr 1; omega
        · rw [if_neg z, if_neg (by omega), if_neg (by omega)]; rfl
      rw [← e]; rfl
    refine xss_cons (ds1 := [.fz (eFm x), .fz (.lst (cs.map eFm)), .ow ((List.range (n + 1)).map fun j => D.int (bhI x cs n 0 j)), .no, .no]) (xs_for hp rfl (xi_range T.range (xv_len T.len ((xv_var 1)).br) (by omega) (by rw [hcl]; omega)) ?_) ?_
    · rw [hcl, Int.toNat_natCast, rngD_F]
      suffices loop : ∀ (m k : Nat), k + m = n → Fr _ _ _ _ (rngF k m) [.fz (eFm x), .fz (.lst (cs.map eFm)), .ow ((List.range (n + 1)).map fun j => D.int (bhI x cs k 0 j)), .no, .no] (.nx [.fz (eFm x), .fz (.lst (cs.map eFm)), .ow ((List.range (n + 1)).map fun j => D.int (bhI x cs n 0 j)), .no, .no]) by
        exact loop n 0 (by omega)
      intro m
      induction m with
      | zero => intro k hk; obtain rfl : k = n := by omega
                exact .nil
      | succ m ih =>
        intro k hk
        have q := ih (k + 1) (by omega)
        have hk2 : k < cs.length := by omega
        obtain ⟨c1, c2⟩ := hcs _ (gA_mem hk2)
        have up : (List.range (n + 1)).map (fun j => D.int (bhI x cs (k + 1) 0 j)) = (List.range (n + 1)).map fun j => D.int (bhI x cs k (n + 1) j) := rng_congr fun j hj => by
          unfold bhI
          rw [if_neg (show ¬ j < 0 by omega), if_pos hj]
          show D.int (_ + (sumZ k (fun k => fA x k * fA (gA cs k) j) + fA x k * fA (gA cs k) j) + 0) = _
          congr 1; omega
        rw [up] at q
        rw [rngF_succ]
        refine .step (o' := .nx [.fz (eFm x), .fz (.lst (cs.map eFm)), .ow ((List.range (n + 1)).map fun j => D.int (bhI x cs k (n + 1) j)), .fz (.int (k : Int)), .no]) (xg_name 3 nd) (xss_one (xs_for hp rfl (xi_range T.range (xv_len T.len ((xv_var 0)).br) (by omega) (by rw [hlm]; omega)) ?_)) rfl (Le.fg [3] rfl) q
        rw [hlm, Int.toNat_natCast, rngD_F]
        clear q ih up
        suffices inner : ∀ (m i : Nat), i + m = n + 1 → Fr _ _ _ _ (rngF i m) [.fz (eFm x), .fz (.lst (cs.map eFm)), .ow ((List.range (n + 1)).map fun j => D.int (bhI x cs k i j)), .fz (.int (k : Int)), .no] (.nx [.fz (eFm x), .fz (.lst (cs.map eFm)), .ow ((List.range (n + 1)).map fun j => D.int (bhI x cs k (n + 1) j)), .fz (.int (k : Int)), .no]) by
          exact inner (n + 1) 0 (by omega)
        intro m
        induction m with
        | zero => intro i hi; obtain rfl : i = n + 1 := by omega
                  exact .nil
        | succ m ih =>
          intro i hi
          have q := ih (i + 1) (by omega)
          have hi2 : i < n + 1 := by omega
          have es : (List.range (n + 1)).map (fun j => D.int (bhI x cs k (i + 1) j)) = ((List.range (n + 1)).map fun j => D.int (bhI x cs k i j)).set i (.int (bhI x cs k i i + fA x k * fA (gA cs k) i)) := by
            rw [set_rng]
            refine rng_congr fun j hj => ?_
            by_cases z : j = i
            · subst z
              rw [if_pos rfl]
              unfold bhI
              rw [if_pos (show j < j + 1 by omega), if_neg (show ¬ j < j by omega)]
              congr 1; omega
            · rw [if_neg z]
              unfold bhI
              by_cases y : j < i
              · rw [if_pos y, if_pos (show j < i + 1 by omega)]
              · rw [if_neg y, if_neg (show ¬ j < i + 1 by omega)]
          rw [es] at q
          rw [rngF_succ]
          have b1 := hx.at k
          have b2 := c2.at i
          have hii : ixD (.lst ((List.range (n + 1)).map fun j => D.int (bhI x cs k i j))) (i : Int) = some (.int (bhI x cs k i i)) := ix_rngD hi2
          have hxk : ixD (eFm x) (k : Int) = some (.int (fA x k)) := ix_fm (by omega)
          have hck : ixD (eFm (gA cs k)) (i : Int) = some (.int (fA (gA cs k) i)) := ix_fm (by omega)
          exact .step (xg_name 4 nd) (xss_one (xs_setix 2 (xv_add ((xv_ix (xb_own 2) ((xv_var 4)).br (hii))).br ((xv_mul ((xv_ix ((xv_var 0)).br ((xv_var 3)).br (hxk))).br ((xv_ix ((xv_ix ((xv_var 1)).br ((xv_var 3)).br (ix_gs hk2))).br ((xv_var 4)).br (hck))).br (by first | exact Or.inl ⟨by omega, by omega⟩ | exact Or.inr ⟨by omega, by omega⟩))).br) (xv_var 4) rfl (by rw [rng_len, ixN_ge (by omega) (by omega)]; rfl))) rfl (Le.fg [4] rfl) q
    · have e : (List.range (n + 1)).map (fun j => D.int (bhI x cs n 0 j)) = (bhL x cs).map .int := by
        unfold bhL
        rw [List.map_map, hl]
        refine rng_congr fun j hj => ?_
        unfold bhI
        rw [if_neg (show ¬ j < 0 by omega)]
        show D.int _ = D.int (bhM x cs j)
        unfold bhM
        rw [hc]
        congr 1; omega
      exact xss_ret (XV.is (xv_tuple T.tuple (xb_own 2)) (congrArg D.tup e))

abbrev s_left_over : Stmt := top 23
abbrev N_left_over : List Str := ["deed", "price", "purse", "guards", "changes", "cost", "later", "found", "k"]
abbrev P_left_over : List Str := ["deed", "price", "purse"]
theorem sc_left_over : FnScope N_left_over P_left_over (defScope s_left_over) := ⟨rfl, rfl, rfl, by decide +kernel, rfl, by decide +kernel, by decide +kernel⟩

def F_left_over : Fs := fun args r => ∃ (d : LDeed) (price : Int) (x : Form) (n : Nat), args = [eLd d, .int price, eFm x] ∧ LdN n d ∧ n ≤ 4 ∧ (x.length = n + 1 ∧ SmallF 1000 x) ∧ price.natAbs ≤ 1000 ∧ r = .ok (eFm (loL d price x))
theorem df_left_over {P : Program} {w : World} {K : Fg} {mg : Str → Option Value} {base : Heap} (T : Tx K mg) (U : Dn K mg "left_over" s_left_over P_left_over) (D_behind : Df P w K mg base "behind" 1 F_behind) : Df P w K mg base "left_over" 2 F_left_over :=
  df_of 1 U sc_left_over (fun _ _ ⟨_, _, _, _, h, _⟩ => by rw [h]; rfl) fun f cdv A outer s H E args r hr tk hp hF => by
    obtain ⟨d, price, x, n, rfl, hd, hn, ⟨hl, hx⟩, hpr, rfl⟩ := hF
    have nd := sc_left_over.nd
    have hlm : (x.map D.int).length = n + 1 := by rw [List.length_map, hl]
    obtain ⟨k1, k2⟩ := hd.k
    have bl : (bhL x d.2.1).length = n + 1 := by rw [bh_len, hl]
    refine XF.rt (xss_cons (xs_asg (xv_var 0) (xg_tup rfl (xgs_cons (xg_name 3 nd) (xgs_cons (xg_name 4 nd) (xgs_cons (xg_name 5 nd) xgs_nil))))) ?_)
    refine xss_cons (xs_set 6 nd (xv_call D_behind (hr.mono (by decide)) tk (xa_cons (xv_var 2) (xa_cons (xv_var 4) xa_nil)) (⟨x, d.2.1, n, rfl, ⟨hl, hx⟩, ⟨hd.cl, hn⟩, hd.c, rfl⟩))) ?_
    have hk : ∀ k : Nat, k ∈ List.range (((((x.map D.int).length : Nat) : Int).toNat)) → k < n + 1 := fun k h => by rw [hlm, Int.toNat_natCast] at h; exact List.mem_range.mp h
    have i1 : ∀ k : Nat, k < n + 1 → ixD (eFm x) (k : Int) = some (.int (fA x k)) := fun k h => ix_fm (by omega)
    have i2 : ∀ k : Nat, k < n + 1 → ixD (eFm d.2.2) (k : Int) = some (.int (fA d.2.2 k)) := fun k h => ix_fm (by omega)
    have i3 : ∀ k : Nat, k < n + 1 → ixD (eFm (bhL x d.2.1)) (k : Int) = some (.int (bhM x d.2.1 k)) := fun k h => by
      rw [ix_fm (by omega)]; unfold bhL; rw [fA_rng (by omega)]
    have e1 : (List.range (((((x.map D.int).length : Nat) : Int).toNat))).map (fun k => D.int (fA x k - fA d.2.2 k - bhM x d.2.1 k)) = (List.range (n + 1)).map fun k => D.int (fA x k - fA d.2.2 k - bhM x d.2.1 k) := by rw [hlm, Int.toNat_natCast]
    refine xss_cons (xs_lc 7 [("k", 8)] rfl nd (xi_range T.range (xv_len T.len ((xv_var 2)).br) (by omega) (by rw [hlm]; omega)) (blkOk_by (own := [("k", 8)]) (N := N_left_over) (sc := defScope s_left_over) (by decide +kernel)) ((lc_map (f := fun (n : Nat) => D.int n) (g := fun k => D.int (fA x k - fA d.2.2 k - bhM x d.2.1 k)) (List.range _) fun x_1 hx_1 => ⟨_, (fun _ _ _ _ _ => (xgw_name 8 nd)), (fun _ _ _ _ _ => (xv_sub ((xv_sub ((xv_ix ((xv_var 2)).br ((xv_var 8)).br (i1 x_1 (hk x_1 hx_1)))).br ((xv_ix ((xv_var 5)).br ((xv_var 8)).br (i2 x_1 (hk x_1 hx_1)))).br)).br ((xv_ix ((xv_var 6)).br ((xv_var 8)).br (i3 x_1 (hk x_1 hx_1)))).br))⟩).is e1) (by rw [rngD_F, rngF_len]; rw [hlm]; omega)) ?_
    have hlast : ixD (.lst ((List.range (n + 1)).map fun k => D.int (fA x k - fA d.2.2 k - bhM x d.2.1 k))) (-1) = some (.int (fA x n - fA d.2.2 n - bhM x d.2.1 n)) := ix_tupL
    refine xss_cons (xs_setix 7 (xv_add ((xv_ix (xb_own 7) ((xv_neg (xv_int).br)).br (hlast))).br ((xv_var 1)).br) (xv_neg (xv_int).br) rfl (j := n) (by rw [rng_len]; unfold ixN; rw [if_neg (by omega), if_pos (by omega)]; congr 1; omega)) ?_
    have e : ((List.range (n + 1)).map fun k => D.int (fA x k - fA d.2.2 k - bhM x d.2.1 k)).set n (.int (fA x n - fA d.2.2 n - bhM x d.2.1 n + price)) = (loL d price x).map .int := by
      rw [set_rng]
      unfold loL
      rw [List.map_map, hl]
      refine rng_congr fun j hj => ?_
      show _ = D.int (loM d price x j)
      unfold loM
      by_cases z : j = n
      · subst z; rw [if_pos rfl, if_pos hl.symm]
      · rw [if_neg z, if_neg (by omega)]; congr 1; omega
    exact xss_ret (XV.is (xv_tuple T.tuple (xb_own 7)) (congrArg D.tup e))

abbrev s_duties : Stmt := top 24
abbrev N_duties : List Str := ["lines", "prices", "purse", "found", "k", "guards", "changes", "cost", "change"]
abbrev P_duties : List Str := ["lines", "prices", "purse"]
theorem sc_duties : FnScope N_duties P_duties (defScope s_duties) := ⟨rfl, rfl, rfl, by decide +kernel, rfl, by decide +kernel, by decide +kernel⟩

def F_duties : Fs := fun args r => ∃ (n : Nat) (ds : List LDeed) (prices : List Int) (purse : Form), args = [eLn (n : Int) ds, .lst (prices.map .int), eFm purse] ∧ PairN n ds prices purse ∧ r = .ok (.lst ((dutM ds prices purse).map eDuty))
theorem df_duties {P : Program} {w : World} {K : Fg} {mg : Str → Option Value} {base : Heap} (T : Tx K mg) (U : Dn K mg "duties" s_duties P_duties) (D_left_over : Df P w K mg base "left_over" 2 F_left_over) : Df P w K mg base "duties" 3 F_duties :=
  df_of 2 U sc_duties (fun _ _ ⟨_, _, _, _, h, _⟩ => by rw [h]; rfl) fun f cdv A outer s H E args r hr tk hp hF => by
    obtain ⟨n, ds, prices, purse, rfl, hP, rfl⟩ := hF
    have nd := sc_duties.nd
    have hd8 := hP.d8
    have hdl : (ds.map eLd).length = ds.length := List.length_map _
    have klen : ∀ k, k < ds.length → (dutK ds prices purse k).length ≤ 5 := fun k hk => by
      have := (hP.d _ (dAtL_mem hk)).cl
      have := hP.n4
      unfold dutK; rw [List.length_cons, List.length_map]; omega
    have plen : ∀ i, i ≤ ds.length → ((List.range i).flatMap (dutK ds prices purse)).length ≤ 5 * i := fun i => by
      induction i with
      | zero => intro _; simp
      | succ i ih =>
        intro hi
        have := ih (by omega)
        have := klen i (by omega)
        rw [List.range_succ, List.flatMap_append, List.length_append]
        simp only [List.flatMap_cons, List.flatMap_nil, List.append_nil]
        omega
    have i0 : ixD (eLn (n : Int) ds) 1 = some (.lst (ds.map eLd)) := rfl
    refine XF.rt (xss_cons (xs_own 3 nd (xl_lst xa_nil)) ?_)
    refine xss_cons (ds1 := [.fz (eLn (n : Int) ds), .fz (.lst (prices.map .int)), .fz (eFm purse), .ow (((List.range ds.length).flatMap (dutK ds prices purse)).map eDuty), .no, .no, .no, .no, .no]) (xs_for hp rfl (xi_range T.range (xv_len T.len ((xv_ix ((xv_var 0)).br (xv_int).br (i0))).br) (by omega) (by rw [hdl]; omega)) ?_) ?_
    · rw [hdl, Int.toNat_natCast, rngD_F]
      suffices loop : ∀ (m i : Nat), i + m = ds.length → Fr _ _ _ _ (rngF i m) [.fz (eLn (n : Int) ds), .fz (.lst (prices.map .int)), .fz (eFm purse), .ow (((List.range i).flatMap (dutK ds prices purse)).map eDuty), .no, .no, .no, .no, .no] (.nx [.fz (eLn (n : Int) ds), .fz (.lst (prices.map .int)), .fz (eFm purse), .ow (((List.range ds.length).flatMap (dutK ds prices purse)).map eDuty), .no, .no, .no, .no, .no]) by
        exact loop ds.length 0 (by omega)
      intro m
      induction m with
      | zero => intro i hi; obtain rfl : i = ds.length := by omega
                exact .nil
      | succ m ih =>
        intro i hi
        have q := ih (i + 1) (by omega)
        have hi2 : i < ds.length := by omega
        have hD := hP.d _ (dAtL_mem hi2)
        have hl1 := plen i (by omega)
        have hpl := hP.p
        have hcl := hD.cl
        have hn4 := hP.n4
        have hpb : (prices.getD i 0).natAbs ≤ 1000 := by
          rw [List.getD_eq_getElem?_getD, List.getElem?_eq_getElem (by omega)]
          exact hP.pb _ (List.getElem_mem _)
        have ed : ((List.range (i + 1)).flatMap (dutK ds prices purse)).map eDuty = (((List.range i).flatMap (dutK ds prices purse)).map eDuty ++ [eDuty ((dAtL ds i).1, loL (dAtL ds i) (prices.getD i 0) purse)]) ++ (dAtL ds i).2.1.map fun c => eDuty ((dAtL ds i).1, c) := by
          rw [List.range_succ, List.flatMap_append]
          simp only [List.flatMap_cons, List.flatMap_nil, List.append_nil]
          unfold dutK
          simp [Function.comp_def]
        rw [ed] at q
        rw [rngF_succ]
        exact .step (xg_name 4 nd) (xss_cons (xs_asg (xv_ix ((xv_ix ((xv_var 0)).br (xv_int).br (i0))).br ((xv_var 4)).br (ix_ds hi2)) (xg_tup rfl (xgs_cons (xg_name 5 nd) (xgs_cons (xg_name 6 nd) (xgs_cons (xg_name 7 nd) xgs_nil))))) (xss_cons (xs_append 3 (xv_tup (xa_cons (xv_var 5) (xa_cons (xv_call D_left_over (hr.mono (by decide)) tk (xa_cons (xv_ix ((xv_ix ((xv_var 0)).br (xv_int).br (i0))).br ((xv_var 4)).br (ix_ds hi2)) (xa_cons (xv_ix ((xv_var 1)).br ((xv_var 4)).br (ix_pr (by omega))) (xa_cons (xv_var 2) xa_nil))) (⟨_, _, _, n, rfl, hD, hn4, hP.pu, hpb, rfl⟩)) xa_nil))) (by rfl) (by rw [List.length_map]; omega)) (xss_one (xs_extend 3 (xl_lc [("change", 8)] rfl nd (xi_list (xv_var 6)) (blkOk_by (own := [("change", 8)]) (N := N_duties) (sc := defScope s_duties) (by decide +kernel)) ((lc_map (f := eFm) (g := fun c => eDuty ((dAtL ds i).1, c)) (dAtL ds i).2.1 fun x_1 hx_1 => ⟨_, (fun _ _ _ _ _ => (xgw_name 8 nd)), (fun _ _ _ _ _ => (xv_tup (xa_cons (xv_var 5) (xa_cons (xv_var 8) xa_nil))))⟩)) (by rw [List.length_map]; omega)) (by rfl) (by rw [List.length_append, List.length_map, List.length_map, List.length_singleton]; omega))))) rfl (Le.fg [4, 5, 6, 7, 8] rfl) q
    · have hl1 := plen ds.length (Nat.le_refl _)
      have e : ((List.range ds.length).flatMap (dutK ds prices purse)).map eDuty ++ [.tup [.lst [], eFm purse]] = (dutM ds prices purse).map eDuty := by
        unfold dutM
        rw [List.map_append]; rfl
      refine xss_cons (xs_append 3 (xv_tup (xa_cons ((xl_lst xa_nil)).v (xa_cons (xv_var 2) xa_nil))) (by rfl) (by rw [List.length_map]; omega)) ?_
      rw [e]
      exact XSs.freeze 3 (xss_ret (xv_var 3))

/-! how long the numbers of a settled duty get -/
theorem zero_SQ {n : Nat} (h : 1 ≤ n) : SQ n (0 : Rat) := by
  have : SQ 1 (0 : Rat) := ⟨by decide, by decide⟩
  exact this.mono h
theorem one_SQ {n : Nat} (h : 1 ≤ n) : SQ n (1 : Rat) := ⟨by show 1 < 2 ^ n; exact Nat.one_lt_two_pow (by omega), by show 1 < 2 ^ n; exact Nat.one_lt_two_pow (by omega)⟩
theorem val_SQ {m n b : Nat} {A : Nat → Nat → Rat} {C : Nat → Rat} {t : Tab} (h : TOk m n A C t) (hs : ∀ k, k < m → SQ b (t.a k n)) (hb : 1 ≤ b) (j : Nat) : SQ b (valT m n t j) := by
  rcases Classical.em (basic m t j) with ⟨i, hi, e⟩ | z
  · rw [← e, val_basic h hi]; exact hs i hi
  · rw [val_non z]; exact zero_SQ hb
/-- guards and a form that go with n numbers -/
structure DutN (n : Nat) (gs : List Form) (f : Form) : Prop where
  n1 : 1 ≤ n
  n3 : n ≤ 3
  g4 : gs.length ≤ 4
  g : ∀ x ∈ gs, x.length = n + 1 ∧ SmallF 2048 x
  f : f.length = n + 1 ∧ SmallF 2048 f
section
variable {n : Nat} {gs : List Form} {f : Form}
theorem smallS_RS (h : DutN n gs f) : SmallS (gs.length + f.length) f.length (RS gs) (fA f) := by
  have := h.n1; have := h.n3; have := h.g4; have := h.f.1
  refine ⟨⟨by omega, by omega, by omega⟩, fun k j _ _ => ?_, fun k _ => h.f.2.at k⟩
  unfold RS
  split
  · next hj => exact (h.g _ (gA_mem hj)).2.at k
  · split <;> decide
theorem smallS_RP (hn : n ≤ 3) (h4 : gs.length ≤ 4) (hne : gs ≠ []) (hg : ∀ x ∈ gs, x.length = n + 1 ∧ SmallF 2048 x) : SmallS (n + gs.length) gs.length (RP n gs) (gP n gs) := by
  have : 1 ≤ gs.length := by cases gs with | nil => exact absurd rfl hne | cons _ _ => simp
  refine ⟨⟨this, h4, by omega⟩, fun k j hk _ => ?_, fun k hk => ?_⟩
  · unfold RP
    split
    · exact (hg _ (gA_mem hk)).2.at j
    · split <;> decide
  · unfold gP
    rw [Int.natAbs_neg]
    exact (hg _ (gA_mem hk)).2.at n
theorem ends_SQ {w m : Nat} {R : Nat → Nat → Int} {g : Nat → Int} {u : Tab} (h : SmallS w m R g) (hu : Ends w m R g u) : (∀ j, SQ 200 (valT m (w + m) u j)) ∧ ∀ k, SQ 205 (prT w g u k) := by
  obtain ⟨⟨_, m4, _⟩, hR, hg⟩ := h
  obtain ⟨ok, _⟩ := ends_ok hu
  obtain ⟨s1, s2⟩ := tab_SQ ok (AS_bd hR hg) (fun k l hk hl => AS_help hl) m4
  exact ⟨fun j => val_SQ ok (fun k hk => s1 k _ hk) (by decide) j, fun k => (mul_SQ (sgn_Q _) (sub_SQ (one_SQ (n := 2) (by decide)) (s2 _))).mono (by decide)⟩
theorem shL_SQ (h : DutN n gs f) (i : Nat) : SQ 200 (shL gs f i) := (ends_SQ (smallS_RS h) (endT_ok _ _ _ _)).1 i
theorem told_SQ (h : DutN n gs f) (k : Nat) : SQ 205 (told gs f k) := (ends_SQ (smallS_RS h) (endT_ok _ _ _ _)).2 k
theorem way_SQ (h : DutN n gs f) (k : Nat) : SQ 207 (0 - told gs f k) := (sub_SQ (zero_SQ (n := 1) (by decide)) (told_SQ h k)).mono (by decide)
theorem base_SQ (hn : n ≤ 3) (h4 : gs.length ≤ 4) (hg : ∀ x ∈ gs, x.length = n + 1 ∧ SmallF 2048 x) (j : Nat) : SQ 200 (baseP n gs j) := by
  unfold baseP
  split
  · exact zero_SQ (by decide)
  · next hne => exact (ends_SQ (smallS_RP hn h4 hne hg) (endT_ok _ _ _ _)).1 j
theorem prP_SQ (hn : n ≤ 3) (h4 : gs.length ≤ 4) (hne : gs ≠ []) (hg : ∀ x ∈ gs, x.length = n + 1 ∧ SmallF 2048 x) (i : Nat) : SQ 205 (prP n gs i) := (ends_SQ (smallS_RP hn h4 hne hg) (endT_ok _ _ _ _)).2 i
theorem gP_SQ (hg : ∀ x ∈ gs, x.length = n + 1 ∧ SmallF 2048 x) {i : Nat} (hi : i < gs.length) : SQ 12 (gP n gs i : Rat) := by
  refine int_SQ ?_ (by decide)
  unfold gP
  rw [Int.natAbs_neg]
  exact Nat.lt_of_le_of_lt ((hg _ (gA_mem hi)).2.at n) (by decide)
theorem whole_SQ (hn : n ≤ 3) (h4 : gs.length ≤ 4) (hne : gs ≠ []) (hg : ∀ x ∈ gs, x.length = n + 1 ∧ SmallF 2048 x) : SQ 900 (wholeP n gs) := by
  refine (sum_SQ (a := 217) fun i hi => mul_SQ (prP_SQ hn h4 hne hg i) (gP_SQ hg hi)).mono ?_
  have : gs.length * (217 + 1) ≤ 4 * (217 + 1) := Nat.mul_le_mul_right _ h4
  omega
theorem shN_SQ (hn : n ≤ 3) (h4 : gs.length ≤ 4) (hN : isNone n gs) (hg : ∀ x ∈ gs, x.length = n + 1 ∧ SmallF 2048 x) (i : Nat) : SQ 1105 (shN n gs i) := by
  have := whole_pos hN
  exact div_SQ (prP_SQ hn h4 hN.1 hg i) (whole_SQ hn h4 hN.1 hg) (by grind)
/-- what the far point is made of -/
structure FarN (n : Nat) (f : Form) (base way : Nat → Rat) : Prop where
  n1 : 1 ≤ n
  n3 : n ≤ 3
  ff : f.length = n + 1 ∧ SmallF 2048 f
  b : ∀ j, j < n → SQ 200 (base j)
  w : ∀ j, j < n → SQ 207 (way j)
  s : slopeT f way ≠ 0
theorem slope_SQ {base way : Nat → Rat} (h : FarN n f base way) : SQ 900 (slopeT f way) := by
  unfold slopeT
  have := h.n3
  rw [h.ff.1, show n + 1 - 1 = n from rfl]
  refine (sum_SQ (a := 219) fun i hi => mul_SQ (fQ h.ff.2 (k := 12) (by decide) (by decide) i) (h.w i hi)).mono ?_
  have : n * (219 + 1) ≤ 3 * (219 + 1) := Nat.mul_le_mul_right _ h.n3
  omega
theorem wrT_SQ {b c : Nat} {p : Nat → Rat} (hf : f.length = n + 1) (hs : SmallF b f) {k : Nat} (hb : b < 2 ^ k) (hk : 1 ≤ k) (hp : ∀ j, j < n → SQ c (p j)) : SQ (n * (k + c + 1) + 1 + k + 1) (wrT f p) := by
  unfold wrT
  rw [hf, show n + 1 - 1 = n from rfl]
  exact add_SQ (sum_SQ (a := k + c) fun i hi => mul_SQ (fQ hs hb hk i) (hp i hi)) (fQ hs hb hk n)
theorem here_SQ {base way : Nat → Rat} (h : FarN n f base way) : SQ 900 (wrT f base) := by
  refine (wrT_SQ (k := 12) h.ff.1 h.ff.2 (by decide) (by decide) h.b).mono ?_
  have : n * (12 + 200 + 1) ≤ 3 * (12 + 200 + 1) := Nat.mul_le_mul_right _ h.n3
  omega
theorem far0_SQ {base way : Nat → Rat} (h : FarN n f base way) : SQ 1802 (wrT f base / (0 - slopeT f way)) := by
  have hs := h.s
  exact (div_SQ (here_SQ h) (sub_SQ (zero_SQ (n := 1) (by decide)) (slope_SQ h)) (by grind)).mono (by decide)
theorem far1_SQ {base way : Nat → Rat} (h : FarN n f base way) : SQ 1804 (wrT f base / (0 - slopeT f way) + 1) := (add_SQ (far0_SQ h) (one_SQ (n := 1) (by decide))).mono (by decide)
theorem farT_SQ {base way : Nat → Rat} (h : FarN n f base way) : SQ 1804 (farT f base way) := by
  unfold farT
  split
  · exact zero_SQ (by decide)
  · exact far1_SQ h
theorem farP_SQ {base way : Nat → Rat} (h : FarN n f base way) {j : Nat} (hj : j < n) : SQ 2300 (farP f base way j) := (add_SQ (h.b j hj) (mul_SQ (farT_SQ h) (h.w j hj))).mono (by decide)
theorem pt_far (h : DutN n gs f) (hl : ¬ isLine gs f) (h0 : told gs f n = 0) : FarN n f (baseP n gs) fun j => 0 - told gs f j :=
  ⟨h.n1, h.n3, h.f, fun j _ => base_SQ h.n3 h.g4 h.g j, fun j _ => way_SQ h j, by have := pt_slope h.f.1 hl h0; grind⟩
theorem pt_SQ (h : DutN n gs f) (hl : ¬ isLine gs f) {j : Nat} (hj : j < n) : SQ 2300 (ptM n gs f j) := by
  unfold ptM
  split
  · next h0 => exact farP_SQ (pt_far h hl h0) hj
  · next h0 => exact (div_SQ (told_SQ h j) (told_SQ h n) h0).mono (by decide)
/-- answers as data -/
noncomputable def poD (n : Nat) (gs : List Form) : D := if gs = [] then .tup [.str "worths", eRow n fun _ => 0] else solD (n + gs.length) gs.length (gP n gs) (uP n gs)
open Classical in
noncomputable def sdD (n : Nat) (gs : List Form) (f : Form) : D := if isLine gs f then .tup [.str "paper", .tup [.str "line", eRow gs.length (shL gs f)]] else if isNone n gs then .tup [.str "paper", .tup [.str "none", eRow gs.length (shN n gs)]] else .tup [.str "point", eRow n (ptM n gs f)]
theorem poD_none (h : isNone n gs) : poD n gs = .tup [.str "prices", eRow gs.length (prP n gs)] := by
  unfold poD solD
  rw [if_neg h.1, if_neg h.2]; rfl
theorem poD_base (h : ¬ isNone n gs) : ∃ w, n ≤ w ∧ w < 90 + n + gs.length ∧ poD n gs = .tup [.str "worths", eRow w (baseP n gs)] := by
  unfold poD
  by_cases hne : gs = []
  · exact ⟨n, Nat.le_refl _, by omega, by rw [if_pos hne]; unfold baseP; simp only [hne, if_true]⟩
  · have h0 : (uP n gs).c (n + gs.length + gs.length) = 0 := by
      rcases Classical.em ((uP n gs).c (n + gs.length + gs.length) = 0) with z | z
      · exact z
      · exact absurd ⟨hne, z⟩ h
    refine ⟨n + gs.length, by omega, by omega, ?_⟩
    rw [if_neg hne]
    unfold solD baseP
    rw [if_pos h0]
    simp only [hne, if_false]
theorem rS_row {k : Nat} : (gs.map fun g => D.tup [.int (fA g k), .int 1]) ++ ((List.range f.length).map fun j => D.tup [.int (if j = k then 1 else 0), .int 1]) = (List.range (gs.length + f.length)).map fun j => eQ (RS gs k j : Rat) := by
  rw [List.range_add, List.map_append, List.map_map]
  congr 1
  · refine List.ext_getElem (by simp) fun i h1 h2 => ?_
    simp only [List.getElem_map, List.getElem_range]
    rw [List.length_map] at h1
    rw [RS_g h1]
    unfold gA
    rw [List.getD_eq_getElem?_getD, List.getElem?_eq_getElem h1]; rfl
  · refine rng_congr fun j hj => ?_
    show _ = eQ (RS gs k (gs.length + j) : Rat)
    rw [RS_s]; rfl
theorem init_rng {x : Form} (h : x.length = n + 1) : (x.dropLast.map fun v => D.tup [.int v, .int 1]) = (List.range n).map fun j => eQ (fA x j : Rat) := by
  refine List.ext_getElem (by simp; omega) fun i h1 h2 => ?_
  rw [List.length_map, List.length_dropLast] at h1
  simp only [List.getElem_map, List.getElem_range, List.getElem_dropLast]
  rw [fA_get (by omega)]; rfl
theorem rP_row {k : Nat} (h : (gA gs k).length = n + 1) : ((gA gs k).dropLast.map fun v => D.tup [.int v, .int 1]) ++ ((List.range gs.length).map fun j => D.tup [.int (-(if j = k then 1 else 0)), .int 1]) = (List.range (n + gs.length)).map fun j => eQ (RP n gs k j : Rat) := by
  rw [List.range_add, List.map_append, List.map_map, init_rng h]
  congr 1
  · exact rng_congr fun j hj => by rw [RP_x hj]
  · refine rng_congr fun j hj => ?_
    show _ = eQ (RP n gs k (n + j) : Rat)
    rw [RP_s]
    by_cases e : j = k
    · rw [if_pos e, if_pos e]; rfl
    · rw [if_neg e, if_neg e]; rfl
theorem slope_dot {way : Nat → Rat} (h : f.length = n + 1) : dotQ (rQ f.dropLast) ((List.range n).map way) = slopeT f way := by
  have hl : (rQ f.dropLast).length = n := by rw [List.length_map, List.length_dropLast]; omega
  rw [dot_sum (by rw [hl, List.length_map, List.length_range]; exact Nat.le_refl _), hl]
  unfold slopeT
  rw [h, show n + 1 - 1 = n from rfl]
  exact sumR_congr fun i hi => by rw [init_get (by omega), getD_rng hi]
theorem whole_dot : dotQ ((List.range gs.length).map (prP n gs)) ((List.range gs.length).map fun i => (gP n gs i : Rat)) = wholeP n gs := by
  rw [dot_sum (by simp), List.length_map, List.length_range]
  exact sumR_congr fun i hi => by rw [getD_rng hi, getD_rng hi]
end

abbrev s_point_of : Stmt := top 26
abbrev N_point_of : List Str := ["guards", "many", "rows", "goals", "k", "row", "one", "j"]
abbrev P_point_of : List Str := ["guards", "many"]
theorem sc_point_of : FnScope N_point_of P_point_of (defScope s_point_of) := ⟨rfl, rfl, rfl, by decide +kernel, rfl, by decide +kernel, by decide +kernel⟩

def F_point_of : Fs := fun args r => ∃ (gs : List Form) (n : Nat), args = [.lst (gs.map eFm), .int (n : Int)] ∧ (1 ≤ n ∧ n ≤ 3 ∧ gs.length ≤ 4) ∧ (∀ x ∈ gs, x.length = n + 1 ∧ SmallF 2048 x) ∧ r = .ok (poD n gs)
theorem df_point_of {P : Program} {w : World} {K : Fg} {mg : Str → Option Value} {base : Heap} (T : Tx K mg) (U : Dn K mg "point_of" s_point_of P_point_of) (D_solved : Df P w K mg base "solved" 6 F_solved) : Df P w K mg base "point_of" 7 F_point_of :=
  df_of 6 U sc_point_of (fun _ _ ⟨_, _, h, _⟩ => by rw [h]; rfl) fun f cdv A outer s H E args r hr tk hp hF => by
    obtain ⟨gs, n, rfl, ⟨n1, n3, g4⟩, hg, rfl⟩ := hF
    have nd := sc_point_of.nd
    have hgl : (gs.map eFm).length = gs.length := List.length_map _
    let rw_ := fun k => eRow (n + gs.length) fun j => (RP n gs k j : Rat)
    let gl_ := fun k => eQ (gP n gs k : Rat)
    refine XF.rt (xss_cons (xs_own 2 nd (xl_lst xa_nil)) (xss_cons (xs_own 3 nd (xl_lst xa_nil)) ?_))
    refine xss_cons (ds1 := [.fz (.lst (gs.map eFm)), .fz (.int (n : Int)), .ow ((List.range gs.length).map rw_), .ow ((List.range gs.length).map gl_), .no, .no, .no, .no]) (xs_for hp rfl (xi_range T.range (xv_len T.len ((xv_var 0)).br) (by omega) (by rw [hgl]; omega)) ?_) ?_
    · rw [hgl, Int.toNat_natCast, rngD_F]
      suffices loop : ∀ (m i : Nat), i + m = gs.length → Fr _ _ _ _ (rngF i m) [.fz (.lst (gs.map eFm)), .fz (.int (n : Int)), .ow ((List.range i).map rw_), .ow ((List.range i).map gl_), .no, .no, .no, .no] (.nx [.fz (.lst (gs.map eFm)), .fz (.int (n : Int)), .ow ((List.range gs.length).map rw_), .ow ((List.range gs.length).map gl_), .no, .no, .no, .no]) by
        exact loop gs.length 0 (by omega)
      intro m
      induction m with
      | zero => intro i hi; obtain rfl : i = gs.length := by omega
                exact .nil
      | succ m ih =>
        intro i hi
        have q := ih (i + 1) (by omega)
        have hi2 : i < gs.length := by omega
        obtain ⟨x1, x2⟩ := hg _ (gA_mem hi2)
        rw [List.range_succ, List.map_append, List.map_append] at q
        rw [rngF_succ]
        have ec : cutD ((gA gs i).map D.int) none (some (-1)) = (gA gs i).dropLast.map .int := init_fm _
        have ej : (List.range ((((gs.map eFm).length : Nat) : Int).toNat)).map (fun (j : Nat) => D.tup [.int (-(if decide ((j : Int) = (i : Int)) = true then 1 else 0)), .int 1]) = (List.range gs.length).map fun j => D.tup [.int (-(if j = i then 1 else 0)), .int 1] := by
          rw [hgl, Int.toNat_natCast]
          refine rng_congr fun j hj => ?_
          by_cases e : j = i
          · rw [if_pos e, decide_eq_true (show (j : Int) = (i : Int) by omega)]; rfl
          · rw [if_neg e, decide_eq_false (show ¬ (j : Int) = (i : Int) by omega)]; rfl
        have er : ((gA gs i).dropLast.map fun v => D.tup [.int v, .int 1]) ++ (List.range gs.length).map (fun (j : Nat) => D.tup [.int (-(if j = i then 1 else 0)), .int 1]) = (List.range (n + gs.length)).map fun j => eQ (RP n gs i j : Rat) := rP_row x1
        refine .step (o' := .nx [.fz (.lst (gs.map eFm)), .fz (.int (n : Int)), .ow ((List.range i).map rw_ ++ [i].map rw_), .ow ((List.range i).map gl_ ++ [i].map gl_), .fz (.int (i : Int)), .fz (rw_ i), .no, .no]) (xg_name 4 nd) ?_ rfl (Le.fg [4, 5] rfl) q
        refine xss_cons (xs_lc 5 [("one", 6)] rfl nd (xi_tup (XV.is (xv_slT ((xv_ix ((xv_var 0)).br ((xv_var 4)).br (ix_gs hi2))).br xp_none (xp_some (xv_neg (xv_int).br))) (congrArg D.tup ec))) (blkOk_by (own := [("one", 6)]) (N := N_point_of) (sc := defScope s_point_of) (by decide +kernel)) ((lc_map (f := D.int) (g := fun v => D.tup [.int v, .int 1]) (gA gs i).dropLast fun x_1 hx_1 => ⟨_, (fun _ _ _ _ _ => (xgw_name 6 nd)), (fun _ _ _ _ _ => (xv_tup (xa_cons (xv_var 6) (xa_cons xv_int xa_nil))))⟩)) (by rw [List.length_map, List.length_dropLast]; omega)) ?_
        refine xss_cons (xs_extend 5 (xl_lc [("j", 7)] rfl nd (xi_range T.range (xv_len T.len ((xv_var 0)).br) (by omega) (by rw [hgl]; omega)) (blkOk_by (own := [("j", 7)]) (N := N_point_of) (sc := defScope s_point_of) (by decide +kernel)) ((lc_map (f := fun (n : Nat) => D.int n) (g := fun (j : Nat) => D.tup [.int (-(if decide ((j : Int) = (i : Int)) = true then 1 else 0)), .int 1]) (List.range _) fun x_1 hx_1 => ⟨_, (fun _ _ _ _ _ => (xgw_name 7 nd)), (fun _ _ _ _ _ => (xv_tup (xa_cons (xv_neg ((xv_int1 T.int ((xv_eqI ((xv_var 7)).br ((xv_var 4)).br)).br)).br) (xa_cons xv_int xa_nil))))⟩).is ej) (by rw [rngD_F, rngF_len]; rw [hgl]; omega)) (by rfl) (by rw [List.length_map, List.length_dropLast, rng_len]; omega)) ?_
        rw [er]
        refine XSs.freeze 5 ?_
        refine xss_cons (xs_append 2 (xv_var 5) (by rfl) (by rw [rng_len]; omega)) ?_
        exact XSs.is (xss_one (xs_append 3 (xv_tup (xa_cons (xv_neg ((xv_ix ((xv_ix ((xv_var 0)).br ((xv_var 4)).br (ix_gs hi2))).br ((xv_neg (xv_int).br)).br (ix_fmL x1))).br) (xa_cons xv_int xa_nil))) (by rfl) (by rw [rng_len]; omega))) rfl
    · unfold poD
      by_cases hne : gs = []
      · rw [if_pos hne]
        have ht : (!(!((List.range gs.length).map rw_).isEmpty)) = true := by rw [hne]; rfl
        have e1 : (List.replicate ((n : Int).toNat) [D.tup [.int 0, .int 1]]).flatten = (List.range n).map fun _ => eQ 0 := by
          rw [show (D.tup [.int 0, .int 1]) = eQ 0 from rfl, repQ, Int.toNat_natCast]
        exact xss_yesS (XT.is (xt_not (xt_truth (xb_own 2))) (ht)) (xss_ret (xv_tup (xa_cons xv_str (xa_cons ((XL.is (xl_rep ((xl_lst (xa_cons (xv_tup (xa_cons xv_int (xa_cons xv_int xa_nil))) xa_nil))).br ((xv_var 1)).br (by omega) (by omega) (by simp; omega)) (e1))).v xa_nil))))
      · rw [if_neg hne]
        have hlen : 1 ≤ gs.length := by cases gs with | nil => exact absurd rfl hne | cons _ _ => simp
        have ht : (!(!((List.range gs.length).map rw_).isEmpty)) = false := by
          obtain ⟨m, hm⟩ : ∃ m, gs.length = m + 1 := ⟨gs.length - 1, by omega⟩
          rw [hm, List.range_succ]; simp
        refine xss_no0 (XT.is (xt_not (xt_truth (xb_own 2))) (ht)) (XSs.freeze 2 (XSs.freeze 3 ?_))
        exact xss_ret (xv_call D_solved (hr.mono (by decide)) tk (xa_cons (xv_var 2) (xa_cons (xv_var 3) xa_nil)) (⟨n + gs.length, gs.length, RP n gs, gP n gs, uP n gs, rfl, smallS_RP n3 g4 hne hg, endT_ok _ _ _ _, rfl⟩))

abbrev s_far_point : Stmt := top 29
abbrev N_far_point : List Str := ["form", "base", "way", "slope", "one", "here", "far", "k"]
abbrev P_far_point : List Str := ["form", "base", "way"]
theorem sc_far_point : FnScope N_far_point P_far_point (defScope s_far_point) := ⟨rfl, rfl, rfl, by decide +kernel, rfl, by decide +kernel, by decide +kernel⟩

def F_far_point : Fs := fun args r => ∃ (f : Form) (n : Nat) (b w : Nat → Rat), args = [eFm f, eRow n b, eRow n w] ∧ FarN n f b w ∧ r = .ok (eRow n (farP f b w))
theorem df_far_point {P : Program} {w : World} {K : Fg} {mg : Str → Option Value} {base : Heap} (T : Tx K mg) (U : Dn K mg "far_point" s_far_point P_far_point) (D_plus : Df P w K mg base "plus" 2 F_plus) (D_minus : Df P w K mg base "minus" 2 F_minus) (D_times : Df P w K mg base "times" 2 F_times) (D_over : Df P w K mg base "over" 2 F_over) (D_together : Df P w K mg base "together" 3 F_together) (D_worth : Df P w K mg base "worth" 4 F_worth) : Df P w K mg base "far_point" 5 F_far_point :=
  df_of 4 U sc_far_point (fun _ _ ⟨_, _, _, _, h, _⟩ => by rw [h]; rfl) fun f cdv A outer s H E args r hr tk hp hF => by
    obtain ⟨x, n, b, way, rfl, hN, rfl⟩ := hF
    have nd := sc_far_point.nd
    have n3 := hN.n3
    obtain ⟨hl, hx⟩ := hN.ff
    have hlen : (rQ x.dropLast).length = n := by rw [List.length_map, List.length_dropLast]; omega
    have e1 : (x.dropLast.map fun v => D.tup [.int v, .int 1]) = (rQ x.dropLast).map eQ := by rw [List.map_map]; rfl
    have ec : cutD (x.map D.int) none (some (-1)) = x.dropLast.map .int := init_fm x
    have hxs : ∀ y ∈ rQ x.dropLast, SQ 12 y := fun y hy => by
      obtain ⟨v, hv, rfl⟩ := List.mem_map.mp hy
      exact int_SQ (Nat.lt_of_le_of_lt (hx v ((List.dropLast_sublist x).subset hv)) (by decide)) (by decide)
    have hys : ∀ y ∈ (List.range n).map way, SQ 207 y := fun y hy => by
      obtain ⟨j, hj, rfl⟩ := List.mem_map.mp hy
      exact hN.w j (List.mem_range.mp hj)
    have hm : n * (12 + 207 + 1) ≤ 3 * (12 + 207 + 1) := Nat.mul_le_mul_right _ n3
    have hF1 : F_together [.lst ((rQ x.dropLast).map eQ), eRow n way] (.ok (eQ (slopeT x way))) := ⟨_, (List.range n).map way, 12, 207, by rw [eRow_map], ⟨by rw [hlen, List.length_map, List.length_range]; exact Nat.le_refl _, by omega⟩, hxs, hys, by rw [hlen]; omega, by rw [slope_dot hl]⟩
    have hm2 : n * (23 + 200 + 1) ≤ 3 * (23 + 200 + 1) := Nat.mul_le_mul_right _ n3
    have hF2 : F_worth [eFm x, eRow n b] (.ok (eQ (wrT x b))) := ⟨x, n, 200, b, rfl, ⟨hl, by omega⟩, fun v hv => Nat.le_trans (hx v hv) (by decide), hN.b, by omega, rfl⟩
    have s1 := slope_SQ hN
    have s2 := here_SQ hN
    have z0 : (0 : Rat) - slopeT x way ≠ 0 := by have := hN.s; grind
    have hF3 : F_minus [.tup [.int 0, .int 1], eQ (slopeT x way)] (.ok (eQ (0 - slopeT x way))) := ⟨0, _, 1, 900, rfl, ⟨zero_SQ (by decide), s1, by omega⟩, rfl⟩
    have hF4 : F_over [eQ (wrT x b), eQ (0 - slopeT x way)] (.ok (eQ (wrT x b / (0 - slopeT x way)))) := ⟨_, _, 900, 902, rfl, ⟨s2, sub_SQ (zero_SQ (n := 1) (by decide)) s1, by omega⟩, z0, rfl⟩
    have hF5 : F_plus [eQ (wrT x b / (0 - slopeT x way)), .tup [.int 1, .int 1]] (.ok (eQ (wrT x b / (0 - slopeT x way) + 1))) := ⟨_, 1, 1802, 1, rfl, ⟨far0_SQ hN, one_SQ (by decide), by omega⟩, rfl⟩
    refine XF.rt (xss_cons (xs_set 3 nd (xv_call D_together (hr.mono (by decide)) tk (xa_cons ((xl_lc [("one", 4)] rfl nd (xi_tup (XV.is (xv_slT ((xv_var 0)).br xp_none (xp_some (xv_neg (xv_int).br))) (congrArg D.tup ec))) (blkOk_by (own := [("one", 4)]) (N := N_far_point) (sc := defScope s_far_point) (by decide +kernel)) ((lc_map (f := D.int) (g := fun v => D.tup [.int v, .int 1]) x.dropLast fun x_1 hx_1 => ⟨_, (fun _ _ _ _ _ => (xgw_name 4 nd)), (fun _ _ _ _ _ => (xv_tup (xa_cons (xv_var 4) (xa_cons xv_int xa_nil))))⟩).is e1) (by rw [List.length_map, List.length_dropLast]; omega))).v (xa_cons (xv_var 2) xa_nil)) (hF1))) ?_)
    refine xss_cons (xs_set 5 nd (xv_call D_worth (hr.mono (by decide)) tk (xa_cons (xv_var 0) (xa_cons (xv_var 1) xa_nil)) (hF2))) ?_
    refine xss_cons (xs_set 6 nd (xv_call D_plus (hr.mono (by decide)) tk (xa_cons (xv_call D_over (hr.mono (by decide)) tk (xa_cons (xv_var 5) (xa_cons (xv_call D_minus (hr.mono (by decide)) tk (xa_cons (xv_tup (xa_cons xv_int (xa_cons xv_int xa_nil))) (xa_cons (xv_var 3) xa_nil)) (hF3)) xa_nil)) (hF4)) (xa_cons (xv_tup (xa_cons xv_int (xa_cons xv_int xa_nil))) xa_nil)) (hF5))) ?_
    have tail : ∀ {ds : List Lay.It}, ds = [.fz (eFm x), .fz (eRow n b), .fz (eRow n way), .fz (eQ (slopeT x way)), .no, .fz (eQ (wrT x b)), .fz (eQ (farT x b way)), .no] → XSs (cxOf (L2.CX P w) P w K mg base N_far_point "far_point" (defScope s_far_point) f cdv A outer s H E) (fun cls d _ H => E cls d H) ((defBody s_far_point).drop 4) ds (.rt (eRow n (farP x b way))) := by
      rintro ds rfl
      have hk : ∀ k : Nat, k ∈ List.range (((((List.range n).map fun j => eQ (b j)).length : Nat) : Int).toNat) → k < n := fun k h => by rw [rng_len, Int.toNat_natCast] at h; exact List.mem_range.mp h
      have e2 : (List.range (((((List.range n).map fun j => eQ (b j)).length : Nat) : Int).toNat)).map (fun j => eQ (farP x b way j)) = (List.range n).map fun j => eQ (farP x b way j) := by rw [rng_len, Int.toNat_natCast]
      exact xss_ret ((xl_lc [("k", 7)] rfl nd (xi_range T.range (xv_len T.len ((xv_var 1)).br) (by omega) (by rw [rng_len]; omega)) (blkOk_by (own := [("k", 7)]) (N := N_far_point) (sc := defScope s_far_point) (by decide +kernel)) ((lc_map (f := fun (n : Nat) => D.int n) (g := fun j => eQ (farP x b way j)) (List.range _) fun x_1 hx_1 => ⟨_, (fun _ _ _ _ _ => (xgw_name 7 nd)), (fun _ _ _ _ _ => (xv_call D_plus (hr.mono (by decide)) takes0 (xa_cons (xv_ix ((xv_var 1)).br ((xv_var 7)).br (ix_row (hk x_1 hx_1))) (xa_cons (xv_call D_times (hr.mono (by decide)) takes0 (xa_cons (xv_var 6) (xa_cons (xv_ix ((xv_var 2)).br ((xv_var 7)).br (ix_row (hk x_1 hx_1))) xa_nil)) (⟨_, _, 1804, 207, rfl, ⟨farT_SQ hN, hN.w _ (hk x_1 hx_1), by omega⟩, rfl⟩)) xa_nil)) (⟨_, _, 200, 2011, rfl, ⟨hN.b _ (hk x_1 hx_1), mul_SQ (farT_SQ hN) (hN.w _ (hk x_1 hx_1)), by omega⟩, rfl⟩)))⟩).is e2) (by rw [rngD_F, rngF_len]; rw [rng_len]; omega))).v
    by_cases h0 : wrT x b / (0 - slopeT x way) + 1 < 0
    · have ht : decide ((wrT x b / (0 - slopeT x way) + 1).num < 0) = true := decide_eq_true (num_neg.mpr h0)
      refine xss_yes (XT.is (xt_lt ((xv_ix ((xv_var 6)).br (xv_int).br (ix_Q1 _))).br (xv_int).br) (ht)) (xss_one (xs_set (d := eQ 0) 6 nd (xv_tup (xa_cons xv_int (xa_cons xv_int xa_nil))))) (tail ?_)
      unfold farT
      rw [if_pos h0]; rfl
    · have ht : decide ((wrT x b / (0 - slopeT x way) + 1).num < 0) = false := decide_eq_false fun z => h0 (num_neg.mp z)
      refine xss_no0 (XT.is (xt_lt ((xv_ix ((xv_var 6)).br (xv_int).br (ix_Q1 _))).br (xv_int).br) (ht)) (tail ?_)
      unfold farT
      rw [if_neg h0]; rfl

abbrev s_shares_of : Stmt := top 28
abbrev N_shares_of : List Str := ["prices", "guards", "whole", "guard", "one"]
abbrev P_shares_of : List Str := ["prices", "guards"]
theorem sc_shares_of : FnScope N_shares_of P_shares_of (defScope s_shares_of) := ⟨rfl, rfl, rfl, by decide +kernel, rfl, by decide +kernel, by decide +kernel⟩

def F_shares_of : Fs := fun args r => ∃ (gs : List Form) (n : Nat), args = [eRow gs.length (prP n gs), .lst (gs.map eFm)] ∧ (n ≤ 3 ∧ gs.length ≤ 4) ∧ (∀ x ∈ gs, x.length = n + 1 ∧ SmallF 2048 x) ∧ isNone n gs ∧ r = .ok (eRow gs.length (shN n gs))
theorem df_shares_of {P : Program} {w : World} {K : Fg} {mg : Str → Option Value} {base : Heap} (T : Tx K mg) (U : Dn K mg "shares_of" s_shares_of P_shares_of) (D_over : Df P w K mg base "over" 2 F_over) (D_together : Df P w K mg base "together" 3 F_together) : Df P w K mg base "shares_of" 4 F_shares_of :=
  df_of 3 U sc_shares_of (fun _ _ ⟨_, _, h, _⟩ => by rw [h]; rfl) fun f cdv A outer s H E args r hr tk hp hF => by
    obtain ⟨gs, n, rfl, ⟨n3, g4⟩, hg, hN, rfl⟩ := hF
    have nd := sc_shares_of.nd
    have e1 : (gs.map fun g => D.tup [.int (-fA g n), .int 1]) = ((List.range gs.length).map fun i => (gP n gs i : Rat)).map eQ := by
      refine List.ext_getElem (by simp) fun i h1 h2 => ?_
      rw [List.length_map] at h1
      simp only [List.getElem_map, List.getElem_range]
      unfold gP gA
      rw [List.getD_eq_getElem?_getD, List.getElem?_eq_getElem h1]; rfl
    have hm : gs.length * (205 + 12 + 1) ≤ 4 * (205 + 12 + 1) := Nat.mul_le_mul_right _ g4
    have hF1 : F_together [eRow gs.length (prP n gs), .lst (((List.range gs.length).map fun i => (gP n gs i : Rat)).map eQ)] (.ok (eQ (wholeP n gs))) := ⟨(List.range gs.length).map (prP n gs), _, 205, 12, by rw [eRow_map], ⟨by simp, by rw [List.length_map, List.length_range]; omega⟩, fun y hy => by
      obtain ⟨j, hj, rfl⟩ := List.mem_map.mp hy
      exact prP_SQ n3 g4 hN.1 hg j, fun y hy => by
      obtain ⟨j, hj, rfl⟩ := List.mem_map.mp hy
      exact gP_SQ hg (List.mem_range.mp hj), by rw [List.length_map, List.length_range]; omega, by rw [whole_dot]⟩
    have hw := whole_pos hN
    refine XF.rt (xss_cons (xs_set 2 nd (xv_call D_together (hr.mono (by decide)) tk (xa_cons (xv_var 0) (xa_cons ((xl_lc [("guard", 3)] rfl nd (xi_list (xv_var 1)) (blkOk_by (own := [("guard", 3)]) (N := N_shares_of) (sc := defScope s_shares_of) (by decide +kernel)) ((lc_map (f := eFm) (g := fun g => D.tup [.int (-fA g n), .int 1]) gs fun x_1 hx_1 => ⟨_, (fun _ _ _ _ _ => (xgw_name 3 nd)), (fun _ _ _ _ _ => (xv_tup (xa_cons (xv_neg ((xv_ix ((xv_var 3)).br ((xv_neg (xv_int).br)).br (ix_fmL (hg x_1 hx_1).1))).br) (xa_cons xv_int xa_nil))))⟩).is e1) (by rw [List.length_map]; omega))).v xa_nil)) (hF1))) ?_)
    exact xss_ret ((xl_lc [("one", 4)] rfl nd (xi_list (xv_var 0)) (blkOk_by (own := [("one", 4)]) (N := N_shares_of) (sc := defScope s_shares_of) (by decide +kernel)) ((lc_map (f := fun j => eQ (prP n gs j)) (g := fun j => eQ (shN n gs j)) (List.range gs.length) fun x_1 hx_1 => ⟨_, (fun _ _ _ _ _ => (xgw_name 4 nd)), (fun _ _ _ _ _ => (xv_call D_over (hr.mono (by decide)) takes0 (xa_cons (xv_var 4) (xa_cons (xv_var 2) xa_nil)) (⟨_, _, 205, 900, rfl, ⟨prP_SQ n3 g4 hN.1 hg x_1, whole_SQ n3 g4 hN.1 hg, by omega⟩, by grind, rfl⟩)))⟩)) (by rw [rng_len]; omega))).v

/-! a pair settled -/
section
variable {n : Nat}
def failsD (n : Nat) (d : Duty) : Prop := ¬ isLine d.1 d.2 ∧ ¬ isNone n d.1
open Classical in
noncomputable def paperD (n : Nat) (d : Duty) : D := if isLine d.1 d.2 then .tup [.str "line", eRow d.1.length (shL d.1 d.2)] else .tup [.str "none", eRow d.1.length (shN n d.1)]
open Classical in
noncomputable def setGo (n : Nat) : Nat → List Duty → List D → D
  | _, [], acc => .tup [.str "pays", .lst acc]
  | i, d :: l, acc => if failsD n d then .tup [.str "fails", .int (i : Int), eRow n (ptM n d.1 d.2)] else setGo n (i + 1) l (acc ++ [paperD n d])
noncomputable def settD (n : Nat) (ds : List LDeed) (prices : List Int) (purse : Form) : D := setGo n 0 (dutM ds prices purse) []
theorem sdD_fails {d : Duty} (h : failsD n d) : sdD n d.1 d.2 = .tup [.str "point", eRow n (ptM n d.1 d.2)] := by unfold sdD; rw [if_neg h.1, if_neg h.2]
theorem sdD_paper {d : Duty} (h : ¬ failsD n d) : sdD n d.1 d.2 = .tup [.str "paper", paperD n d] := by
  unfold sdD paperD
  by_cases h1 : isLine d.1 d.2
  · rw [if_pos h1, if_pos h1]
  · rw [if_neg h1, if_neg h1]
    by_cases h2 : isNone n d.1
    · rw [if_pos h2]
    · exact absurd ⟨h1, h2⟩ h
theorem mem_dut {ds : List LDeed} {prices : List Int} {purse : Form} {d : Duty} (h : d ∈ dutM ds prices purse) : d = ([], purse) ∨ ∃ k, k < ds.length ∧ (d = ((dAtL ds k).1, loL (dAtL ds k) (prices.getD k 0) purse) ∨ ∃ c ∈ (dAtL ds k).2.1, d = ((dAtL ds k).1, c)) := by
  unfold dutM at h
  rcases List.mem_append.mp h with h | h
  · obtain ⟨k, hk, h⟩ := List.mem_flatMap.mp h
    unfold dutK at h
    refine .inr ⟨k, List.mem_range.mp hk, ?_⟩
    rcases List.mem_cons.mp h with h | h
    · exact .inl h
    · obtain ⟨c, hc, e⟩ := List.mem_map.mp h
      exact .inr ⟨c, hc, e.symm⟩
  · exact .inl (List.mem_singleton.mp h)
theorem SmallF.mono {a b : Nat} {x : Form} (h : SmallF a x) (l : a ≤ b) : SmallF b x := fun v hv => Nat.le_trans (h v hv) l
theorem dut_N {ds : List LDeed} {prices : List Int} {purse : Form} (hP : PairN n ds prices purse) (n3 : n ≤ 3) (hs : ∀ d ∈ dutM ds prices purse, SmallF 2048 d.2) : ∀ d ∈ dutM ds prices purse, DutN n d.1 d.2 := by
  intro d hd
  have hsd := hs d hd
  have n1 := hP.n1
  rcases mem_dut hd with rfl | ⟨k, hk, rfl | ⟨c, hc, rfl⟩⟩
  · exact ⟨n1, n3, by simp, fun x hx => absurd hx (by simp), hP.pu.1, hsd⟩
  · have hD := hP.d _ (dAtL_mem hk)
    exact ⟨n1, n3, hD.gl, fun x hx => ⟨(hD.g x hx).1, (hD.g x hx).2.mono (by decide)⟩, by rw [lo_len]; exact hP.pu.1, hsd⟩
  · have hD := hP.d _ (dAtL_mem hk)
    exact ⟨n1, n3, hD.gl, fun x hx => ⟨(hD.g x hx).1, (hD.g x hx).2.mono (by decide)⟩, (hD.c c hc).1, hsd⟩
theorem cut_row {m w : Nat} {f : Nat → D} (h : m ≤ w) : cutD ((List.range w).map f) none (some (m : Int)) = (List.range m).map f := by
  rw [cutD_to _ (by omega), Int.toNat_natCast, ← List.map_take, List.take_range, Nat.min_eq_left h]
theorem init_row {m : Nat} {f : Nat → D} : cutD ((List.range (m + 1)).map f) none (some (-1)) = (List.range m).map f := by
  rw [cutD_init, ← List.map_dropLast, List.range_succ, List.dropLast_concat]
end
def words : List Str := ["worths", "prices", "paper", "point", "line", "none", "pays", "fails"]
theorem okE_w {x : Str} (h : x ∈ words) : okE (.str x) = true := by
  have q : words.all (fun x => okE (.str x)) = true := by decide +kernel
  exact List.all_eq_true.mp q x h

abbrev s_settled_duty : Stmt := top 27
abbrev N_settled_duty : List Str := ["duty", "guards", "form", "many", "rows", "k", "row", "guard", "j", "word", "told", "one", "sort", "base"]
abbrev P_settled_duty : List Str := ["duty"]
theorem sc_settled_duty : FnScope N_settled_duty P_settled_duty (defScope s_settled_duty) := ⟨rfl, rfl, rfl, by decide +kernel, rfl, by decide +kernel, by decide +kernel⟩

def F_settled_duty : Fs := fun args r => ∃ (gs : List Form) (f : Form) (n : Nat), args = [eDuty (gs, f)] ∧ DutN n gs f ∧ r = .ok (sdD n gs f)
theorem df_settled_duty {P : Program} {w : World} {K : Fg} {mg : Str → Option Value} {base : Heap} (T : Tx K mg) (U : Dn K mg "settled_duty" s_settled_duty P_settled_duty) (D_over : Df P w K mg base "over" 2 F_over) (D_minus : Df P w K mg base "minus" 2 F_minus) (D_solved : Df P w K mg base "solved" 6 F_solved) (D_point_of : Df P w K mg base "point_of" 7 F_point_of) (D_far_point : Df P w K mg base "far_point" 5 F_far_point) (D_shares_of : Df P w K mg base "shares_of" 4 F_shares_of) : Df P w K mg base "settled_duty" 8 F_settled_duty :=
  df_of 7 U sc_settled_duty (fun _ _ ⟨_, _, _, h, _⟩ => by rw [h]; rfl) fun f cdv A outer s H E args r hr tk hp hF => by
    obtain ⟨gs, x, n, rfl, hN, rfl⟩ := hF
    have nd := sc_settled_duty.nd
    have hu := hr.units
    obtain ⟨hl, hx⟩ := hN.f
    have n1 := hN.n1
    have n3 := hN.n3
    have g4 := hN.g4
    have hg := hN.g
    have hlm : (x.map D.int).length = n + 1 := by rw [List.length_map, hl]
    have hgl : (gs.map eFm).length = gs.length := List.length_map _
    let rw_ := fun k => eRow (gs.length + x.length) fun j => (RS gs k j : Rat)
    refine XF.rt (xss_cons (xs_asg (xv_var 0) (xg_tup rfl (xgs_cons (xg_name 1 nd) (xgs_cons (xg_name 2 nd) xgs_nil)))) ?_)
    refine xss_cons (xs_set 3 nd (XV.is (d' := .int (n : Int)) (xv_sub ((xv_len T.len ((xv_var 2)).br)).br (xv_int).br) (by rw [hlm]; congr 1; omega))) ?_
    refine xss_cons (xs_own 4 nd (xl_lst xa_nil)) ?_
    refine xss_cons (ds1 := [.fz (eDuty (gs, x)), .fz (.lst (gs.map eFm)), .fz (eFm x), .fz (.int (n : Int)), .ow ((List.range x.length).map rw_), .no, .no, .no, .no, .no, .no, .no, .no, .no]) (xs_for hp rfl (xi_range T.range (xv_add ((xv_var 3)).br (xv_int).br) (by omega) (by omega)) ?_) (XSs.freeze 4 ?_)
    · rw [show ((n : Int) + 1).toNat = x.length by omega, rngD_F]
      suffices loop : ∀ (m i : Nat), i + m = x.length → Fr _ _ _ _ (rngF i m) [.fz (eDuty (gs, x)), .fz (.lst (gs.map eFm)), .fz (eFm x), .fz (.int (n : Int)), .ow ((List.range i).map rw_), .no, .no, .no, .no, .no, .no, .no, .no, .no] (.nx [.fz (eDuty (gs, x)), .fz (.lst (gs.map eFm)), .fz (eFm x), .fz (.int (n : Int)), .ow ((List.range x.length).map rw_), .no, .no, .no, .no, .no, .no, .no, .no, .no]) by
        exact loop x.length 0 (by omega)
      intro m
      induction m with
      | zero => intro i hi; obtain rfl : i = x.length := by omega
                exact .nil
      | succ m ih =>
        intro i hi
        have q := ih (i + 1) (by omega)
        have hi2 : i < x.length := by omega
        rw [List.range_succ, List.map_append] at q
        rw [rngF_succ]
        have ej : (List.range (((n : Int) + 1).toNat)).map (fun (j : Nat) => D.tup [.int (if decide ((j : Int) = (i : Int)) = true then 1 else 0), .int 1]) = (List.range x.length).map fun j => D.tup [.int (if j = i then 1 else 0), .int 1] := by
          rw [show ((n : Int) + 1).toNat = x.length by omega]
          refine rng_congr fun j hj => ?_
          by_cases e : j = i
          · rw [if_pos e, decide_eq_true (show (j : Int) = (i : Int) by omega)]; rfl
          · rw [if_neg e, decide_eq_false (show ¬ (j : Int) = (i : Int) by omega)]; rfl
        have er : (gs.map fun g => D.tup [.int (fA g i), .int 1]) ++ ((List.range x.length).map fun j => D.tup [.int (if j = i then 1 else 0), .int 1]) = (List.range (gs.length + x.length)).map fun j => eQ (RS gs i j : Rat) := rS_row
        refine .step (o' := .nx [.fz (eDuty (gs, x)), .fz (.lst (gs.map eFm)), .fz (eFm x), .fz (.int (n : Int)), .ow ((List.range i).map rw_ ++ [i].map rw_), .fz (.int (i : Int)), .fz (rw_ i), .no, .no, .no, .no, .no, .no, .no]) (xg_name 5 nd) ?_ rfl (Le.fg [5, 6] rfl) q
        have ixg : ∀ g ∈ gs, ixD (eFm g) (i : Int) = some (.int (fA g i)) := fun g h => ix_fm (by rw [(hg g h).1]; omega)
        refine xss_cons (xs_lc 6 [("guard", 7)] rfl nd (xi_list (xv_var 1)) (blkOk_by (own := [("guard", 7)]) (N := N_settled_duty) (sc := defScope s_settled_duty) (by decide +kernel)) ((lc_map (f := eFm) (g := fun g => D.tup [.int (fA g i), .int 1]) gs fun x_1 hx_1 => ⟨_, (fun _ _ _ _ _ => (xgw_name 7 nd)), (fun _ _ _ _ _ => (xv_tup (xa_cons (xv_ix ((xv_var 7)).br ((xv_var 5)).br (ixg x_1 hx_1)) (xa_cons xv_int xa_nil))))⟩)) (by rw [List.length_map]; omega)) ?_
        refine xss_cons (xs_extend 6 (xl_lc [("j", 8)] rfl nd (xi_range T.range (xv_add ((xv_var 3)).br (xv_int).br) (by omega) (by omega)) (blkOk_by (own := [("j", 8)]) (N := N_settled_duty) (sc := defScope s_settled_duty) (by decide +kernel)) ((lc_map (f := fun (n : Nat) => D.int n) (g := fun (j : Nat) => D.tup [.int (if decide ((j : Int) = (i : Int)) = true then 1 else 0), .int 1]) (List.range _) fun x_1 hx_1 => ⟨_, (fun _ _ _ _ _ => (xgw_name 8 nd)), (fun _ _ _ _ _ => (xv_tup (xa_cons (xv_int1 T.int ((xv_eqI ((xv_var 8)).br ((xv_var 5)).br)).br) (xa_cons xv_int xa_nil))))⟩).is ej) (by rw [rngD_F, rngF_len]; omega)) (by rfl) (by rw [List.length_map, rng_len]; omega)) ?_
        rw [er]
        refine XSs.freeze 6 ?_
        exact XSs.is (xss_one (xs_append 4 (xv_var 6) (by rfl) (by rw [rng_len]; omega))) rfl
    · have eg : (x.map fun v => D.tup [.int v, .int 1]) = (List.range x.length).map fun j => eQ (fA x j : Rat) := by
        refine List.ext_getElem (by simp) fun i h1 h2 => ?_
        rw [List.length_map] at h1
        simp only [List.getElem_map, List.getElem_range]
        rw [fA_get h1]; rfl
      have hF1 : F_solved [.lst ((List.range x.length).map rw_), .lst ((List.range x.length).map fun j => eQ (fA x j : Rat))] (.ok (solD (gs.length + x.length) x.length (fA x) (uS gs x))) := ⟨_, _, RS gs, fA x, uS gs x, rfl, smallS_RS hN, endT_ok _ _ _ _, rfl⟩
      by_cases hL : isLine gs x
      · rw [show sdD n gs x = .tup [.str "paper", .tup [.str "line", eRow gs.length (shL gs x)]] by unfold sdD; rw [if_pos hL]]
        have e1 : solD (gs.length + x.length) x.length (fA x) (uS gs x) = .tup [.str "worths", eRow (gs.length + x.length) (shL gs x)] := by unfold solD; rw [if_pos (show (uS gs x).c (gs.length + x.length + x.length) = 0 from hL)]; rfl
        refine xss_cons (xs_asg (XV.is (xv_call D_solved (hr.mono (by decide)) tk (xa_cons (xv_var 4) (xa_cons ((xl_lc [("one", 11)] rfl nd (xi_tup (xv_var 2)) (blkOk_by (own := [("one", 11)]) (N := N_settled_duty) (sc := defScope s_settled_duty) (by decide +kernel)) ((lc_map (f := D.int) (g := fun v => D.tup [.int v, .int 1]) x fun x_1 hx_1 => ⟨_, (fun _ _ _ _ _ => (xgw_name 11 nd)), (fun _ _ _ _ _ => (xv_tup (xa_cons (xv_var 11) (xa_cons xv_int xa_nil))))⟩).is eg) (by rw [List.length_map]; omega))).v xa_nil)) (hF1)) e1) (xg_tup rfl (xgs_cons (xg_name 9 nd) (xgs_cons (xg_name 10 nd) xgs_nil)))) ?_
        have el : cutD ((List.range (gs.length + x.length)).map fun j => eQ (shL gs x j)) none (some (((gs.map eFm).length : Nat) : Int)) = (List.range gs.length).map fun j => eQ (shL gs x j) := by rw [hgl]; exact cut_row (by omega)
        exact xss_yesS (XT.is (xt_eq hu ((xv_var 9)).br (xv_str).br (okE_w (by decide)) (okE_w (by decide))) (by decide +kernel)) (xss_ret (xv_tup (xa_cons xv_str (xa_cons (xv_tup (xa_cons xv_str (xa_cons ((XL.is (xl_sl ((xv_var 10)).br xp_none (xp_some (xv_len T.len ((xv_var 1)).br))) (el))).v xa_nil))) xa_nil))))
      · have e1 : solD (gs.length + x.length) x.length (fA x) (uS gs x) = .tup [.str "prices", eRow (n + 1) (told gs x)] := by unfold solD; rw [if_neg (show ¬ (uS gs x).c (gs.length + x.length + x.length) = 0 from hL)]; unfold told; rw [hl]
        refine xss_cons (xs_asg (XV.is (xv_call D_solved (hr.mono (by decide)) tk (xa_cons (xv_var 4) (xa_cons ((xl_lc [("one", 11)] rfl nd (xi_tup (xv_var 2)) (blkOk_by (own := [("one", 11)]) (N := N_settled_duty) (sc := defScope s_settled_duty) (by decide +kernel)) ((lc_map (f := D.int) (g := fun v => D.tup [.int v, .int 1]) x fun x_1 hx_1 => ⟨_, (fun _ _ _ _ _ => (xgw_name 11 nd)), (fun _ _ _ _ _ => (xv_tup (xa_cons (xv_var 11) (xa_cons xv_int xa_nil))))⟩).is eg) (by rw [List.length_map]; omega))).v xa_nil)) (hF1)) e1) (xg_tup rfl (xgs_cons (xg_name 9 nd) (xgs_cons (xg_name 10 nd) xgs_nil)))) ?_
        refine xss_no0 (XT.is (xt_eq hu ((xv_var 9)).br (xv_str).br (okE_w (by decide)) (okE_w (by decide))) (by decide +kernel)) ?_
        have hF2 : F_point_of [.lst (gs.map eFm), .int (n : Int)] (.ok (poD n gs)) := ⟨gs, n, rfl, ⟨n1, n3, g4⟩, hg, rfl⟩
        by_cases hNo : isNone n gs
        · rw [show sdD n gs x = .tup [.str "paper", .tup [.str "none", eRow gs.length (shN n gs)]] by unfold sdD; rw [if_neg hL, if_pos hNo]]
          refine xss_cons (xs_asg (XV.is (xv_call D_point_of (hr.mono (by decide)) tk (xa_cons (xv_var 1) (xa_cons (xv_var 3) xa_nil)) (hF2)) (poD_none hNo)) (xg_tup rfl (xgs_cons (xg_name 12 nd) (xgs_cons (xg_name 13 nd) xgs_nil)))) ?_
          exact xss_yesS (XT.is (xt_eq hu ((xv_var 12)).br (xv_str).br (okE_w (by decide)) (okE_w (by decide))) (by decide +kernel)) (xss_ret (xv_tup (xa_cons xv_str (xa_cons (xv_tup (xa_cons xv_str (xa_cons (xv_call D_shares_of (hr.mono (by decide)) tk (xa_cons (xv_var 13) (xa_cons (xv_var 1) xa_nil)) (⟨gs, n, rfl, ⟨n3, g4⟩, hg, hNo, rfl⟩)) xa_nil))) xa_nil))))
        · rw [show sdD n gs x = .tup [.str "point", eRow n (ptM n gs x)] by unfold sdD; rw [if_neg hL, if_neg hNo]]
          obtain ⟨w', hw1, hw2, hpo⟩ := poD_base hNo
          refine xss_cons (xs_asg (XV.is (xv_call D_point_of (hr.mono (by decide)) tk (xa_cons (xv_var 1) (xa_cons (xv_var 3) xa_nil)) (hF2)) hpo) (xg_tup rfl (xgs_cons (xg_name 12 nd) (xgs_cons (xg_name 13 nd) xgs_nil)))) ?_
          refine xss_no0 (XT.is (xt_eq hu ((xv_var 12)).br (xv_str).br (okE_w (by decide)) (okE_w (by decide))) (by decide +kernel)) ?_
          have hlast : ixD (eRow (n + 1) (told gs x)) (-1) = some (eQ (told gs x n)) := ix_rowL
          have ei : cutD ((List.range (n + 1)).map fun j => eQ (told gs x j)) none (some (-1)) = (List.range n).map fun j => eQ (told gs x j) := init_row
          by_cases h0 : told gs x n = 0
          · have ht : (!decide ((told gs x n).num = 0)) = false := by rw [decide_eq_true (Rat.num_eq_zero.mpr h0)]; rfl
            refine xss_no0 (XT.is (xt_neI ((xv_ix ((xv_ix ((xv_var 10)).br ((xv_neg (xv_int).br)).br (hlast))).br (xv_int).br (ix_Q1 _))).br (xv_int).br) (ht)) ?_
            have eb : cutD ((List.range w').map fun j => eQ (baseP n gs j)) none (some (n : Int)) = (List.range n).map fun j => eQ (baseP n gs j) := cut_row hw1
            have ep : eRow n (farP x (baseP n gs) fun j => 0 - told gs x j) = eRow n (ptM n gs x) := eRow_congr fun j _ => by unfold ptM; rw [if_pos h0]
            have hF3 : F_far_point [eFm x, .lst ((List.range n).map fun j => eQ (baseP n gs j)), .lst ((List.range n).map fun j => eQ (0 - told gs x j))] (.ok (eRow n (ptM n gs x))) := ⟨x, n, baseP n gs, fun j => 0 - told gs x j, rfl, pt_far hN hL h0, by rw [ep]⟩
            exact xss_ret (xv_tup (xa_cons xv_str (xa_cons (xv_call D_far_point (hr.mono (by decide)) tk (xa_cons (xv_var 2) (xa_cons ((XL.is (xl_sl ((xv_var 13)).br xp_none (xp_some (xv_var 3))) (eb))).v (xa_cons ((xl_lc [("one", 11)] rfl nd (xi_list ((XL.is (xl_sl ((xv_var 10)).br xp_none (xp_some (xv_neg (xv_int).br))) (ei))).v) (blkOk_by (own := [("one", 11)]) (N := N_settled_duty) (sc := defScope s_settled_duty) (by decide +kernel)) ((lc_map (f := fun j => eQ (told gs x j)) (g := fun j => eQ (0 - told gs x j)) (List.range n) fun x_1 hx_1 => ⟨_, (fun _ _ _ _ _ => (xgw_name 11 nd)), (fun _ _ _ _ _ => (xv_call D_minus (hr.mono (by decide)) takes0 (xa_cons (xv_tup (xa_cons xv_int (xa_cons xv_int xa_nil))) (xa_cons (xv_var 11) xa_nil)) (⟨0, _, 1, 205, rfl, ⟨zero_SQ (by decide), told_SQ hN x_1, by omega⟩, rfl⟩)))⟩)) (by rw [rng_len]; omega))).v xa_nil))) (hF3)) xa_nil)))
          · have ht : (!decide ((told gs x n).num = 0)) = true := by rw [decide_eq_false fun z => h0 (Rat.num_eq_zero.mp z)]; rfl
            have ep : (List.range n).map (fun j => eQ (told gs x j / told gs x n)) = (List.range n).map fun j => eQ (ptM n gs x j) := rng_congr fun j _ => by unfold ptM; rw [if_neg h0]
            exact xss_yesS (XT.is (xt_neI ((xv_ix ((xv_ix ((xv_var 10)).br ((xv_neg (xv_int).br)).br (hlast))).br (xv_int).br (ix_Q1 _))).br (xv_int).br) (ht)) (xss_ret (xv_tup (xa_cons xv_str (xa_cons ((xl_lc [("one", 11)] rfl nd (xi_list ((XL.is (xl_sl ((xv_var 10)).br xp_none (xp_some (xv_neg (xv_int).br))) (ei))).v) (blkOk_by (own := [("one", 11)]) (N := N_settled_duty) (sc := defScope s_settled_duty) (by decide +kernel)) ((lc_map (f := fun j => eQ (told gs x j)) (g := fun j => eQ (told gs x j / told gs x n)) (List.range n) fun x_1 hx_1 => ⟨_, (fun _ _ _ _ _ => (xgw_name 11 nd)), (fun _ _ _ _ _ => (xv_call D_over (hr.mono (by decide)) takes0 (xa_cons (xv_var 11) (xa_cons (xv_ix ((xv_var 10)).br ((xv_neg (xv_int).br)).br (hlast)) xa_nil)) (⟨_, _, 205, 205, rfl, ⟨told_SQ hN x_1, told_SQ hN n, by omega⟩, h0, rfl⟩)))⟩).is ep) (by rw [rng_len]; omega))).v xa_nil))))

abbrev s_settled : Stmt := top 30
abbrev N_settled : List Str := ["lines", "prices", "purse", "papers", "some", "k", "word", "thing"]
abbrev P_settled : List Str := ["lines", "prices", "purse"]
theorem sc_settled : FnScope N_settled P_settled (defScope s_settled) := ⟨rfl, rfl, rfl, by decide +kernel, rfl, by decide +kernel, by decide +kernel⟩

/-- what a pair must be to be settled here -/
def SetOk (many : Int) (ds : List LDeed) (prices : List Int) (purse : Form) : Prop := ∀ n : Nat, many = n → PairN n ds prices purse → n ≤ 3 ∧ ∀ d ∈ dutM ds prices purse, SmallF 2048 d.2
def F_settled (cF : Addr) : Fs := fun args r => ∃ (many : Int) (ds : List LDeed) (prices : List Int) (purse : Form), args = [eLn many ds, .lst (prices.map .int), eFm purse] ∧ (ShortLn ds ∧ prices.length ≤ 1000 ∧ ShortF purse) ∧ SetOk many ds prices purse ∧ r = if okPair many ds prices purse then .ok (settD many.toNat ds prices purse) else .er cF
theorem df_settled {P : Program} {w : World} {K : Fg} {mg : Str → Option Value} {base : Heap} {cF : Addr} (T : Tx K mg) (U : Dn K mg "settled" s_settled P_settled) (D_look_pair : Df P w K mg base "look_pair" 3 (F_look_pair cF)) (D_duties : Df P w K mg base "duties" 3 F_duties) (D_settled_duty : Df P w K mg base "settled_duty" 8 F_settled_duty) : Df P w K mg base "settled" 9 (F_settled cF) :=
  df_of 8 U sc_settled (fun _ _ ⟨_, _, _, _, h, _⟩ => by rw [h]; rfl) fun f cdv A outer s H E args r hr tk hp hF => by
    obtain ⟨many, ds, prices, purse, rfl, hsh, hok, rfl⟩ := hF
    have nd := sc_settled.nd
    have hu := hr.units
    cases hg : okPair many ds prices purse with
    | false =>
      rw [if_neg Bool.false_ne_true]
      exact XF.er (xss_stop (xs_exprR (xr_call D_look_pair (hr.mono (by decide)) tk (xa_cons (xv_var 0) (xa_cons (xv_var 1) (xa_cons (xv_var 2) xa_nil))) ⟨many, ds, prices, purse, rfl, hsh, by rw [hg]; rfl⟩))).er
    | true =>
      rw [if_pos rfl]
      obtain ⟨n, rfl, hP⟩ := okPair_n hg
      obtain ⟨n3, hs⟩ := hok n rfl hP
      rw [Int.toNat_natCast]
      have hN := dut_N hP n3 hs
      have hd8 := hP.d8
      generalize hL : dutM ds prices purse = L at *
      have hlen : L.length ≤ 50 := by
        rw [← hL]
        unfold dutM
        rw [List.length_append]
        have key : ∀ i, i ≤ ds.length → ((List.range i).flatMap (dutK ds prices purse)).length ≤ 5 * i := fun i => by
          induction i with
          | zero => intro _; simp
          | succ i ih =>
            intro hi
            have := ih (by omega)
            have := (hP.d _ (dAtL_mem (show i < ds.length by omega))).cl
            have : (dutK ds prices purse i).length ≤ 5 := by unfold dutK; rw [List.length_cons, List.length_map]; omega
            rw [List.range_succ, List.flatMap_append, List.length_append]
            simp only [List.flatMap_cons, List.flatMap_nil, List.append_nil]
            omega
        have := key ds.length (Nat.le_refl _)
        rw [List.length_singleton]; omega
      have hll : (L.map eDuty).length = L.length := List.length_map _
      refine XF.rt (xss_cons (xs_expr (xv_call D_look_pair (hr.mono (by decide)) tk (xa_cons (xv_var 0) (xa_cons (xv_var 1) (xa_cons (xv_var 2) xa_nil))) (⟨n, ds, prices, purse, rfl, hsh, by rw [hg]; rfl⟩))) ?_)
      refine xss_cons (xs_own 3 nd (xl_lst xa_nil)) ?_
      refine xss_cons (xs_set 4 nd (xv_call D_duties (hr.mono (by decide)) tk (xa_cons (xv_var 0) (xa_cons (xv_var 1) (xa_cons (xv_var 2) xa_nil))) (⟨n, ds, prices, purse, rfl, hP, by rw [hL]⟩))) ?_
      have fin : settD n ds prices purse = setGo n 0 L [] := by unfold settD; rw [hL]
      rw [fin]
      suffices loop : ∀ (m i : Nat) (acc : List D), i + m = L.length → acc.length = i → ∃ o, Fr (cxOf (L2.CX P w) P w K mg base N_settled "settled" (defScope s_settled) f cdv A outer s H E) (fun cls d _ H => E cls d H) _ _ (rngF i m) [.fz (eLn (n : Int) ds), .fz (.lst (prices.map .int)), .fz (eFm purse), .ow acc, .fz (.lst (L.map eDuty)), .no, .no, .no] o ∧
          ((∃ acc', acc'.length ≤ 50 ∧ setGo n i (L.drop i) acc = .tup [.str "pays", .lst acc'] ∧ o = .nx [.fz (eLn (n : Int) ds), .fz (.lst (prices.map .int)), .fz (eFm purse), .ow acc', .fz (.lst (L.map eDuty)), .no, .no, .no]) ∨ o = .rt (setGo n i (L.drop i) acc)) by
        obtain ⟨o, fr, ho⟩ := loop L.length 0 [] (by omega) rfl
        rw [List.drop_zero] at ho
        refine xss_then (o1 := o) (xs_for hp rfl (xi_range T.range (xv_len T.len ((xv_var 4)).br) (by omega) (by rw [hll]; omega)) ?_) ?_ ?_
        · rw [hll, Int.toNat_natCast, rngD_F]; exact fr
        · rintro d1 h
          rcases ho with ⟨acc', _, e, rfl⟩ | rfl
          · cases h
            rw [e]
            exact XSs.freeze 3 (xss_ret (xv_tup (xa_cons xv_str (xa_cons (xv_var 3) xa_nil))))
          · cases h
        · intro h
          rcases ho with ⟨acc', _, e, rfl⟩ | rfl
          · cases h
          · rfl
      intro m
      induction m with
      | zero =>
        intro i acc hi ha
        obtain rfl : i = L.length := by omega
        rw [List.drop_length]
        exact ⟨_, .nil, .inl ⟨acc, by omega, by rw [setGo], rfl⟩⟩
      | succ m ih =>
        intro i acc hi ha
        have hi2 : i < L.length := by omega
        have ixd : ixD (.lst (L.map eDuty)) (i : Int) = some (eDuty L[i]) := ix_map (by rw [atI_ge (by omega) (by omega)]; simp)
        have hNd := hN L[i] (List.getElem_mem hi2)
        have ed : eDuty L[i] = eDuty (L[i].1, L[i].2) := rfl
        rw [List.drop_eq_getElem_cons hi2, rngF_succ]
        have hF1 : F_settled_duty [eDuty L[i]] (.ok (sdD n L[i].1 L[i].2)) := ⟨L[i].1, L[i].2, n, rfl, hNd, rfl⟩
        by_cases hf : failsD n L[i]
        · rw [show setGo n i (L[i] :: L.drop (i + 1)) acc = .tup [.str "fails", .int (i : Int), eRow n (ptM n L[i].1 L[i].2)] by rw [setGo, if_pos hf]]
          refine ⟨.rt (.tup [.str "fails", .int (i : Int), eRow n (ptM n L[i].1 L[i].2)]), ?_, .inr rfl⟩
          refine .out (o := .rt (.tup [.str "fails", .int (i : Int), eRow n (ptM n L[i].1 L[i].2)])) (xg_name 5 nd) (xss_cons (xs_asg (XV.is (xv_call D_settled_duty (hr.mono (by decide)) tk (xa_cons (xv_ix ((xv_var 4)).br ((xv_var 5)).br (ixd)) xa_nil) (hF1)) (sdD_fails hf)) (xg_tup rfl (xgs_cons (xg_name 6 nd) (xgs_cons (xg_name 7 nd) xgs_nil)))) (xss_yesS (XT.is (xt_eq hu ((xv_var 6)).br (xv_str).br (okE_w (by decide)) (okE_w (by decide))) (by decide +kernel)) (xss_ret (xv_tup (xa_cons xv_str (xa_cons (xv_var 5) (xa_cons (xv_var 7) xa_nil))))))) rfl
        · rw [show setGo n i (L[i] :: L.drop (i + 1)) acc = setGo n (i + 1) (L.drop (i + 1)) (acc ++ [paperD n L[i]]) by rw [setGo, if_neg hf]]
          obtain ⟨o, fr, ho⟩ := ih (i + 1) (acc ++ [paperD n L[i]]) (by omega) (by rw [List.length_append, List.length_singleton]; omega)
          refine ⟨o, ?_, ho⟩
          exact .step (xg_name 5 nd) (xss_cons (xs_asg (XV.is (xv_call D_settled_duty (hr.mono (by decide)) tk (xa_cons (xv_ix ((xv_var 4)).br ((xv_var 5)).br (ixd)) xa_nil) (hF1)) (sdD_paper hf)) (xg_tup rfl (xgs_cons (xg_name 6 nd) (xgs_cons (xg_name 7 nd) xgs_nil)))) (xss_no0 (XT.is (xt_eq hu ((xv_var 6)).br (xv_str).br (okE_w (by decide)) (okE_w (by decide))) (by decide +kernel)) (xss_one (xs_append 3 (xv_var 7) (by rfl) (by omega))))) rfl (Le.fg [5, 6, 7] rfl) fr

/-! papers shown; points at which a duty fails -/
abbrev Paper := Bool × List Rat
def wordP (b : Bool) : Str := if b then "line" else "none"
def ePaper (p : Paper) : D := .tup [.str (wordP p.1), .lst (p.2.map eQ)]
def goalM (b : Bool) (f : Form) (k : Nat) : Int := if b then fA f k else if k + 1 = f.length then -1 else 0
def lhsM (gs : List Form) (sh : List Rat) (k : Nat) : Rat := sumR gs.length fun i => sh.getD i 0 * (fA (gA gs i) k : Rat)
def shDuty (d : Duty) (p : Paper) : Bool := (decide (p.2.length = d.1.length) && p.2.all fun x => decide (0 ≤ x)) && (List.range d.2.length).all fun k => decide (lhsM d.1 p.2 k ≤ (goalM p.1 d.2 k : Rat))
def shAll (L : List Duty) (ps : List Paper) : Bool := decide (ps.length = L.length) && (List.range L.length).all fun k => shDuty (L.getD k ([], [])) (ps.getD k (true, []))
def ptQ (pt : List Rat) (j : Nat) : Rat := pt.getD j 0
def failsM (n : Nat) (L : List Duty) (number : Int) (pt : List Rat) : Bool := (decide (0 ≤ number) && decide (number < (L.length : Int))) && (decide (pt.length = n) && pt.all fun x => decide (0 ≤ x)) &&
  (decide (wrT (L.getD number.toNat ([], [])).2 (ptQ pt) < 0) && (L.getD number.toNat ([], [])).1.all fun g => decide (0 ≤ wrT g (ptQ pt)))
theorem wordP_ok (b : Bool) : okE (.str (wordP b)) = true := by cases b <;> exact okE_w (by decide)
theorem any_low {xs : List Rat} : (xs.map fun x => D.bl (decide (x.num < 0))) = (xs.map fun x => decide (x < 0)).map D.bl := by
  rw [List.map_map]
  exact List.map_congr_left fun x _ => by show D.bl _ = D.bl _; congr 1; exact decide_eq_decide.mpr num_neg
theorem any_all (xs : List Rat) : (xs.map fun x => decide (x < 0)).any id = !(xs.all fun x => decide (0 ≤ x)) := by
  induction xs with
  | nil => rfl
  | cons x xs ih =>
    rw [List.map_cons, List.any_cons, List.all_cons, ih, Bool.not_and]
    congr 1
    show decide (x < 0) = !decide (0 ≤ x)
    rw [← decide_not]
    exact decide_eq_decide.mpr (by grind)
theorem lhs_dot {gs : List Form} {sh : List Rat} {k : Nat} (h : sh.length = gs.length) : dotQ sh (gs.map fun g => (fA g k : Rat)) = lhsM gs sh k := by
  rw [dot_sum (by rw [List.length_map]; omega), h]
  refine sumR_congr fun i hi => ?_
  congr 1
  unfold gA
  rw [List.getD_eq_getElem?_getD, List.getElem?_map, List.getD_eq_getElem?_getD, List.getElem?_eq_getElem hi]; rfl
theorem rep_last {n : Nat} {f : Form} (h : f.length = n + 1) : (List.replicate ((n : Int).toNat) [D.int 0]).flatten ++ [D.int (-1)] = (List.range (n + 1)).map fun k => D.int (goalM false f k) := by
  rw [List.range_succ, List.map_append, Int.toNat_natCast]
  congr 1
  · have e : (List.range n).map (fun k => D.int (goalM false f k)) = (List.range n).map fun _ => D.int 0 := rng_congr fun k hk => by
      unfold goalM; rw [if_neg (by decide), if_neg (by omega)]
    rw [e]
    clear e h
    induction n with
    | zero => rfl
    | succ n ih => rw [List.range_succ, List.map_append, ← ih, List.replicate_succ']; simp
  · show _ = [D.int (goalM false f n)]
    unfold goalM; rw [if_neg (by decide), if_pos h.symm]
theorem neg_sub {a b : Rat} : decide ((a - b).num < 0) = !decide (b ≤ a) := by
  rw [← decide_not]
  exact decide_eq_decide.mpr (by rw [num_neg]; grind)
theorem ptQ_row {pt : List Rat} {n : Nat} (h : pt.length = n) : (D.lst (pt.map eQ)) = eRow n (ptQ pt) := by
  unfold eRow
  congr 1
  refine List.ext_getElem (by simp [h]) fun i h1 h2 => ?_
  rw [List.length_map] at h1
  simp only [List.getElem_map, List.getElem_range]
  unfold ptQ
  rw [List.getD_eq_getElem?_getD, List.getElem?_eq_getElem h1]; rfl
theorem word_l : eqD (.str (wordP true)) (.str "line") = true := by decide +kernel
theorem word_n : eqD (.str (wordP false)) (.str "line") = false := by decide +kernel
/-- a duty that can be looked at -/
structure DutW (n : Nat) (d : Duty) : Prop where
  f : d.2.length = n + 1 ∧ SmallF 8000000 d.2
  g4 : d.1.length ≤ 4
  g : ∀ x ∈ d.1, x.length = n + 1 ∧ SmallF 8000000 x
theorem lo_bd {n : Nat} {d : LDeed} {price : Int} {f : Form} (hd : LdN n d) (n4 : n ≤ 4) (hf : SmallF 1000 f) (hp : price.natAbs ≤ 1000) : SmallF 4004000 (loL d price f) := by
  intro v hv
  unfold loL at hv
  obtain ⟨j, hj, rfl⟩ := List.mem_map.mp hv
  have h1 := hf.at j
  have h2 := hd.k.2.at j
  have h3 := bh_bd (j := j) hf (fun c hc => (hd.c c hc).2) (by have := hd.cl; omega)
  unfold loM
  split <;> omega
theorem dut_W {n : Nat} {ds : List LDeed} {prices : List Int} {purse : Form} (hP : PairN n ds prices purse) : ∀ d ∈ dutM ds prices purse, DutW n d := by
  intro d hd
  rcases mem_dut hd with rfl | ⟨k, hk, rfl | ⟨c, hc, rfl⟩⟩
  · exact ⟨⟨hP.pu.1, hP.pu.2.mono (by decide)⟩, by simp, fun x hx => absurd hx (by simp)⟩
  · have hD := hP.d _ (dAtL_mem hk)
    have hpb : (prices.getD k 0).natAbs ≤ 1000 := by
      have := hP.p
      rw [List.getD_eq_getElem?_getD, List.getElem?_eq_getElem (by omega)]
      exact hP.pb _ (List.getElem_mem _)
    exact ⟨⟨by rw [lo_len]; exact hP.pu.1, (lo_bd hD hP.n4 hP.pu.2 hpb).mono (by decide)⟩, hD.gl, fun x hx => ⟨(hD.g x hx).1, (hD.g x hx).2.mono (by decide)⟩⟩
  · have hD := hP.d _ (dAtL_mem hk)
    exact ⟨⟨(hD.c c hc).1, (hD.c c hc).2.mono (by decide)⟩, hD.gl, fun x hx => ⟨(hD.g x hx).1, (hD.g x hx).2.mono (by decide)⟩⟩
theorem dut_few {n : Nat} {ds : List LDeed} {prices : List Int} {purse : Form} (hP : PairN n ds prices purse) : (dutM ds prices purse).length ≤ 41 := by
  have hd8 := hP.d8
  unfold dutM
  rw [List.length_append]
  have key : ∀ i, i ≤ ds.length → ((List.range i).flatMap (dutK ds prices purse)).length ≤ 5 * i := fun i => by
    induction i with
    | zero => intro _; simp
    | succ i ih =>
      intro hi
      have := ih (by omega)
      have := (hP.d _ (dAtL_mem (show i < ds.length by omega))).cl
      have := hP.n4
      have : (dutK ds prices purse i).length ≤ 5 := by unfold dutK; rw [List.length_cons, List.length_map]; omega
      rw [List.range_succ, List.flatMap_append, List.length_append]
      simp only [List.flatMap_cons, List.flatMap_nil, List.append_nil]
      omega
  have := key ds.length (Nat.le_refl _)
  rw [List.length_singleton]; omega
theorem ix_dut {L : List Duty} {k : Nat} (h : k < L.length) : ixD (.lst (L.map eDuty)) (k : Int) = some (eDuty (L.getD k ([], []))) := ix_map (by
  rw [atI_ge (by omega) (by omega), List.getD_eq_getElem?_getD, List.getElem?_eq_getElem h]
  simp)
theorem ix_pap {L : List Paper} {k : Nat} (h : k < L.length) : ixD (.lst (L.map ePaper)) (k : Int) = some (ePaper (L.getD k (true, []))) := ix_map (by
  rw [atI_ge (by omega) (by omega), List.getD_eq_getElem?_getD, List.getElem?_eq_getElem h]
  simp)
theorem getD_mem {α : Type} {L : List α} {k : Nat} {d : α} (h : k < L.length) : L.getD k d ∈ L := by
  rw [List.getD_eq_getElem?_getD, List.getElem?_eq_getElem h]; exact List.getElem_mem h
theorem keep_all (p : Nat → Rat) : ∀ gs : List Form, (!((gs.map fun g => decide (wrT g p < 0)).any id)) = gs.all fun g => decide (0 ≤ wrT g p)
  | [] => rfl
  | g :: gs => by
    rw [List.map_cons, List.any_cons, List.all_cons, Bool.not_or, keep_all p gs]
    congr 1
    show (!decide (wrT g p < 0)) = decide (0 ≤ wrT g p)
    rw [← decide_not]
    exact decide_eq_decide.mpr (by grind)

abbrev s_shows_duty : Stmt := top 25
abbrev N_shows_duty : List Str := ["duty", "paper", "guards", "form", "word", "shares", "one", "goal", "k", "whole", "guard"]
abbrev P_shows_duty : List Str := ["duty", "paper"]
theorem sc_shows_duty : FnScope N_shows_duty P_shows_duty (defScope s_shows_duty) := ⟨rfl, rfl, rfl, by decide +kernel, rfl, by decide +kernel, by decide +kernel⟩

def F_shows_duty : Fs := fun args r => ∃ (gs : List Form) (f : Form) (n : Nat) (b : Bool) (sh : List Rat), args = [eDuty (gs, f), ePaper (b, sh)] ∧ ((1 ≤ n ∧ n ≤ 4) ∧ f.length = n + 1 ∧ gs.length ≤ 4) ∧ (∀ x ∈ gs, x.length = n + 1 ∧ SmallF 8000000 x) ∧ SmallF 8000000 f ∧ (sh.length ≤ 1000 ∧ ∀ x ∈ sh, SQ 1105 x) ∧ r = .ok (.bl (shDuty (gs, f) (b, sh)))
theorem df_shows_duty {P : Program} {w : World} {K : Fg} {mg : Str → Option Value} {base : Heap} (T : Tx K mg) (U : Dn K mg "shows_duty" s_shows_duty P_shows_duty) (D_minus : Df P w K mg base "minus" 2 F_minus) (D_together : Df P w K mg base "together" 3 F_together) : Df P w K mg base "shows_duty" 4 F_shows_duty :=
  df_of 3 U sc_shows_duty (fun _ _ ⟨_, _, _, _, _, h, _⟩ => by rw [h]; rfl) fun f cdv A outer s H E args r hr tk hp hF => by
    obtain ⟨gs, x, n, b, sh, rfl, ⟨⟨n1, n4⟩, hl, g4⟩, hg, hx, ⟨hsl, hsq⟩, rfl⟩ := hF
    have nd := sc_shows_duty.nd
    have hu := hr.units
    have hlm : (x.map D.int).length = n + 1 := by rw [List.length_map, hl]
    have hgl : (gs.map eFm).length = gs.length := List.length_map _
    have hshl : (sh.map eQ).length = sh.length := List.length_map _
    refine XF.rt (xss_cons (xs_asg (xv_var 0) (xg_tup rfl (xgs_cons (xg_name 2 nd) (xgs_cons (xg_name 3 nd) xgs_nil)))) (xss_cons (xs_asg (xv_var 1) (xg_tup rfl (xgs_cons (xg_name 4 nd) (xgs_cons (xg_name 5 nd) xgs_nil)))) ?_))
    unfold shDuty
    refine xss_if (XT.is ((xw_or (xt_neI ((xv_len T.len ((xv_var 5)).br)).br ((xv_len T.len ((xv_var 2)).br)).br) (fun hk => (xw_and1 (xt_val (xv_any rfl T.any ((xl_lc [("one", 6)] rfl nd (xi_list (xv_var 5)) (blkOk_by (own := [("one", 6)]) (N := N_shows_duty) (sc := defScope s_shows_duty) (by decide +kernel)) (lc_map (f := eQ) (g := fun x => D.bl (decide (x.num < 0))) sh fun x_1 hx_1 => ⟨_, (fun _ _ _ _ _ => (xgw_name 6 nd)), (fun _ _ _ _ _ => (xv_lt ((xv_ix ((xv_var 6)).br (xv_int).br (ix_Q1 _))).br (xv_int).br))⟩) (by rw [hshl]; omega))).br (congrArg D.lst any_low))))))).t (show _ = !(decide (sh.length = gs.length) && sh.all fun x => decide (0 ≤ x)) by
      rw [hshl, hgl, any_all, Bool.not_and, show decide ((sh.length : Int) = (gs.length : Int)) = decide (sh.length = gs.length) from decide_eq_decide.mpr (by omega)])) (fun hk ht => ?_) fun hk ht => ?_
    · rw [show (decide (sh.length = gs.length) && sh.all fun x => decide (0 ≤ x)) = false from nbF hk, Bool.false_and]
      exact xss_yesS ht (xss_ret xv_bl)
    · have hk2 := nbT hk
      rw [hk2, Bool.true_and]
      rw [Bool.and_eq_true, decide_eq_true_eq] at hk2
      have hle := hk2.1
      refine xss_no0 ht ?_
      refine xss_cons (ds1 := [.fz (eDuty (gs, x)), .fz (ePaper (b, sh)), .fz (.lst (gs.map eFm)), .fz (eFm x), .fz (.str (wordP b)), .fz (.lst (sh.map eQ)), .no, .fz (.tup ((List.range (n + 1)).map fun k => .int (goalM b x k))), .no, .no, .no]) ?_ ?_
      · cases b with
        | true =>
          refine xs_set 7 nd (xv_ifY (XT.is (xt_eq hu ((xv_var 4)).br (xv_str).br (wordP_ok true) (okE_w (by decide))) (word_l)) (XV.is (xv_var 3) ?_))
          rw [eFm_rng, hl]
          rfl
        | false =>
          refine xs_set 7 nd (xv_ifN (XT.is (xt_eq hu ((xv_var 4)).br (xv_str).br (wordP_ok false) (okE_w (by decide))) (word_n)) (XV.is (xv_catT ((xv_repT ((xv_tup (xa_cons xv_int xa_nil))).br ((XV.is (xv_sub ((xv_len T.len ((xv_var 3)).br)).br (xv_int).br) (show _ = D.int (n : Int) by rw [hlm]; congr 1; omega))).br (List.cons_ne_nil _ _) (by omega) (by omega) (Nat.le_of_ble_eq_true rfl))).br ((xv_tup (xa_cons (xv_neg (xv_int).br) xa_nil))).br (by obtain ⟨m, rfl⟩ : ∃ m, n = m + 1 := ⟨n - 1, by omega⟩; simp [List.replicate_succ]) (by simp; omega)) (congrArg D.tup (rep_last hl))))
      · have ixg : ∀ k, k < n + 1 → ixD (.tup ((List.range (n + 1)).map fun k => D.int (goalM b x k))) (k : Int) = some (.int (goalM b x k)) := fun k h => ix_rngD h
        have gq : ∀ k, SQ 23 (goalM b x k : Rat) := fun k => by
          refine int_SQ ?_ (by decide)
          unfold goalM
          have := hx.at k
          split
          · exact Nat.lt_of_le_of_lt this (by decide)
          · split <;> decide
        have hF1 : ∀ k, F_together [.lst (sh.map eQ), .lst ((gs.map fun g => (fA g k : Rat)).map eQ)] (.ok (eQ (lhsM gs sh k))) := fun k => ⟨sh, _, 1105, 23, rfl, ⟨by rw [List.length_map]; omega, by omega⟩, hsq, fun y hy => by
          obtain ⟨g, hgm, rfl⟩ := List.mem_map.mp hy
          exact fQ (hg g hgm).2 (by decide) (by decide) k, by
          have : sh.length * (1105 + 23 + 1) ≤ 4 * (1105 + 23 + 1) := Nat.mul_le_mul_right _ (by omega)
          omega, by rw [lhs_dot hle]⟩
        have lq : ∀ k, SQ 4600 (lhsM gs sh k) := fun k => by
          refine (sum_SQ (a := 1128) fun i hi => mul_SQ ?_ (fQ (hg _ (gA_mem hi)).2 (k := 23) (by decide) (by decide) k)).mono ?_
          · rw [List.getD_eq_getElem?_getD, List.getElem?_eq_getElem (by omega)]
            exact hsq _ (List.getElem_mem _)
          · have : gs.length * (1128 + 1) ≤ 4 * (1128 + 1) := Nat.mul_le_mul_right _ g4
            omega
        refine xss_then (o1 := if ((List.range x.length).all fun k => decide (lhsM gs sh k ≤ (goalM b x k : Rat))) = true then .nx [.fz (eDuty (gs, x)), .fz (ePaper (b, sh)), .fz (.lst (gs.map eFm)), .fz (eFm x), .fz (.str (wordP b)), .fz (.lst (sh.map eQ)), .no, .fz (.tup ((List.range (n + 1)).map fun k => .int (goalM b x k))), .no, .no, .no] else .rt (.bl false)) (xs_for hp rfl (xi_range T.range (xv_len T.len ((xv_var 3)).br) (by omega) (by rw [hlm]; omega)) ?_) ?_ ?_
        · rw [hlm, Int.toNat_natCast, rngD_F, hl, List.range_eq_range']
          suffices loop : ∀ (m i : Nat), i + m = n + 1 → Fr _ _ _ _ (rngF i m) [.fz (eDuty (gs, x)), .fz (ePaper (b, sh)), .fz (.lst (gs.map eFm)), .fz (eFm x), .fz (.str (wordP b)), .fz (.lst (sh.map eQ)), .no, .fz (.tup ((List.range (n + 1)).map fun k => .int (goalM b x k))), .no, .no, .no] (if ((List.range' i m).all fun k => decide (lhsM gs sh k ≤ (goalM b x k : Rat))) = true then .nx [.fz (eDuty (gs, x)), .fz (ePaper (b, sh)), .fz (.lst (gs.map eFm)), .fz (eFm x), .fz (.str (wordP b)), .fz (.lst (sh.map eQ)), .no, .fz (.tup ((List.range (n + 1)).map fun k => .int (goalM b x k))), .no, .no, .no] else .rt (.bl false)) by
            have q := loop (n + 1) 0 (by omega)
            rw [← List.range_eq_range'] at q ⊢
            exact q
          intro m
          induction m with
          | zero => intro i _; exact .nil
          | succ m ih =>
            intro i hi
            have q := ih (i + 1) (by omega)
            have hi2 : i < n + 1 := by omega
            rw [rngF_succ, List.range'_succ, List.all_cons]
            have ixk : ∀ g ∈ gs, ixD (eFm g) (i : Int) = some (.int (fA g i)) := fun g h => ix_fm (by rw [(hg g h).1]; omega)
            have e1 : (gs.map fun g => D.tup [.int (fA g i), .int 1]) = (gs.map fun g => (fA g i : Rat)).map eQ := by rw [List.map_map]; rfl
            have hF2 : F_minus [.tup [.int (goalM b x i), .int 1], eQ (lhsM gs sh i)] (.ok (eQ ((goalM b x i : Rat) - lhsM gs sh i))) := ⟨_, _, 23, 4600, rfl, ⟨gq i, lq i, by omega⟩, rfl⟩
            refine Fr.chk (decide (lhsM gs sh i ≤ (goalM b x i : Rat))) (xg_name 8 nd) (a := [.fz (eDuty (gs, x)), .fz (ePaper (b, sh)), .fz (.lst (gs.map eFm)), .fz (eFm x), .fz (.str (wordP b)), .fz (.lst (sh.map eQ)), .no, .fz (.tup ((List.range (n + 1)).map fun k => .int (goalM b x k))), .fz (.int (i : Int)), .fz (eQ (lhsM gs sh i)), .no]) (o1 := .rt (.bl false)) ?_ (Le.fg [8, 9] rfl) rfl (fun hc => by rw [hc, Bool.true_and]; exact q) (fun hc => by rw [hc]; rfl)
            refine xss_cons (xs_set 9 nd (xv_call D_together (hr.mono (by decide)) tk (xa_cons (xv_var 5) (xa_cons ((xl_lc [("guard", 10)] rfl nd (xi_list (xv_var 2)) (blkOk_by (own := [("guard", 10)]) (N := N_shows_duty) (sc := defScope s_shows_duty) (by decide +kernel)) ((lc_map (f := eFm) (g := fun g => D.tup [.int (fA g i), .int 1]) gs fun x_1 hx_1 => ⟨_, (fun _ _ _ _ _ => (xgw_name 10 nd)), (fun _ _ _ _ _ => (xv_tup (xa_cons (xv_ix ((xv_var 10)).br ((xv_var 8)).br (ixk x_1 hx_1)) (xa_cons xv_int xa_nil))))⟩).is e1) (by rw [hgl]; omega))).v xa_nil)) (hF1 i))) ?_
            refine xss_one (xs_if (XT.is (xt_lt ((xv_ix ((xv_call D_minus (hr.mono (by decide)) tk (xa_cons (xv_tup (xa_cons (xv_ix ((xv_var 7)).br ((xv_var 8)).br (ixg i hi2)) (xa_cons xv_int xa_nil))) (xa_cons (xv_var 9) xa_nil)) (hF2))).br (xv_int).br (ix_Q1 _))).br (xv_int).br) neg_sub) (fun hk => ?_) fun hk => ?_)
            · rw [nbF hk, if_neg Bool.false_ne_true]
              exact xss_one (xs_ret xv_bl)
            · rw [nbT hk, if_pos rfl]
              exact xss_nil
        · intro d1 h
          split at h
          · next hc =>
            cases h
            rw [show ((List.range (gs, x).2.length).all fun k => decide (lhsM (gs, x).1 (b, sh).2 k ≤ (goalM (b, sh).1 (gs, x).2 k : Rat))) = true from hc]
            exact xss_ret xv_bl
          · cases h
        · intro h
          split at h
          · cases h
          · next hc =>
            rw [if_neg hc, show ((List.range (gs, x).2.length).all fun k => decide (lhsM (gs, x).1 (b, sh).2 k ≤ (goalM (b, sh).1 (gs, x).2 k : Rat))) = false from Bool.eq_false_iff.mpr hc]

abbrev s_shows : Stmt := top 31
abbrev N_shows : List Str := ["lines", "prices", "purse", "papers", "some", "k"]
abbrev P_shows : List Str := ["lines", "prices", "purse", "papers"]
theorem sc_shows : FnScope N_shows P_shows (defScope s_shows) := ⟨rfl, rfl, rfl, by decide +kernel, rfl, by decide +kernel, by decide +kernel⟩

def OkPs (ps : List Paper) : Prop := ps.length ≤ 1000 ∧ ∀ p ∈ ps, p.2.length ≤ 1000 ∧ ∀ x ∈ p.2, SQ 1105 x
def F_shows (cF : Addr) : Fs := fun args r => ∃ (many : Int) (ds : List LDeed) (prices : List Int) (purse : Form) (ps : List Paper), args = [eLn many ds, .lst (prices.map .int), eFm purse, .lst (ps.map ePaper)] ∧ (ShortLn ds ∧ prices.length ≤ 1000 ∧ ShortF purse) ∧ OkPs ps ∧ r = if okPair many ds prices purse then .ok (.bl (shAll (dutM ds prices purse) ps)) else .er cF
theorem df_shows {P : Program} {w : World} {K : Fg} {mg : Str → Option Value} {base : Heap} {cF : Addr} (T : Tx K mg) (U : Dn K mg "shows" s_shows P_shows) (D_look_pair : Df P w K mg base "look_pair" 3 (F_look_pair cF)) (D_duties : Df P w K mg base "duties" 3 F_duties) (D_shows_duty : Df P w K mg base "shows_duty" 4 F_shows_duty) : Df P w K mg base "shows" 5 (F_shows cF) :=
  df_of 4 U sc_shows (fun _ _ ⟨_, _, _, _, _, h, _⟩ => by rw [h]; rfl) fun f cdv A outer s H E args r hr tk hp hF => by
    obtain ⟨many, ds, prices, purse, ps, rfl, hsh, ⟨hps, hpq⟩, rfl⟩ := hF
    have nd := sc_shows.nd
    cases hg : okPair many ds prices purse with
    | false =>
      rw [if_neg Bool.false_ne_true]
      exact XF.er (xss_stop (xs_exprR (xr_call D_look_pair (hr.mono (by decide)) tk (xa_cons (xv_var 0) (xa_cons (xv_var 1) (xa_cons (xv_var 2) xa_nil))) ⟨many, ds, prices, purse, rfl, hsh, by rw [hg]; rfl⟩))).er
    | true =>
      rw [if_pos rfl]
      obtain ⟨n, rfl, hP⟩ := okPair_n hg
      have hW := dut_W hP
      have hfew := dut_few hP
      have n1 := hP.n1
      have n4 := hP.n4
      refine XF.rt (xss_cons (xs_expr (xv_call D_look_pair (hr.mono (by decide)) tk (xa_cons (xv_var 0) (xa_cons (xv_var 1) (xa_cons (xv_var 2) xa_nil))) (⟨n, ds, prices, purse, rfl, hsh, by rw [hg]; rfl⟩))) ?_)
      refine xss_cons (xs_set 4 nd (xv_call D_duties (hr.mono (by decide)) tk (xa_cons (xv_var 0) (xa_cons (xv_var 1) (xa_cons (xv_var 2) xa_nil))) (⟨n, ds, prices, purse, rfl, hP, rfl⟩))) ?_
      generalize dutM ds prices purse = L at *
      have hll : (L.map eDuty).length = L.length := List.length_map _
      have hpl : (ps.map ePaper).length = ps.length := List.length_map _
      have hk1 : ∀ k : Nat, k ∈ List.range (((((L.map eDuty).length : Nat) : Int)).toNat) → k < L.length := fun k h => by rw [hll, Int.toNat_natCast] at h; exact List.mem_range.mp h
      have hlen : decide (((ps.map ePaper).length : Int) = ((L.map eDuty).length : Int)) = true → ps.length = L.length := fun h => by rw [hll, hpl, decide_eq_true_eq] at h; omega
      have hF1 : ∀ k, k < L.length → ps.length = L.length → F_shows_duty [eDuty (L.getD k ([], [])), ePaper (ps.getD k (true, []))] (.ok (.bl (shDuty (L.getD k ([], [])) (ps.getD k (true, []))))) := fun k h1 h2 => by
        have w := hW _ (getD_mem (d := ([], [])) h1)
        have q := hpq _ (getD_mem (d := (true, [])) (show k < ps.length by omega))
        exact ⟨_, _, n, _, _, rfl, ⟨⟨n1, n4⟩, w.f.1, w.g4⟩, w.g, w.f.2, q, rfl⟩
      have e1 : D.lst ((List.range (((((L.map eDuty).length : Nat) : Int)).toNat)).map fun k => D.bl (shDuty (L.getD k ([], [])) (ps.getD k (true, [])))) = .lst (((List.range L.length).map fun k => shDuty (L.getD k ([], [])) (ps.getD k (true, []))).map D.bl) := by rw [hll, Int.toNat_natCast, List.map_map]; rfl
      refine xss_ret (XV.is (xv_and (xv_eqI ((xv_len T.len ((xv_var 3)).br)).br ((xv_len T.len ((xv_var 4)).br)).br) (fun hk => (xv_one (xv_all rfl T.all ((xl_lc [("k", 5)] rfl nd (xi_range T.range (xv_len T.len ((xv_var 4)).br) (by omega) (by rw [hll]; omega)) (blkOk_by (own := [("k", 5)]) (N := N_shows) (sc := defScope s_shows) (by decide +kernel)) ((lc_map (f := fun (n : Nat) => D.int n) (g := fun k => D.bl (shDuty (L.getD k ([], [])) (ps.getD k (true, [])))) (List.range _) fun x_1 hx_1 => ⟨_, (fun _ _ _ _ _ => (xgw_name 5 nd)), (fun _ _ _ _ _ => (xv_call D_shows_duty (hr.mono (by decide)) takes0 (xa_cons (xv_ix ((xv_var 4)).br ((xv_var 5)).br (ix_dut (hk1 x_1 hx_1))) (xa_cons (xv_ix ((xv_var 3)).br ((xv_var 5)).br (ix_pap (by have := hk1 x_1 hx_1; have := hlen hk; omega))) xa_nil)) (hF1 x_1 (hk1 x_1 hx_1) (hlen hk))))⟩)) (by rw [rngD_F, rngF_len]; rw [hll]; omega))).br (e1))))) ?_)
      unfold shAll
      rw [hll, hpl, List.all_map, show decide ((ps.length : Int) = (L.length : Int)) = decide (ps.length = L.length) from decide_eq_decide.mpr (by omega)]; rfl

abbrev s_fails_at : Stmt := top 32
abbrev N_fails_at : List Str := ["lines", "prices", "purse", "number", "point", "some", "one", "guards", "form", "guard"]
abbrev P_fails_at : List Str := ["lines", "prices", "purse", "number", "point"]
theorem sc_fails_at : FnScope N_fails_at P_fails_at (defScope s_fails_at) := ⟨rfl, rfl, rfl, by decide +kernel, rfl, by decide +kernel, by decide +kernel⟩

def F_fails_at (cF : Addr) : Fs := fun args r => ∃ (many : Int) (ds : List LDeed) (prices : List Int) (purse : Form) (number : Int) (pt : List Rat), args = [eLn many ds, .lst (prices.map .int), eFm purse, .int number, .lst (pt.map eQ)] ∧ (ShortLn ds ∧ prices.length ≤ 1000 ∧ ShortF purse) ∧ (pt.length ≤ 1000 ∧ ∀ x ∈ pt, SQ 2300 x) ∧ (∀ n : Nat, PairN n ds prices purse → n ≤ 3) ∧ r = if okPair many ds prices purse then .ok (.bl (failsM many.toNat (dutM ds prices purse) number pt)) else .er cF
theorem df_fails_at {P : Program} {w : World} {K : Fg} {mg : Str → Option Value} {base : Heap} {cF : Addr} (T : Tx K mg) (U : Dn K mg "fails_at" s_fails_at P_fails_at) (D_look_pair : Df P w K mg base "look_pair" 3 (F_look_pair cF)) (D_duties : Df P w K mg base "duties" 3 F_duties) (D_worth : Df P w K mg base "worth" 4 F_worth) : Df P w K mg base "fails_at" 5 (F_fails_at cF) :=
  df_of 4 U sc_fails_at (fun _ _ ⟨_, _, _, _, _, _, h, _⟩ => by rw [h]; rfl) fun f cdv A outer s H E args r hr tk hp hF => by
    obtain ⟨many, ds, prices, purse, number, pt, rfl, hsh, ⟨hpl, hpq⟩, hn3, rfl⟩ := hF
    have nd := sc_fails_at.nd
    cases hg : okPair many ds prices purse with
    | false =>
      rw [if_neg Bool.false_ne_true]
      exact XF.er (xss_stop (xs_exprR (xr_call D_look_pair (hr.mono (by decide)) tk (xa_cons (xv_var 0) (xa_cons (xv_var 1) (xa_cons (xv_var 2) xa_nil))) ⟨many, ds, prices, purse, rfl, hsh, by rw [hg]; rfl⟩))).er
    | true =>
      rw [if_pos rfl]
      obtain ⟨n, rfl, hP⟩ := okPair_n hg
      have n3 := hn3 n hP
      rw [Int.toNat_natCast]
      have hW := dut_W hP
      refine XF.rt (xss_cons (xs_expr (xv_call D_look_pair (hr.mono (by decide)) tk (xa_cons (xv_var 0) (xa_cons (xv_var 1) (xa_cons (xv_var 2) xa_nil))) (⟨n, ds, prices, purse, rfl, hsh, by rw [hg]; rfl⟩))) ?_)
      refine xss_cons (xs_set 5 nd (xv_call D_duties (hr.mono (by decide)) tk (xa_cons (xv_var 0) (xa_cons (xv_var 1) (xa_cons (xv_var 2) xa_nil))) (⟨n, ds, prices, purse, rfl, hP, rfl⟩))) ?_
      generalize dutM ds prices purse = L at *
      have hll : (L.map eDuty).length = L.length := List.length_map _
      have hptl : (pt.map eQ).length = pt.length := List.length_map _
      have i0 : ixD (eLn (n : Int) ds) 0 = some (.int (n : Int)) := rfl
      unfold failsM
      refine xss_if (XT.is ((xw_or (xt_not (xt_chain (xv_int).br ((xv_var 3)).br ((xv_len T.len ((xv_var 5)).br)).br)) (fun hk => (xw_or (xt_neI ((xv_len T.len ((xv_var 4)).br)).br ((xv_ix ((xv_var 0)).br (xv_int).br (i0))).br) (fun hk => (xw_and1 (xt_val (xv_any rfl T.any ((xl_lc [("one", 6)] rfl nd (xi_list (xv_var 4)) (blkOk_by (own := [("one", 6)]) (N := N_fails_at) (sc := defScope s_fails_at) (by decide +kernel)) (lc_map (f := eQ) (g := fun x => D.bl (decide (x.num < 0))) pt fun x_1 hx_1 => ⟨_, (fun _ _ _ _ _ => (xgw_name 6 nd)), (fun _ _ _ _ _ => (xv_lt ((xv_ix ((xv_var 6)).br (xv_int).br (ix_Q1 _))).br (xv_int).br))⟩) (by rw [hptl]; omega))).br (congrArg D.lst any_low))))))))).t (show _ = !((decide (0 ≤ number) && decide (number < (L.length : Int))) && (decide (pt.length = n) && pt.all fun x => decide (0 ≤ x))) by
        rw [hptl, hll, any_all, show decide ((pt.length : Int) = (n : Int)) = decide (pt.length = n) from decide_eq_decide.mpr (by omega)]
        simp only [cmpI, Bool.not_and])) (fun hk ht => ?_) fun hk ht => ?_
      · rw [nbF hk, Bool.false_and]
        exact xss_yesS ht (xss_ret xv_bl)
      · have hk2 := nbT hk
        rw [hk2, Bool.true_and]
        simp only [Bool.and_eq_true, decide_eq_true_eq] at hk2
        obtain ⟨⟨k1, k2⟩, k3, k4⟩ := hk2
        refine xss_no0 ht ?_
        obtain ⟨k, rfl⟩ : ∃ k : Nat, number = k := ⟨number.toNat, by omega⟩
        rw [Int.toNat_natCast]
        have hk' : k < L.length := by omega
        have w := hW _ (getD_mem (d := ([], [])) hk')
        have ixs := ix_dut hk'
        generalize L.getD k ([], []) = d at *
        obtain ⟨gs, x⟩ := d
        obtain ⟨⟨wl, ws⟩, w4, wg⟩ := w
        have w4 : gs.length ≤ 4 := w4
        have hm : n * (23 + 2300 + 1) ≤ 3 * (23 + 2300 + 1) := Nat.mul_le_mul_right _ n3
        have hF1 : ∀ g : Form, g.length = n + 1 → SmallF 8000000 g → F_worth [eFm g, .lst (pt.map eQ)] (.ok (eQ (wrT g (ptQ pt)))) := fun g h1 h2 => ⟨g, n, 2300, ptQ pt, by rw [ptQ_row k3], ⟨h1, by omega⟩, h2, fun j hj => by
          unfold ptQ
          rw [List.getD_eq_getElem?_getD, List.getElem?_eq_getElem (by omega)]
          exact hpq _ (List.getElem_mem _), by omega, rfl⟩
        refine xss_cons (xs_asg (xv_ix ((xv_var 5)).br ((xv_var 3)).br (ixs)) (xg_tup rfl (xgs_cons (xg_name 7 nd) (xgs_cons (xg_name 8 nd) xgs_nil)))) ?_
        have e1 : (gs.map fun g => D.bl (decide ((wrT g (ptQ pt)).num < 0))) = (gs.map fun g => decide (wrT g (ptQ pt) < 0)).map D.bl := by
          rw [List.map_map]
          exact List.map_congr_left fun g _ => by show D.bl _ = D.bl _; congr 1; exact decide_eq_decide.mpr num_neg
        refine xss_ret (XV.is (xv_and (xv_lt ((xv_ix ((xv_call D_worth (hr.mono (by decide)) tk (xa_cons (xv_var 8) (xa_cons (xv_var 4) xa_nil)) (hF1 x wl ws))).br (xv_int).br (ix_Q1 _))).br (xv_int).br) (fun hk => (xv_one (xv_not (xv_any rfl T.any ((xl_lc [("guard", 9)] rfl nd (xi_list (xv_var 7)) (blkOk_by (own := [("guard", 9)]) (N := N_fails_at) (sc := defScope s_fails_at) (by decide +kernel)) (lc_map (f := eFm) (g := fun g => D.bl (decide ((wrT g (ptQ pt)).num < 0))) gs fun x_1 hx_1 => ⟨_, (fun _ _ _ _ _ => (xgw_name 9 nd)), (fun _ _ _ _ _ => (xv_lt ((xv_ix ((xv_call D_worth (hr.mono (by decide)) takes0 (xa_cons (xv_var 9) (xa_cons (xv_var 4) xa_nil)) (hF1 x_1 (wg x_1 hx_1).1 (wg x_1 hx_1).2))).br (xv_int).br (ix_Q1 _))).br (xv_int).br))⟩) (by rw [List.length_map]; omega))).br (congrArg D.lst e1)))))) ?_)
        show D.bl (decide ((wrT x (ptQ pt)).num < 0) && !((gs.map fun g => decide (wrT g (ptQ pt) < 0)).any id)) = D.bl (decide (wrT x (ptQ pt) < 0) && gs.all fun g => decide (0 ≤ wrT g (ptQ pt)))
        congr 1
        congr 1
        · exact decide_eq_decide.mpr num_neg
        · exact keep_all _ gs

/-! the law's own draws of a line machine -/
theorem rng_lenF {α : Type} {m : Nat} {f : Nat → α} : ((List.range m).map f).length = m := by rw [List.length_map, List.length_range]
def fcM (n : Int) : Int := if n % 6 = 2 then 1 else if n % 6 = 3 then -1 else if n % 6 = 4 then 2 else if n % 6 = 5 then n / 16 % 9 - 4 else 0
theorem fc_bd (n : Int) : (fcM n).natAbs ≤ 4 := by
  unfold fcM
  have h1 := Int.emod_nonneg (n / 16) (show (9 : Int) ≠ 0 by decide)
  have h2 := Int.emod_lt_of_pos (n / 16) (show (0 : Int) < 9 by decide)
  repeat' split
  all_goals omega
theorem fc_ix (n : Int) : ixD (.lst [.int 0, .int 0, .int 1, .int (-1), .int 2, .int (n / 16 % 9 - 4)]) (n % 6) = some (.int (fcM n)) := by
  have h1 := Int.emod_nonneg n (show (6 : Int) ≠ 0 by decide)
  have h2 := Int.emod_lt_of_pos n (show (0 : Int) < 6 by decide)
  unfold fcM
  have : n % 6 = 0 ∨ n % 6 = 1 ∨ n % 6 = 2 ∨ n % 6 = 3 ∨ n % 6 = 4 ∨ n % 6 = 5 := by omega
  rcases this with h | h | h | h | h | h <;> rw [h] <;> rfl
def fmM (s : List Int) (k : Int) (many : Nat) (low : Bool) : Form := (List.range (many + 1)).map fun j => if low = true ∧ j = many then ((fcM (mix s (k + j))).natAbs : Int) else fcM (mix s (k + j))
theorem fm_len (s : List Int) (k : Int) (many : Nat) (low : Bool) : (fmM s k many low).length = many + 1 := by unfold fmM; simp
theorem fm_bd (s : List Int) (k : Int) (many : Nat) (low : Bool) : SmallF 4 (fmM s k many low) := by
  intro v hv
  obtain ⟨j, _, rfl⟩ := List.mem_map.mp hv
  have := fc_bd (mix s (k + j))
  split <;> omega
def plM (many i : Nat) (n : Int) : Form := (List.range (many + 1)).map fun j => if j = many then n / 8 % 5 - 2 else if j = i then 1 else 0
theorem pl_len (many i : Nat) (n : Int) : (plM many i n).length = many + 1 := by unfold plM; simp
theorem pl_bd (many i : Nat) (n : Int) : SmallF 4 (plM many i n) := by
  intro v hv
  obtain ⟨j, _, rfl⟩ := List.mem_map.mp hv
  have h1 := Int.emod_nonneg (n / 8) (show (5 : Int) ≠ 0 by decide)
  have h2 := Int.emod_lt_of_pos (n / 8) (show (0 : Int) < 5 by decide)
  repeat' split
  all_goals omega
def numC (s : List Int) (k : Int) (j i : Nat) : Int := mix s (k + 30 + 60 * j + i)
def gd1 (s : List Int) (k : Int) (many j : Nat) : List Form := (List.range (mix s (k + 2 + j) % 3).toNat).map fun (i : Nat) => fmM s (k + 10 + 60 * j + 5 * i) many false
def gdK (s : List Int) (k : Int) (many j i : Nat) : List Form := if numC s k j i / 8 % 5 - 2 < 0 ∧ 0 < numC s k j i % 4 then [plM many i (numC s k j i)] else []
def chK (s : List Int) (k : Int) (many j i : Nat) : Form := if 0 < numC s k j i % 4 then plM many i (numC s k j i) else fmM s (k + 34 + 60 * j + 5 * i) many true
def gdL (s : List Int) (k : Int) (many j : Nat) : List Form := gd1 s k many j ++ (List.range many).flatMap (gdK s k many j)
def chL (s : List Int) (k : Int) (many j : Nat) : List Form := (List.range many).map (chK s k many j)
def ldM (s : List Int) (k : Int) (many j : Nat) : LDeed := ((gdL s k many j).take 4, chL s k many j, fmM s (k + 50 + 60 * j) many true)
def lnN (s : List Int) (k : Int) : Nat := (1 + mix s k % 2).toNat
def lnD (s : List Int) (k : Int) : List LDeed := (List.range (1 + mix s (k + 1) % 2).toNat).map (ldM s k (lnN s k))
theorem lnN_bd (s : List Int) (k : Int) : 1 ≤ lnN s k ∧ lnN s k ≤ 2 := by
  have := mix_nonneg s k
  unfold lnN; omega
theorem lnD_len (s : List Int) (k : Int) : 1 ≤ (lnD s k).length ∧ (lnD s k).length ≤ 2 := by
  have := mix_nonneg s (k + 1)
  unfold lnD; rw [List.length_map, List.length_range]; omega
/-- a deed of small forms -/
structure LdS (b n : Nat) (d : LDeed) : Prop where
  gl : d.1.length ≤ 4
  cl : d.2.1.length = n
  g : ∀ x ∈ d.1, x.length = n + 1 ∧ SmallF b x
  c : ∀ x ∈ d.2.1, x.length = n + 1 ∧ SmallF 4 x
  k : d.2.2.length = n + 1 ∧ SmallF 4 d.2.2
theorem gd_few (s : List Int) (k : Int) (many j : Nat) : (gd1 s k many j).length ≤ 2 := by
  have := mix_nonneg s (k + 2 + j)
  unfold gd1; rw [List.length_map, List.length_range]; omega
theorem ldM_ok (s : List Int) (k : Int) (many j : Nat) : LdS 4 many (ldM s k many j) := by
  refine ⟨by unfold ldM; simp; omega, by unfold ldM chL; simp, fun x hx => ?_, fun x hx => ?_, fm_len _ _ _ _, fm_bd _ _ _ _⟩
  · have hx := List.mem_of_mem_take (show x ∈ (gdL s k many j).take 4 from hx)
    unfold gdL at hx
    rcases List.mem_append.mp hx with hx | hx
    · obtain ⟨i, _, rfl⟩ := List.mem_map.mp hx
      exact ⟨fm_len _ _ _ _, fm_bd _ _ _ _⟩
    · obtain ⟨i, _, hx⟩ := List.mem_flatMap.mp hx
      unfold gdK at hx
      split at hx
      · rw [List.mem_singleton.mp hx]; exact ⟨pl_len _ _ _, pl_bd _ _ _⟩
      · exact absurd hx (by simp)
  · obtain ⟨i, _, rfl⟩ := List.mem_map.mp (show x ∈ chL s k many j from hx)
    unfold chK
    split
    · exact ⟨pl_len _ _ _, pl_bd _ _ _⟩
    · exact ⟨fm_len _ _ _ _, fm_bd _ _ _ _⟩
theorem lnD_ok {s : List Int} {k : Int} : ∀ d ∈ lnD s k, LdS 4 (lnN s k) d := fun d hd => by
  obtain ⟨j, _, rfl⟩ := List.mem_map.mp hd
  exact ldM_ok _ _ _ _
theorem LdS.N {b n : Nat} {d : LDeed} (h : LdS b n d) (hb : b ≤ 1000) : LdN n d := ⟨h.gl, h.cl, fun x hx => ⟨(h.g x hx).1, (h.g x hx).2.mono hb⟩, fun x hx => ⟨(h.c x hx).1, (h.c x hx).2.mono (by decide)⟩, h.k.1, h.k.2.mono (by decide)⟩
theorem LdN.sh {n : Nat} {d : LDeed} (h : LdN n d) (hn : n ≤ 900) : ShortLd d := ⟨⟨by have := h.gl; omega, by have := h.cl; omega⟩, fun x hx => by unfold ShortF; have := (h.g x hx).1; omega, fun x hx => by unfold ShortF; have := (h.c x hx).1; omega, by unfold ShortF; have := h.k.1; omega⟩
theorem inB_of {v : Int} (h : v.natAbs ≤ 1000) : inB v = true := by unfold inB; rw [Bool.and_eq_true, decide_eq_true_eq, decide_eq_true_eq]; omega
theorem okFm_of {n : Nat} {x : Form} (h : x.length = n + 1 ∧ SmallF 1000 x) : okFm (n : Int) x = true := by
  unfold okFm
  rw [Bool.and_eq_true, decide_eq_true_eq, List.all_eq_true]
  exact ⟨by omega, fun v hv => inB_of (h.2 v hv)⟩
theorem okLd_of {n : Nat} {d : LDeed} (h : LdN n d) : okLd (n : Int) d = true := by
  unfold okLd
  simp only [Bool.and_eq_true, decide_eq_true_eq, List.all_eq_true]
  refine ⟨⟨h.gl, by have := h.cl; omega⟩, fun x hx => ?_⟩
  rcases List.mem_append.mp hx with hx | hx
  · rcases List.mem_append.mp hx with hx | hx
    · exact okFm_of (h.g x hx)
    · exact okFm_of (h.c x hx)
  · rw [List.mem_singleton.mp hx]; exact okFm_of h.k
theorem pair_ok {n : Nat} {ds : List LDeed} {prices : List Int} {purse : Form} (h : PairN n ds prices purse) : okPair (n : Int) ds prices purse = true := by
  unfold okPair okLn
  simp only [Bool.and_eq_true, decide_eq_true_eq, List.all_eq_true]
  exact ⟨⟨⟨⟨⟨by have := h.n1; omega, by have := h.n4; omega⟩, h.d1, h.d8⟩, fun d hd => okLd_of (h.d d hd)⟩, h.p, fun v hv => inB_of (h.pb v hv)⟩, okFm_of h.pu⟩
theorem setOk_no {many : Int} {ds : List LDeed} {prices : List Int} {purse : Form} (h : okPair many ds prices purse = false) : SetOk many ds prices purse := fun n e hP => by
  rw [e, pair_ok hP] at h; cases h
theorem no_many {many : Int} {ds : List LDeed} {prices : List Int} {purse : Form} (h : ¬ (1 ≤ many ∧ many ≤ 4)) : okPair many ds prices purse = false := by
  unfold okPair okLn
  rw [show (decide (1 ≤ many) && decide (many ≤ 4)) = false by rw [Bool.and_eq_false_iff]; rcases Decidable.not_and_iff_not_or_not.mp h with z | z; exact .inl (decide_eq_false z); exact .inr (decide_eq_false z)]
  rfl
theorem no_len {many : Int} {ds : List LDeed} {prices : List Int} {purse : Form} (h : ¬ (1 ≤ ds.length ∧ ds.length ≤ 8)) : okPair many ds prices purse = false := by
  unfold okPair okLn
  rw [show (decide (1 ≤ ds.length) && decide (ds.length ≤ 8)) = false by rw [Bool.and_eq_false_iff]; rcases Decidable.not_and_iff_not_or_not.mp h with z | z; exact .inl (decide_eq_false z); exact .inr (decide_eq_false z), Bool.and_false]
  rfl
theorem no_deed {many : Int} {ds : List LDeed} {prices : List Int} {purse : Form} {d : LDeed} (hd : d ∈ ds) (h : okLd many d = false) : okPair many ds prices purse = false := by
  have : ds.all (okLd many) = false := by
    rw [Bool.eq_false_iff]
    intro z
    rw [List.all_eq_true.mp z d hd] at h; cases h
  unfold okPair okLn
  rw [this, Bool.and_false]; rfl
theorem no_prices {many : Int} {ds : List LDeed} {prices : List Int} {purse : Form} (h : (decide (prices.length = ds.length) && prices.all inB) = false) : okPair many ds prices purse = false := by
  unfold okPair
  rw [h, Bool.and_false]; rfl
theorem no_purse {many : Int} {ds : List LDeed} {prices : List Int} {purse : Form} (h : okFm many purse = false) : okPair many ds prices purse = false := by
  unfold okPair
  rw [h, Bool.and_false]
theorem no_form {many : Int} {d : LDeed} {x : Form} (hx : x ∈ d.1 ++ d.2.1 ++ [d.2.2]) (h : okFm many x = false) : okLd many d = false := by
  have : (d.1 ++ d.2.1 ++ [d.2.2]).all (okFm many) = false := by
    rw [Bool.eq_false_iff]
    intro z
    rw [List.all_eq_true.mp z x hx] at h; cases h
  unfold okLd
  rw [this, Bool.and_false]
theorem no_flen {many : Int} {x : Form} (h : (x.length : Int) ≠ many + 1) : okFm many x = false := by unfold okFm; rw [decide_eq_false h]; rfl
theorem no_fbd {many : Int} {x : Form} {v : Int} (hv : v ∈ x) (h : inB v = false) : okFm many x = false := by
  have : x.all inB = false := by
    rw [Bool.eq_false_iff]
    intro z
    rw [List.all_eq_true.mp z v hv] at h; cases h
  unfold okFm
  rw [this, Bool.and_false]

abbrev s_law_cell : Stmt := top 34
abbrev N_law_cell : List Str := ["_law_script", "_law_k"]
abbrev P_law_cell : List Str := ["_law_script", "_law_k"]
theorem sc_law_cell : FnScope N_law_cell P_law_cell (defScope s_law_cell) := ⟨rfl, rfl, rfl, by decide +kernel, rfl, by decide +kernel, by decide +kernel⟩

def F_law_cell : Fs := fun args r => ∃ (s : List Int) (k : Int), args = [.scr s, .int k] ∧ r = .ok (.int (cell s k))
theorem df_law_cell {P : Program} {w : World} {K : Fg} {mg : Str → Option Value} {base : Heap} (T : Tx K mg) (U : Dn K mg "_law_cell" s_law_cell P_law_cell) : Df P w K mg base "_law_cell" 1 F_law_cell :=
  df_of 0 U sc_law_cell (fun _ _ ⟨_, _, h, _⟩ => by rw [h]; rfl) fun f cdv A outer s H E args r hr tk hp hF => by
    obtain ⟨xs, k, rfl, rfl⟩ := hF
    refine XF.rt ?_
    cases xs with
    | nil =>
      refine xss_cons (xs_no (xt_truth ((xv_var 0)).br) xss_nil) (xss_one ?_)
      exact xs_ret xv_int
    | cons x xs =>
      refine xss_stop (xs_yes (xt_truth ((xv_var 0)).br) (xss_one ?_))
      refine xs_ret (xv_ix ((xv_var 0)).br ((xv_mod ((xv_var 1)).br ((xv_len T.len ((xv_var 0)).br)).br (by first | omega | decide | (simp only [List.length_cons]; omega)))).br (?_))
      show (atI (x :: xs) _).map _ = _
      have h0 : (0 : Int) < ((x :: xs).length : Int) := by simp only [List.length_cons]; omega
      rw [atI_d 0 (Int.emod_nonneg _ (by omega)) (Int.emod_lt_of_pos _ h0)]
      rfl

abbrev s_law_mix : Stmt := top 35
abbrev N_law_mix : List Str := ["_law_script", "_law_k", "_law_number"]
abbrev P_law_mix : List Str := ["_law_script", "_law_k"]
theorem sc_law_mix : FnScope N_law_mix P_law_mix (defScope s_law_mix) := ⟨rfl, rfl, rfl, by decide +kernel, rfl, by decide +kernel, by decide +kernel⟩

def F_law_mix : Fs := fun args r => ∃ (s : List Int) (k : Int), args = [.scr s, .int k] ∧ r = .ok (.int (mix s k))
theorem df_law_mix {P : Program} {w : World} {K : Fg} {mg : Str → Option Value} {base : Heap} (T : Tx K mg) (U : Dn K mg "_law_mix" s_law_mix P_law_mix) (D__law_cell : Df P w K mg base "_law_cell" 1 F_law_cell) : Df P w K mg base "_law_mix" 2 F_law_mix :=
  df_of 1 U sc_law_mix (fun _ _ ⟨_, _, h, _⟩ => by rw [h]; rfl) fun f cdv A outer s H E args r hr tk hp hF => by
    obtain ⟨xs, k, rfl, rfl⟩ := hF
    have nd := sc_law_mix.nd
    unfold mix
    refine XF.rt ?_
    refine xss_cons (xs_set 2 nd (xv_mod ((xv_add ((xv_call D__law_cell (hr.mono (by decide)) tk (xa_cons (xv_var 0) (xa_cons (xv_var 1) xa_nil)) (by exact ⟨_, _, rfl, rfl⟩))).br ((xv_mul (xv_int).br ((xv_add ((xv_var 1)).br (xv_int).br)).br (by first | exact Or.inl ⟨by omega, by omega⟩ | exact Or.inr ⟨by omega, by omega⟩))).br)).br (xv_int).br (by first | omega | decide | (simp only [List.length_cons]; omega)))) ?_
    refine xss_cons (xs_set 2 nd (xv_mod ((xv_mul ((xv_var 2)).br (xv_int).br (by first | exact Or.inl ⟨by omega, by omega⟩ | exact Or.inr ⟨by omega, by omega⟩))).br (xv_int).br (by first | omega | decide | (simp only [List.length_cons]; omega)))) ?_
    exact xss_one (xs_ret (xv_mod ((xv_add ((xv_mul ((xv_div ((xv_var 2)).br (xv_int).br (by first | exact ⟨by omega, by omega⟩ | exact ⟨by decide, by decide⟩))).br (xv_int).br (by first | exact Or.inl ⟨by omega, by omega⟩ | exact Or.inr ⟨by omega, by omega⟩))).br ((xv_var 2)).br)).br (xv_int).br (by first | omega | decide | (simp only [List.length_cons]; omega))))

abbrev s_law_form : Stmt := top 38
abbrev N_law_form : List Str := ["_law_script", "_law_k", "_law_many", "_law_low", "_law_found", "_law_j", "_law_number"]
abbrev P_law_form : List Str := ["_law_script", "_law_k", "_law_many", "_law_low"]
theorem sc_law_form : FnScope N_law_form P_law_form (defScope s_law_form) := ⟨rfl, rfl, rfl, by decide +kernel, rfl, by decide +kernel, by decide +kernel⟩

def F_law_form : Fs := fun args r => ∃ (s : List Int) (k : Int) (many : Nat) (low : Bool), args = [.scr s, .int k, .int (many : Int), .bl low] ∧ many ≤ 900 ∧ r = .ok (eFm (fmM s k many low))
theorem df_law_form {P : Program} {w : World} {K : Fg} {mg : Str → Option Value} {base : Heap} (T : Tx K mg) (U : Dn K mg "_law_form" s_law_form P_law_form) (D__law_mix : Df P w K mg base "_law_mix" 2 F_law_mix) : Df P w K mg base "_law_form" 3 F_law_form :=
  df_of 2 U sc_law_form (fun _ _ ⟨_, _, _, _, h, _⟩ => by rw [h]; rfl) fun f cdv A outer s H E args r hr tk hp hF => by
    obtain ⟨xs, k, many, low, rfl, hm, rfl⟩ := hF
    have nd := sc_law_form.nd
    refine XF.rt (xss_cons (xs_own 4 nd (xl_lst xa_nil)) ?_)
    refine xss_cons (ds1 := [.fz (.scr xs), .fz (.int k), .fz (.int (many : Int)), .fz (.bl low), .ow ((List.range (many + 1)).map fun (j : Nat) => D.int (fcM (mix xs (k + j)))), .no, .no]) (xs_for hp rfl (xi_range T.range (xv_add ((xv_var 2)).br (xv_int).br) (by omega) (by omega)) ?_) ?_
    · rw [show ((many : Int) + 1).toNat = many + 1 by omega, rngD_F]
      suffices loop : ∀ (m i : Nat), i + m = many + 1 → Fr _ _ _ _ (rngF i m) [.fz (.scr xs), .fz (.int k), .fz (.int (many : Int)), .fz (.bl low), .ow ((List.range i).map fun (j : Nat) => D.int (fcM (mix xs (k + j)))), .no, .no] (.nx [.fz (.scr xs), .fz (.int k), .fz (.int (many : Int)), .fz (.bl low), .ow ((List.range (many + 1)).map fun (j : Nat) => D.int (fcM (mix xs (k + j)))), .no, .no]) by
        exact loop (many + 1) 0 (by omega)
      intro m
      induction m with
      | zero => intro i hi; obtain rfl : i = many + 1 := by omega
                exact .nil
      | succ m ih =>
        intro i hi
        have q := ih (i + 1) (by omega)
        rw [List.range_succ, List.map_append] at q
        rw [rngF_succ]
        have hix := fc_ix (mix xs (k + i))
        exact .step (xg_name 5 nd) (xss_cons (xs_set 6 nd (xv_call D__law_mix (hr.mono (by decide)) tk (xa_cons (xv_var 0) (xa_cons (xv_add ((xv_var 1)).br ((xv_var 5)).br) xa_nil)) (⟨_, _, rfl, rfl⟩))) (xss_one (xs_append 4 (xv_ix ((xl_lst (xa_cons xv_int (xa_cons xv_int (xa_cons xv_int (xa_cons (xv_neg (xv_int).br) (xa_cons xv_int (xa_cons (xv_sub ((xv_mod ((xv_div ((xv_var 6)).br (xv_int).br (by first | exact ⟨by omega, by omega⟩ | exact ⟨by decide, by decide⟩))).br (xv_int).br (by first | omega | decide | (simp only [List.length_cons]; omega)))).br (xv_int).br) xa_nil)))))))).br ((xv_mod ((xv_var 6)).br (xv_int).br (by first | omega | decide | (simp only [List.length_cons]; omega)))).br (hix)) (by rfl) (by rw [rng_len]; omega)))) rfl (Le.fg [5, 6] rfl) q
    · have hlast : ixD (.lst ((List.range (many + 1)).map fun (j : Nat) => D.int (fcM (mix xs (k + j))))) (-1) = some (.int (fcM (mix xs (k + many)))) := ix_tupL
      cases low with
      | false =>
        have e : (List.range (many + 1)).map (fun (j : Nat) => D.int (fcM (mix xs (k + j)))) = (fmM xs k many false).map .int := by unfold fmM; rw [List.map_map]; rfl
        exact xss_no0 (xt_val (xv_var 3)) (xss_ret (XV.is (xv_tuple T.tuple (xb_own 4)) (congrArg D.tup e)))
      | true =>
        have e : ((List.range (many + 1)).map fun (j : Nat) => D.int (fcM (mix xs (k + j)))).set many (.int ((fcM (mix xs (k + many))).natAbs : Int)) = (fmM xs k many true).map .int := by
          rw [set_rng]
          unfold fmM
          rw [List.map_map]
          refine rng_congr fun j hj => ?_
          show _ = D.int (if true = true ∧ j = many then ((fcM (mix xs (k + j))).natAbs : Int) else fcM (mix xs (k + j)))
          by_cases z : j = many
          · subst z; rw [if_pos rfl, if_pos ⟨rfl, rfl⟩]
          · rw [if_neg z, if_neg fun y => z y.2]
        exact xss_yes (xt_val (xv_var 3)) (xss_one (xs_setix 4 (xv_abs T.abs ((xv_ix (xb_own 4) ((xv_neg (xv_int).br)).br (hlast))).br) (xv_neg (xv_int).br) rfl (j := many) (by rw [rng_len]; unfold ixN; rw [if_neg (by omega), if_pos (by omega)]; congr 1; omega))) (xss_ret (XV.is (xv_tuple T.tuple (xb_own 4)) (congrArg D.tup e)))

abbrev s_law_lines : Stmt := top 39
abbrev N_law_lines : List Str := ["_law_script", "_law_k", "_law_many", "_law_deeds", "_law_j", "_law_guards", "_law_i", "_law_changes", "_law_number", "_law_plain", "_law_drawn"]
abbrev P_law_lines : List Str := ["_law_script", "_law_k"]
theorem sc_law_lines : FnScope N_law_lines P_law_lines (defScope s_law_lines) := ⟨rfl, rfl, rfl, by decide +kernel, rfl, by decide +kernel, by decide +kernel⟩

def F_law_lines : Fs := fun args r => ∃ (s : List Int) (k : Int), args = [.scr s, .int k] ∧ r = .ok (eLn (lnN s k : Int) (lnD s k))
theorem df_law_lines {P : Program} {w : World} {K : Fg} {mg : Str → Option Value} {base : Heap} (T : Tx K mg) (U : Dn K mg "_law_lines" s_law_lines P_law_lines) (D__law_mix : Df P w K mg base "_law_mix" 2 F_law_mix) (D__law_form : Df P w K mg base "_law_form" 3 F_law_form) : Df P w K mg base "_law_lines" 4 F_law_lines :=
  df_of 3 U sc_law_lines (fun _ _ ⟨_, _, h, _⟩ => by rw [h]; rfl) fun f cdv A outer s H E args r hr tk hp hF => by
    obtain ⟨xs, k, rfl, rfl⟩ := hF
    have nd := sc_law_lines.nd
    have n0 := fun k => mix_nonneg xs k
    have hmany : 1 + mix xs k % 2 = (lnN xs k : Int) := by have := n0 k; unfold lnN; omega
    have hb := lnN_bd xs k
    have hn1 := n0 (k + 1)
    refine XF.rt (xss_cons (xs_set 2 nd (XV.is (xv_add (xv_int).br ((xv_mod ((xv_call D__law_mix (hr.mono (by decide)) tk (xa_cons (xv_var 0) (xa_cons (xv_var 1) xa_nil)) (⟨_, _, rfl, rfl⟩))).br (xv_int).br (by first | omega | decide | (simp only [List.length_cons]; omega)))).br) (congrArg D.int hmany))) ?_)
    unfold lnD
    generalize lnN xs k = many at *
    refine xss_cons (xs_own 3 nd (xl_lst xa_nil)) ?_
    refine xss_cons (ds1 := [.fz (.scr xs), .fz (.int k), .fz (.int (many : Int)), .ow (((List.range (1 + mix xs (k + 1) % 2).toNat).map (ldM xs k many)).map eLd), .no, .no, .no, .no, .no, .no, .no]) (xs_for hp rfl (xi_range T.range (xv_add (xv_int).br ((xv_mod ((xv_call D__law_mix (hr.mono (by decide)) tk (xa_cons (xv_var 0) (xa_cons (xv_add ((xv_var 1)).br (xv_int).br) xa_nil)) (⟨_, _, rfl, rfl⟩))).br (xv_int).br (by first | omega | decide | (simp only [List.length_cons]; omega)))).br) (by omega) (by omega)) ?_) (XSs.freeze 3 (xss_ret (xv_tup (xa_cons (xv_var 2) (xa_cons (xv_var 3) xa_nil)))))
    have hcnt : (1 + mix xs (k + 1) % 2).toNat ≤ 2 := by omega
    generalize (1 + mix xs (k + 1) % 2).toNat = cnt at *
    rw [rngD_F]
    suffices loop : ∀ (m j : Nat), j + m = cnt → Fr _ _ _ _ (rngF j m) [.fz (.scr xs), .fz (.int k), .fz (.int (many : Int)), .ow (((List.range j).map (ldM xs k many)).map eLd), .no, .no, .no, .no, .no, .no, .no] (.nx [.fz (.scr xs), .fz (.int k), .fz (.int (many : Int)), .ow (((List.range cnt).map (ldM xs k many)).map eLd), .no, .no, .no, .no, .no, .no, .no]) by
      exact loop cnt 0 (by omega)
    intro m
    induction m with
    | zero => intro j hj; obtain rfl : j = cnt := by omega
              exact .nil
    | succ m ih =>
      intro j hj
      have q := ih (j + 1) (by omega)
      rw [List.range_succ, List.map_append, List.map_append] at q
      rw [rngF_succ]
      have hg3 := n0 (k + 2 + j)
      have few := gd_few xs k many j
      refine .step (o' := .nx [.fz (.scr xs), .fz (.int k), .fz (.int (many : Int)), .ow (((List.range j).map (ldM xs k many)).map eLd ++ ([j].map (ldM xs k many)).map eLd), .fz (.int (j : Int)), .fz (.lst ((gdL xs k many j).map eFm)), .no, .fz (.lst ((chL xs k many j).map eFm)), .no, .no, .no]) (xg_name 4 nd) (xss_cons (xs_own 5 nd (xl_lst xa_nil)) ?_) rfl (Le.fg [4, 5, 7] rfl) q
      clear q ih
      refine xss_cons (ds1 := [.fz (.scr xs), .fz (.int k), .fz (.int (many : Int)), .ow (((List.range j).map (ldM xs k many)).map eLd), .fz (.int (j : Int)), .ow ((gd1 xs k many j).map eFm), .no, .no, .no, .no, .no]) (xs_for hp rfl (xi_range T.range (xv_mod ((xv_call D__law_mix (hr.mono (by decide)) tk (xa_cons (xv_var 0) (xa_cons (xv_add ((xv_add ((xv_var 1)).br (xv_int).br)).br ((xv_var 4)).br) xa_nil)) (⟨_, _, rfl, rfl⟩))).br (xv_int).br (by first | omega | decide | (simp only [List.length_cons]; omega))) (by omega) (by omega)) ?_) ?_
      · unfold gd1
        have hgc : (mix xs (k + 2 + j) % 3).toNat ≤ 2 := by omega
        generalize (mix xs (k + 2 + j) % 3).toNat = gc at *
        rw [rngD_F]
        suffices loop : ∀ (m i : Nat), i + m = gc → Fr _ _ _ _ (rngF i m) [.fz (.scr xs), .fz (.int k), .fz (.int (many : Int)), .ow (((List.range j).map (ldM xs k many)).map eLd), .fz (.int (j : Int)), .ow (((List.range i).map fun (i : Nat) => fmM xs (k + 10 + 60 * j + 5 * i) many false).map eFm), .no, .no, .no, .no, .no] (.nx [.fz (.scr xs), .fz (.int k), .fz (.int (many : Int)), .ow (((List.range j).map (ldM xs k many)).map eLd), .fz (.int (j : Int)), .ow (((List.range gc).map fun (i : Nat) => fmM xs (k + 10 + 60 * j + 5 * i) many false).map eFm), .no, .no, .no, .no, .no]) by
          exact loop gc 0 (by omega)
        intro m
        induction m with
        | zero => intro i hi; obtain rfl : i = gc := by omega
                  exact .nil
        | succ m ih =>
          intro i hi
          have q := ih (i + 1) (by omega)
          rw [List.range_succ, List.map_append, List.map_append] at q
          rw [rngF_succ]
          exact .step (xg_name 6 nd) (xss_one (xs_append 5 (xv_call D__law_form (hr.mono (by decide)) tk (xa_cons (xv_var 0) (xa_cons (xv_add ((xv_add ((xv_add ((xv_var 1)).br (xv_int).br)).br ((xv_mul (xv_int).br ((xv_var 4)).br (by first | exact Or.inl ⟨by omega, by omega⟩ | exact Or.inr ⟨by omega, by omega⟩))).br)).br ((xv_mul (xv_int).br ((xv_var 6)).br (by first | exact Or.inl ⟨by omega, by omega⟩ | exact Or.inr ⟨by omega, by omega⟩))).br) (xa_cons (xv_var 2) (xa_cons xv_bl xa_nil)))) (⟨_, _, many, false, rfl, by omega, rfl⟩)) (by rfl) (by rw [List.length_map, rng_lenF]; omega))) rfl (Le.fg [6] rfl) q
      · refine xss_cons (xs_own 7 nd (xl_lst xa_nil)) ?_
        refine xss_cons (ds1 := [.fz (.scr xs), .fz (.int k), .fz (.int (many : Int)), .ow (((List.range j).map (ldM xs k many)).map eLd), .fz (.int (j : Int)), .ow ((gdL xs k many j).map eFm), .no, .ow ((chL xs k many j).map eFm), .no, .no, .no]) (xs_for hp rfl (xi_range T.range (xv_var 2) (by omega) (by omega)) ?_) ?_
        · rw [Int.toNat_natCast, rngD_F]
          suffices loop : ∀ (m i : Nat), i + m = many → Fr _ _ _ _ (rngF i m) [.fz (.scr xs), .fz (.int k), .fz (.int (many : Int)), .ow (((List.range j).map (ldM xs k many)).map eLd), .fz (.int (j : Int)), .ow ((gd1 xs k many j ++ (List.range i).flatMap (gdK xs k many j)).map eFm), .no, .ow (((List.range i).map (chK xs k many j)).map eFm), .no, .no, .no] (.nx [.fz (.scr xs), .fz (.int k), .fz (.int (many : Int)), .ow (((List.range j).map (ldM xs k many)).map eLd), .fz (.int (j : Int)), .ow ((gdL xs k many j).map eFm), .no, .ow ((chL xs k many j).map eFm), .no, .no, .no]) by
            have z := loop many 0 (by omega)
            rw [List.range_zero, List.flatMap_nil, List.append_nil] at z
            exact z
          intro m
          induction m with
          | zero => intro i hi; obtain rfl : i = many := by omega
                    exact .nil
          | succ m ih =>
            intro i hi
            have q := ih (i + 1) (by omega)
            have hi2 : i < many := by omega
            have hgl : ((List.range i).flatMap (gdK xs k many j)).length ≤ i := by
              clear q ih hi hi2
              induction i with
              | zero => simp
              | succ i ih =>
                rw [List.range_succ, List.flatMap_append, List.length_append]
                have : (gdK xs k many j i).length ≤ 1 := by unfold gdK; split <;> simp
                simp only [List.flatMap_cons, List.flatMap_nil, List.append_nil]
                omega
            have eg : (gd1 xs k many j ++ (List.range (i + 1)).flatMap (gdK xs k many j)).map eFm = (gd1 xs k many j ++ (List.range i).flatMap (gdK xs k many j)).map eFm ++ (gdK xs k many j i).map eFm := by
              rw [List.range_succ, List.flatMap_append, ← List.append_assoc, List.map_append (l₁ := gd1 xs k many j ++ _)]
              simp only [List.flatMap_cons, List.flatMap_nil, List.append_nil]
            have ech : ((List.range (i + 1)).map (chK xs k many j)).map eFm = ((List.range i).map (chK xs k many j)).map eFm ++ [eFm (chK xs k many j i)] := by
              rw [List.range_succ, List.map_append, List.map_append]; rfl
            rw [eg, ech] at q
            rw [rngF_succ]
            have e0 : (List.replicate (((many : Int) + 1).toNat) [D.int 0]).flatten = (List.range (many + 1)).map fun _ => D.int 0 := by
              rw [show ((many : Int) + 1).toNat = many + 1 by omega]
              generalize many + 1 = a
              induction a with
              | zero => rfl
              | succ a ih => rw [List.range_succ, List.map_append, ← ih, List.replicate_succ']; simp
            have e1 : (((List.range (many + 1)).map fun _ => D.int 0).set i (.int 1)).set many (.int (numC xs k j i / 8 % 5 - 2)) = (plM many i (numC xs k j i)).map .int := by
              rw [set_rng, set_rng]
              unfold plM
              rw [List.map_map]
              refine rng_congr fun a ha => ?_
              show _ = D.int (if a = many then numC xs k j i / 8 % 5 - 2 else if a = i then 1 else 0)
              by_cases z : a = many
              · rw [if_pos z, if_pos z]
              · rw [if_neg z, if_neg z]
                split <;> rfl
            have hlast : ixD (.lst ((plM many i (numC xs k j i)).map .int)) (-1) = some (.int (numC xs k j i / 8 % 5 - 2)) := by
              have q := ix_fmL (n := many) (pl_len many i (numC xs k j i))
              rw [show fA (plM many i (numC xs k j i)) many = numC xs k j i / 8 % 5 - 2 by unfold plM; rw [fA_rng (by omega), if_pos rfl]] at q
              exact q
            have last : ∀ {n : Nat}, n = many + 1 → ixN n (-1) = some many := fun h => by unfold ixN; rw [if_neg (by omega), if_pos (by omega)]; congr 1; omega
            have numE : mix xs (k + 30 + 60 * (j : Int) + (i : Int)) = numC xs k j i := rfl
            refine .step (o' := .nx [.fz (.scr xs), .fz (.int k), .fz (.int (many : Int)), .ow (((List.range j).map (ldM xs k many)).map eLd), .fz (.int (j : Int)), .ow ((gd1 xs k many j ++ (List.range i).flatMap (gdK xs k many j)).map eFm ++ (gdK xs k many j i).map eFm), .fz (.int (i : Int)), .ow (((List.range i).map (chK xs k many j)).map eFm ++ [eFm (chK xs k many j i)]), .fz (.int (numC xs k j i)), .ow ((plM many i (numC xs k j i)).map .int), .fz (eFm (fmM xs (k + 34 + 60 * j + 5 * i) many true))]) (xg_name 6 nd) ?_ rfl (Le.fg [6, 8, 9, 10] rfl) q
            refine xss_cons (xs_set 8 nd (XV.is (xv_call D__law_mix (hr.mono (by decide)) tk (xa_cons (xv_var 0) (xa_cons (xv_add ((xv_add ((xv_add ((xv_var 1)).br (xv_int).br)).br ((xv_mul (xv_int).br ((xv_var 4)).br (by first | exact Or.inl ⟨by omega, by omega⟩ | exact Or.inr ⟨by omega, by omega⟩))).br)).br ((xv_var 6)).br) xa_nil)) (⟨_, _, rfl, rfl⟩)) (congrArg D.int numE))) ?_
            refine xss_cons (xs_own 9 nd (XL.is (xl_rep ((xl_lst (xa_cons xv_int xa_nil))).br ((xv_add ((xv_var 2)).br (xv_int).br)).br (by omega) (by omega) (by simp; omega)) e0)) ?_
            refine xss_cons (xs_setix 9 xv_int (xv_var 6) rfl (j := i) (by rw [rng_len, ixN_ge (by omega) (by omega)]; rfl)) ?_
            refine xss_cons (xs_setix 9 (xv_sub ((xv_mod ((xv_div ((xv_var 8)).br (xv_int).br (by first | exact ⟨by omega, by omega⟩ | exact ⟨by decide, by decide⟩))).br (xv_int).br (by first | omega | decide | (simp only [List.length_cons]; omega)))).br (xv_int).br) (xv_neg (xv_int).br) rfl (j := many) (last (by rw [List.length_set, rng_len]))) ?_
            rw [e1]
            refine xss_cons (xs_set 10 nd (xv_call D__law_form (hr.mono (by decide)) tk (xa_cons (xv_var 0) (xa_cons (xv_add ((xv_add ((xv_add ((xv_var 1)).br (xv_int).br)).br ((xv_mul (xv_int).br ((xv_var 4)).br (by first | exact Or.inl ⟨by omega, by omega⟩ | exact Or.inr ⟨by omega, by omega⟩))).br)).br ((xv_mul (xv_int).br ((xv_var 6)).br (by first | exact Or.inl ⟨by omega, by omega⟩ | exact Or.inr ⟨by omega, by omega⟩))).br) (xa_cons (xv_var 2) (xa_cons xv_bl xa_nil)))) (⟨_, _, many, true, rfl, by omega, rfl⟩))) ?_
            have ec : (if decide (0 < numC xs k j i % 4) = true then D.tup ((plM many i (numC xs k j i)).map .int) else eFm (fmM xs (k + 34 + 60 * j + 5 * i) many true)) = eFm (chK xs k many j i) := by
              unfold chK
              by_cases z : 0 < numC xs k j i % 4
              · rw [if_pos (decide_eq_true z), if_pos z]; rfl
              · rw [if_neg (by rw [decide_eq_false z]; decide), if_neg z]
            refine xss_cons (xs_append 7 (XV.is (xv_ifd (xt_gt ((xv_mod ((xv_var 8)).br (xv_int).br (by first | omega | decide | (simp only [List.length_cons]; omega)))).br (xv_int).br) (fun hk => (xv_tuple T.tuple (xb_own 9))) (fun hk => (xv_var 10))) ec) (by rfl) (by rw [List.length_map, rng_lenF]; omega)) ?_
            by_cases hc : numC xs k j i / 8 % 5 - 2 < 0 ∧ 0 < numC xs k j i % 4
            · rw [show gdK xs k many j i = [plM many i (numC xs k j i)] by unfold gdK; rw [if_pos hc]]
              have ht : (decide (numC xs k j i / 8 % 5 - 2 < 0) && decide (0 < numC xs k j i % 4)) = true := by rw [decide_eq_true hc.1, decide_eq_true hc.2]; rfl
              exact xss_one (xs_yes (XT.is ((xw_and (xt_lt ((xv_ix (xb_own 9) ((xv_neg (xv_int).br)).br (hlast))).br (xv_int).br) (fun hk => (xw_and1 (xt_gt ((xv_mod ((xv_var 8)).br (xv_int).br (by first | omega | decide | (simp only [List.length_cons]; omega)))).br (xv_int).br))))).t (ht)) (XSs.is (xss_one (xs_append 5 (xv_tuple T.tuple (xb_own 9)) (by rfl) (by rw [List.length_map, List.length_append]; omega))) rfl))
            · rw [show gdK xs k many j i = [] by unfold gdK; rw [if_neg hc], List.map_nil, List.append_nil]
              have ht : (decide (numC xs k j i / 8 % 5 - 2 < 0) && decide (0 < numC xs k j i % 4)) = false := by
                rw [Bool.eq_false_iff]
                intro z
                rw [Bool.and_eq_true, decide_eq_true_eq, decide_eq_true_eq] at z
                exact hc z
              exact xss_one (xs_no (XT.is ((xw_and (xt_lt ((xv_ix (xb_own 9) ((xv_neg (xv_int).br)).br (hlast))).br (xv_int).br) (fun hk => (xw_and1 (xt_gt ((xv_mod ((xv_var 8)).br (xv_int).br (by first | omega | decide | (simp only [List.length_cons]; omega)))).br (xv_int).br))))).t (ht)) xss_nil)
        · refine XSs.freeze 5 (XSs.freeze 7 ?_)
          have et : cutD ((gdL xs k many j).map eFm) none (some 4) = ((gdL xs k many j).take 4).map eFm := by rw [cutD_to _ (by decide), List.map_take]; rfl
          exact XSs.is (xss_one (xs_append 3 (xv_tup (xa_cons ((XL.is (xl_sl ((xv_var 5)).br xp_none (xp_some xv_int)) (et))).v (xa_cons (xv_var 7) (xa_cons (xv_call D__law_form (hr.mono (by decide)) tk (xa_cons (xv_var 0) (xa_cons (xv_add ((xv_add ((xv_var 1)).br (xv_int).br)).br ((xv_mul (xv_int).br ((xv_var 4)).br (by first | exact Or.inl ⟨by omega, by omega⟩ | exact Or.inr ⟨by omega, by omega⟩))).br) (xa_cons (xv_var 2) (xa_cons xv_bl xa_nil)))) (⟨_, _, many, true, rfl, by omega, rfl⟩)) xa_nil)))) (by rfl) (by rw [List.length_map, rng_lenF]; omega))) rfl

/-! the law's own worth of a form at a point -/
def undM : List Rat → Int
  | [] => 1
  | x :: xs => (x.den : Int) * undM xs
theorem und_pos : ∀ p : List Rat, 0 < undM p
  | [] => by decide
  | x :: xs => by
    show 0 < (x.den : Int) * undM xs
    have := x.den_pos
    exact Int.mul_pos (by omega) (und_pos xs)
theorem und_dvd {x : Rat} : ∀ {p : List Rat}, x ∈ p → (x.den : Int) ∣ undM p
  | y :: ys, h => by
    show (x.den : Int) ∣ (y.den : Int) * undM ys
    rcases List.mem_cons.mp h with rfl | h
    · exact Int.dvd_mul_right _ _
    · exact Int.dvd_trans (und_dvd h) (Int.dvd_mul_left _ _)
theorem und_bd {b : Nat} : ∀ {p : List Rat}, (∀ x ∈ p, SQ b x) → (undM p).natAbs < 2 ^ (p.length * b + 1)
  | [], _ => by show 1 < 2 ^ (0 * b + 1); rw [Nat.zero_mul]; decide
  | x :: xs, h => by
    show ((x.den : Int) * undM xs).natAbs < 2 ^ ((xs.length + 1) * b + 1)
    have h1 := (h x List.mem_cons_self).d
    have h2 := und_bd (p := xs) fun y hy => h y (List.mem_cons_of_mem _ hy)
    rw [Int.natAbs_mul, show (xs.length + 1) * b + 1 = b + (xs.length * b + 1) by rw [Nat.succ_mul]; omega]
    exact mul_lt2 h1 h2
/-- the under while it is made, from u on -/
def undGo : Int → List Rat → Int
  | u, [] => u
  | u, x :: xs => undGo (u * (x.den : Int)) xs
theorem undGo_eq : ∀ (p : List Rat) (u : Int), undGo u p = u * undM p
  | [], u => by show u = u * 1; omega
  | x :: xs, u => by
    show undGo (u * (x.den : Int)) xs = u * ((x.den : Int) * undM xs)
    rw [undGo_eq xs, Int.mul_assoc]
def wTerm (f : Form) (p : List Rat) (k : Nat) : Int := fA f k * (p.getD k 0).num * (undM p / ((p.getD k 0).den : Int))
def wM (f : Form) (p : List Rat) : Int := fA f p.length * undM p + sumZ p.length (wTerm f p)
theorem w_term {f : Form} {p : List Rat} {k : Nat} (h : k < p.length) : ((wTerm f p k : Int) : Rat) = (undM p : Rat) * ((fA f k : Rat) * ptQ p k) := by
  have hm : p.getD k 0 ∈ p := getD_mem h
  obtain ⟨c, hc⟩ := und_dvd hm
  have hd : ((p.getD k 0).den : Int) ≠ 0 := den_ne _
  unfold wTerm ptQ
  rw [hc, Int.mul_ediv_cancel_left _ hd, Rat.intCast_mul, Rat.intCast_mul, Rat.intCast_mul]
  generalize p.getD k 0 = x
  have e : ((x.num : Int) : Rat) = x * ((x.den : Int) : Rat) := by
    have := Rat.num_divInt_den x
    rw [Rat.divInt_eq_div] at this
    have hx : (((x.den : Int)) : Rat) ≠ 0 := by exact_mod_cast den_ne x
    conv => rhs; rw [← this]
    grind
  rw [e]; grind
theorem w_eq {f : Form} {p : List Rat} (h : f.length = p.length + 1) : ((wM f p : Int) : Rat) = (undM p : Rat) * wrT f (ptQ p) := by
  unfold wM wrT
  rw [h, show p.length + 1 - 1 = p.length from rfl, Rat.intCast_add, Rat.intCast_mul, sumZ_cast, sumR_congr (f := fun k => ((wTerm f p k : Int) : Rat)) (g := fun k => (undM p : Rat) * ((fA f k : Rat) * ptQ p k)) fun k hk => w_term hk, sumR_mul]
  grind
theorem undQ_pos (p : List Rat) : (0 : Rat) < (undM p : Rat) := by
  have := und_pos p
  exact_mod_cast this
theorem w_low {f : Form} {p : List Rat} (h : f.length = p.length + 1) : wM f p < 0 ↔ wrT f (ptQ p) < 0 := by
  have e := w_eq h
  have hp := undQ_pos p
  constructor
  · intro z
    have z : ((wM f p : Int) : Rat) < ((0 : Int) : Rat) := by exact_mod_cast z
    rw [e] at z
    rcases Classical.em (wrT f (ptQ p) < 0) with y | y
    · exact y
    · have := Rat.mul_nonneg (a := (undM p : Rat)) (b := wrT f (ptQ p)) (by grind) (by grind)
      have z : (undM p : Rat) * wrT f (ptQ p) < 0 := z
      grind
  · intro z
    have q := Rat.mul_pos (a := (undM p : Rat)) (b := - wrT f (ptQ p)) hp (by grind)
    have : ((wM f p : Int) : Rat) < ((0 : Int) : Rat) := by rw [e]; show (undM p : Rat) * wrT f (ptQ p) < 0; grind
    exact_mod_cast this
theorem w_nn {f : Form} {p : List Rat} (h : f.length = p.length + 1) : 0 ≤ wM f p ↔ 0 ≤ wrT f (ptQ p) := by
  have := w_low h
  constructor
  · intro z
    rcases Classical.em (0 ≤ wrT f (ptQ p)) with y | y
    · exact y
    · exact absurd (this.mpr (by grind)) (by omega)
  · intro z
    rcases Classical.em (0 ≤ wM f p) with y | y
    · exact y
    · have := this.mp (by omega)
      exact absurd this (by grind)
/-- shares' worth of the guards' numbers at a place -/
def colF (gs : List Form) (k : Nat) : Form := gs.map (fun g => fA g k) ++ [0]
theorem col_len (gs : List Form) (k : Nat) : (colF gs k).length = gs.length + 1 := by unfold colF; simp
theorem col_at {gs : List Form} {k i : Nat} (h : i < gs.length) : fA (colF gs k) i = fA (gA gs i) k := by
  unfold colF
  conv => lhs; unfold fA
  rw [List.getD_eq_getElem?_getD, List.getElem?_append_left (by rw [List.length_map]; exact h), List.getElem?_map]
  unfold gA
  rw [List.getD_eq_getElem?_getD, List.getElem?_eq_getElem h]; rfl
theorem col_last (gs : List Form) (k : Nat) : fA (colF gs k) gs.length = 0 := by
  unfold colF fA
  rw [List.getD_eq_getElem?_getD, List.getElem?_append_right (by simp), List.length_map, Nat.sub_self]; rfl
theorem col_wr {gs : List Form} {sh : List Rat} {k : Nat} : wrT (colF gs k) (ptQ sh) = lhsM gs sh k := by
  unfold wrT lhsM
  rw [col_len, show gs.length + 1 - 1 = gs.length from rfl, col_last]
  have e : (sumR gs.length fun j => (fA (colF gs k) j : Rat) * ptQ sh j) = sumR gs.length fun i => sh.getD i 0 * (fA (gA gs i) k : Rat) := sumR_congr fun i hi => by
    rw [col_at hi]; unfold ptQ; grind
  rw [e]
  have : ((0 : Int) : Rat) = 0 := rfl
  grind
theorem col_small {b : Nat} {gs : List Form} {k : Nat} (h : ∀ g ∈ gs, SmallF b g) : SmallF b (colF gs k) := by
  intro v hv
  unfold colF at hv
  rcases List.mem_append.mp hv with hv | hv
  · obtain ⟨g, hg, rfl⟩ := List.mem_map.mp hv
    exact (h g hg).at k
  · rw [List.mem_singleton.mp hv]; simp
theorem w_goal {gs : List Form} {sh : List Rat} {k : Nat} (h : sh.length = gs.length) (g : Int) : decide (g * undM sh < wM (colF gs k) sh) = !decide (lhsM gs sh k ≤ (g : Rat)) := by
  rw [← decide_not]
  refine decide_eq_decide.mpr ?_
  have e := w_eq (f := colF gs k) (p := sh) (by rw [col_len, h])
  rw [col_wr] at e
  have hp := undQ_pos sh
  constructor
  · intro z
    have z : ((g * undM sh : Int) : Rat) < ((wM (colF gs k) sh : Int) : Rat) := by exact_mod_cast z
    rw [e, Rat.intCast_mul] at z
    intro y
    have := Rat.mul_nonneg (a := (undM sh : Rat)) (b := (g : Rat) - lhsM gs sh k) (by grind) (by grind)
    grind
  · intro z
    have q := Rat.mul_pos (a := (undM sh : Rat)) (b := lhsM gs sh k - (g : Rat)) hp (by grind)
    have : ((g * undM sh : Int) : Rat) < ((wM (colF gs k) sh : Int) : Rat) := by rw [e, Rat.intCast_mul]; grind
    exact_mod_cast this

theorem sum_Z (f : Nat → Int) : ∀ n : Nat, ((List.range n).map f).sum = sumZ n f
  | 0 => rfl
  | n + 1 => by rw [List.range_succ, List.map_append, List.sum_append, sum_Z f n]; show _ + (f n + 0) = _; rw [Int.add_zero]; rfl

abbrev s_law_worth : Stmt := top 40
abbrev N_law_worth : List Str := ["_law_form_here", "_law_point", "_law_under", "_law_one", "_law_found", "_law_k"]
abbrev P_law_worth : List Str := ["_law_form_here", "_law_point"]
theorem sc_law_worth : FnScope N_law_worth P_law_worth (defScope s_law_worth) := ⟨rfl, rfl, rfl, by decide +kernel, rfl, by decide +kernel, by decide +kernel⟩

def F_law_worth : Fs := fun args r => ∃ (f : Form) (p : List Rat), args = [eFm f, .lst (p.map eQ)] ∧ (f.length = p.length + 1 ∧ p.length ≤ 4) ∧ SmallF 8000000 f ∧ (∀ x ∈ p, SQ 2300 x) ∧ r = .ok (.int (wM f p))
theorem df_law_worth {P : Program} {w : World} {K : Fg} {mg : Str → Option Value} {base : Heap} (T : Tx K mg) (U : Dn K mg "_law_worth" s_law_worth P_law_worth) : Df P w K mg base "_law_worth" 1 F_law_worth :=
  df_of 0 U sc_law_worth (fun _ _ ⟨_, _, h, _⟩ => by rw [h]; rfl) fun f cdv A outer s H E args r hr tk hp hF => by
    obtain ⟨x, p, rfl, ⟨hl, h4⟩, hx, hpq, rfl⟩ := hF
    have nd := sc_law_worth.nd
    have hpl : (p.map eQ).length = p.length := List.length_map _
    have eU : undGo 1 p = undM p := by rw [undGo_eq, Int.one_mul]
    have uB : (undM p).natAbs < 2 ^ 9201 := pow_le2 (und_bd hpq) (by omega)
    refine XF.rt (xss_cons (xs_set 2 nd xv_int) ?_)
    refine xss_cons (ds1 := [.fz (eFm x), .fz (.lst (p.map eQ)), .fz (.int (undM p)), .no, .no, .no]) (xs_for hp rfl (xi_list (xv_var 1)) ?_) ?_
    · suffices loop : ∀ (l : List Rat) (u : Int) (e : Nat), (∀ x ∈ l, SQ 2300 x) → u.natAbs < 2 ^ e → e + l.length * 2300 ≤ 10000 → Fr _ _ _ _ (l.map eQ) [.fz (eFm x), .fz (.lst (p.map eQ)), .fz (.int u), .no, .no, .no] (.nx [.fz (eFm x), .fz (.lst (p.map eQ)), .fz (.int (undGo u l)), .no, .no, .no]) by
        have q := loop p 1 1 hpq (by decide) (by omega)
        rw [eU] at q
        exact q
      intro l
      induction l with
      | nil => intro u e _ _ _; exact .nil
      | cons y l ih =>
        intro u e hq hu he
        have hy := hq y List.mem_cons_self
        rw [List.length_cons, Nat.succ_mul] at he
        have c1 : CMulW u (y.den : Int) := cmw hu hy.d (by omega)
        have hu2 : (u * (y.den : Int)).natAbs < 2 ^ (e + 2300) := by rw [Int.natAbs_mul]; exact mul_lt2 hu hy.d
        have q := ih (u * (y.den : Int)) (e + 2300) (fun z hz => hq z (List.mem_cons_of_mem _ hz)) hu2 (by omega)
        exact .step (xg_name 3 nd) (xss_one (xs_set 2 nd (xv_mulW ((xv_var 2)).br ((xv_ix ((xv_var 3)).br (xv_int).br (ix_Q2 _))).br c1))) rfl (Le.fg [3] rfl) q
    · have c2 : CMulW (fA x p.length) (undM p) := cmw (n := 23) (Nat.lt_of_le_of_lt (hx.at _) (by decide)) uB (by decide)
      refine xss_cons (xs_set 4 nd (xv_mulW ((xv_ix ((xv_var 0)).br ((xv_neg (xv_int).br)).br (ix_fmL hl))).br ((xv_var 2)).br c2)) ?_
      refine xss_cons (ds1 := [.fz (eFm x), .fz (.lst (p.map eQ)), .fz (.int (undM p)), .no, .fz (.int (wM x p)), .no]) (xs_for hp rfl (xi_range T.range (xv_len T.len ((xv_var 1)).br) (by omega) (by rw [hpl]; omega)) ?_) (xss_ret (xv_var 4))
      rw [hpl, Int.toNat_natCast, rngD_F]
      suffices loop : ∀ (m i : Nat), i + m = p.length → Fr _ _ _ _ (rngF i m) [.fz (eFm x), .fz (.lst (p.map eQ)), .fz (.int (undM p)), .no, .fz (.int (fA x p.length * undM p + sumZ i (wTerm x p))), .no] (.nx [.fz (eFm x), .fz (.lst (p.map eQ)), .fz (.int (undM p)), .no, .fz (.int (wM x p)), .no]) by
        have q := loop p.length 0 (by omega)
        rw [show sumZ 0 (wTerm x p) = 0 from rfl, Int.add_zero] at q
        exact q
      intro m
      induction m with
      | zero => intro i hi; obtain rfl : i = p.length := by omega
                exact .nil
      | succ m ih =>
        intro i hi
        have q := ih (i + 1) (by omega)
        have hi2 : i < p.length := by omega
        have hy := hpq _ (getD_mem (d := (0 : Rat)) hi2)
        have ixp : ixD (.lst (p.map eQ)) (i : Int) = some (eQ (p.getD i 0)) := ix_map (by
          rw [atI_ge (by omega) (by omega), List.getD_eq_getElem?_getD, List.getElem?_eq_getElem hi2]
          simp)
        have ixf : ixD (eFm x) (i : Int) = some (.int (fA x i)) := ix_fm (by omega)
        rw [show sumZ (i + 1) (wTerm x p) = sumZ i (wTerm x p) + wTerm x p i from rfl, ← Int.add_assoc] at q
        unfold wTerm at q ⊢
        generalize p.getD i 0 = y at *
        have fB : (fA x i).natAbs < 2 ^ 23 := Nat.lt_of_le_of_lt (hx.at i) (by decide)
        have c3 : CMulW (fA x i) y.num := cmw fB hy.1 (by decide)
        have hd0 : (0 : Int) < (y.den : Int) := by have := y.den_pos; omega
        have c4 : CDivW (undM p) (y.den : Int) := ⟨hd0, Nat.lt_of_le_of_lt (log2_le (n := 2300) hy.d) (by decide)⟩
        have uD : (undM p / (y.den : Int)).natAbs < 2 ^ 9201 := by
          have h0 := und_pos p
          have h1 := Int.ediv_le_self (y.den : Int) (show 0 ≤ undM p by omega)
          have h2 := Int.ediv_nonneg (show 0 ≤ undM p by omega) (show 0 ≤ (y.den : Int) by omega)
          omega
        have c5 : CMulW (fA x i * y.num) (undM p / (y.den : Int)) := cmw (n := 2323) (by rw [Int.natAbs_mul]; exact mul_lt2 fB hy.1) uD (by decide)
        rw [rngF_succ]
        exact .step (xg_name 5 nd) (xss_one (xs_set 4 nd (xv_add ((xv_var 4)).br ((xv_mulW (XV.br (xv_mulW ((xv_ix ((xv_var 0)).br ((xv_var 5)).br (ixf))).br ((xv_ix ((xv_ix ((xv_var 1)).br ((xv_var 5)).br (ixp))).br (xv_int).br (ix_Q1 _))).br c3)) (XV.br (xv_divW ((xv_var 2)).br ((xv_ix ((xv_ix ((xv_var 1)).br ((xv_var 5)).br (ixp))).br (xv_int).br (ix_Q2 _))).br c4)) c5)).br))) rfl (Le.fg [5] rfl) q

abbrev s_law_duties : Stmt := top 41
abbrev N_law_duties : List Str := ["_law_lines_here", "_law_prices", "_law_purse", "_law_found", "_law_k", "_law_guards", "_law_changes", "_law_cost", "_law_form_here", "_law_j", "_law_later", "_law_i", "_law_change"]
abbrev P_law_duties : List Str := ["_law_lines_here", "_law_prices", "_law_purse"]
theorem sc_law_duties : FnScope N_law_duties P_law_duties (defScope s_law_duties) := ⟨rfl, rfl, rfl, by decide +kernel, rfl, by decide +kernel, by decide +kernel⟩

def F_law_duties : Fs := fun args r => ∃ (n : Nat) (ds : List LDeed) (prices : List Int) (purse : Form), args = [eLn (n : Int) ds, .lst (prices.map .int), eFm purse] ∧ PairN n ds prices purse ∧ r = .ok (.lst ((dutM ds prices purse).map eDuty))
theorem df_law_duties {P : Program} {w : World} {K : Fg} {mg : Str → Option Value} {base : Heap} (T : Tx K mg) (U : Dn K mg "_law_duties" s_law_duties P_law_duties) : Df P w K mg base "_law_duties" 1 F_law_duties :=
  df_of 0 U sc_law_duties (fun _ _ ⟨_, _, _, _, h, _⟩ => by rw [h]; rfl) fun f cdv A outer s H E args r hr tk hp hF => by
    obtain ⟨n, ds, prices, purse, rfl, hP, rfl⟩ := hF
    have nd := sc_law_duties.nd
    have hd8 := hP.d8
    have hn4 := hP.n4
    have hdl : (ds.map eLd).length = ds.length := List.length_map _
    obtain ⟨pl, pb⟩ := hP.pu
    have hlm : (purse.map D.int).length = n + 1 := by rw [List.length_map, pl]
    have klen : ∀ k, k < ds.length → (dutK ds prices purse k).length ≤ 5 := fun k hk => by
      have := (hP.d _ (dAtL_mem hk)).cl
      unfold dutK; rw [List.length_cons, List.length_map]; omega
    have plen : ∀ i, i ≤ ds.length → ((List.range i).flatMap (dutK ds prices purse)).length ≤ 5 * i := fun i => by
      induction i with
      | zero => intro _; simp
      | succ i ih =>
        intro hi
        have := ih (by omega)
        have := klen i (by omega)
        rw [List.range_succ, List.flatMap_append, List.length_append]
        simp only [List.flatMap_cons, List.flatMap_nil, List.append_nil]
        omega
    have i0 : ixD (eLn (n : Int) ds) 1 = some (.lst (ds.map eLd)) := rfl
    have ipu : ∀ k : Nat, k < n + 1 → ixD (eFm purse) (k : Int) = some (.int (fA purse k)) := fun k h => ix_fm (by omega)
    refine XF.rt (xss_cons (xs_own 3 nd (xl_lst xa_nil)) ?_)
    refine xss_cons (ds1 := [.fz (eLn (n : Int) ds), .fz (.lst (prices.map .int)), .fz (eFm purse), .ow (((List.range ds.length).flatMap (dutK ds prices purse)).map eDuty), .no, .no, .no, .no, .no, .no, .no, .no, .no]) (xs_for hp rfl (xi_range T.range (xv_len T.len ((xv_ix ((xv_var 0)).br (xv_int).br (i0))).br) (by omega) (by rw [hdl]; omega)) ?_) ?_
    · rw [hdl, Int.toNat_natCast, rngD_F]
      suffices loop : ∀ (m i : Nat), i + m = ds.length → Fr _ _ _ _ (rngF i m) [.fz (eLn (n : Int) ds), .fz (.lst (prices.map .int)), .fz (eFm purse), .ow (((List.range i).flatMap (dutK ds prices purse)).map eDuty), .no, .no, .no, .no, .no, .no, .no, .no, .no] (.nx [.fz (eLn (n : Int) ds), .fz (.lst (prices.map .int)), .fz (eFm purse), .ow (((List.range ds.length).flatMap (dutK ds prices purse)).map eDuty), .no, .no, .no, .no, .no, .no, .no, .no, .no]) by
        exact loop ds.length 0 (by omega)
      intro m
      induction m with
      | zero => intro i hi; obtain rfl : i = ds.length := by omega
                exact .nil
      | succ m ih =>
        intro i hi
        have q := ih (i + 1) (by omega)
        have hi2 : i < ds.length := by omega
        have hD := hP.d _ (dAtL_mem hi2)
        have hl1 := plen i (by omega)
        have hpl := hP.p
        have hpb : (prices.getD i 0).natAbs ≤ 1000 := by
          rw [List.getD_eq_getElem?_getD, List.getElem?_eq_getElem (by omega)]
          exact hP.pb _ (List.getElem_mem _)
        have ixd : ixD (.lst (ds.map eLd)) (i : Int) = some (eLd (dAtL ds i)) := ix_ds hi2
        have ed : ((List.range (i + 1)).flatMap (dutK ds prices purse)).map eDuty = (((List.range i).flatMap (dutK ds prices purse)).map eDuty ++ [eDuty ((dAtL ds i).1, loL (dAtL ds i) (prices.getD i 0) purse)]) ++ (dAtL ds i).2.1.map fun c => eDuty ((dAtL ds i).1, c) := by
          rw [List.range_succ, List.flatMap_append]
          simp only [List.flatMap_cons, List.flatMap_nil, List.append_nil]
          unfold dutK
          simp [Function.comp_def]
        rw [ed] at q
        generalize dAtL ds i = d at *
        generalize hpr : prices.getD i 0 = pr at *
        have hcl := hD.cl
        have hcm : (d.2.1.map eFm).length = n := by rw [List.length_map, hcl]
        let g_ := fun j => fA purse j - fA d.2.2 j - sumZ n fun k => fA purse k * fA (gA d.2.1 k) j
        have ixk : ∀ j : Nat, j < n + 1 → ixD (eFm d.2.2) (j : Int) = some (.int (fA d.2.2 j)) := fun j h => ix_fm (by rw [hD.k.1]; omega)
        rw [rngF_succ]
        refine .step (o' := .nx [.fz (eLn (n : Int) ds), .fz (.lst (prices.map .int)), .fz (eFm purse), .ow ((((List.range i).flatMap (dutK ds prices purse)).map eDuty ++ [eDuty (d.1, loL d pr purse)]) ++ d.2.1.map fun c => eDuty (d.1, c)), .fz (.int (i : Int)), .fz (.lst (d.1.map eFm)), .fz (.lst (d.2.1.map eFm)), .fz (eFm d.2.2), .ow ((loL d pr purse).map .int), .no, .no, .no, .no]) (xg_name 4 nd) (xss_cons (xs_asg (xv_ix ((xv_ix ((xv_var 0)).br (xv_int).br (i0))).br ((xv_var 4)).br (ixd)) (xg_tup rfl (xgs_cons (xg_name 5 nd) (xgs_cons (xg_name 6 nd) (xgs_cons (xg_name 7 nd) xgs_nil))))) (xss_cons (xs_own 8 nd (xl_lst xa_nil)) ?_)) rfl (Le.fg [4, 5, 6, 7, 8] rfl) q
        clear q ih ed
        refine xss_cons (ds1 := [.fz (eLn (n : Int) ds), .fz (.lst (prices.map .int)), .fz (eFm purse), .ow (((List.range i).flatMap (dutK ds prices purse)).map eDuty), .fz (.int (i : Int)), .fz (.lst (d.1.map eFm)), .fz (.lst (d.2.1.map eFm)), .fz (eFm d.2.2), .ow ((List.range (n + 1)).map fun j => D.int (g_ j)), .no, .no, .no, .no]) (xs_for hp rfl (xi_range T.range (xv_len T.len ((xv_var 2)).br) (by omega) (by rw [hlm]; omega)) ?_) ?_
        · rw [hlm, Int.toNat_natCast, rngD_F]
          suffices loop : ∀ (m j : Nat), j + m = n + 1 → Fr _ _ _ _ (rngF j m) [.fz (eLn (n : Int) ds), .fz (.lst (prices.map .int)), .fz (eFm purse), .ow (((List.range i).flatMap (dutK ds prices purse)).map eDuty), .fz (.int (i : Int)), .fz (.lst (d.1.map eFm)), .fz (.lst (d.2.1.map eFm)), .fz (eFm d.2.2), .ow ((List.range j).map fun j => D.int (g_ j)), .no, .no, .no, .no] (.nx [.fz (eLn (n : Int) ds), .fz (.lst (prices.map .int)), .fz (eFm purse), .ow (((List.range i).flatMap (dutK ds prices purse)).map eDuty), .fz (.int (i : Int)), .fz (.lst (d.1.map eFm)), .fz (.lst (d.2.1.map eFm)), .fz (eFm d.2.2), .ow ((List.range (n + 1)).map fun j => D.int (g_ j)), .no, .no, .no, .no]) by
            exact loop (n + 1) 0 (by omega)
          intro m
          induction m with
          | zero => intro j hj; obtain rfl : j = n + 1 := by omega
                    exact .nil
          | succ m ih =>
            intro j hj
            have q := ih (j + 1) (by omega)
            have hj2 : j < n + 1 := by omega
            rw [List.range_succ, List.map_append] at q
            rw [rngF_succ]
            have hk : ∀ k : Nat, k ∈ List.range (((((d.2.1.map eFm).length : Nat) : Int)).toNat) → k < n := fun k h => by rw [hcm, Int.toNat_natCast] at h; exact List.mem_range.mp h
            have hmul : ∀ k : Nat, k < n → CMulW (fA purse k) (fA (gA d.2.1 k) j) := fun k h => cmw (n := 10) (m := 10) (Nat.lt_of_le_of_lt (pb.at k) (by decide)) (Nat.lt_of_le_of_lt ((hD.c _ (gA_mem (by omega))).2.at j) (by decide)) (by decide)
            have ixc : ∀ k : Nat, k < n → ixD (.lst (d.2.1.map eFm)) (k : Int) = some (eFm (gA d.2.1 k)) := fun k h => ix_gs (by omega)
            have ixcj : ∀ k : Nat, k < n → ixD (eFm (gA d.2.1 k)) (j : Int) = some (.int (fA (gA d.2.1 k) j)) := fun k h => ix_fm (by rw [(hD.c _ (gA_mem (show k < d.2.1.length by omega))).1]; omega)
            have es : D.lst ((List.range (((((d.2.1.map eFm).length : Nat) : Int)).toNat)).map fun k => D.int (fA purse k * fA (gA d.2.1 k) j)) = .lst (((List.range n).map fun k => fA purse k * fA (gA d.2.1 k) j).map D.int) := by rw [hcm, Int.toNat_natCast, List.map_map]; rfl
            have ez : ((List.range n).map fun k => fA purse k * fA (gA d.2.1 k) j).sum = sumZ n fun k => fA purse k * fA (gA d.2.1 k) j := sum_Z _ n
            exact .step (xg_name 9 nd) (xss_cons (xs_set 10 nd (XV.is (xv_sum rfl T.sum ((xl_lc [("_law_i", 11)] rfl nd (xi_range T.range (xv_len T.len ((xv_var 6)).br) (by omega) (by rw [hcm]; omega)) (blkOk_by (own := [("_law_i", 11)]) (N := N_law_duties) (sc := defScope s_law_duties) (by decide +kernel)) ((lc_map (f := fun (n : Nat) => D.int n) (g := fun k => D.int (fA purse k * fA (gA d.2.1 k) j)) (List.range _) fun x_1 hx_1 => ⟨_, (fun _ _ _ _ _ => (xgw_name 11 nd)), (fun _ _ _ _ _ => (xv_mulW ((xv_ix ((xv_var 2)).br ((xv_var 11)).br (ipu x_1 (by have := hk x_1 hx_1; omega)))).br ((xv_ix ((xv_ix ((xv_var 6)).br ((xv_var 11)).br (ixc x_1 (hk x_1 hx_1)))).br ((xv_var 9)).br (ixcj x_1 (hk x_1 hx_1)))).br (hmul x_1 (hk x_1 hx_1))))⟩)) (by rw [rngD_F, rngF_len]; rw [hcm]; omega))).br (es)) (congrArg D.int ez))) (xss_one (xs_append 8 (xv_sub ((xv_sub ((xv_ix ((xv_var 2)).br ((xv_var 9)).br (ipu j hj2))).br ((xv_ix ((xv_var 7)).br ((xv_var 9)).br (ixk j hj2))).br)).br ((xv_var 10)).br) (by rfl) (by rw [rng_len]; omega)))) rfl (Le.fg [9, 10] rfl) q
        · have hlast : ixD (.lst ((List.range (n + 1)).map fun j => D.int (g_ j))) (-1) = some (.int (g_ n)) := ix_tupL
          have ipr : ixD (.lst (prices.map D.int)) (i : Int) = some (.int pr) := by rw [← hpr]; exact ix_pr (by omega)
          have eL : ((List.range (n + 1)).map fun j => D.int (g_ j)).set n (.int (g_ n + pr - fA purse n)) = (loL d pr purse).map .int := by
            rw [set_rng]
            unfold loL
            rw [List.map_map, pl]
            refine rng_congr fun j hj => ?_
            show _ = D.int (loM d pr purse j)
            unfold loM bhM
            rw [hcl, pl]
            show (if j = n then D.int (fA purse n - fA d.2.2 n - (sumZ n fun k => fA purse k * fA (gA d.2.1 k) n) + pr - fA purse n) else D.int (fA purse j - fA d.2.2 j - sumZ n fun k => fA purse k * fA (gA d.2.1 k) j)) = _
            by_cases z : j = n
            · subst z
              rw [if_pos rfl, if_pos rfl, if_pos rfl]
              generalize (sumZ j fun k => fA purse k * fA (gA d.2.1 k) j) = S
              congr 1; omega
            · rw [if_neg z, if_neg (by omega), if_neg (by omega)]
              generalize (sumZ n fun k => fA purse k * fA (gA d.2.1 k) j) = S
              congr 1; omega
          refine xss_cons (xs_setix 8 (xv_sub ((xv_add ((xv_ix (xb_own 8) ((xv_neg (xv_int).br)).br (hlast))).br ((xv_ix ((xv_var 1)).br ((xv_var 4)).br (ipr))).br)).br ((xv_ix ((xv_var 2)).br ((xv_neg (xv_int).br)).br (ix_fmL pl))).br) (xv_neg (xv_int).br) rfl (j := n) (by rw [rng_len]; unfold ixN; rw [if_neg (by omega), if_pos (by omega)]; congr 1; omega)) ?_
          rw [eL]
          refine xss_cons (xs_append 3 (xv_tup (xa_cons (xv_var 5) (xa_cons (xv_tuple T.tuple (xb_own 8)) xa_nil))) (by rfl) (by rw [List.length_map]; omega)) ?_
          exact XSs.is (xss_one (xs_own 3 nd (xl_cat (xb_own 3) ((xl_lc [("_law_change", 12)] rfl nd (xi_list (xv_var 6)) (blkOk_by (own := [("_law_change", 12)]) (N := N_law_duties) (sc := defScope s_law_duties) (by decide +kernel)) ((lc_map (f := eFm) (g := fun c => eDuty (d.1, c)) d.2.1 fun x_1 hx_1 => ⟨_, (fun _ _ _ _ _ => (xgw_name 12 nd)), (fun _ _ _ _ _ => (xv_tup (xa_cons (xv_var 5) (xa_cons (xv_var 12) xa_nil))))⟩)) (by rw [List.length_map]; omega))).br (by rw [List.length_append, List.length_map, List.length_map, List.length_singleton]; omega)))) rfl
    · have hl1 := plen ds.length (Nat.le_refl _)
      have e : ((List.range ds.length).flatMap (dutK ds prices purse)).map eDuty ++ [.tup [.lst [], eFm purse]] = (dutM ds prices purse).map eDuty := by
        unfold dutM
        rw [List.map_append]; rfl
      exact xss_ret ((XL.is (xl_cat (xb_own 3) ((xl_lst (xa_cons (xv_tup (xa_cons ((xl_lst xa_nil)).v (xa_cons (xv_tupT T.tuple ((xv_var 2)).br) xa_nil))) xa_nil))).br (by rw [List.length_map, List.length_singleton]; omega)) (e))).v

/-! what is settled, holds -/
theorem setGo_cases (n : Nat) : ∀ (L : List Duty) (i : Nat) (acc : List D), (∃ k d, L[k]? = some d ∧ failsD n d ∧ (∀ j, j < k → ∀ e, L[j]? = some e → ¬ failsD n e) ∧ setGo n i L acc = .tup [.str "fails", .int ((i + k : Nat) : Int), eRow n (ptM n d.1 d.2)]) ∨ ((∀ d ∈ L, ¬ failsD n d) ∧ setGo n i L acc = .tup [.str "pays", .lst (acc ++ L.map (paperD n))])
  | [], i, acc => .inr ⟨fun d hd => absurd hd (by simp), by rw [setGo, List.map_nil, List.append_nil]⟩
  | d :: L, i, acc => by
    by_cases hf : failsD n d
    · exact .inl ⟨0, d, rfl, hf, fun j hj => absurd hj (by omega), by rw [setGo, if_pos hf]; rfl⟩
    · rw [setGo, if_neg hf]
      rcases setGo_cases n L (i + 1) (acc ++ [paperD n d]) with ⟨k, e, h1, h2, h3, h4⟩ | ⟨h1, h2⟩
      · refine .inl ⟨k + 1, e, h1, h2, fun j hj x hx => ?_, by rw [h4, show i + 1 + k = i + (k + 1) by omega]⟩
        cases j with
        | zero => cases hx; exact hf
        | succ j => exact h3 j (by omega) x hx
      · refine .inr ⟨fun x hx => ?_, by rw [h2, List.map_cons, List.append_assoc]; rfl⟩
        rcases List.mem_cons.mp hx with rfl | hx
        · exact hf
        · exact h1 x hx
/-- a point with a one behind it -/
def exP (n : Nat) (p : Nat → Rat) (k : Nat) : Rat := if k = n then 1 else p k
theorem wr_ex {n : Nat} {f : Form} (h : f.length = n + 1) (p : Nat → Rat) : wrT f p = sumR (n + 1) fun k => (fA f k : Rat) * exP n p k := by
  unfold wrT
  rw [h, show n + 1 - 1 = n from rfl]
  show _ = (sumR n fun k => (fA f k : Rat) * exP n p k) + (fA f n : Rat) * exP n p n
  rw [sumR_congr (g := fun k => (fA f k : Rat) * exP n p k) fun j hj => by unfold exP; rw [if_neg (by omega)]]
  unfold exP
  rw [if_pos rfl]; grind
theorem sumR_le {f g : Nat → Rat} : ∀ {m : Nat}, (∀ i, i < m → f i ≤ g i) → sumR m f ≤ sumR m g
  | 0, _ => by show (0 : Rat) ≤ 0; grind
  | m + 1, h => by
    show sumR m f + f m ≤ sumR m g + g m
    have := sumR_le (m := m) fun i hi => h i (by omega)
    have := h m (by omega)
    grind
/-- shares that come to no more than goals: so do the worths -/
theorem shares_le {n : Nat} {gs : List Form} {y c : Nat → Rat} {p : Nat → Rat} (hg : ∀ g ∈ gs, g.length = n + 1) (hp : ∀ j, j < n → 0 ≤ p j) (h : ∀ k, k < n + 1 → (sumR gs.length fun i => y i * (fA (gA gs i) k : Rat)) ≤ c k) :
    (sumR gs.length fun i => y i * wrT (gA gs i) p) ≤ sumR (n + 1) fun k => c k * exP n p k := by
  have e : (sumR gs.length fun i => y i * wrT (gA gs i) p) = sumR (n + 1) fun k => (sumR gs.length fun i => y i * (fA (gA gs i) k : Rat)) * exP n p k := by
    have e1 : (sumR gs.length fun i => y i * wrT (gA gs i) p) = sumR gs.length fun i => sumR (n + 1) fun k => y i * (fA (gA gs i) k : Rat) * exP n p k := sumR_congr fun i hi => by
      rw [wr_ex (hg _ (gA_mem hi)), ← sumR_mul]
      exact sumR_congr fun k _ => by grind
    rw [e1, sumR_swap]
    exact sumR_congr fun k _ => by rw [sumR_mulr]
  rw [e]
  refine sumR_le fun k hk => ?_
  have hx : 0 ≤ exP n p k := by
    unfold exP
    split
    · grind
    · exact hp k (by omega)
  have := Rat.mul_nonneg (a := c k - sumR gs.length fun i => y i * (fA (gA gs i) k : Rat)) (b := exP n p k) (by have := h k hk; grind) hx
  grind
theorem holds_of {n : Nat} {gs : List Form} {f : Form} {y : Nat → Rat} {p : Nat → Rat} (hf : f.length = n + 1) (hg : ∀ g ∈ gs, g.length = n + 1) (hy : ∀ i, i < gs.length → 0 ≤ y i) (hp : ∀ j, j < n → 0 ≤ p j) (hgp : ∀ g ∈ gs, 0 ≤ wrT g p)
    (h : (∀ k, k < n + 1 → (sumR gs.length fun i => y i * (fA (gA gs i) k : Rat)) ≤ (fA f k : Rat)) ∨ ∀ k, k < n + 1 → (sumR gs.length fun i => y i * (fA (gA gs i) k : Rat)) ≤ if k = n then -1 else 0) : 0 ≤ wrT f p := by
  have nn : 0 ≤ sumR gs.length fun i => y i * wrT (gA gs i) p := sumR_nn fun i hi => Rat.mul_nonneg (hy i hi) (hgp _ (gA_mem hi))
  rcases h with h | h
  · have := shares_le hg hp h
    rw [wr_ex hf]; grind
  · have q := shares_le hg hp h
    rw [sumR_one (f := fun k => (if k = n then (-1 : Rat) else 0) * exP n p k) (k := n) (by omega) fun k _ hk => by rw [if_neg hk]; grind, if_pos rfl] at q
    unfold exP at q
    rw [if_pos rfl] at q
    exact absurd q (by grind)
theorem holds_at {n : Nat} {d : Duty} (h : DutN n d.1 d.2) (hf : ¬ failsD n d) {p : Nat → Rat} (hp : ∀ j, j < n → 0 ≤ p j) (hg : ∀ g ∈ d.1, 0 ≤ wrT g p) : 0 ≤ wrT d.2 p := by
  by_cases hl : isLine d.1 d.2
  · exact holds_of (y := shL d.1 d.2) h.f.1 (fun g hgm => (h.g g hgm).1) (fun i _ => shL_nn i) hp hg (.inl fun k hk => shL_ok hl (by have := h.f.1; omega))
  · have hN : isNone n d.1 := by
      rcases Classical.em (isNone n d.1) with z | z
      · exact z
      · exact absurd ⟨hl, z⟩ hf
    refine holds_of (y := shN n d.1) h.f.1 (fun g hgm => (h.g g hgm).1) (fun i hi => shN_nn hN hi) hp hg (.inr fun k hk => ?_)
    by_cases e : k = n
    · subst e; rw [if_pos rfl, shN_l hN]; grind
    · rw [if_neg e]; exact shN_x hN (by omega)
/-- a form behind changes has the form's worth behind them -/
theorem bh_wr {n : Nat} {f : Form} {cs : List Form} (hf : f.length = n + 1) (hc : cs.length = n) (hcs : ∀ c ∈ cs, c.length = n + 1) (p : Nat → Rat) : wrT (bhL f cs) p = wrT f fun k => wrT (gA cs k) p := by
  have hl : (bhL f cs).length = n + 1 := by rw [bh_len, hf]
  rw [wr_ex hl]
  have e1 : (sumR (n + 1) fun k => (fA (bhL f cs) k : Rat) * exP n p k) = sumR (n + 1) fun j => (if j = n then (fA f n : Rat) else 0) * exP n p j + (sumR n fun k => (fA f k : Rat) * (fA (gA cs k) j : Rat)) * exP n p j := sumR_congr fun j hj => by
    have e : fA (bhL f cs) j = bhM f cs j := by unfold bhL; rw [fA_rng (by omega)]
    rw [e]
    unfold bhM
    rw [hf, hc, Rat.intCast_add, sumZ_cast, Rat.add_mul]
    congr 1
    · congr 1
      by_cases z : j = n
      · subst z; rw [if_pos rfl, if_pos rfl]
      · rw [if_neg (by omega), if_neg z]; rfl
    · congr 1
      exact sumR_congr fun k _ => by rw [Rat.intCast_mul]
  rw [e1, sumR_add, sumR_one (k := n) (by omega) fun k _ hk => by rw [if_neg hk]; grind, if_pos rfl]
  have e2 : (sumR (n + 1) fun j => (sumR n fun k => (fA f k : Rat) * (fA (gA cs k) j : Rat)) * exP n p j) = sumR n fun k => (fA f k : Rat) * wrT (gA cs k) p := by
    have e3 : (sumR (n + 1) fun j => (sumR n fun k => (fA f k : Rat) * (fA (gA cs k) j : Rat)) * exP n p j) = sumR (n + 1) fun j => sumR n fun k => (fA f k : Rat) * (fA (gA cs k) j : Rat) * exP n p j := sumR_congr fun j _ => by rw [sumR_mulr]
    rw [e3, sumR_swap]
    refine sumR_congr fun k hk => ?_
    rw [wr_ex (hcs _ (gA_mem (by omega))), ← sumR_mul]
    exact sumR_congr fun j _ => by grind
  rw [e2]
  unfold wrT
  rw [hf, show n + 1 - 1 = n from rfl]
  unfold exP
  rw [if_pos rfl]; grind
theorem lo_wr {n : Nat} {d : LDeed} {price : Int} {f : Form} (hd : LdN n d) (hf : f.length = n + 1) (p : Nat → Rat) : wrT (loL d price f) p = wrT f p - wrT d.2.2 p - wrT f (fun k => wrT (gA d.2.1 k) p) + (price : Rat) := by
  rw [← bh_wr hf hd.cl (fun c hc => (hd.c c hc).1) p, wr_ex (n := n) (by rw [lo_len, hf]), wr_ex hf, wr_ex hd.k.1, wr_ex (n := n) (by rw [bh_len, hf])]
  have e : (sumR (n + 1) fun k => (fA (loL d price f) k : Rat) * exP n p k) = sumR (n + 1) fun k => ((fA f k : Rat) * exP n p k + (-1) * ((fA d.2.2 k : Rat) * exP n p k)) + ((-1) * ((fA (bhL f d.2.1) k : Rat) * exP n p k) + (if k = n then (price : Rat) else 0) * exP n p k) := sumR_congr fun k hk => by
    have e1 : fA (loL d price f) k = loM d price f k := by unfold loL; rw [fA_rng (by omega)]
    have e2 : fA (bhL f d.2.1) k = bhM f d.2.1 k := by unfold bhL; rw [fA_rng (by omega)]
    rw [e1, e2]
    unfold loM
    rw [hf, Rat.intCast_add, Rat.intCast_sub, Rat.intCast_sub]
    by_cases z : k = n
    · subst z; rw [if_pos rfl, if_pos rfl]; grind
    · rw [if_neg (by omega), if_neg z]; grind
  rw [e, sumR_add, sumR_add, sumR_add, sumR_mul, sumR_mul, sumR_one (f := fun k => (if k = n then (price : Rat) else 0) * exP n p k) (k := n) (by omega) fun k _ hk => by rw [if_neg hk]; grind, if_pos rfl]
  have : exP n p n = 1 := by unfold exP; rw [if_pos rfl]
  rw [this]; grind
/-- a form at a state of whole numbers -/
def atM (f : Form) (x : List Int) : Int := (sumZ x.length fun k => fA f k * x.getD k 0) + fA f x.length
def xQ (x : List Int) (k : Nat) : Rat := ((x.getD k 0 : Int) : Rat)
theorem at_wr {f : Form} {x : List Int} (h : f.length = x.length + 1) : ((atM f x : Int) : Rat) = wrT f (xQ x) := by
  unfold atM wrT
  rw [h, show x.length + 1 - 1 = x.length from rfl, Rat.intCast_add, sumZ_cast]
  congr 1
  exact sumR_congr fun k _ => by rw [Rat.intCast_mul]; rfl
theorem wr_congr {f : Form} {p q : Nat → Rat} (h : ∀ j, j < f.length - 1 → p j = q j) : wrT f p = wrT f q := by
  unfold wrT
  congr 1
  exact sumR_congr fun j hj => by rw [h j hj]

/-! rows paid: the law's own look -/
def prcM (s : List Int) (n : Nat) : List Int := (List.range n).map fun (k : Nat) => mix s (200 + k) % 12
theorem prc_bd (s : List Int) (n : Nat) : ∀ v ∈ prcM s n, 0 ≤ v ∧ v ≤ 11 := fun v hv => by
  obtain ⟨k, _, rfl⟩ := List.mem_map.mp hv
  have := Int.emod_nonneg (mix s (200 + k)) (show (12 : Int) ≠ 0 by decide)
  have := Int.emod_lt_of_pos (mix s (200 + k)) (show (0 : Int) < 12 by decide)
  omega
def absF (x : Form) : Form := x.map fun v => (v.natAbs : Int)
theorem absF_len (x : Form) : (absF x).length = x.length := List.length_map _
theorem absF_small {b : Nat} {x : Form} (h : SmallF b x) : SmallF b (absF x) := fun v hv => by
  obtain ⟨w, hw, rfl⟩ := List.mem_map.mp hv
  have := h w hw
  omega
theorem lo_small {n : Nat} {d : LDeed} {price : Int} {f : Form} (hd : LdS 4 n d) (n4 : n ≤ 4) (hf : SmallF 4 f) (hp : price.natAbs ≤ 1000) : SmallF 2048 (loL d price f) := by
  intro v hv
  unfold loL at hv
  obtain ⟨j, hj, rfl⟩ := List.mem_map.mp hv
  have h1 := hf.at j
  have h2 := hd.k.2.at j
  have q := sumZ_bd (f := fun k => fA f k * fA (gA d.2.1 k) j) (m := d.2.1.length) (B := 16) fun k hk => by
    have a := hf.at k
    have b := (hd.c _ (gA_mem hk)).2.at j
    rw [Int.natAbs_mul]
    exact Nat.le_trans (Nat.mul_le_mul a b) (by decide)
  have : d.2.1.length * 16 ≤ 4 * 16 := Nat.mul_le_mul_right _ (by have := hd.cl; omega)
  have h3 : (bhM f d.2.1 j).natAbs ≤ 68 := by
    unfold bhM
    split <;> omega
  unfold loM
  split <;> omega
/-- a drawn pair can be settled -/
theorem pair_of {n : Nat} {ds : List LDeed} {prices : List Int} {purse : Form} (hn : 1 ≤ n ∧ n ≤ 2) (hl : 1 ≤ ds.length ∧ ds.length ≤ 2) (hd : ∀ d ∈ ds, LdS 4 n d) (hpl : prices.length = ds.length) (hpb : ∀ v ∈ prices, v.natAbs ≤ 1000) (hpu : purse.length = n + 1 ∧ SmallF 4 purse) : PairN n ds prices purse ∧ ∀ d ∈ dutM ds prices purse, SmallF 2048 d.2 := by
  have hpk : ∀ k, (prices.getD k 0).natAbs ≤ 1000 := fun k => by
    by_cases h : k < prices.length
    · rw [List.getD_eq_getElem?_getD, List.getElem?_eq_getElem h]; exact hpb _ (List.getElem_mem h)
    · rw [List.getD_eq_getElem?_getD, List.getElem?_eq_none (by omega)]; decide
  refine ⟨⟨hn.1, by omega, hl.1, by omega, fun d h => (hd d h).N (by decide), hpl, hpb, hpu.1, hpu.2.mono (by decide)⟩, fun d h => ?_⟩
  rcases mem_dut h with rfl | ⟨k, hk, rfl | ⟨c, hc, rfl⟩⟩
  · exact hpu.2.mono (by decide)
  · exact lo_small (hd _ (dAtL_mem hk)) (by omega) hpu.2 (hpk k)
  · exact ((hd _ (dAtL_mem hk)).c c hc).2.mono (by decide)
def goodJ (ds : List LDeed) (x : List Int) (j : Nat) : Bool := (dAtL ds j).1.all fun g => decide (0 ≤ atM g x)
def goodL (ds : List LDeed) (x : List Int) (n : Nat) : List Int := ((List.range n).filter (goodJ ds x)).map fun (j : Nat) => (j : Int)
theorem goodL_len (ds : List LDeed) (x : List Int) (n : Nat) : (goodL ds x n).length ≤ n := by
  unfold goodL
  rw [List.length_map]
  have := List.length_filter_le (goodJ ds x) (List.range n)
  rwa [List.length_range] at this
theorem goodL_succ (ds : List LDeed) (x : List Int) (n : Nat) : goodL ds x (n + 1) = goodL ds x n ++ if goodJ ds x n = true then [(n : Int)] else [] := by
  unfold goodL
  rw [List.range_succ, List.filter_append, List.map_append]
  congr 1
  by_cases h : goodJ ds x n = true
  · rw [List.filter_cons_of_pos h, if_pos h]; rfl
  · rw [List.filter_cons_of_neg h, if_neg h]; rfl
/-- one step: the state behind a deed -/
def stepX (d : LDeed) (x : List Int) : List Int := d.2.1.map fun c => atM c x
/-- what a paid pair keeps -/
theorem paid_step {n : Nat} {ds : List LDeed} {prices : List Int} {purse : Form} (hP : PairN n ds prices purse) (hN : ∀ d ∈ dutM ds prices purse, DutN n d.1 d.2) (hf : ∀ d ∈ dutM ds prices purse, ¬ failsD n d) {x : List Int} (hx : x.length = n) (h0 : ∀ v ∈ x, 0 ≤ v) {j : Nat} (hj : j < ds.length) (hg : goodJ ds x j = true) :
    (∀ v ∈ stepX (dAtL ds j) x, 0 ≤ v) ∧ atM purse (stepX (dAtL ds j) x) ≤ atM purse x + prices.getD j 0 - atM (dAtL ds j).2.2 x ∧ 0 ≤ atM purse (stepX (dAtL ds j) x) := by
  have hd := hP.d _ (dAtL_mem hj)
  generalize hdd : dAtL ds j = d at *
  have hxq : ∀ k, k < n → 0 ≤ xQ x k := fun k hk => by
    unfold xQ
    rw [List.getD_eq_getElem?_getD, List.getElem?_eq_getElem (by omega)]
    have := h0 _ (List.getElem_mem (show k < x.length by omega))
    exact_mod_cast this
  have hgw : ∀ g ∈ d.1, 0 ≤ wrT g (xQ x) := fun g hgm => by
    unfold goodJ at hg
    rw [hdd] at hg
    have q := List.all_eq_true.mp hg g hgm
    rw [decide_eq_true_eq] at q
    rw [← at_wr (by rw [(hd.g g hgm).1, hx])]
    exact_mod_cast q
  have mem_k : ∀ e ∈ dutK ds prices purse j, e ∈ dutM ds prices purse := fun e he => by
    unfold dutM
    exact List.mem_append_left _ (List.mem_flatMap.mpr ⟨j, List.mem_range.mpr hj, he⟩)
  have hchg : ∀ c ∈ d.2.1, 0 ≤ atM c x := fun c hc => by
    have m := mem_k (d.1, c) (by unfold dutK; rw [hdd]; exact List.mem_cons_of_mem _ (List.mem_map.mpr ⟨c, hc, rfl⟩))
    have q := holds_at (hN _ m) (hf _ m) hxq hgw
    rw [← at_wr (by rw [(hd.c c hc).1, hx])] at q
    exact_mod_cast q
  have s0 : ∀ v ∈ stepX d x, 0 ≤ v := fun v hv => by
    obtain ⟨c, hc, rfl⟩ := List.mem_map.mp hv
    exact hchg c hc
  have sl : (stepX d x).length = n := by unfold stepX; rw [List.length_map, hd.cl]
  have sq : ∀ k, k < n → xQ (stepX d x) k = wrT (gA d.2.1 k) (xQ x) := fun k hk => by
    have hk' : k < d.2.1.length := by rw [hd.cl]; exact hk
    rw [← at_wr (by rw [(hd.c _ (gA_mem hk')).1, hx])]
    unfold xQ stepX gA
    rw [List.getD_eq_getElem?_getD, List.getElem?_map, List.getD_eq_getElem?_getD, List.getElem?_eq_getElem hk']; rfl
  refine ⟨s0, ?_, ?_⟩
  · have m := mem_k (d.1, loL d (prices.getD j 0) purse) (by unfold dutK; rw [hdd]; exact List.mem_cons_self)
    have q := holds_at (hN _ m) (hf _ m) hxq hgw
    have q : 0 ≤ wrT (loL d (prices.getD j 0) purse) (xQ x) := q
    rw [lo_wr hd hP.pu.1, ← at_wr (by rw [hP.pu.1, hx]), ← at_wr (by rw [hd.k.1, hx]), ← wr_congr (p := xQ (stepX d x)) (fun k hk => sq k (by rw [hP.pu.1] at hk; exact hk)), ← at_wr (by rw [hP.pu.1, sl])] at q
    have q2 : ((0 : Int) : Rat) ≤ ((atM purse x - atM d.2.2 x - atM purse (stepX d x) + prices.getD j 0 : Int) : Rat) := by
      rw [Rat.intCast_add, Rat.intCast_sub, Rat.intCast_sub]; exact q
    have q3 : 0 ≤ atM purse x - atM d.2.2 x - atM purse (stepX d x) + prices.getD j 0 := by exact_mod_cast q2
    omega
  · have m : (([], purse) : Duty) ∈ dutM ds prices purse := by unfold dutM; exact List.mem_append_right _ (by simp)
    have q := holds_at (hN _ m) (hf _ m) (p := xQ (stepX d x)) (fun k hk => by
      unfold xQ
      rw [List.getD_eq_getElem?_getD, List.getElem?_eq_getElem (by omega)]
      have := s0 _ (List.getElem_mem (show k < (stepX d x).length by omega))
      exact_mod_cast this) (fun g hgm => absurd hgm (by simp))
    rw [← at_wr (by show purse.length = _; rw [hP.pu.1, sl])] at q
    exact_mod_cast q
theorem step_bd {n e : Nat} {d : LDeed} {x : List Int} (hd : LdS 4 n d) (n2 : n ≤ 2) (hx : x.length = n) (hb : ∀ v ∈ x, v.natAbs < 2 ^ e) : ∀ v ∈ stepX d x, v.natAbs < 2 ^ (e + 4) := by
  intro v hv
  obtain ⟨c, hc, rfl⟩ := List.mem_map.mp hv
  have hcs := (hd.c c hc).2
  have hp : 0 < 2 ^ e := Nat.pow_pos (by decide)
  have q := sumZ_bd (f := fun k => fA c k * x.getD k 0) (m := x.length) (B := 4 * 2 ^ e) fun k hk => by
    rw [Int.natAbs_mul]
    refine Nat.mul_le_mul (hcs.at k) ?_
    rw [List.getD_eq_getElem?_getD, List.getElem?_eq_getElem hk]
    exact Nat.le_of_lt (hb _ (List.getElem_mem hk))
  have h2 : x.length * (4 * 2 ^ e) ≤ 2 * (4 * 2 ^ e) := Nat.mul_le_mul_right _ (by omega)
  have h3 := hcs.at x.length
  have h4 : 2 ^ (e + 4) = 16 * 2 ^ e := by rw [Nat.pow_add, Nat.mul_comm]
  show (atM c x).natAbs < _
  unfold atM
  omega
theorem lmin_nnL {xs : List Int} (h : ∀ v ∈ xs, 0 ≤ v) (hne : xs ≠ []) : 0 ≤ lmin xs := h _ (lmin_spec hne).1

/-! what is found, as data -/
open Classical in
noncomputable def paperM (n : Nat) (d : Duty) : Paper := if isLine d.1 d.2 then (true, (List.range d.1.length).map (shL d.1 d.2)) else (false, (List.range d.1.length).map (shN n d.1))
theorem paper_e (n : Nat) (d : Duty) : paperD n d = ePaper (paperM n d) := by
  unfold paperD paperM
  by_cases h : isLine d.1 d.2
  · rw [if_pos h, if_pos h, eRow_map]; rfl
  · rw [if_neg h, if_neg h, eRow_map]; rfl
theorem paper_len (n : Nat) (d : Duty) : (paperM n d).2.length = d.1.length := by
  unfold paperM
  split <;> simp
theorem paper_SQ {n : Nat} {d : Duty} (h : DutN n d.1 d.2) (hf : ¬ failsD n d) : ∀ x ∈ (paperM n d).2, SQ 1105 x := by
  intro x hx
  unfold paperM at hx
  by_cases hl : isLine d.1 d.2
  · rw [if_pos hl] at hx
    obtain ⟨i, _, rfl⟩ := List.mem_map.mp hx
    exact (shL_SQ h i).mono (by decide)
  · rw [if_neg hl] at hx
    obtain ⟨i, _, rfl⟩ := List.mem_map.mp hx
    have hN : isNone n d.1 := by
      rcases Classical.em (isNone n d.1) with z | z
      · exact z
      · exact absurd ⟨hl, z⟩ hf
    exact shN_SQ h.n3 h.g4 hN h.g i
noncomputable def ptL (n : Nat) (d : Duty) : List Rat := (List.range n).map (ptM n d.1 d.2)
theorem pt_e (n : Nat) (d : Duty) : eRow n (ptM n d.1 d.2) = .lst ((ptL n d).map eQ) := eRow_map _ _
theorem pt_len (n : Nat) (d : Duty) : (ptL n d).length = n := by unfold ptL; simp
theorem ptL_SQ {n : Nat} {d : Duty} (h : DutN n d.1 d.2) (hf : failsD n d) : ∀ x ∈ ptL n d, SQ 2300 x := by
  intro x hx
  obtain ⟨j, hj, rfl⟩ := List.mem_map.mp hx
  exact pt_SQ h hf.1 (List.mem_range.mp hj)
/-- found: a duty that fails and a point, or papers -/
def FoundD (n : Nat) (L : List Duty) (d : D) : Prop := (∃ (k : Nat) (e : Duty), L[k]? = some e ∧ failsD n e ∧ (∀ j, j < k → ∀ x, L[j]? = some x → ¬ failsD n x) ∧ d = .tup [.str "fails", .int (k : Int), .lst ((ptL n e).map eQ)]) ∨ ((∀ e ∈ L, ¬ failsD n e) ∧ d = .tup [.str "pays", .lst ((L.map (paperM n)).map ePaper)])
theorem found_ok {n : Nat} (L : List Duty) : FoundD n L (setGo n 0 L []) := by
  rcases setGo_cases n L 0 [] with ⟨k, e, h1, h2, h3, h4⟩ | ⟨h1, h2⟩
  · exact .inl ⟨k, e, h1, h2, h3, by rw [h4, pt_e, Nat.zero_add]⟩
  · refine .inr ⟨h1, by rw [h2, List.nil_append, List.map_map]; congr 4; exact List.map_congr_left fun d _ => paper_e n d⟩
theorem fails_w : okE (.str "fails") = true := okE_w (by decide)
theorem pays_w : okE (.str "pays") = true := okE_w (by decide)
theorem fails_fails : eqD (.str "fails") (.str "fails") = true := by decide +kernel
theorem pays_fails : eqD (.str "pays") (.str "fails") = false := by decide +kernel
theorem pays_pays : eqD (.str "pays") (.str "pays") = true := by decide +kernel
theorem fails_pays : eqD (.str "fails") (.str "pays") = false := by decide +kernel

/-! what is told, holds -/
theorem ptQ_rng {n : Nat} {p : Nat → Rat} {j : Nat} (h : j < n) : ptQ ((List.range n).map p) j = p j := getD_rng h
theorem lhs_rng {gs : List Form} {y : Nat → Rat} (k : Nat) : lhsM gs ((List.range gs.length).map y) k = sumR gs.length fun i => y i * (fA (gA gs i) k : Rat) := sumR_congr fun i hi => by rw [getD_rng hi]
theorem paper_shown {n : Nat} {d : Duty} (h : DutN n d.1 d.2) (hf : ¬ failsD n d) : shDuty d (paperM n d) = true := by
  obtain ⟨gs, f⟩ := d
  have hl := h.f.1
  have hl : f.length = n + 1 := hl
  unfold shDuty paperM
  by_cases hL : isLine gs f
  · simp only [hL, if_true]
    rw [Bool.and_eq_true, Bool.and_eq_true, decide_eq_true_eq, List.all_eq_true, List.all_eq_true]
    refine ⟨⟨by simp, fun x hx => ?_⟩, fun k hk => ?_⟩
    · obtain ⟨i, _, rfl⟩ := List.mem_map.mp hx
      exact decide_eq_true (shL_nn i)
    · rw [decide_eq_true_eq, lhs_rng]
      exact shL_ok hL (List.mem_range.mp hk)
  · have hN : isNone n gs := by
      rcases Classical.em (isNone n gs) with z | z
      · exact z
      · exact absurd ⟨hL, z⟩ hf
    simp only [hL, if_false]
    rw [Bool.and_eq_true, Bool.and_eq_true, decide_eq_true_eq, List.all_eq_true, List.all_eq_true]
    refine ⟨⟨by simp, fun x hx => ?_⟩, fun k hk => ?_⟩
    · obtain ⟨i, hi, rfl⟩ := List.mem_map.mp hx
      exact decide_eq_true (shN_nn hN (List.mem_range.mp hi))
    · have hk := List.mem_range.mp hk
      have hk : k < f.length := hk
      rw [decide_eq_true_eq, lhs_rng]
      unfold goalM
      rw [if_neg (by decide)]
      by_cases e : k = n
      · subst e
        rw [if_pos hl.symm, shN_l hN]
        exact Rat.le_refl
      · rw [if_neg (by omega)]
        exact shN_x hN (by omega)
theorem getD_map {α β : Type} {L : List α} {k : Nat} {f : α → β} {a : α} {b : β} (h : k < L.length) : (L.map f).getD k b = f (L.getD k a) := by
  rw [List.getD_eq_getElem?_getD, List.getElem?_map, List.getD_eq_getElem?_getD, List.getElem?_eq_getElem h]; rfl
theorem all_shown {n : Nat} {L : List Duty} (hN : ∀ d ∈ L, DutN n d.1 d.2) (hf : ∀ d ∈ L, ¬ failsD n d) : shAll L (L.map (paperM n)) = true := by
  unfold shAll
  rw [Bool.and_eq_true, decide_eq_true_eq, List.all_eq_true]
  refine ⟨List.length_map _, fun k hk => ?_⟩
  have hk := List.mem_range.mp hk
  rw [getD_map (a := ([], [])) hk]
  exact paper_shown (hN _ (getD_mem hk)) (hf _ (getD_mem hk))
theorem wr_ptL {n : Nat} {d : Duty} {g : Form} (h : g.length = n + 1) : wrT g (ptQ (ptL n d)) = wrT g (ptM n d.1 d.2) := wr_congr fun j hj => ptQ_rng (by omega)
theorem pt_fails {n : Nat} {d : Duty} (h : DutN n d.1 d.2) (hf : failsD n d) : (∀ x ∈ ptL n d, 0 ≤ x) ∧ (∀ g ∈ d.1, 0 ≤ wrT g (ptQ (ptL n d))) ∧ wrT d.2 (ptQ (ptL n d)) < 0 := by
  refine ⟨fun x hx => ?_, fun g hg => ?_, ?_⟩
  · obtain ⟨j, hj, rfl⟩ := List.mem_map.mp hx
    exact pt_nn h.f.1 (List.mem_range.mp hj)
  · rw [wr_ptL (h.g g hg).1]
    obtain ⟨i, hi, e⟩ := mem_gA hg
    rw [← e]
    exact pt_keep h.f.1 hf.2 hi (h.g _ (gA_mem hi)).1
  · rw [wr_ptL h.f.1]
    exact pt_low h.f.1 hf.1
/-- a duty's look at a point, as the law has it -/
def holdM (d : Duty) (p : List Rat) : Bool := (d.1.map fun g => decide (wM g p < 0)).any id || decide (0 ≤ wM d.2 p)
theorem hold_yes {n : Nat} {d : Duty} {p : List Rat} (h : DutN n d.1 d.2) (hf : ¬ failsD n d) (hl : p.length = n) (h0 : ∀ x ∈ p, 0 ≤ x) : holdM d p = true := by
  unfold holdM
  rw [Bool.or_eq_true]
  cases hc : (d.1.map fun g => decide (wM g p < 0)).any id with
  | true => exact .inl rfl
  | false =>
    right
    rw [decide_eq_true_eq, w_nn (by rw [h.f.1, hl])]
    refine holds_at h hf (fun j hj => ?_) fun g hg => ?_
    · unfold ptQ
      rw [List.getD_eq_getElem?_getD, List.getElem?_eq_getElem (by omega)]
      exact h0 _ (List.getElem_mem _)
    · rw [← w_nn (by rw [(h.g g hg).1, hl])]
      rw [List.any_eq_false] at hc
      have q := hc _ (List.mem_map.mpr ⟨g, hg, rfl⟩)
      have q : ¬ (decide (wM g p < 0) = true) := q
      rw [decide_eq_true_eq] at q
      omega
theorem hold_no {n : Nat} {d : Duty} (h : DutN n d.1 d.2) (hf : failsD n d) : holdM d (ptL n d) = false := by
  obtain ⟨_, h2, h3⟩ := pt_fails h hf
  have hl := pt_len n d
  unfold holdM
  rw [Bool.or_eq_false_iff]
  constructor
  · rw [List.any_eq_false]
    intro b hb
    obtain ⟨g, hg, rfl⟩ := List.mem_map.mp hb
    have q := (w_nn (f := g) (p := ptL n d) (by rw [(h.g g hg).1, hl])).mpr (h2 g hg)
    show ¬ (decide (wM g (ptL n d) < 0) = true)
    rw [decide_eq_true_eq]
    omega
  · have q := (w_low (f := d.2) (p := ptL n d) (by rw [h.f.1, hl])).mpr h3
    exact decide_eq_false (by omega)
theorem fails_shown {n : Nat} {L : List Duty} {k : Nat} {d : Duty} (hk : L[k]? = some d) (h : DutN n d.1 d.2) (hf : failsD n d) : failsM n L (k : Int) (ptL n d) = true := by
  obtain ⟨h1, h2, h3⟩ := pt_fails h hf
  obtain ⟨hlt, e⟩ := List.getElem?_eq_some_iff.mp hk
  have eg : L.getD k ([], []) = d := by rw [List.getD_eq_getElem?_getD, hk]; rfl
  unfold failsM
  rw [Int.toNat_natCast, eg]
  simp only [Bool.and_eq_true, decide_eq_true_eq, List.all_eq_true]
  exact ⟨⟨⟨by omega, by omega⟩, pt_len n d, fun x hx => h1 x hx⟩, h3, fun g hg => h2 g hg⟩
/-- the law's drawn points -/
def ptD (c : Int) : Rat := if c % 3 = 0 then 0 else if c % 3 = 1 then ((c / 8 % 20 : Int) : Rat) else mkRat (2 * (c / 8 % 9) + 1) 2
theorem ptD_ix (c : Int) : ixD (.lst [.tup [.int 0, .int 1], .tup [.int (c / 8 % 20), .int 1], .tup [.int (2 * (c / 8 % 9) + 1), .int 2]]) (c % 3) = some (eQ (ptD c)) ∧ SQ 2300 (ptD c) ∧ 0 ≤ ptD c := by
  have b0 := Int.emod_nonneg (c / 8) (show (9 : Int) ≠ 0 by decide)
  have b1 := Int.emod_lt_of_pos (c / 8) (show (0 : Int) < 9 by decide)
  have b2 := Int.emod_nonneg (c / 8) (show (20 : Int) ≠ 0 by decide)
  have b3 := Int.emod_lt_of_pos (c / 8) (show (0 : Int) < 20 by decide)
  have : c % 3 = 0 ∨ c % 3 = 1 ∨ c % 3 = 2 := by omega
  unfold ptD
  generalize c / 8 % 9 = a at *
  generalize c / 8 % 20 = b at *
  rcases this with h | h | h <;> rw [h]
  · exact ⟨rfl, zero_SQ (by decide), by rw [if_pos rfl]; exact Rat.le_refl⟩
  · exact ⟨rfl, by rw [if_neg (by decide), if_pos rfl]; exact (int_SQ (n := 5) (show b.natAbs < 2 ^ 5 by omega) (by decide)).mono (by decide), by rw [if_neg (by decide), if_pos rfl]; exact_mod_cast b2⟩
  · rw [if_neg (by decide), if_neg (by decide)]
    have : a = 0 ∨ a = 1 ∨ a = 2 ∨ a = 3 ∨ a = 4 ∨ a = 5 ∨ a = 6 ∨ a = 7 ∨ a = 8 := by omega
    rcases this with rfl | rfl | rfl | rfl | rfl | rfl | rfl | rfl | rfl <;> exact ⟨rfl, (show SQ 5 _ from ⟨by decide, by decide⟩).mono (by decide), by decide⟩
def ptsM (s : List Int) (k : Int) (many : Nat) : List (List Rat) := (List.range 12).map fun (i : Nat) => (List.range many).map fun (j : Nat) => ptD (mix s (k + 2 * i + j))
def ePt (p : List Rat) : D := .lst (p.map eQ)
theorem pts_ok {s : List Int} {k : Int} {many : Nat} : ∀ p ∈ ptsM s k many, p.length = many ∧ ∀ x ∈ p, SQ 2300 x ∧ 0 ≤ x := fun p hp => by
  obtain ⟨i, _, rfl⟩ := List.mem_map.mp hp
  exact ⟨by simp, fun x hx => by
    obtain ⟨j, _, rfl⟩ := List.mem_map.mp hx
    exact (ptD_ix _).2⟩
theorem pts_len (s : List Int) (k : Int) (many : Nat) : (ptsM s k many).length = 12 := by unfold ptsM; simp

abbrev s_law_unders : Stmt := top 43
abbrev N_law_unders : List Str := ["_law_shares", "_law_found", "_law_one"]
abbrev P_law_unders : List Str := ["_law_shares"]
theorem sc_law_unders : FnScope N_law_unders P_law_unders (defScope s_law_unders) := ⟨rfl, rfl, rfl, by decide +kernel, rfl, by decide +kernel, by decide +kernel⟩

def F_law_unders : Fs := fun args r => ∃ sh : List Rat, args = [.lst (sh.map eQ)] ∧ sh.length ≤ 4 ∧ (∀ x ∈ sh, SQ 2300 x) ∧ r = .ok (.int (undM sh))
theorem df_law_unders {P : Program} {w : World} {K : Fg} {mg : Str → Option Value} {base : Heap} (T : Tx K mg) (U : Dn K mg "_law_unders" s_law_unders P_law_unders) : Df P w K mg base "_law_unders" 1 F_law_unders :=
  df_of 0 U sc_law_unders (fun _ _ ⟨_, h, _⟩ => by rw [h]; rfl) fun f cdv A outer s H E args r hr tk hp hF => by
    obtain ⟨sh, rfl, h4, hsq, rfl⟩ := hF
    have nd := sc_law_unders.nd
    refine XF.rt (xss_cons (xs_set 1 nd xv_int) ?_)
    refine xss_cons (ds1 := [.fz (.lst (sh.map eQ)), .fz (.int (undM sh)), .no]) (xs_for hp rfl (xi_list (xv_var 0)) ?_) (xss_ret (xv_var 1))
    suffices loop : ∀ (l : List Rat) (u : Int) (e : Nat), (∀ x ∈ l, SQ 2300 x) → u.natAbs < 2 ^ e → e + l.length * 2300 ≤ 10000 → Fr _ _ _ _ (l.map eQ) [.fz (.lst (sh.map eQ)), .fz (.int u), .no] (.nx [.fz (.lst (sh.map eQ)), .fz (.int (undGo u l)), .no]) by
      have q := loop sh 1 1 hsq (by decide) (by omega)
      rw [undGo_eq, Int.one_mul] at q
      exact q
    intro l
    induction l with
    | nil => intro u e _ _ _; exact .nil
    | cons y l ih =>
      intro u e hq hu he
      have hy := hq y List.mem_cons_self
      rw [List.length_cons, Nat.succ_mul] at he
      have c1 : CMulW u (y.den : Int) := cmw hu hy.d (by omega)
      have hu2 : (u * (y.den : Int)).natAbs < 2 ^ (e + 2300) := by rw [Int.natAbs_mul]; exact mul_lt2 hu hy.d
      have q := ih (u * (y.den : Int)) (e + 2300) (fun z hz => hq z (List.mem_cons_of_mem _ hz)) hu2 (by omega)
      exact .step (xg_name 2 nd) (xss_one (xs_set 1 nd (xv_mulW ((xv_var 1)).br ((xv_ix ((xv_var 2)).br (xv_int).br (ix_Q2 _))).br c1))) rfl (Le.fg [2] rfl) q

abbrev s_law_holds : Stmt := top 44
abbrev N_law_holds : List Str := ["_law_duty", "_law_point", "_law_guards", "_law_form_here", "_law_guard"]
abbrev P_law_holds : List Str := ["_law_duty", "_law_point"]
theorem sc_law_holds : FnScope N_law_holds P_law_holds (defScope s_law_holds) := ⟨rfl, rfl, rfl, by decide +kernel, rfl, by decide +kernel, by decide +kernel⟩

def F_law_holds : Fs := fun args r => ∃ (gs : List Form) (f : Form) (p : List Rat), args = [eDuty (gs, f), ePt p] ∧ (p.length ≤ 4 ∧ gs.length ≤ 100) ∧ (f.length = p.length + 1 ∧ SmallF 8000000 f) ∧ (∀ g ∈ gs, g.length = p.length + 1 ∧ SmallF 8000000 g) ∧ (∀ x ∈ p, SQ 2300 x) ∧ r = .ok (.bl (holdM (gs, f) p))
theorem df_law_holds {P : Program} {w : World} {K : Fg} {mg : Str → Option Value} {base : Heap} (T : Tx K mg) (U : Dn K mg "_law_holds" s_law_holds P_law_holds) (D__law_worth : Df P w K mg base "_law_worth" 1 F_law_worth) : Df P w K mg base "_law_holds" 2 F_law_holds :=
  df_of 1 U sc_law_holds (fun _ _ ⟨_, _, _, h, _⟩ => by rw [h]; rfl) fun f cdv A outer s H E args r hr tk hp hF => by
    obtain ⟨gs, x, p, rfl, ⟨p4, g100⟩, ⟨hl, hx⟩, hg, hpq, rfl⟩ := hF
    have nd := sc_law_holds.nd
    have hF1 : ∀ g : Form, g.length = p.length + 1 → SmallF 8000000 g → F_law_worth [eFm g, ePt p] (.ok (.int (wM g p))) := fun g h1 h2 => ⟨g, p, rfl, ⟨h1, p4⟩, h2, hpq, rfl⟩
    have e1 : (gs.map fun g => D.bl (decide (wM g p < 0))) = (gs.map fun g => decide (wM g p < 0)).map D.bl := by rw [List.map_map]; rfl
    refine XF.rt (xss_cons (xs_asg (xv_var 0) (xg_tup rfl (xgs_cons (xg_name 2 nd) (xgs_cons (xg_name 3 nd) xgs_nil)))) ?_)
    unfold holdM
    refine xss_if (xt_val (xv_any rfl T.any ((xl_lc [("_law_guard", 4)] rfl nd (xi_list (xv_var 2)) (blkOk_by (own := [("_law_guard", 4)]) (N := N_law_holds) (sc := defScope s_law_holds) (by decide +kernel)) (lc_map (f := eFm) (g := fun g => D.bl (decide (wM g p < 0))) gs fun x_1 hx_1 => ⟨_, (fun _ _ _ _ _ => (xgw_name 4 nd)), (fun _ _ _ _ _ => (xv_lt ((xv_call D__law_worth (hr.mono (by decide)) takes0 (xa_cons (xv_var 4) (xa_cons (xv_var 1) xa_nil)) (hF1 x_1 (hg x_1 hx_1).1 (hg x_1 hx_1).2))).br (xv_int).br))⟩) (by rw [List.length_map]; omega))).br (congrArg D.lst e1))) (fun hk ht => ?_) fun hk ht => ?_
    · rw [show ((gs, x).1.map fun g => decide (wM g p < 0)).any id = true from hk, Bool.true_or]
      exact xss_yesS ht (xss_ret xv_bl)
    · rw [show ((gs, x).1.map fun g => decide (wM g p < 0)).any id = false from hk, Bool.false_or]
      exact xss_no0 ht (xss_ret (xv_ge ((xv_call D__law_worth (hr.mono (by decide)) tk (xa_cons (xv_var 3) (xa_cons (xv_var 1) xa_nil)) (hF1 x hl hx))).br (xv_int).br))

abbrev s_law_points : Stmt := top 45
abbrev N_law_points : List Str := ["_law_script", "_law_k", "_law_many", "_law_found", "_law_i", "_law_point", "_law_j", "_law_number"]
abbrev P_law_points : List Str := ["_law_script", "_law_k", "_law_many"]
theorem sc_law_points : FnScope N_law_points P_law_points (defScope s_law_points) := ⟨rfl, rfl, rfl, by decide +kernel, rfl, by decide +kernel, by decide +kernel⟩

def F_law_points : Fs := fun args r => ∃ (s : List Int) (k : Int) (many : Nat), args = [.scr s, .int k, .int (many : Int)] ∧ many ≤ 100 ∧ r = .ok (.lst ((ptsM s k many).map ePt))
theorem df_law_points {P : Program} {w : World} {K : Fg} {mg : Str → Option Value} {base : Heap} (T : Tx K mg) (U : Dn K mg "_law_points" s_law_points P_law_points) (D__law_mix : Df P w K mg base "_law_mix" 2 F_law_mix) : Df P w K mg base "_law_points" 3 F_law_points :=
  df_of 2 U sc_law_points (fun _ _ ⟨_, _, _, h, _⟩ => by rw [h]; rfl) fun f cdv A outer s H E args r hr tk hp hF => by
    obtain ⟨xs, k, many, rfl, hm, rfl⟩ := hF
    have nd := sc_law_points.nd
    let p_ := fun (i : Nat) => (List.range many).map fun (j : Nat) => ptD (mix xs (k + 2 * i + j))
    refine XF.rt (xss_cons (xs_own 3 nd (xl_lst xa_nil)) ?_)
    refine xss_cons (ds1 := [.fz (.scr xs), .fz (.int k), .fz (.int (many : Int)), .ow (((List.range 12).map p_).map ePt), .no, .no, .no, .no]) (xs_for hp rfl (xi_range T.range xv_int (by decide) (by decide)) ?_) (XSs.freeze 3 (xss_ret (xv_var 3)))
    rw [show ((12 : Int)).toNat = 12 from rfl, rngD_F]
    suffices loop : ∀ (m i : Nat), i + m = 12 → Fr _ _ _ _ (rngF i m) [.fz (.scr xs), .fz (.int k), .fz (.int (many : Int)), .ow (((List.range i).map p_).map ePt), .no, .no, .no, .no] (.nx [.fz (.scr xs), .fz (.int k), .fz (.int (many : Int)), .ow (((List.range 12).map p_).map ePt), .no, .no, .no, .no]) by
      exact loop 12 0 (by omega)
    intro m
    induction m with
    | zero => intro i hi; obtain rfl : i = 12 := by omega
              exact .nil
    | succ m ih =>
      intro i hi
      have q := ih (i + 1) (by omega)
      rw [List.range_succ, List.map_append, List.map_append] at q
      rw [rngF_succ]
      refine .step (o' := .nx [.fz (.scr xs), .fz (.int k), .fz (.int (many : Int)), .ow (((List.range i).map p_).map ePt ++ ([i].map p_).map ePt), .fz (.int (i : Int)), .fz (ePt (p_ i)), .no, .no]) (xg_name 4 nd) (xss_cons (xs_own 5 nd (xl_lst xa_nil)) ?_) rfl (Le.fg [4, 5] rfl) q
      clear q ih
      refine xss_cons (ds1 := [.fz (.scr xs), .fz (.int k), .fz (.int (many : Int)), .ow (((List.range i).map p_).map ePt), .fz (.int (i : Int)), .ow ((p_ i).map eQ), .no, .no]) (xs_for hp rfl (xi_range T.range (xv_var 2) (by omega) (by omega)) ?_) (XSs.freeze 5 (XSs.is (xss_one (xs_append 3 (xv_var 5) (by rfl) (by rw [List.length_map, rng_lenF]; omega))) rfl))
      rw [Int.toNat_natCast, rngD_F]
      suffices loop : ∀ (m j : Nat), j + m = many → Fr _ _ _ _ (rngF j m) [.fz (.scr xs), .fz (.int k), .fz (.int (many : Int)), .ow (((List.range i).map p_).map ePt), .fz (.int (i : Int)), .ow (((List.range j).map fun (j : Nat) => ptD (mix xs (k + 2 * i + j))).map eQ), .no, .no] (.nx [.fz (.scr xs), .fz (.int k), .fz (.int (many : Int)), .ow (((List.range i).map p_).map ePt), .fz (.int (i : Int)), .ow ((p_ i).map eQ), .no, .no]) by
        exact loop many 0 (by omega)
      intro m
      induction m with
      | zero => intro j hj; obtain rfl : j = many := by omega
                exact .nil
      | succ m ih =>
        intro j hj
        have q := ih (j + 1) (by omega)
        rw [List.range_succ, List.map_append, List.map_append] at q
        rw [rngF_succ]
        have hix := (ptD_ix (mix xs (k + 2 * i + j))).1
        exact .step (xg_name 6 nd) (xss_cons (xs_set 7 nd (xv_call D__law_mix (hr.mono (by decide)) tk (xa_cons (xv_var 0) (xa_cons (xv_add ((xv_add ((xv_var 1)).br ((xv_mul (xv_int).br ((xv_var 4)).br (by first | exact Or.inl ⟨by omega, by omega⟩ | exact Or.inr ⟨by omega, by omega⟩))).br)).br ((xv_var 6)).br) xa_nil)) (⟨_, _, rfl, rfl⟩))) (xss_one (xs_append 5 (xv_ix ((xl_lst (xa_cons (xv_tup (xa_cons xv_int (xa_cons xv_int xa_nil))) (xa_cons (xv_tup (xa_cons (xv_mod ((xv_div ((xv_var 7)).br (xv_int).br (by first | exact ⟨by omega, by omega⟩ | exact ⟨by decide, by decide⟩))).br (xv_int).br (by first | omega | decide | (simp only [List.length_cons]; omega))) (xa_cons xv_int xa_nil))) (xa_cons (xv_tup (xa_cons (xv_add ((xv_mul (xv_int).br ((xv_mod ((xv_div ((xv_var 7)).br (xv_int).br (by first | exact ⟨by omega, by omega⟩ | exact ⟨by decide, by decide⟩))).br (xv_int).br (by first | omega | decide | (simp only [List.length_cons]; omega)))).br (by first | exact Or.inl ⟨by omega, by omega⟩ | exact Or.inr ⟨by omega, by omega⟩))).br (xv_int).br) (xa_cons xv_int xa_nil))) xa_nil))))).br ((xv_mod ((xv_var 7)).br (xv_int).br (by first | omega | decide | (simp only [List.length_cons]; omega)))).br (hix)) (by rfl) (by rw [List.length_map, rng_lenF]; omega)))) rfl (Le.fg [6, 7] rfl) q

abbrev s_law_all_hold : Stmt := top 46
abbrev N_law_all_hold : List Str := ["_law_some", "_law_points_here", "_law_point", "_law_duty"]
abbrev P_law_all_hold : List Str := ["_law_some", "_law_points_here"]
theorem sc_law_all_hold : FnScope N_law_all_hold P_law_all_hold (defScope s_law_all_hold) := ⟨rfl, rfl, rfl, by decide +kernel, rfl, by decide +kernel, by decide +kernel⟩

def F_law_all_hold : Fs := fun args r => ∃ (L : List Duty) (pts : List (List Rat)) (n : Nat), args = [.lst (L.map eDuty), .lst (pts.map ePt)] ∧ (n ≤ 4 ∧ L.length ≤ 1000) ∧ (∀ d ∈ L, DutW n d) ∧ (∀ p ∈ pts, p.length = n ∧ ∀ x ∈ p, SQ 2300 x) ∧ (∀ p ∈ pts, ∀ d ∈ L, holdM d p = true) ∧ r = .ok (.bl true)
theorem df_law_all_hold {P : Program} {w : World} {K : Fg} {mg : Str → Option Value} {base : Heap} (T : Tx K mg) (U : Dn K mg "_law_all_hold" s_law_all_hold P_law_all_hold) (D__law_holds : Df P w K mg base "_law_holds" 2 F_law_holds) : Df P w K mg base "_law_all_hold" 3 F_law_all_hold :=
  df_of 2 U sc_law_all_hold (fun _ _ ⟨_, _, _, h, _⟩ => by rw [h]; rfl) fun f cdv A outer s H E args r hr tk hp hF => by
    obtain ⟨L, pts, n, rfl, ⟨n4, hl⟩, hW, hpt, hh, rfl⟩ := hF
    have nd := sc_law_all_hold.nd
    refine XF.rt (xss_cons (ds1 := [.fz (.lst (L.map eDuty)), .fz (.lst (pts.map ePt)), .no, .no]) (xs_for hp rfl (xi_list (xv_var 1)) ?_) (xss_ret xv_bl))
    suffices loop : ∀ l : List (List Rat), (∀ p ∈ l, p ∈ pts) → Fr _ _ _ _ (l.map ePt) [.fz (.lst (L.map eDuty)), .fz (.lst (pts.map ePt)), .no, .no] (.nx [.fz (.lst (L.map eDuty)), .fz (.lst (pts.map ePt)), .no, .no]) by
      exact loop pts fun _ h => h
    intro l
    induction l with
    | nil => intro _; exact .nil
    | cons p l ih =>
      intro hm
      have q := ih fun p hp => hm p (List.mem_cons_of_mem _ hp)
      have hpm := hm p List.mem_cons_self
      obtain ⟨pl, pq⟩ := hpt p hpm
      have hF1 : ∀ d ∈ L, F_law_holds [eDuty d, ePt p] (.ok (.bl (holdM d p))) := fun d hd => by
        have w := hW d hd
        exact ⟨d.1, d.2, p, rfl, ⟨by omega, by have := w.g4; omega⟩, ⟨by rw [w.f.1, pl], w.f.2⟩, fun g hg => ⟨by rw [(w.g g hg).1, pl], (w.g g hg).2⟩, pq, rfl⟩
      have e1 : (L.map fun d => D.bl (holdM d p)) = (L.map fun d => holdM d p).map D.bl := by rw [List.map_map]; rfl
      have ht : (!((L.map fun d => holdM d p).all id)) = false := by
        rw [Bool.not_eq_false', List.all_map, List.all_eq_true]
        exact fun d hd => hh p hpm d hd
      exact .step (xg_name 2 nd) (xss_one (xs_no (XT.is (xt_not (xt_val (xv_all rfl T.all ((xl_lc [("_law_duty", 3)] rfl nd (xi_list (xv_var 0)) (blkOk_by (own := [("_law_duty", 3)]) (N := N_law_all_hold) (sc := defScope s_law_all_hold) (by decide +kernel)) (lc_map (f := eDuty) (g := fun d => D.bl (holdM d p)) L fun x_1 hx_1 => ⟨_, (fun _ _ _ _ _ => (xgw_name 3 nd)), (fun _ _ _ _ _ => (xv_call D__law_holds (hr.mono (by decide)) takes0 (xa_cons (xv_var 3) (xa_cons (xv_var 2) xa_nil)) (hF1 x_1 hx_1)))⟩) (by rw [List.length_map]; omega))).br (congrArg D.lst e1)))) (ht)) xss_nil)) rfl (Le.fg [2] rfl) q

abbrev s_law_whole : Stmt := top 36
abbrev N_law_whole : List Str := ["_law_found"]
abbrev P_law_whole : List Str := ["_law_found"]
theorem sc_law_whole : FnScope N_law_whole P_law_whole (defScope s_law_whole) := ⟨rfl, rfl, rfl, by decide +kernel, rfl, by decide +kernel, by decide +kernel⟩

def F_law_whole : Fs := fun args r => ∃ i : Int, args = [.int i] ∧ r = .ok (.bl true)
theorem df_law_whole {P : Program} {w : World} {K : Fg} {mg : Str → Option Value} {base : Heap} (T : Tx K mg) (U : Dn K mg "_law_whole" s_law_whole P_law_whole) : Df P w K mg base "_law_whole" 1 F_law_whole :=
  df_of 0 U sc_law_whole (fun _ _ ⟨_, h, _⟩ => by rw [h]; rfl) fun f cdv A outer s H E args r hr tk hp hF => by
    obtain ⟨i, rfl, rfl⟩ := hF
    exact XF.rt (xss_ret (XV.is (xv_and (xv_isT (k := true) T.isinstance T.int boot_int' ((xv_var 0)).br rfl (by decide +kernel)) (fun hk => (xv_one (xv_not (xv_isT (k := false) T.isinstance T.bool boot_bool ((xv_var 0)).br rfl (by decide +kernel)))))) (rfl)))

abbrev s_law_is_part : Stmt := top 37
abbrev N_law_is_part : List Str := ["_law_found", "_law_one", "_law_other"]
abbrev P_law_is_part : List Str := ["_law_found"]
theorem sc_law_is_part : FnScope N_law_is_part P_law_is_part (defScope s_law_is_part) := ⟨rfl, rfl, rfl, by decide +kernel, rfl, by decide +kernel, by decide +kernel⟩

def F_law_is_part : Fs := fun args r => ∃ x : Fr2, args = [eF x] ∧ Low x ∧ r = .ok (.bl true)
theorem df_law_is_part {P : Program} {w : World} {K : Fg} {mg : Str → Option Value} {base : Heap} (T : Tx K mg) (U : Dn K mg "_law_is_part" s_law_is_part P_law_is_part) (D__law_whole : Df P w K mg base "_law_whole" 1 F_law_whole) : Df P w K mg base "_law_is_part" 2 F_law_is_part :=
  df_of 1 U sc_law_is_part (fun _ _ ⟨_, h, _⟩ => by rw [h]; rfl) fun f cdv A outer s H E args r hr tk hp hF => by
    obtain ⟨x, rfl, hx, rfl⟩ := hF
    have nd := sc_law_is_part.nd
    refine XF.rt (xss_no0 (XT.is ((xw_or (xt_not (xt_val (xv_isT (k := true) T.isinstance T.tuple boot_tuple' ((xv_var 0)).br rfl (by decide +kernel)))) (fun hk => (xw_or (xt_neI ((xv_len T.len ((xv_var 0)).br)).br (xv_int).br) (fun hk => (xw_or (xt_not (xt_val (xv_call D__law_whole (hr.mono (by decide)) tk (xa_cons (xv_ix ((xv_var 0)).br (xv_int).br (ix_F1 x)) xa_nil) (⟨_, rfl, rfl⟩)))) (fun hk => (xw_and1 (xt_not (xt_val (xv_call D__law_whole (hr.mono (by decide)) tk (xa_cons (xv_ix ((xv_var 0)).br (xv_int).br (ix_F2 x)) xa_nil) (⟨_, rfl, rfl⟩)))))))))))).t (rfl)) ?_)
    refine xss_cons (xs_par 1 2 rfl nd (xv_abs T.abs ((xv_ix ((xv_var 0)).br (xv_int).br (ix_F1 x))).br) (xv_ix ((xv_var 0)).br (xv_int).br (ix_F2 x))) ?_
    refine xss_whileX (Q := fun d1 => d1 = [.fz (eF x), .fz (.int 1), .fz (.int 0)]) hp ?_ ?_
    · suffices loop : ∀ (n : Nat) (a b : Int), b.toNat ≤ n → 0 ≤ a → 0 ≤ b → Int.gcd a b = 1 → ∃ k, Wh _ _ _ _ k [.fz (eF x), .fz (.int a), .fz (.int b)] (.nx [.fz (eF x), .fz (.int 1), .fz (.int 0)]) by
        obtain ⟨k, hw⟩ := loop _ (x.1.natAbs : Int) x.2 (Nat.le_refl _) (by omega) (by have := hx.1; omega) (by have := hx.2; unfold Int.gcd at this ⊢; rw [Int.natAbs_natCast]; exact this)
        exact ⟨k, _, rfl, hw⟩
      intro n
      induction n with
      | zero =>
        intro a b hn ha hb hg
        obtain rfl : b = 0 := by omega
        have := gcd_zero ha
        rw [hg] at this
        obtain rfl : a = 1 := by omega
        exact ⟨0, .stop (XT.is (xt_gt ((xv_var 2)).br (xv_int).br) (rfl))⟩
      | succ n ih =>
        intro a b hn ha hb hg
        by_cases h : 0 < b
        · have h1 := Int.emod_nonneg a (show b ≠ 0 by omega)
          have h2 := Int.emod_lt_of_pos a h
          obtain ⟨k, hw⟩ := ih b (a % b) (by omega) hb h1 (by rw [gcd_step ha h, hg])
          exact ⟨k + 1, .step (XT.is (xt_gt ((xv_var 2)).br (xv_int).br) (decide_eq_true h)) (xss_one (xs_par 1 2 rfl nd (xv_var 2) (xv_mod ((xv_var 1)).br ((xv_var 2)).br (h)))) rfl .refl hw⟩
        · obtain rfl : b = 0 := by omega
          have := gcd_zero ha
          rw [hg] at this
          obtain rfl : a = 1 := by omega
          exact ⟨0, .stop (XT.is (xt_gt ((xv_var 2)).br (xv_int).br) (rfl))⟩
    · rintro d1 rfl
      exact xss_ret (XV.is (xv_and (xv_gt ((xv_ix ((xv_var 0)).br (xv_int).br (ix_F2 x))).br (xv_int).br) (fun hk => (xv_one (xv_eqI ((xv_var 1)).br (xv_int).br)))) (by rw [decide_eq_true hx.1]; rfl))

abbrev s_law_paper : Stmt := top 42
abbrev N_law_paper : List Str := ["_law_duty", "_law_paper_here", "_law_guards", "_law_form_here", "_law_word", "_law_shares", "_law_one", "_law_goal", "_law_k", "_law_guard"]
abbrev P_law_paper : List Str := ["_law_duty", "_law_paper_here"]
theorem sc_law_paper : FnScope N_law_paper P_law_paper (defScope s_law_paper) := ⟨rfl, rfl, rfl, by decide +kernel, rfl, by decide +kernel, by decide +kernel⟩

def F_law_paper : Fs := fun args r => ∃ (gs : List Form) (f : Form) (n : Nat) (b : Bool) (sh : List Rat), args = [eDuty (gs, f), ePaper (b, sh)] ∧ ((1 ≤ n ∧ n ≤ 4) ∧ f.length = n + 1 ∧ gs.length ≤ 4) ∧ (∀ x ∈ gs, x.length = n + 1 ∧ SmallF 8000000 x) ∧ SmallF 8000000 f ∧ (sh.length ≤ 1000 ∧ ∀ x ∈ sh, SQ 1105 x) ∧ r = .ok (.bl (shDuty (gs, f) (b, sh)))
theorem df_law_paper {P : Program} {w : World} {K : Fg} {mg : Str → Option Value} {base : Heap} (T : Tx K mg) (U : Dn K mg "_law_paper" s_law_paper P_law_paper) (D__law_worth : Df P w K mg base "_law_worth" 1 F_law_worth) (D__law_is_part : Df P w K mg base "_law_is_part" 2 F_law_is_part) (D__law_unders : Df P w K mg base "_law_unders" 1 F_law_unders) : Df P w K mg base "_law_paper" 3 F_law_paper :=
  df_of 2 U sc_law_paper (fun _ _ ⟨_, _, _, _, _, h, _⟩ => by rw [h]; rfl) fun f cdv A outer s H E args r hr tk hp hF => by
    obtain ⟨gs, x, n, b, sh, rfl, ⟨⟨n1, n4⟩, hl, g4⟩, hg, hx, ⟨hsl, hsq⟩, rfl⟩ := hF
    have nd := sc_law_paper.nd
    have hu := hr.units
    have hlm : (x.map D.int).length = n + 1 := by rw [List.length_map, hl]
    have hgl : (gs.map eFm).length = gs.length := List.length_map _
    have hshl : (sh.map eQ).length = sh.length := List.length_map _
    refine XF.rt (xss_cons (xs_asg (xv_var 0) (xg_tup rfl (xgs_cons (xg_name 2 nd) (xgs_cons (xg_name 3 nd) xgs_nil)))) (xss_cons (xs_asg (xv_var 1) (xg_tup rfl (xgs_cons (xg_name 4 nd) (xgs_cons (xg_name 5 nd) xgs_nil)))) ?_))
    unfold shDuty
    have hnin : (!inF (.str (wordP b)) [.str "line", .str "none"]) = false := by cases b <;> decide +kernel
    refine xss_if (XT.is ((xw_or (xt_nin ((xv_var 4)).br ((xv_tup (xa_cons xv_str (xa_cons xv_str xa_nil)))).br (Or.inr rfl) (rfl) (rfl)) (fun hk => (xw_or (xt_not (xt_val (xv_isT (k := true) T.isinstance T.list boot_list' ((xv_var 5)).br rfl (by decide +kernel)))) (fun hk => (xw_and1 (xt_neI ((xv_len T.len ((xv_var 5)).br)).br ((xv_len T.len ((xv_var 2)).br)).br))))))).t (show _ = !(decide (sh.length = gs.length)) by
      rw [hshl, hgl, hnin, show decide ((sh.length : Int) = (gs.length : Int)) = decide (sh.length = gs.length) from decide_eq_decide.mpr (by omega)]; rfl)) (fun hk ht => ?_) fun hk ht => ?_
    · rw [show (decide (sh.length = gs.length)) = false from nbF hk, Bool.false_and, Bool.false_and]
      exact xss_yesS ht (xss_ret xv_bl)
    refine xss_no0 ht ?_
    have hk0 := nbT hk
    rw [hk0, Bool.true_and]
    rw [decide_eq_true_eq] at hk0
    clear hk ht
    have e9 : (sh.map fun x => D.bl (true && decide (0 ≤ x.num))) = (sh.map fun x => decide (0 ≤ x)).map D.bl := by
      rw [List.map_map]
      exact List.map_congr_left fun x _ => by show D.bl _ = D.bl _; rw [Bool.true_and]; congr 1; exact decide_eq_decide.mpr Rat.num_nonneg
    refine xss_if (XT.is (xt_not (xt_val (xv_all rfl T.all ((xl_lc [("_law_one", 6)] rfl nd (xi_list (xv_var 5)) (blkOk_by (own := [("_law_one", 6)]) (N := N_law_paper) (sc := defScope s_law_paper) (by decide +kernel)) (lc_map (f := eQ) (g := fun x => D.bl (true && decide (0 ≤ x.num))) sh fun x_1 hx_1 => ⟨_, (fun _ _ _ _ _ => (xgw_name 6 nd)), (fun _ _ _ _ _ => (xv_and (xv_call D__law_is_part (hr.mono (by decide)) takes0 (xa_cons (xv_var 6) xa_nil) (⟨(x_1.num, (x_1.den : Int)), rfl, eQ_low x_1, rfl⟩)) (fun hk => (xv_one (xv_ge ((xv_ix ((xv_var 6)).br (xv_int).br (ix_Q1 _))).br (xv_int).br)))))⟩) (by rw [hshl]; omega))).br (congrArg D.lst e9)))) (show _ = !(sh.all fun x => decide (0 ≤ x)) by rw [List.all_map]; rfl)) (fun hk ht => ?_) fun hk ht => ?_
    · rw [show (sh.all fun x => decide (0 ≤ x)) = false from nbF hk, Bool.false_and]
      exact xss_yesS ht (xss_ret xv_bl)
    · rw [show (sh.all fun x => decide (0 ≤ x)) = true from nbT hk, Bool.true_and]
      have hle := hk0
      have hsq3 : ∀ x ∈ sh, SQ 2300 x := fun x hx => (hsq x hx).mono (by decide)
      have uB : (undM sh).natAbs < 2 ^ 9201 := pow_le2 (und_bd hsq3) (by omega)
      refine xss_no0 ht ?_
      refine xss_cons (ds1 := [.fz (eDuty (gs, x)), .fz (ePaper (b, sh)), .fz (.lst (gs.map eFm)), .fz (eFm x), .fz (.str (wordP b)), .fz (.lst (sh.map eQ)), .no, .fz (.tup ((List.range (n + 1)).map fun k => .int (goalM b x k))), .no, .no]) ?_ ?_
      · cases b with
        | true =>
          refine xs_set 7 nd (xv_ifY (XT.is (xt_eq hu ((xv_var 4)).br (xv_str).br (wordP_ok true) (okE_w (by decide))) (word_l)) (XV.is (xv_var 3) ?_))
          rw [eFm_rng, hl]
          rfl
        | false =>
          refine xs_set 7 nd (xv_ifN (XT.is (xt_eq hu ((xv_var 4)).br (xv_str).br (wordP_ok false) (okE_w (by decide))) (word_n)) (XV.is (xv_catT ((xv_repT ((xv_tup (xa_cons xv_int xa_nil))).br ((XV.is (xv_sub ((xv_len T.len ((xv_var 3)).br)).br (xv_int).br) (show _ = D.int (n : Int) by rw [hlm]; congr 1; omega))).br (List.cons_ne_nil _ _) (by omega) (by omega) (Nat.le_of_ble_eq_true rfl))).br ((xv_tup (xa_cons (xv_neg (xv_int).br) xa_nil))).br (by obtain ⟨m, rfl⟩ : ∃ m, n = m + 1 := ⟨n - 1, by omega⟩; simp [List.replicate_succ]) (by simp; omega)) (congrArg D.tup (rep_last hl))))
      · have hFu : F_law_unders [.lst (sh.map eQ)] (.ok (.int (undM sh))) := ⟨sh, rfl, by omega, hsq3, rfl⟩
        have ixg : ∀ k, k < n + 1 → ixD (.tup ((List.range (n + 1)).map fun k => D.int (goalM b x k))) (k : Int) = some (.int (goalM b x k)) := fun k h => ix_rngD h
        have gB : ∀ k, (goalM b x k).natAbs < 2 ^ 23 := fun k => by
          unfold goalM
          have := hx.at k
          split
          · exact Nat.lt_of_le_of_lt this (by decide)
          · split <;> decide
        refine xss_then (o1 := if ((List.range x.length).all fun k => decide (lhsM gs sh k ≤ (goalM b x k : Rat))) = true then .nx [.fz (eDuty (gs, x)), .fz (ePaper (b, sh)), .fz (.lst (gs.map eFm)), .fz (eFm x), .fz (.str (wordP b)), .fz (.lst (sh.map eQ)), .no, .fz (.tup ((List.range (n + 1)).map fun k => .int (goalM b x k))), .no, .no] else .rt (.bl false)) (xs_for hp rfl (xi_range T.range (xv_len T.len ((xv_var 3)).br) (by omega) (by rw [hlm]; omega)) ?_) ?_ ?_
        · rw [hlm, Int.toNat_natCast, rngD_F, hl, List.range_eq_range']
          suffices loop : ∀ (m i : Nat), i + m = n + 1 → Fr _ _ _ _ (rngF i m) [.fz (eDuty (gs, x)), .fz (ePaper (b, sh)), .fz (.lst (gs.map eFm)), .fz (eFm x), .fz (.str (wordP b)), .fz (.lst (sh.map eQ)), .no, .fz (.tup ((List.range (n + 1)).map fun k => .int (goalM b x k))), .no, .no] (if ((List.range' i m).all fun k => decide (lhsM gs sh k ≤ (goalM b x k : Rat))) = true then .nx [.fz (eDuty (gs, x)), .fz (ePaper (b, sh)), .fz (.lst (gs.map eFm)), .fz (eFm x), .fz (.str (wordP b)), .fz (.lst (sh.map eQ)), .no, .fz (.tup ((List.range (n + 1)).map fun k => .int (goalM b x k))), .no, .no] else .rt (.bl false)) by
            have q := loop (n + 1) 0 (by omega)
            rw [← List.range_eq_range'] at q ⊢
            exact q
          intro m
          induction m with
          | zero => intro i _; exact .nil
          | succ m ih =>
            intro i hi
            have q := ih (i + 1) (by omega)
            have hi2 : i < n + 1 := by omega
            rw [rngF_succ, List.range'_succ, List.all_cons]
            have ixk : ∀ g ∈ gs, ixD (eFm g) (i : Int) = some (.int (fA g i)) := fun g h => ix_fm (by rw [(hg g h).1]; omega)
            have ec : (gs.map fun g => D.int (fA g i)) ++ [D.int 0] = (colF gs i).map .int := by unfold colF; rw [List.map_append, List.map_map]; rfl
            have hF1 : F_law_worth [eFm (colF gs i), .lst (sh.map eQ)] (.ok (.int (wM (colF gs i) sh))) := ⟨_, sh, rfl, ⟨by rw [col_len, hle], by omega⟩, col_small fun g h => (hg g h).2, hsq3, rfl⟩
            have c2 : CMulW (goalM b x i) (undM sh) := cmw (gB i) uB (by decide)
            refine Fr.chk (decide (lhsM gs sh i ≤ (goalM b x i : Rat))) (xg_name 8 nd) (a := [.fz (eDuty (gs, x)), .fz (ePaper (b, sh)), .fz (.lst (gs.map eFm)), .fz (eFm x), .fz (.str (wordP b)), .fz (.lst (sh.map eQ)), .no, .fz (.tup ((List.range (n + 1)).map fun k => .int (goalM b x k))), .fz (.int (i : Int)), .no]) (o1 := .rt (.bl false)) ?_ (Le.fg [8] rfl) rfl (fun hc => by rw [hc, Bool.true_and]; exact q) (fun hc => by rw [hc]; rfl)
            refine xss_one (xs_if (XT.is (xt_gt ((xv_call D__law_worth (hr.mono (by decide)) tk (xa_cons (XV.is (xv_catA ((xv_tuple T.tuple ((xl_lc [("_law_guard", 9)] rfl nd (xi_list (xv_var 2)) (blkOk_by (own := [("_law_guard", 9)]) (N := N_law_paper) (sc := defScope s_law_paper) (by decide +kernel)) ((lc_map (f := eFm) (g := fun g => D.int (fA g i)) gs fun x_1 hx_1 => ⟨_, (fun _ _ _ _ _ => (xgw_name 9 nd)), (fun _ _ _ _ _ => (xv_ix ((xv_var 9)).br ((xv_var 8)).br (ixk x_1 hx_1)))⟩)) (by rw [hgl]; omega))).br)).br ((xv_tup (xa_cons xv_int xa_nil))).br (by rw [List.length_map, List.length_singleton]; omega)) (congrArg D.tup ec)) (xa_cons (xv_var 5) xa_nil)) (hF1))).br ((xv_mulW ((xv_ix ((xv_var 7)).br ((xv_var 8)).br (ixg i hi2))).br ((xv_call D__law_unders (hr.mono (by decide)) tk (xa_cons (xv_var 5) xa_nil) (hFu))).br c2)).br) (w_goal hle _)) (fun hk => ?_) fun hk => ?_)
            · rw [nbF hk, if_neg Bool.false_ne_true]
              exact xss_one (xs_ret xv_bl)
            · rw [nbT hk, if_pos rfl]
              exact xss_nil
        · intro d1 h
          split at h
          · next hc =>
            cases h
            rw [show ((List.range (gs, x).2.length).all fun k => decide (lhsM (gs, x).1 (b, sh).2 k ≤ (goalM (b, sh).1 (gs, x).2 k : Rat))) = true from hc]
            exact xss_ret xv_bl
          · cases h
        · intro h
          split at h
          · cases h
          · next hc =>
            rw [if_neg hc, show ((List.range (gs, x).2.length).all fun k => decide (lhsM (gs, x).1 (b, sh).2 k ≤ (goalM (b, sh).1 (gs, x).2 k : Rat))) = false from Bool.eq_false_iff.mpr hc]

abbrev s_law : Stmt := top 47
abbrev N_law : List Str := ["_law_script", "_law_lines_here", "_law_prices", "_law_k", "_law_purse", "_law_one", "_law_due", "_law_points_here", "_law_found", "_law_word", "_law_number", "_law_point", "_law_papers"]
abbrev P_law : List Str := ["_law_script"]
theorem sc_law : FnScope N_law P_law (defScope s_law) := ⟨rfl, rfl, rfl, by decide +kernel, rfl, by decide +kernel, by decide +kernel⟩

def prcS (s : List Int) (n : Nat) : List Int := (List.range n).map fun (k : Nat) => mix s (200 + k) % 8 - 1
theorem prcS_bd (s : List Int) (n : Nat) : ∀ v ∈ prcS s n, v.natAbs ≤ 1000 := fun v hv => by
  obtain ⟨k, _, rfl⟩ := List.mem_map.mp hv
  have := Int.emod_nonneg (mix s (200 + k)) (show (8 : Int) ≠ 0 by decide)
  have := Int.emod_lt_of_pos (mix s (200 + k)) (show (0 : Int) < 8 by decide)
  omega
theorem ok_law {P : Program} {w : World} {K : Fg} {mg : Str → Option Value} {base : Heap} {f : Addr} {fd : FuncData} {cF : Addr} (T : Tx K mg) (U : Fun K "law" "law" s_law f fd)
    (D__law_mix : Df P w K mg base "_law_mix" 2 F_law_mix) (D__law_form : Df P w K mg base "_law_form" 3 F_law_form) (D__law_lines : Df P w K mg base "_law_lines" 4 F_law_lines) (D__law_duties : Df P w K mg base "_law_duties" 1 F_law_duties) (D__law_paper : Df P w K mg base "_law_paper" 3 F_law_paper)
    (D__law_whole : Df P w K mg base "_law_whole" 1 F_law_whole) (D__law_is_part : Df P w K mg base "_law_is_part" 2 F_law_is_part) (D__law_holds : Df P w K mg base "_law_holds" 2 F_law_holds) (D__law_points : Df P w K mg base "_law_points" 3 F_law_points) (D__law_all_hold : Df P w K mg base "_law_all_hold" 3 F_law_all_hold)
    (D_settled : Df P w K mg base "settled" 9 (F_settled cF)) (D_shows : Df P w K mg base "shows" 5 (F_shows cF)) (D_fails_at : Df P w K mg base "fails_at" 5 (F_fails_at cF)) : FnOk P w K mg base (L2.CX P w) 11 f fd P_law (spF K F_law) :=
  fnl_of 10 U sc_law (fun _ _ ⟨_, h, _⟩ => by rw [h]; rfl) fun cdv A outer s0 H E args r hr tk hp hF => by
    obtain ⟨ns, rfl, hlen, rfl⟩ := hF
    have nd := sc_law.nd
    have hu := hr.units
    have n0 := fun k => mix_nonneg ns k
    refine XF.rt ?_
    refine xss_cons (xs_set 1 nd (xv_call D__law_lines (hr.mono (by decide)) tk (xa_cons (xv_var 0) (xa_cons xv_int xa_nil)) (⟨_, _, rfl, rfl⟩))) ?_
    have hn := lnN_bd ns 0
    have hdl := lnD_len ns 0
    have hds := lnD_ok (s := ns) (k := 0)
    generalize lnN ns 0 = n at *
    generalize lnD ns 0 = ds at *
    have hll : (ds.map eLd).length = ds.length := List.length_map _
    have i0 : ixD (eLn (n : Int) ds) 0 = some (.int (n : Int)) := rfl
    have i1 : ixD (eLn (n : Int) ds) 1 = some (.lst (ds.map eLd)) := rfl
    have ep : (List.range (((((ds.map eLd).length : Nat) : Int)).toNat)).map (fun (k : Nat) => D.int (mix ns (200 + k) % 8 - 1)) = (prcS ns ds.length).map .int := by rw [hll, Int.toNat_natCast]; unfold prcS; rw [List.map_map]; rfl
    refine xss_cons (xs_lc 2 [("_law_k", 3)] rfl nd (xi_range T.range (xv_len T.len ((xv_ix ((xv_var 1)).br (xv_int).br (i1))).br) (by omega) (by rw [hll]; omega)) (blkOk_by (own := [("_law_k", 3)]) (N := N_law) (sc := defScope s_law) (by decide +kernel)) ((lc_map (f := fun (n : Nat) => D.int n) (g := fun (k : Nat) => D.int (mix ns (200 + k) % 8 - 1)) (List.range _) fun x_1 hx_1 => ⟨_, (fun _ _ _ _ _ => (xgw_name 3 nd)), (fun _ _ _ _ _ => (xv_sub ((xv_mod ((xv_call D__law_mix (hr.mono (by decide)) takes0 (xa_cons (xv_var 0) (xa_cons (xv_add (xv_int).br ((xv_var 3)).br) xa_nil)) (⟨_, _, rfl, rfl⟩))).br (xv_int).br (by first | omega | decide | (simp only [List.length_cons]; omega)))).br (xv_int).br))⟩).is ep) (by rw [rngD_F, rngF_len]; rw [hll]; omega)) (XSs.freeze 2 ?_)
    have hF1 : F_law_form [.scr ns, .int 210, .int (n : Int), .bl true] (.ok (eFm (fmM ns 210 n true))) := ⟨_, _, n, true, rfl, by omega, rfl⟩
    have fml := fm_len ns 210 n true
    have fmb := fm_bd ns 210 n true
    have hpl : (prcS ns ds.length).length = ds.length := by unfold prcS; rw [List.length_map, List.length_range]
    have hpb := prcS_bd ns ds.length
    generalize prcS ns ds.length = prs at *
    refine xss_cons (ds1 := [.fz (.scr ns), .fz (eLn (n : Int) ds), .fz (.lst (prs.map .int)), .no, .fz (eFm (fmM ns 210 n true)), .no, .no, .no, .no, .no, .no, .no, .no]) (XS.is (xs_set 4 nd (xv_call D__law_form (hr.mono (by decide)) tk (xa_cons (xv_var 0) (xa_cons xv_int (xa_cons (xv_ix ((xv_var 1)).br (xv_int).br (i0)) (xa_cons xv_bl xa_nil)))) (hF1))) rfl) ?_
    clear hF1
    generalize fmM ns 210 n true = pu0 at *
    suffices s5 : ∀ pu : Form, pu.length = n + 1 → SmallF 4 pu → XSs _ _ _ [.fz (.scr ns), .fz (eLn (n : Int) ds), .fz (.lst (prs.map .int)), .no, .fz (eFm pu), .no, .no, .no, .no, .no, .no, .no, .no] (.rt (.bl true)) by
      by_cases h9 : 0 < mix ns 209 % 3
      · have ful := absF_len pu0
        have fub := absF_small fmb
        have epu : (pu0.map fun v => D.int (v.natAbs : Int)) = (absF pu0).map .int := by unfold absF; rw [List.map_map]; rfl
        exact xss_yes (XT.is (xt_gt ((xv_mod ((xv_call D__law_mix (hr.mono (by decide)) tk (xa_cons (xv_var 0) (xa_cons xv_int xa_nil)) (⟨_, _, rfl, rfl⟩))).br (xv_int).br (by first | omega | decide | (simp only [List.length_cons]; omega)))).br (xv_int).br) (decide_eq_true h9)) (xss_one (xs_set (d := eFm (absF pu0)) 4 nd (XV.is (xv_tuple T.tuple ((xl_lc [("_law_one", 5)] rfl nd (xi_tup (xv_var 4)) (blkOk_by (own := [("_law_one", 5)]) (N := N_law) (sc := defScope s_law) (by decide +kernel)) ((lc_map (f := D.int) (g := fun v => D.int (v.natAbs : Int)) pu0 fun x_1 hx_1 => ⟨_, (fun _ _ _ _ _ => (xgw_name 5 nd)), (fun _ _ _ _ _ => (xv_abs T.abs ((xv_var 5)).br))⟩).is epu) (by rw [List.length_map]; omega))).br) rfl))) (s5 (absF pu0) (by omega) fub)
      · exact xss_no0 (XT.is (xt_gt ((xv_mod ((xv_call D__law_mix (hr.mono (by decide)) tk (xa_cons (xv_var 0) (xa_cons xv_int xa_nil)) (⟨_, _, rfl, rfl⟩))).br (xv_int).br (by first | omega | decide | (simp only [List.length_cons]; omega)))).br (xv_int).br) (decide_eq_false h9)) (s5 pu0 fml fmb)
    clear fml fmb pu0
    intro pu ful fub
    obtain ⟨hP, hset⟩ := pair_of hn hdl hds hpl hpb ⟨ful, fub⟩
    have hN := dut_N hP (by omega) hset
    have hW := dut_W hP
    have hfew := dut_few hP
    have hok := pair_ok hP
    have dsh : ShortLn ds := ⟨by omega, fun d hd => ((hds d hd).N (by decide)).sh (by omega)⟩
    have hsh : ShortLn ds ∧ prs.length ≤ 1000 ∧ ShortF pu := ⟨dsh, by omega, by unfold ShortF; omega⟩
    have hF2 : F_settled cF [eLn (n : Int) ds, .lst (prs.map .int), eFm pu] (.ok (settD n ds prs pu)) := ⟨n, ds, prs, pu, rfl, hsh, fun n' e _ => ⟨by omega, hset⟩, by rw [hok, if_pos rfl, Int.toNat_natCast]⟩
    have hfd : FoundD n (dutM ds prs pu) (settD n ds prs pu) := found_ok _
    have hF3 : ∀ ps, OkPs ps → F_shows cF [eLn (n : Int) ds, .lst (prs.map .int), eFm pu, .lst (ps.map ePaper)] (.ok (.bl (shAll (dutM ds prs pu) ps))) := fun ps h => ⟨n, ds, prs, pu, ps, rfl, hsh, h, by rw [hok]; rfl⟩
    have hF4 : ∀ (number : Int) (pt : List Rat), (pt.length ≤ 1000 ∧ ∀ x ∈ pt, SQ 2300 x) → F_fails_at cF [eLn (n : Int) ds, .lst (prs.map .int), eFm pu, .int number, .lst (pt.map eQ)] (.ok (.bl (failsM n (dutM ds prs pu) number pt))) := fun number pt h => ⟨n, ds, prs, pu, number, pt, rfl, hsh, h, fun n' h' => by have := h'.pu.1; omega, by rw [hok, if_pos rfl, Int.toNat_natCast]⟩
    have hpts := pts_ok (s := ns) (k := 220) (many := n)
    refine xss_cons (ds1 := [.fz (.scr ns), .fz (eLn (n : Int) ds), .fz (.lst (prs.map .int)), .no, .fz (eFm pu), .no, .fz (.lst ((dutM ds prs pu).map eDuty)), .no, .no, .no, .no, .no, .no]) (XS.is (xs_set 6 nd (xv_call D__law_duties (hr.mono (by decide)) tk (xa_cons (xv_var 1) (xa_cons (xv_var 2) (xa_cons (xv_var 4) xa_nil))) (⟨n, ds, prs, pu, rfl, hP, rfl⟩))) rfl) ?_
    refine xss_cons (xs_set 7 nd (xv_call D__law_points (hr.mono (by decide)) tk (xa_cons (xv_var 0) (xa_cons xv_int (xa_cons (xv_ix ((xv_var 1)).br (xv_int).br (i0)) xa_nil))) (⟨_, _, n, rfl, by omega, rfl⟩))) ?_
    generalize ptsM ns 220 n = pts at *
    refine xss_cons (ds1 := [.fz (.scr ns), .fz (eLn (n : Int) ds), .fz (.lst (prs.map .int)), .no, .fz (eFm pu), .no, .fz (.lst ((dutM ds prs pu).map eDuty)), .fz (.lst (pts.map ePt)), .fz (settD n ds prs pu), .no, .no, .no, .no]) (XS.is (xs_set 8 nd (xv_call D_settled (hr.mono (by decide)) tk (xa_cons (xv_var 1) (xa_cons ((xl_list T.list ((xv_var 2)).br)).v (xa_cons (xv_var 4) xa_nil))) (hF2))) rfl) ?_
    clear hF2 hok hset
    generalize settD n ds prs pu = fd at *
    generalize dutM ds prs pu = L at *
    have hLl : (L.map eDuty).length = L.length := List.length_map _
    rcases hfd with ⟨k, e, he, hf, hbef, hd⟩ | ⟨hall, hd⟩
    · subst hd
      obtain ⟨hk, hek⟩ := List.getElem?_eq_some_iff.mp he
      have hem : e ∈ L := List.mem_of_getElem? he
      have hNe := hN e hem
      have hWe := hW e hem
      have ptl := pt_len n e
      have pts2 := ptL_SQ hNe hf
      obtain ⟨pf1, pf2, pf3⟩ := pt_fails hNe hf
      have hno := hold_no hNe hf
      have hsf := fails_shown he hNe hf
      have ixe : ixD (.lst (L.map eDuty)) (k : Int) = some (eDuty e) := by
        have q := ix_dut hk
        rw [List.getD_eq_getElem?_getD, he] at q; exact q
      have hF5 : F_law_holds [eDuty e, .lst ((ptL n e).map eQ)] (.ok (.bl (holdM e (ptL n e)))) := ⟨e.1, e.2, ptL n e, rfl, ⟨by omega, by have := hWe.g4; omega⟩, ⟨by rw [hWe.f.1, ptl], hWe.f.2⟩, fun g hg => ⟨by rw [(hWe.g g hg).1, ptl], (hWe.g g hg).2⟩, pts2, rfl⟩
      have hqm : ((ptL n e).map eQ).length = n := by rw [List.length_map, ptl]
      have hF6 : F_law_all_hold [.lst ((L.take k).map eDuty), .lst (pts.map ePt)] (.ok (.bl true)) := ⟨L.take k, pts, n, rfl, ⟨by omega, by rw [List.length_take]; omega⟩, fun d hd => hW d (List.mem_of_mem_take hd), fun p hp => ⟨(hpts p hp).1, fun x hx => ((hpts p hp).2 x hx).1⟩, fun p hp d hd => by
        obtain ⟨j, hj, ej⟩ := List.getElem_of_mem hd
        rw [List.length_take] at hj
        rw [List.getElem_take] at ej
        have hdm : d ∈ L := List.mem_of_mem_take hd
        exact hold_yes (hN d hdm) (hbef j (by omega) d (by rw [List.getElem?_eq_getElem (by omega), ej])) (hpts p hp).1 fun x hx => ((hpts p hp).2 x hx).2, rfl⟩
      have hF7 := hF4 k (ptL n e) ⟨by omega, pts2⟩
      rw [hsf] at hF7
      have eT : cutD (L.map eDuty) none (some (k : Int)) = (L.take k).map eDuty := by rw [cutD_to _ (by omega), Int.toNat_natCast, List.map_take]
      refine xss_yesS (XT.is (xt_eq hu ((xv_ix ((xv_var 8)).br (xv_int).br (rfl))).br (xv_str).br (fails_w) (fails_w)) (fails_fails)) ?_
      refine xss_cons (ds1 := [.fz (.scr ns), .fz (eLn (n : Int) ds), .fz (.lst (prs.map .int)), .no, .fz (eFm pu), .no, .fz (.lst (L.map eDuty)), .fz (.lst (pts.map ePt)), .fz (.tup [.str "fails", .int (k : Int), .lst ((ptL n e).map eQ)]), .fz (.str "fails"), .fz (.int (k : Int)), .fz (.lst ((ptL n e).map eQ)), .no]) (XS.is (xs_asg (xv_var 8) (xg_tup rfl (xgs_cons (xg_name 9 nd) (xgs_cons (xg_name 10 nd) (xgs_cons (xg_name 11 nd) xgs_nil))))) rfl) ?_
      refine xss_no0 (XT.is ((xw_or (xt_not (xt_val (xv_call D__law_whole (hr.mono (by decide)) tk (xa_cons (xv_var 10) xa_nil) (⟨_, rfl, rfl⟩)))) (fun hk => (xw_or (xt_not (xt_chain (xv_int).br ((xv_var 10)).br ((xv_len T.len ((xv_var 6)).br)).br)) (fun hk => (xw_and1 (xt_neI ((xv_len T.len ((xv_var 11)).br)).br ((xv_ix ((xv_var 1)).br (xv_int).br (i0))).br))))))).t (by
        rw [hqm, hLl, decide_eq_true rfl]
        simp only [cmpI]
        rw [decide_eq_true (show (0 : Int) ≤ (k : Int) by omega), decide_eq_true (show (k : Int) < (L.length : Int) by omega)]
        rfl)) ?_
      have e9 : ((ptL n e).map fun x => D.bl (true && decide (0 ≤ x.num))) = ((ptL n e).map fun x => decide (0 ≤ x)).map D.bl := by
        rw [List.map_map]
        exact List.map_congr_left fun x _ => by show D.bl _ = D.bl _; rw [Bool.true_and]; congr 1; exact decide_eq_decide.mpr Rat.num_nonneg
      have ha : ((ptL n e).map fun x => decide (0 ≤ x)).all id = true := by
        rw [List.all_map, List.all_eq_true]
        exact fun x hx => decide_eq_true (pf1 x hx)
      refine xss_no0 (XT.is ((xw_or (xt_not (xt_val (xv_all rfl T.all ((xl_lc [("_law_one", 5)] rfl nd (xi_list (xv_var 11)) (blkOk_by (own := [("_law_one", 5)]) (N := N_law) (sc := defScope s_law) (by decide +kernel)) (lc_map (f := eQ) (g := fun x => D.bl (true && decide (0 ≤ x.num))) (ptL n e) fun x_1 hx_1 => ⟨_, (fun _ _ _ _ _ => (xgw_name 5 nd)), (fun _ _ _ _ _ => (xv_and (xv_call D__law_is_part (hr.mono (by decide)) takes0 (xa_cons (xv_var 5) xa_nil) (⟨(x_1.num, (x_1.den : Int)), rfl, eQ_low x_1, rfl⟩)) (fun hk => (xv_one (xv_ge ((xv_ix ((xv_var 5)).br (xv_int).br (ix_Q1 _))).br (xv_int).br)))))⟩) (by rw [hqm]; omega))).br (congrArg D.lst e9)))) (fun hk => (xw_and1 (xt_val (xv_call D__law_holds (hr.mono (by decide)) tk (xa_cons (xv_ix ((xv_var 6)).br ((xv_var 10)).br (ixe)) (xa_cons (xv_var 11) xa_nil)) (hF5))))))).t (by rw [ha, hno]; rfl)) ?_
      exact xss_ret (XV.is (xv_and (xv_call D__law_all_hold (hr.mono (by decide)) tk (xa_cons ((XL.is (xl_sl ((xv_var 6)).br xp_none (xp_some (xv_var 10))) (eT))).v (xa_cons (xv_var 7) xa_nil)) (hF6)) (fun hk => (xv_one (xv_call D_fails_at (hr.mono (by decide)) tk (xa_cons (xv_var 1) (xa_cons (xv_var 2) (xa_cons (xv_var 4) (xa_cons (xv_var 10) (xa_cons ((xl_list T.list ((xv_var 11)).br)).v xa_nil))))) (hF7))))) rfl)
    · subst hd
      have hsa := all_shown hN hall
      have hok2 : OkPs (L.map (paperM n)) := ⟨by rw [List.length_map]; omega, fun p hp => by
        obtain ⟨d, hd, rfl⟩ := List.mem_map.mp hp
        exact ⟨by rw [paper_len]; have := (hW d hd).g4; omega, paper_SQ (hN d hd) (hall d hd)⟩⟩
      have hF7 := hF3 _ hok2
      rw [hsa] at hF7
      have hpm : ((L.map (paperM n)).map ePaper).length = L.length := by rw [List.length_map, List.length_map]
      refine xss_no0 (XT.is (xt_eq hu ((xv_ix ((xv_var 8)).br (xv_int).br (rfl))).br (xv_str).br (pays_w) (fails_w)) (pays_fails)) ?_
      refine xss_cons (ds1 := [.fz (.scr ns), .fz (eLn (n : Int) ds), .fz (.lst (prs.map .int)), .no, .fz (eFm pu), .no, .fz (.lst (L.map eDuty)), .fz (.lst (pts.map ePt)), .fz (.tup [.str "pays", .lst ((L.map (paperM n)).map ePaper)]), .fz (.str "pays"), .no, .no, .fz (.lst ((L.map (paperM n)).map ePaper))]) (XS.is (xs_asg (xv_var 8) (xg_tup rfl (xgs_cons (xg_name 9 nd) (xgs_cons (xg_name 12 nd) xgs_nil)))) rfl) ?_
      refine xss_no0 (XT.is ((xw_or (xt_ne hu ((xv_var 9)).br (xv_str).br (pays_w) (pays_w)) (fun hk => (xw_and1 (xt_neI ((xv_len T.len ((xv_var 12)).br)).br ((xv_len T.len ((xv_var 6)).br)).br))))).t (by rw [pays_pays, hpm, hLl, decide_eq_true rfl]; rfl)) ?_
      have hk1 : ∀ k : Nat, k ∈ List.range (((((L.map eDuty).length : Nat) : Int)).toNat) → k < L.length := fun k h => by rw [hLl, Int.toNat_natCast] at h; exact List.mem_range.mp h
      have hF6 : ∀ k, k < L.length → F_law_paper [eDuty (L.getD k ([], [])), ePaper ((L.map (paperM n)).getD k (true, []))] (.ok (.bl true)) := fun k h1 => by
        have hm := getD_mem (d := (([], []) : Duty)) h1
        have w := hW _ hm
        have hm2 := getD_mem (L := L.map (paperM n)) (k := k) (d := (true, [])) (by rw [List.length_map]; exact h1)
        have q := hok2.2 _ hm2
        have eg := getD_map (L := L) (k := k) (f := paperM n) (a := ([], [])) (b := (true, [])) h1
        have sh := paper_shown (hN _ hm) (hall _ hm)
        rw [← eg] at sh
        exact ⟨_, _, n, _, _, rfl, ⟨⟨hn.1, by omega⟩, w.f.1, w.g4⟩, w.g, w.f.2, q, congrArg (fun b => Res.ok (D.bl b)) sh.symm⟩
      have e1 : D.lst ((List.range (((((L.map eDuty).length : Nat) : Int)).toNat)).map fun _ => D.bl true) = .lst (((List.range L.length).map fun _ => true).map D.bl) := by rw [hLl, Int.toNat_natCast, List.map_map]; rfl
      have hT : (!(((List.range L.length).map fun _ => true).all id)) = false := by
        rw [List.all_map, Bool.not_eq_false', List.all_eq_true]; exact fun _ _ => rfl
      refine xss_no0 (XT.is (xt_not (xt_val (xv_all rfl T.all ((xl_lc [("_law_k", 3)] rfl nd (xi_range T.range (xv_len T.len ((xv_var 6)).br) (by omega) (by rw [hLl]; omega)) (blkOk_by (own := [("_law_k", 3)]) (N := N_law) (sc := defScope s_law) (by decide +kernel)) ((lc_map (f := fun (n : Nat) => D.int n) (g := fun _ => D.bl true) (List.range _) fun x_1 hx_1 => ⟨_, (fun _ _ _ _ _ => (xgw_name 3 nd)), (fun _ _ _ _ _ => (xv_call D__law_paper (hr.mono (by decide)) takes0 (xa_cons (xv_ix ((xv_var 6)).br ((xv_var 3)).br (ix_dut (hk1 x_1 hx_1))) (xa_cons (xv_ix ((xv_var 12)).br ((xv_var 3)).br (ix_pap (by have := hk1 x_1 hx_1; rw [List.length_map]; omega))) xa_nil)) (hF6 x_1 (hk1 x_1 hx_1))))⟩)) (by rw [rngD_F, rngF_len]; rw [hLl]; omega))).br (e1)))) (hT)) ?_
      have hF8 : F_law_all_hold [.lst (L.map eDuty), .lst (pts.map ePt)] (.ok (.bl true)) := ⟨L, pts, n, rfl, ⟨by omega, by omega⟩, hW, fun p hp => ⟨(hpts p hp).1, fun x hx => ((hpts p hp).2 x hx).1⟩, fun p hp d hd => hold_yes (hN d hd) (hall d hd) (hpts p hp).1 fun x hx => ((hpts p hp).2 x hx).2, rfl⟩
      exact xss_ret (XV.is (xv_and (xv_call D__law_all_hold (hr.mono (by decide)) tk (xa_cons (xv_var 6) (xa_cons (xv_var 7) xa_nil)) (hF8)) (fun hk => (xv_one (xv_call D_shows (hr.mono (by decide)) tk (xa_cons (xv_var 1) (xa_cons (xv_var 2) (xa_cons (xv_var 4) (xa_cons ((xl_list T.list ((xv_var 12)).br)).v xa_nil)))) (hF7))))) rfl)

theorem all_mk {P : Program} {w : World} {K : Fg} {mg : Str → Option Value} {fa : Addr} {a_System : Addr} {a_BadForm : Addr} 
    (TX : Tx K mg ∧ mg "ValueError" = none)
    (c_MOST_NUMBERS : ∃ t, mg "MOST_NUMBERS" = some (.int 4 t))
    (c_MOST_DEEDS : ∃ t, mg "MOST_DEEDS" = some (.int 8 t))
    (c_MOST_GUARDS : ∃ t, mg "MOST_GUARDS" = some (.int 4 t))
    (c_MOST : ∃ t, mg "MOST" = some (.int 1000 t))
    (EC_BadForm : EC K mg "BadForm" a_BadForm)
    (KN_System : Cn K mg "System" "System.__init__" a_System s_System___init__ P_System___init__)
    (n_System_wide : NoAttr K a_System "wide")
    (n_System_rows : NoAttr K a_System "rows")
    (n_System_basis : NoAttr K a_System "basis")
    (n_System_costs : NoAttr K a_System "costs")
    (U_System_bring : Mn K a_System "bring" "System.bring" s_System_bring P_System_bring)
    (U_System_leaving : Mn K a_System "leaving" "System.leaving" s_System_leaving P_System_leaving)
    (U_System_settle : Mn K a_System "settle" "System.settle" s_System_settle P_System_settle)
    (U_part : Dn K mg "part" s_part P_part)
    (U_plus : Dn K mg "plus" s_plus P_plus)
    (U_minus : Dn K mg "minus" s_minus P_minus)
    (U_times : Dn K mg "times" s_times P_times)
    (U_over : Dn K mg "over" s_over P_over)
    (U_together : Dn K mg "together" s_together P_together)
    (U_less_row : Dn K mg "less_row" s_less_row P_less_row)
    (U_solved : Dn K mg "solved" s_solved P_solved)
    (U_look_form : Dn K mg "look_form" s_look_form P_look_form)
    (U_look_lines : Dn K mg "look_lines" s_look_lines P_look_lines)
    (U_look_pair : Dn K mg "look_pair" s_look_pair P_look_pair)
    (U_worth : Dn K mg "worth" s_worth P_worth)
    (U_behind : Dn K mg "behind" s_behind P_behind)
    (U_left_over : Dn K mg "left_over" s_left_over P_left_over)
    (U_duties : Dn K mg "duties" s_duties P_duties)
    (U_shows_duty : Dn K mg "shows_duty" s_shows_duty P_shows_duty)
    (U_point_of : Dn K mg "point_of" s_point_of P_point_of)
    (U_settled_duty : Dn K mg "settled_duty" s_settled_duty P_settled_duty)
    (U_shares_of : Dn K mg "shares_of" s_shares_of P_shares_of)
    (U_far_point : Dn K mg "far_point" s_far_point P_far_point)
    (U_settled : Dn K mg "settled" s_settled P_settled)
    (U_shows : Dn K mg "shows" s_shows P_shows)
    (U_fails_at : Dn K mg "fails_at" s_fails_at P_fails_at)
    (U__law_cell : Dn K mg "_law_cell" s_law_cell P_law_cell)
    (U__law_mix : Dn K mg "_law_mix" s_law_mix P_law_mix)
    (U__law_whole : Dn K mg "_law_whole" s_law_whole P_law_whole)
    (U__law_is_part : Dn K mg "_law_is_part" s_law_is_part P_law_is_part)
    (U__law_form : Dn K mg "_law_form" s_law_form P_law_form)
    (U__law_lines : Dn K mg "_law_lines" s_law_lines P_law_lines)
    (U__law_worth : Dn K mg "_law_worth" s_law_worth P_law_worth)
    (U__law_duties : Dn K mg "_law_duties" s_law_duties P_law_duties)
    (U__law_paper : Dn K mg "_law_paper" s_law_paper P_law_paper)
    (U__law_unders : Dn K mg "_law_unders" s_law_unders P_law_unders)
    (U__law_holds : Dn K mg "_law_holds" s_law_holds P_law_holds)
    (U__law_points : Dn K mg "_law_points" s_law_points P_law_points)
    (U__law_all_hold : Dn K mg "_law_all_hold" s_law_all_hold P_law_all_hold)
    (L : Dl K s_law fa) :
    ∃ fd : FuncData, (∀ (s : Shared) (v : Value), BindsTo s fd ⟨[v], []⟩ [("_law_script", v)]) ∧ ∀ base : Heap, K.In base → base.Ns mainGlobals mg → FnOk P w K mg base (L2.CX P w) 11 fa fd P_law (spF K F_law) := by
  obtain ⟨fd, UL, hb⟩ := L.ex
  obtain ⟨T, hVE⟩ := TX
  refine ⟨fd, hb, fun base _ _ => ?_⟩
  have K_System : Kc_System K a_System := ⟨KN_System.cl, n_System_wide, n_System_rows, n_System_basis, n_System_costs⟩
  have D_part := df_part (P := P) (w := w) (base := base) T U_part
  have D_plus := df_plus T U_plus D_part
  have D_minus := df_minus T U_minus D_part
  have D_times := df_times T U_times D_part
  have D_over := df_over T U_over D_part
  have D_together := df_together T U_together D_plus D_times
  have D_less_row := df_less_row T U_less_row D_minus D_times
  have D_System_bring := do_System_bring T K_System U_System_bring D_over D_less_row
  have D_System_leaving := do_System_leaving T K_System U_System_leaving D_over D_minus
  have D_System_settle := do_System_settle T K_System U_System_settle D_System_bring D_System_leaving
  have D_System := dc_System T K_System KN_System D_less_row
  have D_solved := df_solved T U_solved K_System D_times D_minus D_System D_System_settle
  have D_look_form := df_look_form (P := P) (w := w) (base := base) T U_look_form EC_BadForm c_MOST
  have D_look_lines := df_look_lines T U_look_lines EC_BadForm c_MOST_NUMBERS c_MOST_DEEDS c_MOST_GUARDS D_look_form
  have D_look_pair := df_look_pair T U_look_pair EC_BadForm c_MOST D_look_form D_look_lines
  have D_worth := df_worth T U_worth D_plus D_together
  have D_behind := df_behind (P := P) (w := w) (base := base) T U_behind
  have D_left_over := df_left_over T U_left_over D_behind
  have D_duties := df_duties T U_duties D_left_over
  have D_point_of := df_point_of T U_point_of D_solved
  have D_far_point := df_far_point T U_far_point D_plus D_minus D_times D_over D_together D_worth
  have D_shares_of := df_shares_of T U_shares_of D_over D_together
  have D_settled_duty := df_settled_duty T U_settled_duty D_over D_minus D_solved D_point_of D_far_point D_shares_of
  have D_settled := df_settled T U_settled D_look_pair D_duties D_settled_duty
  have D_shows_duty := df_shows_duty T U_shows_duty D_minus D_together
  have D_shows := df_shows T U_shows D_look_pair D_duties D_shows_duty
  have D_fails_at := df_fails_at T U_fails_at D_look_pair D_duties D_worth
  have D__law_cell := df_law_cell (P := P) (w := w) (base := base) T U__law_cell
  have D__law_mix := df_law_mix T U__law_mix D__law_cell
  have D__law_form := df_law_form T U__law_form D__law_mix
  have D__law_lines := df_law_lines T U__law_lines D__law_mix D__law_form
  have D__law_worth := df_law_worth (P := P) (w := w) (base := base) T U__law_worth
  have D__law_duties := df_law_duties (P := P) (w := w) (base := base) T U__law_duties
  have D__law_unders := df_law_unders (P := P) (w := w) (base := base) T U__law_unders
  have D__law_whole := df_law_whole (P := P) (w := w) (base := base) T U__law_whole
  have D__law_is_part := df_law_is_part T U__law_is_part D__law_whole
  have D__law_holds := df_law_holds T U__law_holds D__law_worth
  have D__law_points := df_law_points T U__law_points D__law_mix
  have D__law_all_hold := df_law_all_hold T U__law_all_hold D__law_holds
  have D__law_paper := df_law_paper T U__law_paper D__law_worth D__law_is_part D__law_unders
  exact ok_law T UL D__law_mix D__law_form D__law_lines D__law_duties D__law_paper D__law_whole D__law_is_part D__law_holds D__law_points D__law_all_hold D_settled D_shows D_fails_at

end Prog
open PySem PySem.W PyProof.Rows
theorem PySem.Challenge.cw_pursehall_k40_whole_lines_settled_holds : PySem.Challenge.rw_pursehall_k40_whole_lines_settled.Holds := by
  w_on; o_law; k_head; (case hw => w_witness2)
  k_fill
  refine Lay.walk_F (l := PySem.Challenge.rw_pursehall_k40_whole_lines_settled) 11 rfl rfl ⟨rfl, by decide, by decide⟩ (fun w h Y => PySem.W.kIn_of Y) ?F
  case F =>
    intro w mg fa h KX G hmg
    open Lay in
    refine' Prog.all_mk ?TX ?c_MOST_NUMBERS ?c_MOST_DEEDS ?c_MOST_GUARDS ?c_MOST ?EC_BadForm ?KN_System ?n_System_wide ?n_System_rows ?n_System_basis ?n_System_costs ?U_System_bring ?U_System_leaving ?U_System_settle ?U_part ?U_plus ?U_minus ?U_times ?U_over ?U_together ?U_less_row ?U_solved ?U_look_form ?U_look_lines ?U_look_pair ?U_worth ?U_behind ?U_left_over ?U_duties ?U_shows_duty ?U_point_of ?U_settled_duty ?U_shares_of ?U_far_point ?U_settled ?U_shows ?U_fails_at ?U__law_cell ?U__law_mix ?U__law_whole ?U__law_is_part ?U__law_form ?U__law_lines ?U__law_worth ?U__law_duties ?U__law_paper ?U__law_unders ?U__law_holds ?U__law_points ?U__law_all_hold ?L
    open Lay in
    (case TX => refine' tx_mk KX G ?yz0 ?yz1 ?yz2 ?yz3 ?yz4 ?yz5 ?yz6 ?yz7 ?yz8 ?yz9 ?yz10 ?yz11 ?yz12 ?yz13 ?yz14 ?yz15; (case yz0 => k_is); (case yz1 => k_is); (case yz2 => k_is); (case yz3 => k_is); (case yz4 => k_is); (case yz5 => k_is); (case yz6 => k_is); (case yz7 => k_is); (case yz8 => k_is); (case yz9 => k_is); (case yz10 => k_is); (case yz11 => k_is); (case yz12 => k_is); (case yz13 => k_is); (case yz14 => k_is); (case yz15 => k_is))
    open Lay in
    (case c_MOST_NUMBERS => refine' c_mk KX G ?ya; (case ya => k_is))
    open Lay in
    (case c_MOST_DEEDS => refine' c_mk KX G ?ya; (case ya => k_is))
    open Lay in
    (case c_MOST_GUARDS => refine' c_mk KX G ?ya; (case ya => k_is))
    open Lay in
    (case c_MOST => refine' c_mk KX G ?ya; (case ya => k_is))
    open Lay in
    (case EC_BadForm => refine' ec_mk KX G ?ya ?yq ?ykp ?yb ?yt; (case ya => k_is); (case yq => k_exc); (case ykp => k_is); (case yb => k_is); (case yt => k_is))
    open Lay in
    (case KN_System => refine' cn_mk KX G ?yaC ?ya ?yi ?yl ?yc ?yk (fun _ _ _ _ _ _ us hl => match us, hl with | [_, _, _], _ => rfl) ?ypg ?yhd ?ypo ?ysa ?ymk ?ykc; (case yaC => k_is); (case ya => k_is); (case yi => k_is); (case yl => k_is); (case yc => k_is); (case yk => k_is); (case ypg => k_is); (case yhd => k_is); (case ypo => k_is); (case ysa => k_is); (case ymk => k_is); (case ykc => k_is))
    open Lay in
    (case n_System_wide => refine' na_mk ?ya; (case ya => k_is))
    open Lay in
    (case n_System_rows => refine' na_mk ?ya; (case ya => k_is))
    open Lay in
    (case n_System_basis => refine' na_mk ?ya; (case ya => k_is))
    open Lay in
    (case n_System_costs => refine' na_mk ?ya; (case ya => k_is))
    open Lay in
    (case U_System_bring => refine' mn_mk ?ya ?yi ?yl ?yc ?yk (fun _ _ _ _ _ _ us hl => match us, hl with | [_, _, _], _ => rfl); (case ya => k_is); (case yi => k_is); (case yl => k_is); (case yc => k_is); (case yk => k_is))
    open Lay in
    (case U_System_leaving => refine' mn_mk ?ya ?yi ?yl ?yc ?yk (fun _ _ _ _ _ _ us hl => match us, hl with | [_, _], _ => rfl); (case ya => k_is); (case yi => k_is); (case yl => k_is); (case yc => k_is); (case yk => k_is))
    open Lay in
    (case U_System_settle => refine' mn_mk ?ya ?yi ?yl ?yc ?yk (fun _ _ _ _ _ _ us hl => match us, hl with | [_], _ => rfl); (case ya => k_is); (case yi => k_is); (case yl => k_is); (case yc => k_is); (case yk => k_is))
    open Lay in
    (case U_part => refine' dn_mk KX G ?ya ?yl ?yc ?yk (fun _ _ _ _ _ _ us hl => match us, hl with | [_, _], _ => rfl); (case ya => k_is); (case yl => k_is); (case yc => k_is); (case yk => k_is))
    open Lay in
    (case U_plus => refine' dn_mk KX G ?ya ?yl ?yc ?yk (fun _ _ _ _ _ _ us hl => match us, hl with | [_, _], _ => rfl); (case ya => k_is); (case yl => k_is); (case yc => k_is); (case yk => k_is))
    open Lay in
    (case U_minus => refine' dn_mk KX G ?ya ?yl ?yc ?yk (fun _ _ _ _ _ _ us hl => match us, hl with | [_, _], _ => rfl); (case ya => k_is); (case yl => k_is); (case yc => k_is); (case yk => k_is))
    open Lay in
    (case U_times => refine' dn_mk KX G ?ya ?yl ?yc ?yk (fun _ _ _ _ _ _ us hl => match us, hl with | [_, _], _ => rfl); (case ya => k_is); (case yl => k_is); (case yc => k_is); (case yk => k_is))
    open Lay in
    (case U_over => refine' dn_mk KX G ?ya ?yl ?yc ?yk (fun _ _ _ _ _ _ us hl => match us, hl with | [_, _], _ => rfl); (case ya => k_is); (case yl => k_is); (case yc => k_is); (case yk => k_is))
    open Lay in
    (case U_together => refine' dn_mk KX G ?ya ?yl ?yc ?yk (fun _ _ _ _ _ _ us hl => match us, hl with | [_, _], _ => rfl); (case ya => k_is); (case yl => k_is); (case yc => k_is); (case yk => k_is))
    open Lay in
    (case U_less_row => refine' dn_mk KX G ?ya ?yl ?yc ?yk (fun _ _ _ _ _ _ us hl => match us, hl with | [_, _, _], _ => rfl); (case ya => k_is); (case yl => k_is); (case yc => k_is); (case yk => k_is))
    open Lay in
    (case U_solved => refine' dn_mk KX G ?ya ?yl ?yc ?yk (fun _ _ _ _ _ _ us hl => match us, hl with | [_, _], _ => rfl); (case ya => k_is); (case yl => k_is); (case yc => k_is); (case yk => k_is))
    open Lay in
    (case U_look_form => refine' dn_mk KX G ?ya ?yl ?yc ?yk (fun _ _ _ _ _ _ us hl => match us, hl with | [_, _], _ => rfl); (case ya => k_is); (case yl => k_is); (case yc => k_is); (case yk => k_is))
    open Lay in
    (case U_look_lines => refine' dn_mk KX G ?ya ?yl ?yc ?yk (fun _ _ _ _ _ _ us hl => match us, hl with | [_], _ => rfl); (case ya => k_is); (case yl => k_is); (case yc => k_is); (case yk => k_is))
    open Lay in
    (case U_look_pair => refine' dn_mk KX G ?ya ?yl ?yc ?yk (fun _ _ _ _ _ _ us hl => match us, hl with | [_, _, _], _ => rfl); (case ya => k_is); (case yl => k_is); (case yc => k_is); (case yk => k_is))
    open Lay in
    (case U_worth => refine' dn_mk KX G ?ya ?yl ?yc ?yk (fun _ _ _ _ _ _ us hl => match us, hl with | [_, _], _ => rfl); (case ya => k_is); (case yl => k_is); (case yc => k_is); (case yk => k_is))
    open Lay in
    (case U_behind => refine' dn_mk KX G ?ya ?yl ?yc ?yk (fun _ _ _ _ _ _ us hl => match us, hl with | [_, _], _ => rfl); (case ya => k_is); (case yl => k_is); (case yc => k_is); (case yk => k_is))
    open Lay in
    (case U_left_over => refine' dn_mk KX G ?ya ?yl ?yc ?yk (fun _ _ _ _ _ _ us hl => match us, hl with | [_, _, _], _ => rfl); (case ya => k_is); (case yl => k_is); (case yc => k_is); (case yk => k_is))
    open Lay in
    (case U_duties => refine' dn_mk KX G ?ya ?yl ?yc ?yk (fun _ _ _ _ _ _ us hl => match us, hl with | [_, _, _], _ => rfl); (case ya => k_is); (case yl => k_is); (case yc => k_is); (case yk => k_is))
    open Lay in
    (case U_shows_duty => refine' dn_mk KX G ?ya ?yl ?yc ?yk (fun _ _ _ _ _ _ us hl => match us, hl with | [_, _], _ => rfl); (case ya => k_is); (case yl => k_is); (case yc => k_is); (case yk => k_is))
    open Lay in
    (case U_point_of => refine' dn_mk KX G ?ya ?yl ?yc ?yk (fun _ _ _ _ _ _ us hl => match us, hl with | [_, _], _ => rfl); (case ya => k_is); (case yl => k_is); (case yc => k_is); (case yk => k_is))
    open Lay in
    (case U_settled_duty => refine' dn_mk KX G ?ya ?yl ?yc ?yk (fun _ _ _ _ _ _ us hl => match us, hl with | [_], _ => rfl); (case ya => k_is); (case yl => k_is); (case yc => k_is); (case yk => k_is))
    open Lay in
    (case U_shares_of => refine' dn_mk KX G ?ya ?yl ?yc ?yk (fun _ _ _ _ _ _ us hl => match us, hl with | [_, _], _ => rfl); (case ya => k_is); (case yl => k_is); (case yc => k_is); (case yk => k_is))
    open Lay in
    (case U_far_point => refine' dn_mk KX G ?ya ?yl ?yc ?yk (fun _ _ _ _ _ _ us hl => match us, hl with | [_, _, _], _ => rfl); (case ya => k_is); (case yl => k_is); (case yc => k_is); (case yk => k_is))
    open Lay in
    (case U_settled => refine' dn_mk KX G ?ya ?yl ?yc ?yk (fun _ _ _ _ _ _ us hl => match us, hl with | [_, _, _], _ => rfl); (case ya => k_is); (case yl => k_is); (case yc => k_is); (case yk => k_is))
    open Lay in
    (case U_shows => refine' dn_mk KX G ?ya ?yl ?yc ?yk (fun _ _ _ _ _ _ us hl => match us, hl with | [_, _, _, _], _ => rfl); (case ya => k_is); (case yl => k_is); (case yc => k_is); (case yk => k_is))
    open Lay in
    (case U_fails_at => refine' dn_mk KX G ?ya ?yl ?yc ?yk (fun _ _ _ _ _ _ us hl => match us, hl with | [_, _, _, _, _], _ => rfl); (case ya => k_is); (case yl => k_is); (case yc => k_is); (case yk => k_is))
    open Lay in
    (case U__law_cell => refine' dn_mk KX G ?ya ?yl ?yc ?yk (fun _ _ _ _ _ _ us hl => match us, hl with | [_, _], _ => rfl); (case ya => k_is); (case yl => k_is); (case yc => k_is); (case yk => k_is))
    open Lay in
    (case U__law_mix => refine' dn_mk KX G ?ya ?yl ?yc ?yk (fun _ _ _ _ _ _ us hl => match us, hl with | [_, _], _ => rfl); (case ya => k_is); (case yl => k_is); (case yc => k_is); (case yk => k_is))
    open Lay in
    (case U__law_whole => refine' dn_mk KX G ?ya ?yl ?yc ?yk (fun _ _ _ _ _ _ us hl => match us, hl with | [_], _ => rfl); (case ya => k_is); (case yl => k_is); (case yc => k_is); (case yk => k_is))
    open Lay in
    (case U__law_is_part => refine' dn_mk KX G ?ya ?yl ?yc ?yk (fun _ _ _ _ _ _ us hl => match us, hl with | [_], _ => rfl); (case ya => k_is); (case yl => k_is); (case yc => k_is); (case yk => k_is))
    open Lay in
    (case U__law_form => refine' dn_mk KX G ?ya ?yl ?yc ?yk (fun _ _ _ _ _ _ us hl => match us, hl with | [_, _, _, _], _ => rfl); (case ya => k_is); (case yl => k_is); (case yc => k_is); (case yk => k_is))
    open Lay in
    (case U__law_lines => refine' dn_mk KX G ?ya ?yl ?yc ?yk (fun _ _ _ _ _ _ us hl => match us, hl with | [_, _], _ => rfl); (case ya => k_is); (case yl => k_is); (case yc => k_is); (case yk => k_is))
    open Lay in
    (case U__law_worth => refine' dn_mk KX G ?ya ?yl ?yc ?yk (fun _ _ _ _ _ _ us hl => match us, hl with | [_, _], _ => rfl); (case ya => k_is); (case yl => k_is); (case yc => k_is); (case yk => k_is))
    open Lay in
    (case U__law_duties => refine' dn_mk KX G ?ya ?yl ?yc ?yk (fun _ _ _ _ _ _ us hl => match us, hl with | [_, _, _], _ => rfl); (case ya => k_is); (case yl => k_is); (case yc => k_is); (case yk => k_is))
    open Lay in
    (case U__law_paper => refine' dn_mk KX G ?ya ?yl ?yc ?yk (fun _ _ _ _ _ _ us hl => match us, hl with | [_, _], _ => rfl); (case ya => k_is); (case yl => k_is); (case yc => k_is); (case yk => k_is))
    open Lay in
    (case U__law_unders => refine' dn_mk KX G ?ya ?yl ?yc ?yk (fun _ _ _ _ _ _ us hl => match us, hl with | [_], _ => rfl); (case ya => k_is); (case yl => k_is); (case yc => k_is); (case yk => k_is))
    open Lay in
    (case U__law_holds => refine' dn_mk KX G ?ya ?yl ?yc ?yk (fun _ _ _ _ _ _ us hl => match us, hl with | [_, _], _ => rfl); (case ya => k_is); (case yl => k_is); (case yc => k_is); (case yk => k_is))
    open Lay in
    (case U__law_points => refine' dn_mk KX G ?ya ?yl ?yc ?yk (fun _ _ _ _ _ _ us hl => match us, hl with | [_, _, _], _ => rfl); (case ya => k_is); (case yl => k_is); (case yc => k_is); (case yk => k_is))
    open Lay in
    (case U__law_all_hold => refine' dn_mk KX G ?ya ?yl ?yc ?yk (fun _ _ _ _ _ _ us hl => match us, hl with | [_, _], _ => rfl); (case ya => k_is); (case yl => k_is); (case yc => k_is); (case yk => k_is))
    open Lay in
    (case L => refine' dl_mk KX G hmg ?ya ?yl ?yc ?yk (fun _ _ _ _ _ _ _ => rfl); (case ya => k_is); (case yl => k_is); (case yc => k_is); (case yk => k_is))
