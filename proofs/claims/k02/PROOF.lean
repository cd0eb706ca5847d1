import PyProof.Rows.All
import Wide.All
import OpenK.AllK
import Wide.FinOn
import PyProof.EqAt
import PyProof.EqKinds
import PyProof.TupleCall
import HandS.ForMost
import HandS.ForExc
import HandS.IsInst
import HandS.TupAny
import HandS.TupMul
import HandS.Wide
import HandS.More
import HandS.Flow
import HandS.Deep
import HandS.TupSets
import HandS.ExcIs
import HandS.SetFor
import HandS.SortRule
import PySem.Challenge.RW_pursehall_k02_beside
set_option Elab.async false
set_option autoImplicit false
set_option linter.all false
set_option maxRecDepth 100000
set_option maxHeartbeats 4000000
/-! Lay1: data-level judgements over the hand layer: what stands in the slots, what an expression gives. -/
namespace Lay
open PySem L2
abbrev Fg := PySem.W.Frag

/-! ### growth -/
structure Gr (S H S' H' : Hp) : Prop where
  s : Same S S'
  h : Same H H'
  sh : Same S' H'
  old : ∀ a, H a ≠ none → S' a = S a
theorem Gr.refl {S H : Hp} (h : Same S H) : Gr S H S H := ⟨Same.refl _, Same.refl _, h, fun _ _ => rfl⟩
theorem nn_of {H : Hp} {a : Addr} {o : HO} (h : H a = some o) : H a ≠ none := by rw [h]; exact fun z => by cases z
theorem some_nn {H : Hp} {a : Addr} (h : H a ≠ none) : ∃ o, H a = some o := by
  cases e : H a with
  | none => exact absurd e h
  | some o => exact ⟨o, rfl⟩
theorem Same.nn {H H' : Hp} (k : Same H H') {a : Addr} (h : H a ≠ none) : H' a ≠ none := by
  obtain ⟨o, e⟩ := some_nn h
  rw [k _ _ e]; exact fun z => by cases z
theorem Gr.trans {S H S1 H1 S2 H2 : Hp} (a : Gr S H S1 H1) (b : Gr S1 H1 S2 H2) : Gr S H S2 H2 :=
  ⟨a.s.trans b.s, a.h.trans b.h, b.sh, fun x hx => (b.old x (Same.nn a.h hx)).trans (a.old x hx)⟩
theorem same_new {H : Hp} {p : Addr} {o : HO} (hp : H p = none) : Same H (upd H p o) := fun b u e => by
  rw [upd_ne (ne_of_none e hp)]; exact e
/-- a new object, frozen -/
theorem Gr.new {S H : Hp} {p : Addr} {o : HO} (h : Same S H) (hp : H p = none) : Gr S H (upd S p o) (upd H p o) := by
  have hs : S p = none := h.free hp
  refine ⟨same_new hs, same_new hp, fun b u e => ?_, fun b hb => ?_⟩
  · by_cases z : b = p
    · subst z; rw [upd_same] at e ⊢; exact e
    · rw [upd_ne z] at e ⊢; exact h _ _ e
  · have z : b ≠ p := fun z => hb (by rw [z]; exact hp)
    rw [upd_ne z]
/-- a new object, not frozen -/
theorem Gr.newH {S H : Hp} {p : Addr} {o : HO} (h : Same S H) (hp : H p = none) : Gr S H S (upd H p o) :=
  ⟨Same.refl _, same_new hp, h.trans (same_new hp), fun _ _ => rfl⟩
/-- an object that is new since H becomes frozen as it stands -/
theorem Gr.freeze {S H S' H' : Hp} {p : Addr} {o : HO} (g : Gr S H S' H') (hp : H p = none) (e : H' p = some o) (hs : S' p = none) : Gr S H (upd S' p o) H' := by
  refine ⟨fun b u q => ?_, g.h, fun b u q => ?_, fun b hb => ?_⟩
  · rw [upd_ne (fun z => by subst z; rw [g.s _ _ q] at hs; cases hs)]; exact g.s _ _ q
  · by_cases z : b = p
    · subst z; rw [upd_same] at q; cases q; exact e
    · rw [upd_ne z] at q; exact g.sh _ _ q
  · have z : b ≠ p := fun z => hb (by rw [z]; exact hp)
    rw [upd_ne z]; exact g.old b hb

theorem same_rd {S S' : Hp} (k : Same S S') {a : Addr} {u : HO} (h : Rd S a u) : Rd S' a u := by
  rcases h with h | ⟨o, h⟩
  · exact .inl (k _ _ h)
  · exact .inr ⟨o, k _ _ h⟩
theorem same_l {K : Fg} {S S' : Hp} (k : Same S S') {a : Addr} {xs : List V} (h : SqL K S a xs) : SqL K S' a xs := by
  rcases h with h | h
  · exact .inl (same_rd k h)
  · exact .inr h
theorem same_t {K : Fg} {S S' : Hp} (k : Same S S') {a : Addr} {xs : List V} (h : SqT K S a xs) : SqT K S' a xs := by
  rcases h with h | h
  · exact .inl (same_rd k h)
  · exact .inr h
/-- a caught exception of the class at c -/
def ExT (c a : Addr) : HO := .ext fun h => ∃ (oe : Obj) (vs : Array Value), h.get? a = some oe ∧ Zc (.ref c) none oe ∧ oe.data = .fields vs
/-- data: what a value is, told without the heap. scr: the law's script; exc: a caught exception of the class at c; ins: an instance that changes no more -/
inductive D where
  | non
  | bl (b : Bool)
  | int (i : Int)
  | str (x : Str)
  | lst (ds : List D)
  | tup (ds : List D)
  | scr (ns : List Int)
  | exc (c : Addr)
  | ins (C : Addr) (fs : List (Str × D))
mutual
inductive Rp (K : Fg) (S : Hp) : V → D → Prop where
  | non : Rp K S .non .non
  | bl (b : Bool) : Rp K S (.bl b) (.bl b)
  | int (i : Int) : Rp K S (.int i) (.int i)
  | str (x : Str) : Rp K S (.str x) (.str x)
  | lst {a : Addr} {xs : List V} {ds : List D} : S a = some (.lst xs) → RpA K S xs ds → Rp K S (.ref a) (.lst ds)
  | tup {a : Addr} {xs : List V} {ds : List D} : S a = some (.tup xs) → RpA K S xs ds → Rp K S (.ref a) (.tup ds)
  | scr {a : Addr} {ns : List Int} : SqL K S a (ns.map V.int) → Rp K S (.ref a) (.scr ns)
  | exc {a c : Addr} : S a = some (ExT c a) → Rp K S (.ref a) (.exc c)
  | ins {a C dx : Addr} {fv : List (Str × V)} {fs : List (Str × D)} : S a = some (.ins C dx fv) → RpF K S fv fs → Rp K S (.ref a) (.ins C fs)
inductive RpA (K : Fg) (S : Hp) : List V → List D → Prop where
  | nil : RpA K S [] []
  | cons {v : V} {d : D} {vs : List V} {ds : List D} : Rp K S v d → RpA K S vs ds → RpA K S (v :: vs) (d :: ds)
inductive RpF (K : Fg) (S : Hp) : List (Str × V) → List (Str × D) → Prop where
  | nil : RpF K S [] []
  | cons {n : Str} {v : V} {d : D} {vs : List (Str × V)} {ds : List (Str × D)} : Rp K S v d → RpF K S vs ds → RpF K S ((n, v) :: vs) ((n, d) :: ds)
end
mutual
theorem dp_same {K : Fg} {S S' : Hp} (k : Same S S') : ∀ {v : V} {d : D}, Rp K S v d → Rp K S' v d
  | _, _, .non => .non
  | _, _, .bl b => .bl b
  | _, _, .int i => .int i
  | _, _, .str x => .str x
  | _, _, .lst h a => .lst (k _ _ h) (da_same k a)
  | _, _, .tup h a => .tup (k _ _ h) (da_same k a)
  | _, _, .scr h => .scr (same_l k h)
  | _, _, .exc h => .exc (k _ _ h)
  | _, _, .ins h a => .ins (k _ _ h) (df_same k a)
theorem da_same {K : Fg} {S S' : Hp} (k : Same S S') : ∀ {vs : List V} {ds : List D}, RpA K S vs ds → RpA K S' vs ds
  | _, _, .nil => .nil
  | _, _, .cons h a => .cons (dp_same k h) (da_same k a)
theorem df_same {K : Fg} {S S' : Hp} (k : Same S S') : ∀ {vs : List (Str × V)} {ds : List (Str × D)}, RpF K S vs ds → RpF K S' vs ds
  | _, _, .nil => .nil
  | _, _, .cons h a => .cons (dp_same k h) (df_same k a)
end
theorem da_len {K : Fg} {S : Hp} : ∀ {vs : List V} {ds : List D}, RpA K S vs ds → vs.length = ds.length
  | _, _, .nil => rfl
  | _, _, .cons _ a => by simp only [List.length_cons, da_len a]
theorem da_get {K : Fg} {S : Hp} : ∀ {vs : List V} {ds : List D} {i : Nat} {d : D}, RpA K S vs ds → ds[i]? = some d → ∃ v, vs[i]? = some v ∧ Rp K S v d
  | _, _, _, _, .nil, e => by simp at e
  | _, _, 0, _, .cons h _, e => by simp at e; subst e; exact ⟨_, rfl, h⟩
  | _, _, i + 1, _, .cons _ a, e => by
    obtain ⟨v, h1, h2⟩ := da_get (i := i) a (by simpa using e)
    exact ⟨v, by simpa using h1, h2⟩
theorem da_get' {K : Fg} {S : Hp} {vs : List V} {ds : List D} {i : Nat} {v : V} (h : RpA K S vs ds) (e : vs[i]? = some v) : ∃ d, ds[i]? = some d ∧ Rp K S v d := by
  have hi : i < ds.length := by rw [← da_len h]; exact (List.getElem?_eq_some_iff.mp e).1
  obtain ⟨v', e', h'⟩ := da_get h (List.getElem?_eq_getElem hi)
  rw [e] at e'; cases e'
  exact ⟨_, List.getElem?_eq_getElem hi, h'⟩
theorem da_append {K : Fg} {S : Hp} : ∀ {vs ws : List V} {ds es : List D}, RpA K S vs ds → RpA K S ws es → RpA K S (vs ++ ws) (ds ++ es)
  | _, _, _, _, .nil, b => b
  | _, _, _, _, .cons h a, b => .cons h (da_append a b)
theorem da_one {K : Fg} {S : Hp} {v : V} {d : D} (h : Rp K S v d) : RpA K S [v] [d] := .cons h .nil
theorem da_set {K : Fg} {S : Hp} : ∀ {vs : List V} {ds : List D} {v : V} {d : D} (i : Nat), RpA K S vs ds → Rp K S v d → RpA K S (vs.set i v) (ds.set i d)
  | _, _, _, _, _, .nil, _ => .nil
  | _, _, _, _, 0, .cons _ a, h => .cons h a
  | _, _, _, _, i + 1, .cons q a, h => .cons q (da_set i a h)
theorem da_take {K : Fg} {S : Hp} : ∀ {vs : List V} {ds : List D} (n : Nat), RpA K S vs ds → RpA K S (vs.take n) (ds.take n)
  | _, _, 0, _ => by simp; exact .nil
  | _, _, _ + 1, .nil => .nil
  | _, _, n + 1, .cons h a => .cons h (da_take n a)
theorem da_drop {K : Fg} {S : Hp} : ∀ {vs : List V} {ds : List D} (n : Nat), RpA K S vs ds → RpA K S (vs.drop n) (ds.drop n)
  | _, _, 0, h => h
  | _, _, _ + 1, .nil => .nil
  | _, _, n + 1, .cons _ a => da_drop n a
theorem da_reverse {K : Fg} {S : Hp} : ∀ {vs : List V} {ds : List D}, RpA K S vs ds → RpA K S vs.reverse ds.reverse
  | _, _, .nil => .nil
  | _, _, .cons h a => by rw [List.reverse_cons, List.reverse_cons]; exact da_append (da_reverse a) (da_one h)
theorem da_dropLast {K : Fg} {S : Hp} {vs : List V} {ds : List D} (h : RpA K S vs ds) : RpA K S vs.dropLast ds.dropLast := by
  rw [List.dropLast_eq_take, List.dropLast_eq_take, da_len h]; exact da_take _ h
theorem da_insert {K : Fg} {S : Hp} {vs : List V} {ds : List D} {v : V} {d : D} (h : RpA K S vs ds) (q : Rp K S v d) : RpA K S (v :: vs) (d :: ds) := .cons q h
/-- flat lists -/
theorem da_ints {K : Fg} {S : Hp} : ∀ {vs : List V} {ns : List Int}, RpA K S vs (ns.map .int) → vs = ns.map V.int
  | _, [], h => by cases h; rfl
  | _, n :: ns, h => by
    cases h with
    | cons h a => cases h; rw [da_ints a]; rfl
theorem ints_da {K : Fg} {S : Hp} : ∀ (ns : List Int), RpA K S (ns.map V.int) (ns.map .int)
  | [] => .nil
  | n :: ns => .cons (.int n) (ints_da ns)
theorem da_bools {K : Fg} {S : Hp} : ∀ {vs : List V} {ns : List Bool}, RpA K S vs (ns.map .bl) → vs = ns.map V.bl
  | _, [], h => by cases h; rfl
  | _, n :: ns, h => by
    cases h with
    | cons h a => cases h; rw [da_bools a]; rfl
theorem bools_da {K : Fg} {S : Hp} : ∀ (ns : List Bool), RpA K S (ns.map V.bl) (ns.map .bl)
  | [] => .nil
  | n :: ns => .cons (.bl n) (bools_da ns)

/-! ### what stands in the slots -/
inductive FI where
  | fz (d : D)
  | ow (ds : List D)
inductive It where
  /-- nothing known -/
  | no
  /-- data that will not change -/
  | fz (d : D)
  /-- a list of the frame's own -/
  | ow (ds : List D)
  /-- a dict of the frame's own, keys whole numbers -/
  | dk (kvs : List (Int × D))
  /-- an instance of the frame's own -/
  | ob (C : Addr) (fs : List (Str × FI))
  /-- a list of the frame's own, of lists of the frame's own -/
  | ll (xss : List (List D))
inductive LlR (K : Fg) (S H : Hp) : List (List D) → List V → List Addr → Prop where
  | nil : LlR K S H [] [] []
  | cons {xs : List D} {xss : List (List D)} {p : Addr} {ws vs : List V} {as : List Addr} : H p = some (.lst ws) → RpA K S ws xs → LlR K S H xss vs as → LlR K S H (xs :: xss) (.ref p :: vs) (p :: as)
inductive FIR (K : Fg) (S H : Hp) : FI → V → List Addr → Prop where
  | fz {d : D} {v : V} : Rp K S v d → FIR K S H (.fz d) v []
  | ow {ds : List D} {p : Addr} {vs : List V} : H p = some (.lst vs) → RpA K S vs ds → FIR K S H (.ow ds) (.ref p) [p]
inductive FsR (K : Fg) (S H : Hp) : List (Str × FI) → List (Str × V) → List Addr → Prop where
  | nil : FsR K S H [] [] []
  | cons {n : Str} {f : FI} {v : V} {as bs : List Addr} {fs : List (Str × FI)} {vs : List (Str × V)} : FIR K S H f v as → FsR K S H fs vs bs → FsR K S H ((n, f) :: fs) ((n, v) :: vs) (as ++ bs)
inductive DkR (K : Fg) (S : Hp) : List (Int × D) → List (Key × V) → Prop where
  | nil : DkR K S [] []
  | cons {n : Int} {d : D} {v : V} {fs : List (Int × D)} {vs : List (Key × V)} : Rp K S v d → DkR K S fs vs → DkR K S ((n, d) :: fs) ((Sum.inl n, v) :: vs)
inductive ItR (K : Fg) (S H : Hp) : It → Option V → List Addr → Prop where
  | no (v : Option V) : ItR K S H .no v []
  | fz {d : D} {v : V} : Rp K S v d → ItR K S H (.fz d) (some v) []
  | ow {ds : List D} {p : Addr} {vs : List V} : H p = some (.lst vs) → RpA K S vs ds → ItR K S H (.ow ds) (some (.ref p)) [p]
  | dk {ds : List (Int × D)} {p : Addr} {kvs : List (Key × V)} : H p = some (.dK kvs) → DkR K S ds kvs → ItR K S H (.dk ds) (some (.ref p)) [p]
  | ob {C dx p : Addr} {fs : List (Str × FI)} {fv : List (Str × V)} {as : List Addr} : H p = some (.ins C dx fv) → FsR K S H fs fv as → ItR K S H (.ob C fs) (some (.ref p)) (p :: as)
  | ll {p : Addr} {xss : List (List D)} {vs : List V} {as : List Addr} : H p = some (.lst vs) → LlR K S H xss vs as → ItR K S H (.ll xss) (some (.ref p)) (p :: as)

/-- the objects at as are as they were, what was frozen is -/
theorem fir_keep {K : Fg} {S H S' H' : Hp} (k : Same S S') : ∀ {f : FI} {v : V} {as : List Addr}, FIR K S H f v as → (∀ a ∈ as, H' a = H a) → FIR K S' H' f v as
  | _, _, _, .fz h, _ => .fz (dp_same k h)
  | _, _, _, .ow h a, q => .ow ((q _ (by simp)).trans h) (da_same k a)
theorem fsr_keep {K : Fg} {S H S' H' : Hp} (k : Same S S') : ∀ {f : List (Str × FI)} {v : List (Str × V)} {as : List Addr}, FsR K S H f v as → (∀ a ∈ as, H' a = H a) → FsR K S' H' f v as
  | _, _, _, .nil, _ => .nil
  | _, _, _, .cons h t, q => .cons (fir_keep k h fun a ha => q a (List.mem_append_left _ ha)) (fsr_keep k t fun a ha => q a (List.mem_append_right _ ha))
theorem dkr_keep {K : Fg} {S S' : Hp} (k : Same S S') : ∀ {f : List (Int × D)} {v : List (Key × V)}, DkR K S f v → DkR K S' f v
  | _, _, .nil => .nil
  | _, _, .cons h t => .cons (dp_same k h) (dkr_keep k t)
theorem llr_keep {K : Fg} {S H S' H' : Hp} (k : Same S S') : ∀ {f : List (List D)} {v : List V} {as : List Addr}, LlR K S H f v as → (∀ a ∈ as, H' a = H a) → LlR K S' H' f v as
  | _, _, _, .nil, _ => .nil
  | _, _, _, .cons h r t, q => .cons ((q _ List.mem_cons_self).trans h) (da_same k r) (llr_keep k t fun a ha => q a (List.mem_cons_of_mem _ ha))
theorem llr_owned {K : Fg} {S H : Hp} : ∀ {f : List (List D)} {v : List V} {as : List Addr}, LlR K S H f v as → ∀ a ∈ as, H a ≠ none
  | _, _, _, .nil, a, ha => by cases ha
  | _, _, _, .cons h _ t, a, ha => (List.mem_cons.mp ha).elim (fun e => e ▸ nn_of h) (llr_owned t a)
theorem it_keep {K : Fg} {S H S' H' : Hp} (k : Same S S') : ∀ {it : It} {v : Option V} {as : List Addr}, ItR K S H it v as → (∀ a ∈ as, H' a = H a) → ItR K S' H' it v as
  | _, _, _, .no v, _ => .no v
  | _, _, _, .fz h, _ => .fz (dp_same k h)
  | _, _, _, .ow h a, q => .ow ((q _ (by simp)).trans h) (da_same k a)
  | _, _, _, .dk h a, q => .dk ((q _ (by simp)).trans h) (dkr_keep k a)
  | _, _, _, .ob h a, q => .ob ((q _ (by simp)).trans h) (fsr_keep k a fun b hb => q b (List.mem_cons_of_mem _ hb))
  | _, _, _, .ll h a, q => .ll ((q _ (by simp)).trans h) (llr_keep k a fun b hb => q b (List.mem_cons_of_mem _ hb))
theorem fir_owned {K : Fg} {S H : Hp} : ∀ {f : FI} {v : V} {as : List Addr}, FIR K S H f v as → ∀ a ∈ as, H a ≠ none
  | _, _, _, .fz _, a, ha => by cases ha
  | _, _, _, .ow h _, a, ha => by
    rcases List.mem_singleton.mp ha with rfl
    exact nn_of h
theorem fsr_owned {K : Fg} {S H : Hp} : ∀ {f : List (Str × FI)} {v : List (Str × V)} {as : List Addr}, FsR K S H f v as → ∀ a ∈ as, H a ≠ none
  | _, _, _, .nil, a, ha => by cases ha
  | _, _, _, .cons h t, a, ha => (List.mem_append.mp ha).elim (fir_owned h a) (fsr_owned t a)
theorem it_owned {K : Fg} {S H : Hp} : ∀ {it : It} {v : Option V} {as : List Addr}, ItR K S H it v as → ∀ a ∈ as, H a ≠ none
  | _, _, _, .no _, a, ha => by cases ha
  | _, _, _, .fz _, a, ha => by cases ha
  | _, _, _, .ow h _, a, ha => by
    rcases List.mem_singleton.mp ha with rfl
    exact nn_of h
  | _, _, _, .dk h _, a, ha => by
    rcases List.mem_singleton.mp ha with rfl
    exact nn_of h
  | _, _, _, .ob h t, a, ha => (List.mem_cons.mp ha).elim (fun e => e ▸ nn_of h) (fsr_owned t a)
  | _, _, _, .ll h t, a, ha => (List.mem_cons.mp ha).elim (fun e => e ▸ nn_of h) (llr_owned t a)

/-- the slots σ hold ds, owning A; G: what must stay as it is, S0: what was frozen at the def's entry -/
structure EnvA (K : Fg) (G S0 S H : Hp) (σ : St) (ds : List It) (A : Nat → List Addr) : Prop where
  sh : Same S H
  gh : Same G H
  s0 : Same S0 S
  gs : ∀ a, G a ≠ none → S a = S0 a
  len : σ.length = ds.length
  it : ∀ i it, ds[i]? = some it → ItR K S H it (σ[i]?.join) (A i)
  nd : ∀ i, (A i).Nodup
  dj : ∀ i j a, a ∈ A i → a ∈ A j → i = j
  fr : ∀ i a, a ∈ A i → i < ds.length ∧ S a = none ∧ G a = none
def Env (K : Fg) (G S0 S H : Hp) (σ : St) (ds : List It) : Prop := ∃ A, EnvA K G S0 S H σ ds A

section
variable {K : Fg} {G S0 S H S' H' : Hp} {σ : St} {ds : List It} {A : Nat → List Addr}
theorem EnvA.own (e : EnvA K G S0 S H σ ds A) {i : Nat} {a : Addr} (ha : a ∈ A i) : H a ≠ none := by
  obtain ⟨hi, _⟩ := e.fr i a ha
  exact it_owned (e.it i _ (List.getElem?_eq_getElem hi)) a ha
theorem keep_of (k : Same H H') {a : Addr} (ha : H a ≠ none) : H' a = H a := by
  obtain ⟨o, q⟩ := some_nn ha
  rw [q]; exact k _ _ q
/-- all that stood stands -/
theorem EnvA.grow (e : EnvA K G S0 S H σ ds A) (g : Gr S H S' H') : EnvA K G S0 S' H' σ ds A :=
  ⟨g.sh, e.gh.trans g.h, e.s0.trans g.s, fun a ha => (g.old a (Same.nn e.gh ha)).trans (e.gs a ha), e.len, fun i it hi => it_keep g.s (e.it i it hi) fun a ha => keep_of g.h (e.own ha), e.nd, e.dj,
    fun i a ha => ⟨(e.fr i a ha).1, by rw [g.old a (e.own ha)]; exact (e.fr i a ha).2.1, (e.fr i a ha).2.2⟩⟩
theorem Env.grow (e : Env K G S0 S H σ ds) (g : Gr S H S' H') : Env K G S0 S' H' σ ds := let ⟨A, e⟩ := e; ⟨A, e.grow g⟩
theorem Env.sh (e : Env K G S0 S H σ ds) : Same S H := let ⟨_, e⟩ := e; e.sh
theorem Env.gh (e : Env K G S0 S H σ ds) : Same G H := let ⟨_, e⟩ := e; e.gh
theorem Env.s0 (e : Env K G S0 S H σ ds) : Same S0 S := let ⟨_, e⟩ := e; e.s0
theorem Env.gs (e : Env K G S0 S H σ ds) : ∀ a, G a ≠ none → S a = S0 a := let ⟨_, e⟩ := e; e.gs
theorem Env.len (e : Env K G S0 S H σ ds) : σ.length = ds.length := let ⟨_, e⟩ := e; e.len
theorem Env.gr (e : Env K G S0 S H σ ds) : Gr S H S H := Gr.refl e.sh
theorem join_some {o : Option (Option V)} {v : V} (h : o.join = some v) : o = some (some v) := by
  cases o with
  | none => cases h
  | some o => cases o with
    | none => cases h
    | some w => cases h; rfl
theorem itr_fz {o : Option V} {d : D} {as : List Addr} (q : ItR K S H (.fz d) o as) : ∃ v, o = some v ∧ Rp K S v d := by
  cases q with
  | fz q => exact ⟨_, rfl, q⟩
theorem itr_ow {o : Option V} {xs : List D} {as : List Addr} (q : ItR K S H (.ow xs) o as) : ∃ p vs, o = some (.ref p) ∧ as = [p] ∧ H p = some (.lst vs) ∧ RpA K S vs xs := by
  cases q with
  | ow q q2 => exact ⟨_, _, rfl, rfl, q, q2⟩
theorem itr_dk {o : Option V} {xs : List (Int × D)} {as : List Addr} (q : ItR K S H (.dk xs) o as) : ∃ p vs, o = some (.ref p) ∧ as = [p] ∧ H p = some (.dK vs) ∧ DkR K S xs vs := by
  cases q with
  | dk q q2 => exact ⟨_, _, rfl, rfl, q, q2⟩
theorem itr_ob {o : Option V} {C : Addr} {fs : List (Str × FI)} {as : List Addr} (q : ItR K S H (.ob C fs) o as) : ∃ p dx fv bs, o = some (.ref p) ∧ as = p :: bs ∧ H p = some (.ins C dx fv) ∧ FsR K S H fs fv bs := by
  cases q with
  | ob q q2 => exact ⟨_, _, _, _, rfl, rfl, q, q2⟩
theorem Env.fz (e : Env K G S0 S H σ ds) {i : Nat} {d : D} (h : ds[i]? = some (.fz d)) : ∃ v, σ[i]? = some (some v) ∧ Rp K S v d := by
  obtain ⟨A, e⟩ := e
  obtain ⟨v, hv, r⟩ := itr_fz (e.it i _ h)
  exact ⟨v, join_some hv, r⟩
theorem EnvA.ow (e : EnvA K G S0 S H σ ds A) {i : Nat} {xs : List D} (h : ds[i]? = some (.ow xs)) : ∃ p vs, σ[i]? = some (some (.ref p)) ∧ A i = [p] ∧ H p = some (.lst vs) ∧ S p = none ∧ G p = none ∧ RpA K S vs xs := by
  obtain ⟨p, vs, hv, ha, hp, da⟩ := itr_ow (e.it i _ h)
  obtain ⟨_, z1, z2⟩ := e.fr i p (by rw [ha]; exact List.mem_cons_self)
  exact ⟨p, vs, join_some hv, ha, hp, z1, z2, da⟩
theorem Env.ow (e : Env K G S0 S H σ ds) {i : Nat} {xs : List D} (h : ds[i]? = some (.ow xs)) : ∃ p vs, σ[i]? = some (some (.ref p)) ∧ H p = some (.lst vs) ∧ S p = none ∧ G p = none ∧ RpA K S vs xs := by
  obtain ⟨A, e⟩ := e
  obtain ⟨p, vs, h1, _, h2⟩ := e.ow h
  exact ⟨p, vs, h1, h2⟩
theorem EnvA.dk (e : EnvA K G S0 S H σ ds A) {i : Nat} {xs : List (Int × D)} (h : ds[i]? = some (.dk xs)) : ∃ p vs, σ[i]? = some (some (.ref p)) ∧ A i = [p] ∧ H p = some (.dK vs) ∧ S p = none ∧ G p = none ∧ DkR K S xs vs := by
  obtain ⟨p, vs, hv, ha, hp, da⟩ := itr_dk (e.it i _ h)
  obtain ⟨_, z1, z2⟩ := e.fr i p (by rw [ha]; exact List.mem_cons_self)
  exact ⟨p, vs, join_some hv, ha, hp, z1, z2, da⟩
theorem Env.dk (e : Env K G S0 S H σ ds) {i : Nat} {xs : List (Int × D)} (h : ds[i]? = some (.dk xs)) : ∃ p vs, σ[i]? = some (some (.ref p)) ∧ H p = some (.dK vs) ∧ S p = none ∧ G p = none ∧ DkR K S xs vs := by
  obtain ⟨A, e⟩ := e
  obtain ⟨p, vs, h1, _, h2⟩ := e.dk h
  exact ⟨p, vs, h1, h2⟩

/-- the owned addresses of one slot change -/
def setA (A : Nat → List Addr) (i : Nat) (as : List Addr) : Nat → List Addr := fun j => if j = i then as else A j
theorem setA_same {A : Nat → List Addr} {i : Nat} {as : List Addr} : setA A i as i = as := if_pos rfl
theorem setA_ne {A : Nat → List Addr} {i j : Nat} {as : List Addr} (h : j ≠ i) : setA A i as j = A j := if_neg h
/-- the general store: slot i, and the objects of slot i, may change -/
theorem EnvA.put (e : EnvA K G S0 S H σ ds A) (i : Nat) {it : It} {v : Option V} {as : List Addr} (hS : Same S S') (sh' : Same S' H') (gh' : Same G H') (gs' : ∀ a, G a ≠ none → S' a = S0 a)
    (r : ItR K S' H' it v as) (nd : as.Nodup) (hk : ∀ j a, j ≠ i → a ∈ A j → H' a = H a ∧ S' a = none) (fresh : ∀ a ∈ as, S' a = none ∧ G a = none ∧ ∀ j, j ≠ i → a ∉ A j) :
    EnvA K G S0 S' H' (σ.set i v) (ds.set i it) (setA A i (if i < ds.length then as else [])) := by
  refine ⟨sh', gh', e.s0.trans hS, gs', by simp [e.len], fun j it' hj => ?_, fun j => ?_, fun j k a ha hb => ?_, fun j a ha => ?_⟩
  · by_cases z : j = i
    · subst z
      have hi : j < ds.length := by simpa using (List.getElem?_eq_some_iff.mp hj).1
      rw [setA_same, if_pos hi]
      rw [List.getElem?_set_self hi] at hj
      cases hj
      rw [List.getElem?_set_self (by rw [e.len]; exact hi)]
      exact r
    · rw [setA_ne z]
      rw [List.getElem?_set_ne (Ne.symm z)] at hj ⊢
      exact it_keep hS (e.it j it' hj) fun a ha => (hk j a z ha).1
  · by_cases z : j = i
    · subst z; rw [setA_same]; split
      · exact nd
      · exact .nil
    · rw [setA_ne z]; exact e.nd j
  · by_cases zj : j = i
    · by_cases zk : k = i
      · rw [zj, zk]
      · subst zj
        rw [setA_same] at ha
        rw [setA_ne zk] at hb
        split at ha
        · exact absurd hb ((fresh a ha).2.2 k zk)
        · cases ha
    · by_cases zk : k = i
      · subst zk
        rw [setA_ne zj] at ha
        rw [setA_same] at hb
        split at hb
        · exact absurd ha ((fresh a hb).2.2 j zj)
        · cases hb
      · rw [setA_ne zj] at ha
        rw [setA_ne zk] at hb
        exact e.dj j k a ha hb
  · rw [List.length_set]
    by_cases zj : j = i
    · subst zj
      rw [setA_same] at ha
      split at ha
      · obtain ⟨f1, f2, _⟩ := fresh a ha
        exact ⟨by assumption, f1, f2⟩
      · cases ha
    · rw [setA_ne zj] at ha
      exact ⟨(e.fr j a ha).1, (hk j a zj ha).2, (e.fr j a ha).2.2⟩
theorem Env.put0 (e : Env K G S0 S H σ ds) (i : Nat) {it : It} {v : Option V} (r : ItR K S H it v []) : Env K G S0 S H (σ.set i v) (ds.set i it) :=
  let ⟨_, e⟩ := e; ⟨_, e.put i (Same.refl _) e.sh e.gh e.gs r .nil (fun j a _ ha => ⟨rfl, (e.fr j a ha).2.1⟩) fun a ha => by cases ha⟩
theorem Env.putD (e : Env K G S0 S H σ ds) (i : Nat) {d : D} {v : V} (r : Rp K S v d) : Env K G S0 S H (σ.set i (some v)) (ds.set i (.fz d)) := e.put0 i (.fz r)
theorem Env.put_no (e : Env K G S0 S H σ ds) (i : Nat) (v : Option V) : Env K G S0 S H (σ.set i v) (ds.set i .no) := e.put0 i (.no v)
/-- what is new since an earlier state, at one address -/
theorem Env.put1 (e : Env K G S0 S H σ ds) (g : Gr S H S' H') (i : Nat) {it : It} {p : Addr} (hp : H p = none) (hs : S' p = none) (r : ItR K S' H' it (some (.ref p)) [p]) : Env K G S0 S' H' (σ.set i (some (.ref p))) (ds.set i it) := by
  obtain ⟨A, e⟩ := e
  have e' := e.grow g
  refine ⟨_, e'.put i (Same.refl _) e'.sh e'.gh e'.gs r (by simp) (fun j a _ ha => ⟨rfl, (e'.fr j a ha).2.1⟩) fun a ha => ?_⟩
  rcases List.mem_singleton.mp ha with rfl
  exact ⟨hs, e.gh.free hp, fun j _ hj => e.own hj hp⟩
theorem Env.putL (e : Env K G S0 S H σ ds) (g : Gr S H S' H') (i : Nat) {xs : List D} {p : Addr} {vs : List V} (hp : H p = none) (h : H' p = some (.lst vs)) (hs : S' p = none) (r : RpA K S' vs xs) : Env K G S0 S' H' (σ.set i (some (.ref p))) (ds.set i (.ow xs)) :=
  e.put1 g i hp hs (.ow h r)
theorem set_get {α : Type} {l : List α} {i : Nat} {x : α} (h : l[i]? = some x) : l.set i x = l := by
  apply List.ext_getElem?
  intro j
  rw [List.getElem?_set]
  split
  · rename_i z; subst z
    split
    · exact h.symm
    · rename_i hn
      rw [List.getElem?_eq_none (by omega)]
  · rfl
/-- an owned list is frozen -/
theorem Env.freeze (e : Env K G S0 S H σ ds) {i : Nat} {xs : List D} (h : ds[i]? = some (.ow xs)) : ∃ S', Same S S' ∧ Env K G S0 S' H σ (ds.set i (.fz (.lst xs))) := by
  obtain ⟨A, e⟩ := e
  obtain ⟨p, vs, hv, ha, hp, sp, gp, da⟩ := e.ow h
  have k : Same S (upd S p (.lst vs)) := same_new sp
  have hne : ∀ j a, j ≠ i → a ∈ A j → a ≠ p := fun j a z hj q => z (e.dj j i a hj (by rw [ha, q]; exact List.mem_cons_self))
  have q := e.put (S' := upd S p (.lst vs)) (H' := H) i (it := .fz (.lst xs)) (v := some (.ref p)) k (fun b u q => by
      by_cases z : b = p
      · subst z; rw [upd_same] at q; cases q; exact hp
      · rw [upd_ne z] at q; exact e.sh _ _ q) e.gh (fun a ha => by rw [upd_ne (fun z => ha (by rw [z]; exact gp))]; exact e.gs a ha) (.fz (.lst upd_same (da_same k da))) .nil
    (fun j a z hj => ⟨rfl, by rw [upd_ne (hne j a z hj)]; exact (e.fr j a hj).2.1⟩) fun a ha => by cases ha
  rw [set_get hv] at q
  exact ⟨_, k, _, q⟩
/-- the owned list changes -/
theorem Env.mut (e : Env K G S0 S H σ ds) {i : Nat} {xs ys : List D} {p : Addr} {ws : List V} (h : ds[i]? = some (.ow xs)) (hv : σ[i]? = some (some (.ref p))) (r : RpA K S ws ys) : Env K G S0 S (upd H p (.lst ws)) σ (ds.set i (.ow ys)) := by
  obtain ⟨A, e⟩ := e
  obtain ⟨p', vs, hv', ha, hp, sp, gp, da⟩ := e.ow h
  rw [hv] at hv'; cases hv'
  have hne : ∀ j a, j ≠ i → a ∈ A j → a ≠ p := fun j a z hj q => z (e.dj j i a hj (by rw [ha, q]; exact List.mem_cons_self))
  have q := e.put (S' := S) (H' := upd H p (.lst ws)) i (it := .ow ys) (v := some (.ref p)) (Same.refl _) (fun b u q => by
      rw [upd_ne (fun z => by subst z; rw [sp] at q; cases q)]; exact e.sh _ _ q) (fun b u q => by rw [upd_ne (fun z => by subst z; rw [gp] at q; cases q)]; exact e.gh _ _ q) e.gs (.ow upd_same r) (by simp)
    (fun j a z hj => ⟨upd_ne (hne j a z hj), (e.fr j a hj).2.1⟩) fun a ha' => by
      rcases List.mem_singleton.mp ha' with rfl
      exact ⟨sp, gp, fun j z hj => hne j _ z hj rfl⟩
  rw [set_get hv] at q
  exact ⟨_, q⟩
/-- the owned dict changes -/
theorem Env.mutK (e : Env K G S0 S H σ ds) {i : Nat} {xs ys : List (Int × D)} {p : Addr} {ws : List (Key × V)} (h : ds[i]? = some (.dk xs)) (hv : σ[i]? = some (some (.ref p))) (r : DkR K S ys ws) : Env K G S0 S (upd H p (.dK ws)) σ (ds.set i (.dk ys)) := by
  obtain ⟨A, e⟩ := e
  obtain ⟨p', vs, hv', ha, hp, sp, gp, da⟩ := e.dk h
  rw [hv] at hv'; cases hv'
  have hne : ∀ j a, j ≠ i → a ∈ A j → a ≠ p := fun j a z hj q => z (e.dj j i a hj (by rw [ha, q]; exact List.mem_cons_self))
  have q := e.put (S' := S) (H' := upd H p (.dK ws)) i (it := .dk ys) (v := some (.ref p)) (Same.refl _) (fun b u q => by
      rw [upd_ne (fun z => by subst z; rw [sp] at q; cases q)]; exact e.sh _ _ q) (fun b u q => by rw [upd_ne (fun z => by subst z; rw [gp] at q; cases q)]; exact e.gh _ _ q) e.gs (.dk upd_same r) (by simp)
    (fun j a z hj => ⟨upd_ne (hne j a z hj), (e.fr j a hj).2.1⟩) fun a ha' => by
      rcases List.mem_singleton.mp ha' with rfl
      exact ⟨sp, gp, fun j z hj => hne j _ z hj rfl⟩
  rw [set_get hv] at q
  exact ⟨_, q⟩
end
end Lay
/-! Lay2: what an expression gives. -/
namespace Lay
open PySem L2
section
variable {X : Cx} {e a b c : Expr} {ds : List It} {pos : Pos}
/-! ### the weakest readings -/
def wE (X : Cx) (e : Expr) : TE := fun σ H Q => ∀ pins s, Inv X pins σ H s → wpAny (model X.prog X.w) X.A (eval e X.env) (EP X pins σ Q) X.xe s
theorem pe_w : PE X e (wE X e) := ⟨fun pins s _ _ _ I h => h pins s I⟩
def wT (X : Cx) (e : Expr) : TT := fun σ H Q => ∀ pins s, Inv X pins σ H s → wpAny (model X.prog X.w) X.A (isTrue e X.env (eval e X.env)) (TP X pins σ Q) X.xe s
theorem pt_w : PT X e (wT X e) := ⟨fun pins s _ _ _ I h => h pins s I⟩
def wW (X : Cx) (e : Expr) : TT := fun σ H Q => ∀ whole pins s, Inv X pins σ H s → wpAny (model X.prog X.w) X.A (isTrue e X.env whole) (TP X pins σ Q) X.xe s
theorem pw_w : PW X e (wW X e) := ⟨fun whole pins s _ _ _ I h => h whole pins s I⟩
def wA (X : Cx) (es : List Expr) : TA := fun σ H Q => ∀ pos pins s, Inv X pins σ H s → wpAny (model X.prog X.w) X.A (spliced (backTo pos (starEach es X.env))) (AP X pins σ Q) X.xe s
theorem pa_w {es : List Expr} : PA X es (wA X es) := ⟨fun pos pins s _ _ _ I h => h pos pins s I⟩

/-- to be read: frozen, or a list of the frame's own -/
def Rb (K : Fg) (S H : Hp) (v : V) (d : D) : Prop := Rp K S v d ∨ ∃ p vs xs, v = .ref p ∧ d = .lst xs ∧ H p = some (.lst vs) ∧ RpA K S vs xs
theorem Rb.gr {K : Fg} {S H S' H' : Hp} {v : V} {d : D} (h : Rb K S H v d) (g : Gr S H S' H') : Rb K S' H' v d := by
  rcases h with h | ⟨p, vs, xs, rfl, rfl, h, r⟩
  · exact .inl (dp_same g.s h)
  · exact .inr ⟨p, vs, xs, rfl, rfl, g.h _ _ h, da_same g.s r⟩
theorem Rb.int {K : Fg} {S H : Hp} {v : V} {i : Int} (h : Rb K S H v (.int i)) : v = .int i := by
  rcases h with h | ⟨p, vs, xs, rfl, z, _⟩
  · cases h; rfl
  · cases z
theorem Rb.bl {K : Fg} {S H : Hp} {v : V} {i : Bool} (h : Rb K S H v (.bl i)) : v = .bl i := by
  rcases h with h | ⟨p, vs, xs, rfl, z, _⟩
  · cases h; rfl
  · cases z
theorem Rb.str {K : Fg} {S H : Hp} {v : V} {i : Str} (h : Rb K S H v (.str i)) : v = .str i := by
  rcases h with h | ⟨p, vs, xs, rfl, z, _⟩
  · cases h; rfl
  · cases z
theorem Rb.non {K : Fg} {S H : Hp} {v : V} (h : Rb K S H v .non) : v = .non := by
  rcases h with h | ⟨p, vs, xs, rfl, z, _⟩
  · cases h; rfl
  · cases z
theorem Rb.lst {K : Fg} {S H : Hp} {v : V} {xs : List D} (h : Rb K S H v (.lst xs)) (k : Same S H) : ∃ p vs, v = .ref p ∧ H p = some (.lst vs) ∧ RpA K S vs xs := by
  rcases h with h | ⟨p, vs, xs, rfl, z, h1, h2⟩
  · cases h with
    | lst h a => exact ⟨_, _, rfl, k _ _ h, a⟩
  · cases z; exact ⟨p, vs, rfl, h1, h2⟩
theorem Rb.tup {K : Fg} {S H : Hp} {v : V} {xs : List D} (h : Rb K S H v (.tup xs)) : ∃ p vs, v = .ref p ∧ S p = some (.tup vs) ∧ RpA K S vs xs := by
  rcases h with h | ⟨p, vs, xs, rfl, z, _⟩
  · cases h with
    | tup h a => exact ⟨_, _, rfl, h, a⟩
  · cases z
theorem Rb.scr {K : Fg} {S H : Hp} {v : V} {ns : List Int} (h : Rb K S H v (.scr ns)) (k : Same S H) : ∃ p, v = .ref p ∧ SqL K H p (ns.map V.int) := by
  rcases h with h | ⟨p, vs, xs, rfl, z, _⟩
  · cases h with
    | scr h => exact ⟨_, rfl, same_l k h⟩
  · cases z
theorem sq_of {K : Fg} {H : Hp} {p : Addr} {vs : List V} (h : H p = some (.lst vs)) : SqL K H p vs := .inl (.inl h)
theorem st_of {K : Fg} {H : Hp} {p : Addr} {vs : List V} (h : H p = some (.tup vs)) : SqT K H p vs := .inl (.inl h)

/-! ### the judgements -/
/-- gives the data d, which stays as it is -/
structure XV (X : Cx) (e : Expr) (ds : List It) (d : D) : Prop where
  mk ::
  run : ∀ G S0 S H σ, Env X.K G S0 S H σ ds → ∀ Q : VK, (∀ v S' H', Gr S H S' H' → Rp X.K S' v d → Q v H') → wE X e σ H Q
instance {X : Cx} {e : Expr} {ds : List It} {d : D} : CoeFun (XV X e ds d) (fun _ => ∀ G S0 S H σ, Env X.K G S0 S H σ ds → ∀ Q : VK, (∀ v S' H', Gr S H S' H' → Rp X.K S' v d → Q v H') → wE X e σ H Q) := ⟨XV.run⟩
/-- gives d, to be read at once -/
structure XB (X : Cx) (e : Expr) (ds : List It) (d : D) : Prop where
  mk ::
  run : ∀ G S0 S H σ, Env X.K G S0 S H σ ds → ∀ Q : VK, (∀ v S' H', Gr S H S' H' → Rb X.K S' H' v d → Q v H') → wE X e σ H Q
instance {X : Cx} {e : Expr} {ds : List It} {d : D} : CoeFun (XB X e ds d) (fun _ => ∀ G S0 S H σ, Env X.K G S0 S H σ ds → ∀ Q : VK, (∀ v S' H', Gr S H S' H' → Rb X.K S' H' v d → Q v H') → wE X e σ H Q) := ⟨XB.run⟩
/-- gives a new list -/
structure XL (X : Cx) (e : Expr) (ds : List It) (xs : List D) : Prop where
  mk ::
  run : ∀ G S0 S H σ, Env X.K G S0 S H σ ds → ∀ Q : VK, (∀ p vs S' H', Gr S H S' H' → H p = none → S' p = none → H' p = some (.lst vs) → RpA X.K S' vs xs → Q (.ref p) H') → wE X e σ H Q
instance {X : Cx} {e : Expr} {ds : List It} {xs : List D} : CoeFun (XL X e ds xs) (fun _ => ∀ G S0 S H σ, Env X.K G S0 S H σ ds → ∀ Q : VK, (∀ p vs S' H', Gr S H S' H' → H p = none → S' p = none → H' p = some (.lst vs) → RpA X.K S' vs xs → Q (.ref p) H') → wE X e σ H Q) := ⟨XL.run⟩
/-- raises an exception of the class at c -/
structure XR (X : Cx) (W : WX) (e : Expr) (ds : List It) (c : Addr) : Prop where
  mk ::
  run : ∀ G S0 S H σ, Env X.K G S0 S H σ ds → (∀ S' H', Gr S H S' H' → W (.ref c) none σ H') → ∀ Q, wE X e σ H Q
instance {X : Cx} {W : WX} {e : Expr} {ds : List It} {c : Addr} : CoeFun (XR X W e ds c) (fun _ => ∀ G S0 S H σ, Env X.K G S0 S H σ ds → (∀ S' H', Gr S H S' H' → W (.ref c) none σ H') → ∀ Q, wE X e σ H Q) := ⟨XR.run⟩
structure XT (X : Cx) (e : Expr) (ds : List It) (k : Bool) : Prop where
  mk ::
  run : ∀ G S0 S H σ, Env X.K G S0 S H σ ds → ∀ Q : Bool → Hp → Prop, (∀ S' H', Gr S H S' H' → Q k H') → wT X e σ H Q
instance {X : Cx} {e : Expr} {ds : List It} {k : Bool} : CoeFun (XT X e ds k) (fun _ => ∀ G S0 S H σ, Env X.K G S0 S H σ ds → ∀ Q : Bool → Hp → Prop, (∀ S' H', Gr S H S' H' → Q k H') → wT X e σ H Q) := ⟨XT.run⟩
structure XW (X : Cx) (e : Expr) (ds : List It) (k : Bool) : Prop where
  mk ::
  run : ∀ G S0 S H σ, Env X.K G S0 S H σ ds → ∀ Q : Bool → Hp → Prop, (∀ S' H', Gr S H S' H' → Q k H') → wW X e σ H Q
instance {X : Cx} {e : Expr} {ds : List It} {k : Bool} : CoeFun (XW X e ds k) (fun _ => ∀ G S0 S H σ, Env X.K G S0 S H σ ds → ∀ Q : Bool → Hp → Prop, (∀ S' H', Gr S H S' H' → Q k H') → wW X e σ H Q) := ⟨XW.run⟩
structure XA (X : Cx) (es : List Expr) (ds : List It) (ys : List D) : Prop where
  mk ::
  run : ∀ G S0 S H σ, Env X.K G S0 S H σ ds → ∀ Q : List V → Hp → Prop, (∀ vs S' H', Gr S H S' H' → RpA X.K S' vs ys → Q vs H') → wA X es σ H Q
instance {X : Cx} {es : List Expr} {ds : List It} {ys : List D} : CoeFun (XA X es ds ys) (fun _ => ∀ G S0 S H σ, Env X.K G S0 S H σ ds → ∀ Q : List V → Hp → Prop, (∀ vs S' H', Gr S H S' H' → RpA X.K S' vs ys → Q vs H') → wA X es σ H Q) := ⟨XA.run⟩
/-- arguments that are read at once -/
inductive RbA (K : Fg) (S H : Hp) : List V → List D → Prop where
  | nil : RbA K S H [] []
  | cons {v : V} {d : D} {vs : List V} {ds : List D} : Rb K S H v d → RbA K S H vs ds → RbA K S H (v :: vs) (d :: ds)
theorem RbA.gr {K : Fg} {S H S' H' : Hp} (g : Gr S H S' H') : ∀ {vs : List V} {ds : List D}, RbA K S H vs ds → RbA K S' H' vs ds
  | _, _, .nil => .nil
  | _, _, .cons h t => .cons (h.gr g) (t.gr g)
structure XAB (X : Cx) (es : List Expr) (ds : List It) (ys : List D) : Prop where
  mk ::
  run : ∀ G S0 S H σ, Env X.K G S0 S H σ ds → ∀ Q : List V → Hp → Prop, (∀ vs S' H', Gr S H S' H' → RbA X.K S' H' vs ys → Q vs H') → wA X es σ H Q
instance {X : Cx} {es : List Expr} {ds : List It} {ys : List D} : CoeFun (XAB X es ds ys) (fun _ => ∀ G S0 S H σ, Env X.K G S0 S H σ ds → ∀ Q : List V → Hp → Prop, (∀ vs S' H', Gr S H S' H' → RbA X.K S' H' vs ys → Q vs H') → wA X es σ H Q) := ⟨XAB.run⟩

theorem XV.br {d : D} (h : XV X e ds d) : XB X e ds d := .mk fun G S0 S H σ E Q q => h G S0 S H σ E Q fun v S' H' g r => q v S' H' g (.inl r)
theorem XL.br {xs : List D} (h : XL X e ds xs) : XB X e ds (.lst xs) := .mk fun G S0 S H σ E Q q => h G S0 S H σ E Q fun p vs S' H' g _ _ r a => q _ S' H' g (.inr ⟨p, vs, xs, rfl, rfl, r, a⟩)
theorem XL.v {xs : List D} (h : XL X e ds xs) : XV X e ds (.lst xs) := .mk fun G S0 S H σ E Q q => h G S0 S H σ E Q fun p vs S' H' g hp sp r a =>
  q _ _ H' (g.freeze hp r sp) (.lst upd_same (da_same (same_new sp) a))

theorem we_of {te : TE} (h : PE X e te) {σ : St} {H : Hp} {Q : VK} (q : te σ H Q) : wE X e σ H Q := fun pins s I => h.run pins s σ H Q I q
theorem wt_of {te : TT} (h : PT X e te) {σ : St} {H : Hp} {Q : Bool → Hp → Prop} (q : te σ H Q) : wT X e σ H Q := fun pins s I => h.run pins s σ H Q I q
theorem ww_of {te : TT} (h : PW X e te) {σ : St} {H : Hp} {Q : Bool → Hp → Prop} (q : te σ H Q) : wW X e σ H Q := fun whole pins s I => h.run whole pins s σ H Q I q
theorem wa_of {es : List Expr} {te : TA} (h : PA X es te) {σ : St} {H : Hp} {Q : List V → Hp → Prop} (q : te σ H Q) : wA X es σ H Q := fun pos pins s I => h.run pos pins s σ H Q I q

/-! ### names and constants -/
theorem xv_var (i : Nat) {x : Str} {d : D} (hd : ds[i]? = some (.fz d) := by rfl) (hN : X.N[i]? = some x := by rfl) (hv : Vis X.env.scope x := by first | exact Or.inl rfl | exact Or.inr (Or.inl rfl) | exact Or.inr (Or.inr rfl)) (h1 : (x == ("__debug__" : Str)) = false := by decide)
    (h2 : (x == ("__classdict__" : Str)) = false := by decide) : XV X (.Name x pos) ds d := .mk fun G S0 S H σ E Q q => by
  obtain ⟨v, hv', r⟩ := E.fz hd
  exact we_of (pe_var (i := i) hN hv h1 h2) ⟨v, hv', q v S H E.gr r⟩
theorem xb_own (i : Nat) {x : Str} {xs : List D} (hd : ds[i]? = some (.ow xs) := by rfl) (hN : X.N[i]? = some x := by rfl) (hv : Vis X.env.scope x := by first | exact Or.inl rfl | exact Or.inr (Or.inl rfl) | exact Or.inr (Or.inr rfl)) (h1 : (x == ("__debug__" : Str)) = false := by decide)
    (h2 : (x == ("__classdict__" : Str)) = false := by decide) : XB X (.Name x pos) ds (.lst xs) := .mk fun G S0 S H σ E Q q => by
  obtain ⟨p, vs, hv', hp, _, _, r⟩ := E.ow hd
  exact we_of (pe_var (i := i) hN hv h1 h2) ⟨.ref p, hv', q _ S H E.gr (.inr ⟨p, vs, xs, rfl, rfl, hp, r⟩)⟩
theorem xv_int {i : Int} {j} : XV X (.Constant (.int i) j pos) ds (.int i) := .mk fun G S0 S H σ E Q q => we_of pe_int (q _ S H E.gr (.int i))
theorem xv_bl {k : Bool} {j} : XV X (.Constant (.bool k) j pos) ds (.bl k) := .mk fun G S0 S H σ E Q q => we_of pe_bl (q _ S H E.gr (.bl k))
theorem xv_non {j} : XV X (.Constant .none j pos) ds .non := .mk fun G S0 S H σ E Q q => we_of pe_non (q _ S H E.gr .non)
theorem xv_str {x : Str} {j} : XV X (.Constant (.str x) j pos) ds (.str x) := .mk fun G S0 S H σ E Q q => we_of pe_str (q _ S H E.gr (.str x))
/-- a module's whole number -/
theorem xv_glob {x : Str} {i : Int} (hm : ∃ t, X.mg x = some (.int i t)) (hg : Gl X x := by rfl) (hd : (x == ("__debug__" : Str)) = false := by decide) : XV X (.Name x pos) ds (.int i) := .mk fun G S0 S H σ E Q q => by
  obtain ⟨t, hm⟩ := hm
  exact we_of (pe_glob (v := .int i) hg hm ⟨t, rfl⟩ hd) (q _ S H E.gr (.int i))

/-! ### two operands -/
theorem two {A B : D} (ha : XB X a ds A) (hb : XB X b ds B) {G S0 S H : Hp} {σ : St} (E : Env X.K G S0 S H σ ds) {R : V → V → Hp → Prop}
    (q : ∀ x y S' H', Gr S H S' H' → Rb X.K S' H' x A → Rb X.K S' H' y B → R x y H') : wE X a σ H fun x H1 => wE X b σ H1 fun y H2 => R x y H2 :=
  ha G S0 S H σ E _ fun x S1 H1 g1 r1 => hb G S0 S1 H1 σ (E.grow g1) _ fun y S2 H2 g2 r2 => q x y S2 H2 (g1.trans g2) (r1.gr g2) r2
theorem xv_bin {op : Operator} {r : R2} {A B d : D} (ho : OpR X (binaryOp op) r) (ha : XB X a ds A) (hb : XB X b ds B)
    (hr : ∀ (S H : Hp) x y (Q : VK), Same S H → Rb X.K S H x A → Rb X.K S H y B → (∀ v S' H', Gr S H S' H' → Rp X.K S' v d → Q v H') → r x y H Q) : XV X (.BinOp a op b pos) ds d := .mk fun G S0 S H σ E Q q =>
  we_of (pe_op ho pe_w pe_w) (two ha hb E fun x y S' H' g r1 r2 => hr S' H' x y Q g.sh r1 r2 fun v S2 H2 g2 r => q v S2 H2 (g.trans g2) r)
theorem xl_bin {op : Operator} {r : R2} {A B : D} {xs : List D} (ho : OpR X (binaryOp op) r) (ha : XB X a ds A) (hb : XB X b ds B)
    (hr : ∀ (S H : Hp) x y (Q : VK), Same S H → Rb X.K S H x A → Rb X.K S H y B → (∀ p vs S' H', Gr S H S' H' → H p = none → S' p = none → H' p = some (.lst vs) → RpA X.K S' vs xs → Q (.ref p) H') → r x y H Q) : XL X (.BinOp a op b pos) ds xs := .mk fun G S0 S H σ E Q q =>
  we_of (pe_op ho pe_w pe_w) (two ha hb E fun x y S' H' g r1 r2 => hr S' H' x y Q g.sh r1 r2 fun p vs S2 H2 g2 h1 h2 h3 h4 => q p vs S2 H2 (g.trans g2) (g.h.free h1) h2 h3 h4)
theorem xv_cmp {op : CmpOp} {r : R2} {A B : D} {k : Bool} (ho : OpR X (compareOp op) r) (ha : XB X a ds A) (hb : XB X b ds B) (hm : behindInMarks op b = false)
    (hr : ∀ (S H : Hp) x y (Q : VK), Same S H → Rb X.K S H x A → Rb X.K S H y B → Q (.bl k) H → r x y H Q) : XV X (.Compare a [op] [b] pos) ds (.bl k) := .mk fun G S0 S H σ E Q q =>
  we_of (pe_cmpR ho pe_w pe_w hm) (two ha hb E fun x y S' H' g r1 r2 => hr S' H' x y Q g.sh r1 r2 (q _ S' H' g (.bl k)))
theorem xt_cmp {op : CmpOp} {r : R2} {A B : D} {k : Bool} (ho : OpR X (compareOp op) r) (ha : XB X a ds A) (hb : XB X b ds B) (hm : behindInMarks op b = false)
    (hr : ∀ (S H : Hp) x y (Q : VK), Same S H → Rb X.K S H x A → Rb X.K S H y B → Q (.bl k) H → r x y H Q) : XT X (.Compare a [op] [b] pos) ds k := .mk fun G S0 S H σ E Q q =>
  wt_of (pt_cmpR ho pe_w pe_w hm) (two ha hb E fun x y S' H' g r1 r2 => hr S' H' x y _ g.sh r1 r2 ⟨k, rfl, q S' H' g⟩)

/-! ### arithmetic -/
theorem same_gr {S H : Hp} (h : Same S H) : Gr S H S H := Gr.refl h
variable {i j : Int}
theorem xv_add (ha : XB X a ds (.int i)) (hb : XB X b ds (.int j)) : XV X (.BinOp a .Add b pos) ds (.int (i + j)) :=
  xv_bin op_add ha hb fun S H x y Q k r1 r2 q => ⟨i, j, r1.int, r2.int, q _ S H (.refl k) (.int _)⟩
theorem xv_sub (ha : XB X a ds (.int i)) (hb : XB X b ds (.int j)) : XV X (.BinOp a .Sub b pos) ds (.int (i - j)) :=
  xv_bin op_sub ha hb fun S H x y Q k r1 r2 q => ⟨i, j, r1.int, r2.int, q _ S H (.refl k) (.int _)⟩
theorem xv_mul (ha : XB X a ds (.int i)) (hb : XB X b ds (.int j)) (hc : CMul i j) : XV X (.BinOp a .Mult b pos) ds (.int (i * j)) :=
  xv_bin op_mul ha hb fun S H x y Q k r1 r2 q => ⟨i, j, r1.int, r2.int, hc, q _ S H (.refl k) (.int _)⟩
/-- a positive divisor -/
theorem xv_mod (ha : XB X a ds (.int i)) (hb : XB X b ds (.int j)) (hc : 0 < j) : XV X (.BinOp a .Mod b pos) ds (.int (i % j)) :=
  xv_bin op_mod ha hb fun S H x y Q k r1 r2 q => ⟨i, j, r1.int, r2.int, hc, q _ S H (.refl k) (.int _)⟩
theorem xv_div (ha : XB X a ds (.int i)) (hb : XB X b ds (.int j)) (hc : CDiv i j) : XV X (.BinOp a .FloorDiv b pos) ds (.int (i / j)) :=
  xv_bin op_fdiv ha hb fun S H x y Q k r1 r2 q => ⟨i, j, r1.int, r2.int, hc, q _ S H (.refl k) (.int _)⟩
theorem xv_neg (ha : XB X a ds (.int i)) : XV X (.UnaryOp .USub a pos) ds (.int (-i)) := .mk fun G S0 S H σ E Q q =>
  we_of (pe_un un_neg pe_w) (ha G S0 S H σ E _ fun x S' H' g r => ⟨i, r.int, q _ S' H' g (.int _)⟩)

/-! ### lists and tuples by operators -/
theorem sz (n : Nat) (h : n ≤ 100000) : n ≤ sizeLine := Nat.le_trans h (by decide)
theorem szlt (n : Nat) (h : n < 100000) : n < sizeLine := Nat.lt_of_lt_of_le h (by decide)
theorem xl_cat {xs ys : List D} (ha : XB X a ds (.lst xs)) (hb : XB X b ds (.lst ys)) (hz : xs.length + ys.length ≤ 100000) : XL X (.BinOp a .Add b pos) ds (xs ++ ys) :=
  xl_bin op_cat ha hb fun S H x y Q k r1 r2 q => by
    obtain ⟨p, vs, rfl, hp, ra⟩ := r1.lst k
    obtain ⟨p', vs', rfl, hp', rb⟩ := r2.lst k
    exact ⟨p, p', vs, vs', rfl, rfl, hp, hp', sz _ (by rw [da_len ra, da_len rb]; exact hz), fun n hn => q n (vs ++ vs') S _ (Gr.newH k hn) hn (k.free hn) upd_same (da_append ra rb)⟩
theorem da_rep {K : Fg} {S : Hp} {vs : List V} {xs : List D} (r : RpA K S vs xs) : ∀ n : Nat, RpA K S (List.replicate n vs).flatten (List.replicate n xs).flatten
  | 0 => .nil
  | n + 1 => by rw [List.replicate_succ, List.replicate_succ, List.flatten_cons, List.flatten_cons]; exact da_append r (da_rep r n)

/-! ### comparisons of whole numbers -/
theorem xv_lt (ha : XB X a ds (.int i)) (hb : XB X b ds (.int j)) : XV X (.Compare a [.Lt] [b] pos) ds (.bl (decide (i < j))) := xv_cmp op_lt ha hb (nomark _) fun S H x y Q k r1 r2 q => ⟨i, j, r1.int, r2.int, q⟩
theorem xv_le (ha : XB X a ds (.int i)) (hb : XB X b ds (.int j)) : XV X (.Compare a [.LtE] [b] pos) ds (.bl (decide (i ≤ j))) := xv_cmp op_le ha hb (nomark _) fun S H x y Q k r1 r2 q => ⟨i, j, r1.int, r2.int, q⟩
theorem xv_gt (ha : XB X a ds (.int i)) (hb : XB X b ds (.int j)) : XV X (.Compare a [.Gt] [b] pos) ds (.bl (decide (j < i))) := xv_cmp op_gt ha hb (nomark _) fun S H x y Q k r1 r2 q => ⟨i, j, r1.int, r2.int, q⟩
theorem xv_ge (ha : XB X a ds (.int i)) (hb : XB X b ds (.int j)) : XV X (.Compare a [.GtE] [b] pos) ds (.bl (decide (j ≤ i))) := xv_cmp op_ge ha hb (nomark _) fun S H x y Q k r1 r2 q => ⟨i, j, r1.int, r2.int, q⟩
theorem xt_lt (ha : XB X a ds (.int i)) (hb : XB X b ds (.int j)) : XT X (.Compare a [.Lt] [b] pos) ds (decide (i < j)) := xt_cmp op_lt ha hb (nomark _) fun S H x y Q k r1 r2 q => ⟨i, j, r1.int, r2.int, q⟩
theorem xt_le (ha : XB X a ds (.int i)) (hb : XB X b ds (.int j)) : XT X (.Compare a [.LtE] [b] pos) ds (decide (i ≤ j)) := xt_cmp op_le ha hb (nomark _) fun S H x y Q k r1 r2 q => ⟨i, j, r1.int, r2.int, q⟩
theorem xt_gt (ha : XB X a ds (.int i)) (hb : XB X b ds (.int j)) : XT X (.Compare a [.Gt] [b] pos) ds (decide (j < i)) := xt_cmp op_gt ha hb (nomark _) fun S H x y Q k r1 r2 q => ⟨i, j, r1.int, r2.int, q⟩
theorem xt_ge (ha : XB X a ds (.int i)) (hb : XB X b ds (.int j)) : XT X (.Compare a [.GtE] [b] pos) ds (decide (j ≤ i)) := xt_cmp op_ge ha hb (nomark _) fun S H x y Q k r1 r2 q => ⟨i, j, r1.int, r2.int, q⟩
/-- a chain of two -/
def cmpI : CmpOp → Int → Int → Bool
  | .Lt, i, j => decide (i < j)
  | .LtE, i, j => decide (i ≤ j)
  | .Gt, i, j => decide (j < i)
  | .GtE, i, j => decide (j ≤ i)
  | _, _, _ => false
def ordOp : CmpOp → Bool
  | .Lt => true
  | .LtE => true
  | .Gt => true
  | .GtE => true
  | _ => false
theorem op_ord {op : CmpOp} (h : ordOp op = true) : OpR X (compareOp op) (rI0 fun i j => .bl (cmpI op i j)) := by
  cases op <;> first | exact op_lt | exact op_le | exact op_gt | exact op_ge | cases h
theorem chain {l : Int} {op op' : CmpOp} (ha : XB X a ds (.int i)) (hb : XB X b ds (.int j)) (hc : XB X c ds (.int l)) {G S0 S H : Hp} {σ : St} (E : Env X.K G S0 S H σ ds) {Q : VK}
    (q : ∀ S' H', Gr S H S' H' → Q (.bl (cmpI op i j && cmpI op' j l)) H') : tChain (rI0 fun i j => .bl (cmpI op i j)) (rI0 fun i j => .bl (cmpI op' i j)) (wE X a) (wE X b) (wE X c) σ H Q :=
  two ha hb E fun x y S' H' g r1 r2 => ⟨i, j, r1.int, r2.int, cmpI op i j, rfl, by
    cases e : cmpI op i j with
    | false =>
      rw [if_neg Bool.false_ne_true]
      rw [e] at q
      exact q S' H' g
    | true =>
      rw [if_pos rfl]
      rw [e] at q
      exact hc G S0 S' H' σ (E.grow g) _ fun z S2 H2 g2 r3 => ⟨j, l, r2.int, r3.int, q S2 H2 (g.trans g2)⟩⟩
theorem xv_chain {l : Int} {op op' : CmpOp} (ha : XB X a ds (.int i)) (hb : XB X b ds (.int j)) (hc : XB X c ds (.int l)) (h1 : ordOp op = true := by rfl) (h2 : ordOp op' = true := by rfl) (hm : lastMarks [op, op'] [b, c] = false := by with_unfolding_all rfl) :
    XV X (.Compare a [op, op'] [b, c] pos) ds (.bl (cmpI op i j && cmpI op' j l)) := .mk fun G S0 S H σ E Q q =>
  we_of (pe_chain (op_ord h1) (op_ord h2) pe_w pe_w pe_w hm) (chain ha hb hc E fun S' H' g => q _ S' H' g (.bl _))
theorem xt_chain {l : Int} {op op' : CmpOp} (ha : XB X a ds (.int i)) (hb : XB X b ds (.int j)) (hc : XB X c ds (.int l)) (h1 : ordOp op = true := by rfl) (h2 : ordOp op' = true := by rfl) (hm : lastMarks [op, op'] [b, c] = false := by with_unfolding_all rfl) :
    XT X (.Compare a [op, op'] [b, c] pos) ds (cmpI op i j && cmpI op' j l) := .mk fun G S0 S H σ E Q q =>
  wt_of (pt_chain (op_ord h1) (op_ord h2) pe_w pe_w pe_w hm) (chain ha hb hc E fun S' H' g => ⟨_, rfl, q S' H' g⟩)

/-! ### tests -/
theorem xt_val {k : Bool} (h : XV X e ds (.bl k)) (he : ∀ whole, isTrue e X.env whole = (do let v ← whole; standAt e.pos; holding [v] (truthy v)) := by intro _; rfl) : XT X e ds k := .mk fun G S0 S H σ E Q q =>
  wt_of (pt_val pe_w he) (h G S0 S H σ E _ fun v S' H' g r => by cases r; exact ⟨k, rfl, q S' H' g⟩)
/-- the truth of data -/
def truD : D → Option Bool
  | .non => some false
  | .bl b => some b
  | .int i => some (i != 0)
  | .lst xs => some (!xs.isEmpty)
  | .tup xs => some (!xs.isEmpty)
  | .scr xs => some (!xs.isEmpty)
  | _ => none
theorem da_empty {K : Fg} {S : Hp} {vs : List V} {xs : List D} (h : RpA K S vs xs) : vs.isEmpty = xs.isEmpty := by cases h <;> rfl
theorem xt_truth {A : D} {k : Bool} (h : XB X e ds A) (hk : truD A = some k := by rfl) (he : ∀ whole, isTrue e X.env whole = (do let v ← whole; standAt e.pos; holding [v] (truthy v)) := by intro _; rfl) : XT X e ds k := .mk fun G S0 S H σ E Q q =>
  wt_of (pt_truth pe_w he) (h G S0 S H σ E _ fun v S' H' g r => by
    refine ⟨k, ?_, q S' H' g⟩
    cases A with
    | non => cases hk; rw [r.non]; rfl
    | bl b => cases hk; rw [r.bl]; rfl
    | int b => cases hk; rw [r.int]; rfl
    | str b => cases hk
    | exc b => cases hk
    | ins b => cases hk
    | lst xs =>
      obtain ⟨p, vs, rfl, hp, ra⟩ := r.lst g.sh
      cases hk
      exact .inl ⟨vs, sq_of hp, by rw [da_empty ra]⟩
    | tup xs =>
      obtain ⟨p, vs, rfl, hp, ra⟩ := r.tup
      cases hk
      exact .inr (.inl ⟨vs, st_of (g.sh _ _ hp), by rw [da_empty ra]⟩)
    | scr xs =>
      obtain ⟨p, rfl, hp⟩ := r.scr g.sh
      cases hk
      exact .inl ⟨_, hp, by cases xs <;> rfl⟩)
theorem XW.t {k : Bool} (h : XW X e ds k) : XT X e ds k := .mk fun G S0 S H σ E Q q => wt_of pw_w.pt (h G S0 S H σ E Q q)
section
variable {rest : List Expr} {k l : Bool}
theorem xw_and1 {op} (h : XT X a ds k) (ho : op = .And ∨ op = .Or := by first | exact Or.inl rfl | exact Or.inr rfl) : XW X (.BoolOp op [a] pos) ds k := .mk fun G S0 S H σ E Q q => by
  rcases ho with rfl | rfl
  · exact ww_of (pw_and1 pt_w) (h G S0 S H σ E Q q)
  · exact ww_of (pw_or1 pt_w) (h G S0 S H σ E Q q)
/-- the right part is asked only if the left is true -/
theorem xw_and (ha : XT X a ds k) (hb : k = true → XW X (.BoolOp .And (b :: rest) pos) ds l) : XW X (.BoolOp .And (a :: b :: rest) pos) ds (k && l) := .mk fun G S0 S H σ E Q q =>
  ww_of (pw_and pt_w pw_w) (ha G S0 S H σ E _ fun S' H' g => by
    cases k with
    | false => rw [if_neg Bool.false_ne_true]; exact q S' H' g
    | true => rw [if_pos rfl]; exact hb rfl G S0 S' H' σ (E.grow g) _ fun S2 H2 g2 => q S2 H2 (g.trans g2))
theorem xw_or (ha : XT X a ds k) (hb : k = false → XW X (.BoolOp .Or (b :: rest) pos) ds l) : XW X (.BoolOp .Or (a :: b :: rest) pos) ds (k || l) := .mk fun G S0 S H σ E Q q =>
  ww_of (pw_or pt_w pw_w) (ha G S0 S H σ E _ fun S' H' g => by
    cases k with
    | true => rw [if_pos rfl]; exact q S' H' g
    | false => rw [if_neg Bool.false_ne_true]; exact hb rfl G S0 S' H' σ (E.grow g) _ fun S2 H2 g2 => q S2 H2 (g.trans g2))
theorem xt_not (h : XT X a ds k) : XT X (.UnaryOp .Not a pos) ds (!k) := .mk fun G S0 S H σ E Q q => wt_of (pt_not pt_w) (h G S0 S H σ E _ q)
theorem xv_not (h : XV X a ds (.bl k)) : XV X (.UnaryOp .Not a pos) ds (.bl (!k)) := .mk fun G S0 S H σ E Q q => we_of (pe_not pe_w) (h G S0 S H σ E _ fun v S' H' g r => by cases r; exact ⟨k, rfl, q _ S' H' g (.bl _)⟩)
theorem xv_one {op} {d : D} (h : XV X a ds d) : XV X (.BoolOp op [a] pos) ds d := .mk fun G S0 S H σ E Q q => we_of (pe_one pe_w) (h G S0 S H σ E _ q)
theorem xv_and (ha : XV X a ds (.bl k)) (hb : k = true → XV X (.BoolOp .And (b :: rest) pos) ds (.bl l)) : XV X (.BoolOp .And (a :: b :: rest) pos) ds (.bl (k && l)) := .mk fun G S0 S H σ E Q q =>
  we_of (pe_and pe_w pe_w) (ha G S0 S H σ E _ fun v S' H' g r => by
    cases r
    refine ⟨k, rfl, ?_⟩
    cases k with
    | false => rw [if_neg Bool.false_ne_true]; exact q _ S' H' g (.bl _)
    | true => rw [if_pos rfl]; exact hb rfl G S0 S' H' σ (E.grow g) _ fun v S2 H2 g2 r => q v S2 H2 (g.trans g2) r)
theorem xv_or (ha : XV X a ds (.bl k)) (hb : k = false → XV X (.BoolOp .Or (b :: rest) pos) ds (.bl l)) : XV X (.BoolOp .Or (a :: b :: rest) pos) ds (.bl (k || l)) := .mk fun G S0 S H σ E Q q =>
  we_of (pe_or pe_w pe_w) (ha G S0 S H σ E _ fun v S' H' g r => by
    cases r
    refine ⟨k, rfl, ?_⟩
    cases k with
    | true => rw [if_pos rfl]; exact q _ S' H' g (.bl _)
    | false => rw [if_neg Bool.false_ne_true]; exact hb rfl G S0 S' H' σ (E.grow g) _ fun v S2 H2 g2 r => q v S2 H2 (g.trans g2) r)
theorem xv_if {d : D} (hc : XT X c ds k) (ha : k = true → XV X a ds d) (hb : k = false → XV X b ds d) : XV X (.IfExp c a b pos) ds d := .mk fun G S0 S H σ E Q q =>
  we_of (pe_ifExp pt_w pe_w pe_w) (hc G S0 S H σ E _ fun S' H' g => by
    cases k with
    | true => rw [if_pos rfl]; exact ha rfl G S0 S' H' σ (E.grow g) _ fun v S2 H2 g2 r => q v S2 H2 (g.trans g2) r
    | false => rw [if_neg Bool.false_ne_true]; exact hb rfl G S0 S' H' σ (E.grow g) _ fun v S2 H2 g2 r => q v S2 H2 (g.trans g2) r)
end
theorem XV.is {d d' : D} (h : XV X e ds d) (q : d = d') : XV X e ds d' := q ▸ h
theorem XB.is {d d' : D} (h : XB X e ds d) (q : d = d') : XB X e ds d' := q ▸ h
theorem XL.is {d d' : List D} (h : XL X e ds d) (q : d = d') : XL X e ds d' := q ▸ h
theorem XT.is {k k' : Bool} (h : XT X e ds k) (q : k = k') : XT X e ds k' := q ▸ h
theorem XW.is {k k' : Bool} (h : XW X e ds k) (q : k = k') : XW X e ds k' := q ▸ h
end
end Lay
/-! Lay3: equality, subscripts, displays, built-ins. -/
namespace Lay
open PySem L2
/-! ### data as the model's data -/
mutual
def py : D → PyData
  | .non => .none
  | .bl b => .bool b
  | .int i => .int i
  | .str x => .str x
  | .lst ds => .list (pyAll ds)
  | .tup ds => .tuple (pyAll ds)
  | .scr _ => .none
  | .exc _ => .none
  | .ins _ _ => .none
def pyAll : List D → List PyData
  | [] => []
  | d :: ds => py d :: pyAll ds
end
mutual
def plain : D → Bool
  | .non => true
  | .bl _ => true
  | .int _ => true
  | .str _ => true
  | .lst ds => plainAll ds
  | .tup ds => plainAll ds
  | .scr _ => false
  | .exc _ => false
  | .ins _ _ => false
def plainAll : List D → Bool
  | [] => true
  | d :: ds => plain d && plainAll ds
end
mutual
theorem rp_dp {K : Fg} {S H : Hp} (k : Same S H) : ∀ (d : D) (v : V), Rp K S v d → plain d = true → Dp K H v (py d)
  | .non, _, .non, _ => .non
  | .bl b, _, .bl _, _ => .bl b
  | .int b, _, .int _, _ => .int b
  | .str b, _, .str _, _ => .str b
  | .lst ds, _, .lst h a, p => .lst (sq_of (k _ _ h)) (rpa_dp k ds _ a p)
  | .tup ds, _, .tup h a, p => .tup (st_of (k _ _ h)) (rpa_dp k ds _ a p)
  | .scr ds, _, _, p => by cases p
  | .exc ds, _, _, p => by cases p
  | .ins _ ds, _, _, p => by cases p
theorem rpa_dp {K : Fg} {S H : Hp} (k : Same S H) : ∀ (ds : List D) (vs : List V), RpA K S vs ds → plainAll ds = true → DpAll K H vs (pyAll ds)
  | [], _, .nil, _ => .nil
  | d :: ds, _, .cons h a, p => by
    have p' : (plain d && plainAll ds) = true := p
    rw [Bool.and_eq_true] at p'
    exact .cons (rp_dp k d _ h p'.1) (rpa_dp k ds _ a p'.2)
end
theorem rb_dp {K : Fg} {S H : Hp} (k : Same S H) {d : D} {v : V} (h : Rb K S H v d) (p : plain d = true) : Dp K H v (py d) := by
  rcases h with h | ⟨q, vs, xs, rfl, rfl, h1, h2⟩
  · exact rp_dp k d v h p
  · exact .lst (sq_of h1) (rpa_dp k xs vs h2 p)
/-- == of data -/
def eqD (A B : D) : Bool := PyData.eqv (py A) (py B)
/-- may be compared -/
def okE (A : D) : Bool := plain A && SeqAt.shaped (py A)
theorem okE_int {i : Int} : okE (.int i) = true := rfl
theorem okE_bl {i : Bool} : okE (.bl i) = true := rfl
theorem okE_non : okE .non = true := rfl
theorem eqD_int {i j : Int} : eqD (.int i) (.int j) = decide (i = j) := rfl
theorem okE_l {A : D} (h : okE A = true) : plain A = true := (Bool.and_eq_true_iff.mp h).1
theorem okE_r {A : D} (h : okE A = true) : SeqAt.shaped (py A) = true := (Bool.and_eq_true_iff.mp h).2

/-! ### arguments without stars, read off the text alone -/
def isStar : Expr → Bool
  | .Starred _ _ => true
  | _ => false
theorem se {e : Expr} {es : List Expr} {env : PySem.Env} (h : isStar e = false) : starEach (e :: es) env = (false, eval e env) :: starEach es env := by
  cases e <;> first | rfl | cases h
theorem spl {env : PySem.Env} {pos : Pos} : ∀ {es : List Expr}, es.all (fun e => !isStar e) = true → (backTo pos (starEach es env)).any (·.1) = false
  | [], _ => rfl
  | e :: es, h => by
    rw [List.all_cons, Bool.and_eq_true, Bool.not_eq_true'] at h
    rw [se h.1]
    have ih := spl (env := env) (pos := pos) h.2
    unfold backTo at ih ⊢
    rw [List.map_cons, List.any_cons, ih]
    rfl
theorem sfew {env : PySem.Env} {pos : Pos} : ∀ {es : List Expr}, es.all (fun e => !isStar e) = true → es.length < 30 → ((backTo pos (starEach es env)).all (fun x => !x.1) && (backToKw pos (keywordEach [] env)).all (fun x => x.1.isSome) && decide (es.length + ([] : List Keyword).length + (if ([] : List Keyword).isEmpty then 0 else 1) < 30)) = true := fun {es} h hl => by
  have k : ∀ {es : List Expr}, es.all (fun e => !isStar e) = true → (backTo pos (starEach es env)).all (fun x => !x.1) = true := by
    intro es
    induction es with
    | nil => intro _; rfl
    | cons e es ih =>
      intro h
      rw [List.all_cons, Bool.and_eq_true, Bool.not_eq_true'] at h
      rw [se h.1]
      have q := ih h.2
      unfold backTo at q ⊢
      rw [List.map_cons, List.all_cons, q]
      rfl
  rw [k h, decide_eq_true (by simpa using hl)]
  rfl

section
variable {X : Cx} {e a b c : Expr} {ds : List It} {pos : Pos} {A B : D} {i j : Int}
theorem xv_eq (hu : X.A.units + 64 < cLine) (ha : XB X a ds A) (hb : XB X b ds B) (h1 : okE A = true) (h2 : okE B = true) : XV X (.Compare a [.Eq] [b] pos) ds (.bl (eqD A B)) :=
  xv_cmp (op_eqD hu) ha hb (nomark _) fun S H x y Q k r1 r2 q => ⟨_, _, rb_dp k r1 (okE_l h1), rb_dp k r2 (okE_l h2), okE_r h1, okE_r h2, q⟩
theorem xt_eq (hu : X.A.units + 64 < cLine) (ha : XB X a ds A) (hb : XB X b ds B) (h1 : okE A = true) (h2 : okE B = true) : XT X (.Compare a [.Eq] [b] pos) ds (eqD A B) :=
  xt_cmp (op_eqD hu) ha hb (nomark _) fun S H x y Q k r1 r2 q => ⟨_, _, rb_dp k r1 (okE_l h1), rb_dp k r2 (okE_l h2), okE_r h1, okE_r h2, q⟩
theorem xv_ne (hu : X.A.units + 64 < cLine) (ha : XB X a ds A) (hb : XB X b ds B) (h1 : okE A = true) (h2 : okE B = true) : XV X (.Compare a [.NotEq] [b] pos) ds (.bl (!eqD A B)) :=
  xv_cmp (op_neD hu) ha hb (nomark _) fun S H x y Q k r1 r2 q => ⟨_, _, rb_dp k r1 (okE_l h1), rb_dp k r2 (okE_l h2), okE_r h1, okE_r h2, q⟩
theorem xt_ne (hu : X.A.units + 64 < cLine) (ha : XB X a ds A) (hb : XB X b ds B) (h1 : okE A = true) (h2 : okE B = true) : XT X (.Compare a [.NotEq] [b] pos) ds (!eqD A B) :=
  xt_cmp (op_neD hu) ha hb (nomark _) fun S H x y Q k r1 r2 q => ⟨_, _, rb_dp k r1 (okE_l h1), rb_dp k r2 (okE_l h2), okE_r h1, okE_r h2, q⟩
/-- of whole numbers, no room asked -/
theorem xv_eqI (ha : XB X a ds (.int i)) (hb : XB X b ds (.int j)) : XV X (.Compare a [.Eq] [b] pos) ds (.bl (decide (i = j))) :=
  xv_cmp op_eq ha hb (nomark _) fun S H x y Q k r1 r2 q => by rw [r1.int, r2.int]; exact ⟨rfl, by simpa using q⟩
theorem xt_eqI (ha : XB X a ds (.int i)) (hb : XB X b ds (.int j)) : XT X (.Compare a [.Eq] [b] pos) ds (decide (i = j)) :=
  xt_cmp op_eq ha hb (nomark _) fun S H x y Q k r1 r2 q => by rw [r1.int, r2.int]; exact ⟨rfl, by simpa using q⟩
theorem xv_neI (ha : XB X a ds (.int i)) (hb : XB X b ds (.int j)) : XV X (.Compare a [.NotEq] [b] pos) ds (.bl (!decide (i = j))) :=
  xv_cmp op_ne ha hb (nomark _) fun S H x y Q k r1 r2 q => by rw [r1.int, r2.int]; exact ⟨rfl, by simpa using q⟩
theorem xt_neI (ha : XB X a ds (.int i)) (hb : XB X b ds (.int j)) : XT X (.Compare a [.NotEq] [b] pos) ds (!decide (i = j)) :=
  xt_cmp op_ne ha hb (nomark _) fun S H x y Q k r1 r2 q => by rw [r1.int, r2.int]; exact ⟨rfl, by simpa using q⟩
/-- is None -/
def isNon : D → Bool
  | .non => true
  | _ => false
theorem rb_isNon {K : Fg} {S H : Hp} {v : V} {d : D} (h : Rb K S H v d) : decide (v = .non) = isNon d := by
  rcases h with h | ⟨p, vs, xs, rfl, rfl, _⟩
  · cases h <;> simp [isNon]
  · simp [isNon]
theorem xv_isN {j} {p2} (ha : XB X a ds A) : XV X (.Compare a [.Is] [.Constant .none j p2] pos) ds (.bl (isNon A)) :=
  xv_cmp (B := .non) op_isN ha xv_non.br (nomark _) fun S H x y Q k r1 r2 q => ⟨r2.non, by rw [rb_isNon r1]; exact q⟩
theorem xt_isN {j} {p2} (ha : XB X a ds A) : XT X (.Compare a [.Is] [.Constant .none j p2] pos) ds (isNon A) :=
  xt_cmp (B := .non) op_isN ha xv_non.br (nomark _) fun S H x y Q k r1 r2 q => ⟨r2.non, by rw [rb_isNon r1]; exact q⟩
theorem xt_notN {j} {p2} (ha : XB X a ds A) : XT X (.Compare a [.IsNot] [.Constant .none j p2] pos) ds (!isNon A) :=
  xt_cmp (B := .non) op_notN ha xv_non.br (nomark _) fun S H x y Q k r1 r2 q => ⟨r2.non, by rw [rb_isNon r1]; exact q⟩
theorem xv_notN {j} {p2} (ha : XB X a ds A) : XV X (.Compare a [.IsNot] [.Constant .none j p2] pos) ds (.bl (!isNon A)) :=
  xv_cmp (B := .non) op_notN ha xv_non.br (nomark _) fun S H x y Q k r1 r2 q => ⟨r2.non, by rw [rb_isNon r1]; exact q⟩
/-- in a list -/
def inD (A : D) (xs : List D) : Bool := xs.any fun x => eqD x A
theorem pyAll_map (xs : List D) : pyAll xs = xs.map py := by
  induction xs with
  | nil => rfl
  | cons x xs ih => simp only [pyAll, List.map_cons, ih]
theorem rb_seq {K : Fg} {S H : Hp} {v : V} {A : D} {ys : List D} (k : Same S H) (h : Rb K S H v A) (e : A = .lst ys ∨ A = .tup ys) : ∃ p vs, v = .ref p ∧ (SqL K H p vs ∨ SqT K H p vs) ∧ RpA K S vs ys := by
  rcases e with rfl | rfl
  · obtain ⟨p, vs, rfl, h1, h2⟩ := h.lst k
    exact ⟨p, vs, rfl, .inl (sq_of h1), h2⟩
  · obtain ⟨p, vs, rfl, h1, h2⟩ := h.tup
    exact ⟨p, vs, rfl, .inr (st_of (k _ _ h1)), h2⟩

/-! ### subscripts -/
def ixD : D → Int → Option D
  | .lst xs, i => atI xs i
  | .tup xs, i => atI xs i
  | .scr ns, i => (atI ns i).map .int
  | _, _ => none
theorem da_atI {K : Fg} {S : Hp} {vs : List V} {xs : List D} {i : Int} {d : D} (h : RpA K S vs xs) (e : atI xs i = some d) : ∃ v, atI vs i = some v ∧ Rp K S v d := by
  unfold atI at e ⊢
  rw [da_len h]
  cases q : ixN xs.length i with
  | none => rw [q] at e; cases e
  | some j => rw [q] at e; exact da_get h e
theorem xv_ix {d : D} (ha : XB X a ds A) (hb : XB X b ds (.int i)) (h : ixD A i = some d) (hs : PlainIx b := by exact fun _ _ => rfl) : XV X (.Subscript a b pos) ds d := .mk fun G S0 S H σ E Q q =>
  we_of (pe_ix ix_seq pe_w pe_w hs) (two ha hb E fun x y S' H' g r1 r2 => by
    cases A with
    | lst xs =>
      obtain ⟨p, vs, rfl, hp, ra⟩ := r1.lst g.sh
      obtain ⟨v, hv, rv⟩ := da_atI ra h
      exact .inl ⟨p, vs, i, v, rfl, r2.int, sq_of hp, hv, q v S' H' g rv⟩
    | tup xs =>
      obtain ⟨p, vs, rfl, hp, ra⟩ := r1.tup
      obtain ⟨v, hv, rv⟩ := da_atI ra h
      exact .inr (.inl ⟨p, vs, i, v, rfl, r2.int, st_of (g.sh _ _ hp), hv, q v S' H' g rv⟩)
    | scr ns =>
      obtain ⟨p, rfl, hp⟩ := r1.scr g.sh
      have h : (atI ns i).map D.int = some d := h
      cases z : atI ns i with
      | none => rw [z] at h; cases h
      | some n =>
        rw [z] at h
        cases h
        refine .inl ⟨p, _, i, .int n, rfl, r2.int, hp, ?_, q _ S' H' g (.int n)⟩
        unfold atI at z ⊢
        rw [List.length_map]
        cases w : ixN ns.length i with
        | none => rw [w] at z; cases z
        | some j =>
          rw [w] at z
          have z' : ns[j]? = some n := z
          show (ns.map V.int)[j]? = some (V.int n)
          rw [List.getElem?_map, z']
          rfl
    | _ => cases h)

/-! ### displays, arguments -/
theorem xa_nil : XA X [] ds [] := .mk fun G S0 S H σ E Q q => wa_of pa_nil (q [] S H E.gr .nil)
theorem xa_cons {es : List Expr} {d : D} {ys : List D} (ha : XV X e ds d) (hr : XA X es ds ys) (hs : starEach (e :: es) X.env = (false, eval e X.env) :: starEach es X.env := by exact se rfl) : XA X (e :: es) ds (d :: ys) := .mk fun G S0 S H σ E Q q =>
  wa_of (pa_cons pe_w pa_w hs) (ha G S0 S H σ E _ fun v S1 H1 g1 r1 => hr G S0 S1 H1 σ (E.grow g1) _ fun vs S2 H2 g2 r2 => q _ S2 H2 (g1.trans g2) (.cons (dp_same g2.s r1) r2))
theorem xab_nil : XAB X [] ds [] := .mk fun G S0 S H σ E Q q => wa_of pa_nil (q [] S H E.gr .nil)
theorem xab_cons {es : List Expr} {d : D} {ys : List D} (ha : XB X e ds d) (hr : XAB X es ds ys) (hs : starEach (e :: es) X.env = (false, eval e X.env) :: starEach es X.env := by exact se rfl) : XAB X (e :: es) ds (d :: ys) := .mk fun G S0 S H σ E Q q =>
  wa_of (pa_cons pe_w pa_w hs) (ha G S0 S H σ E _ fun v S1 H1 g1 r1 => hr G S0 S1 H1 σ (E.grow g1) _ fun vs S2 H2 g2 r2 => q _ S2 H2 (g1.trans g2) (.cons (r1.gr g2) r2))
theorem xl_lst {es : List Expr} {ys : List D} (ha : XA X es ds ys) (hz : ys.length ≤ 100000 := by first | exact Nat.le_of_ble_eq_true rfl | simp) : XL X (.List es pos) ds ys := .mk fun G S0 S H σ E Q q =>
  we_of (pe_lst pa_w) (ha G S0 S H σ E _ fun vs S' H' g r => ⟨sz _ (by rw [da_len r]; exact hz), fun p hp => q p vs S' _ (g.trans (Gr.newH g.sh hp)) (g.h.free hp) (g.sh.free hp) upd_same r⟩)
theorem xv_tup {es : List Expr} {ys : List D} {x1} (ha : XA X es ds ys) (hz : ys.length ≤ 100000 := by first | exact Nat.le_of_ble_eq_true rfl | simp) : XV X (.Tuple es x1 pos) ds (.tup ys) := .mk fun G S0 S H σ E Q q =>
  we_of (pe_tup pa_w) (ha G S0 S H σ E _ fun vs S' H' g r => ⟨sz _ (by rw [da_len r]; exact hz), fun p hp => q _ _ _ (g.trans (Gr.new g.sh hp)) (.tup upd_same (da_same (same_new (g.sh.free hp)) r))⟩)
theorem xl_rep {xs : List D} (ha : XB X a ds (.lst xs)) (hb : XB X b ds (.int j)) (h1 : -(2 ^ 63) ≤ j) (h2 : j < 2 ^ 63) (hz : xs.length * j.toNat ≤ 100000) : XL X (.BinOp a .Mult b pos) ds (List.replicate j.toNat xs).flatten :=
  xl_bin op_rep ha hb fun S H x y Q k r1 r2 q => by
    obtain ⟨p, vs, rfl, hp, ra⟩ := r1.lst k
    exact ⟨p, j, vs, rfl, r2.int, hp, h1, h2, sz _ (by rw [da_len ra]; exact hz), fun n hn => q n _ S _ (Gr.newH k hn) hn (k.free hn) upd_same (da_rep ra _)⟩

/-! ### built-ins -/
section
variable {id T : String} {r : List V → Hp → VK → Prop} {x : Str} {es : List Expr} {p : Pos} {ys : List D} {d : D}
theorem xv_callB (hc : CallR X (.builtin id) r) (hm : X.mg x = none) (hv : bootBuiltins x = some (.builtin id)) (ha : XAB X (e :: es) ds ys)
    (hr : ∀ (S H : Hp) vs (Q : VK), Same S H → RbA X.K S H vs ys → (∀ v S' H', Gr S H S' H' → Rp X.K S' v d → Q v H') → r vs H Q) (hg : Gl X x) (hn : x ≠ "__name__" := by decide) (hdb : (x == ("__debug__" : Str)) = false := by decide)
    (he : starEach (e :: es) X.env = (false, eval e X.env) :: starEach es X.env := by exact se rfl) (hpl : (backTo pos (starEach es X.env)).any (·.1) = false := by exact spl rfl) : XV X (.Call (.Name x p) (e :: es) [] pos) ds d := .mk fun G S0 S H σ E Q q =>
  we_of (pe_callB hc hg hm hv pa_w hn hdb he hpl) (ha G S0 S H σ E _ fun vs S' H' g rr => hr S' H' vs Q g.sh rr fun v S2 H2 g2 r2 => q v S2 H2 (g.trans g2) r2)
theorem xv_callTy (hc : CallR X (.type T) r) (hm : X.mg x = none) (hv : bootBuiltins x = some (.type T)) (ha : XAB X (e :: es) ds ys)
    (hr : ∀ (S H : Hp) vs (Q : VK), Same S H → RbA X.K S H vs ys → (∀ v S' H', Gr S H S' H' → Rp X.K S' v d → Q v H') → r vs H Q) (hg : Gl X x) (hn : x ≠ "__name__" := by decide) (hdb : (x == ("__debug__" : Str)) = false := by decide)
    (he : starEach (e :: es) X.env = (false, eval e X.env) :: starEach es X.env := by exact se rfl) (hpl : (backTo pos (starEach es X.env)).any (·.1) = false := by exact spl rfl) : XV X (.Call (.Name x p) (e :: es) [] pos) ds d := .mk fun G S0 S H σ E Q q =>
  we_of (pe_callTy hc hg hm hv pa_w hn hdb he hpl) (ha G S0 S H σ E _ fun vs S' H' g rr => hr S' H' vs Q g.sh rr fun v S2 H2 g2 r2 => q v S2 H2 (g.trans g2) r2)
theorem xl_callB {xs : List D} (hc : CallR X (.builtin id) r) (hm : X.mg x = none) (hv : bootBuiltins x = some (.builtin id)) (ha : XAB X (e :: es) ds ys)
    (hr : ∀ (S H : Hp) vs (Q : VK), Same S H → RbA X.K S H vs ys → (∀ p vs S' H', Gr S H S' H' → H p = none → S' p = none → H' p = some (.lst vs) → RpA X.K S' vs xs → Q (.ref p) H') → r vs H Q) (hg : Gl X x) (hn : x ≠ "__name__" := by decide) (hdb : (x == ("__debug__" : Str)) = false := by decide)
    (he : starEach (e :: es) X.env = (false, eval e X.env) :: starEach es X.env := by exact se rfl) (hpl : (backTo pos (starEach es X.env)).any (·.1) = false := by exact spl rfl) : XL X (.Call (.Name x p) (e :: es) [] pos) ds xs := .mk fun G S0 S H σ E Q q =>
  we_of (pe_callB hc hg hm hv pa_w hn hdb he hpl) (ha G S0 S H σ E _ fun vs S' H' g rr => hr S' H' vs Q g.sh rr fun p ws S2 H2 g2 h1 h2 h3 h4 => q p ws S2 H2 (g.trans g2) (g.h.free h1) h2 h3 h4)
theorem xl_callTy {xs : List D} (hc : CallR X (.type T) r) (hm : X.mg x = none) (hv : bootBuiltins x = some (.type T)) (ha : XAB X (e :: es) ds ys)
    (hr : ∀ (S H : Hp) vs (Q : VK), Same S H → RbA X.K S H vs ys → (∀ p vs S' H', Gr S H S' H' → H p = none → S' p = none → H' p = some (.lst vs) → RpA X.K S' vs xs → Q (.ref p) H') → r vs H Q) (hg : Gl X x) (hn : x ≠ "__name__" := by decide) (hdb : (x == ("__debug__" : Str)) = false := by decide)
    (he : starEach (e :: es) X.env = (false, eval e X.env) :: starEach es X.env := by exact se rfl) (hpl : (backTo pos (starEach es X.env)).any (·.1) = false := by exact spl rfl) : XL X (.Call (.Name x p) (e :: es) [] pos) ds xs := .mk fun G S0 S H σ E Q q =>
  we_of (pe_callTy hc hg hm hv pa_w hn hdb he hpl) (ha G S0 S H σ E _ fun vs S' H' g rr => hr S' H' vs Q g.sh rr fun p ws S2 H2 g2 h1 h2 h3 h4 => q p ws S2 H2 (g.trans g2) (g.h.free h1) h2 h3 h4)
end
theorem rba1 {K : Fg} {S H : Hp} {vs : List V} {d : D} (h : RbA K S H vs [d]) : ∃ v, vs = [v] ∧ Rb K S H v d := by
  cases h with
  | cons h t => cases t; exact ⟨_, rfl, h⟩
theorem rba2 {K : Fg} {S H : Hp} {vs : List V} {d d' : D} (h : RbA K S H vs [d, d']) : ∃ v w, vs = [v, w] ∧ Rb K S H v d ∧ Rb K S H w d' := by
  cases h with
  | cons h t =>
    obtain ⟨w, rfl, q⟩ := rba1 t
    exact ⟨_, w, rfl, h, q⟩
/-- how many -/
def lenD : D → Option Nat
  | .lst xs => some xs.length
  | .tup xs => some xs.length
  | .scr xs => some xs.length
  | _ => none
theorem boot_abs : bootBuiltins ("abs" : Str) = some (.builtin "abs") := by decide +kernel
theorem boot_max : bootBuiltins ("max" : Str) = some (.builtin "max") := by decide +kernel
theorem boot_min : bootBuiltins ("min" : Str) = some (.builtin "min") := by decide +kernel
theorem boot_int : bootBuiltins ("int" : Str) = some (.type "int") := by decide +kernel
theorem boot_list : bootBuiltins ("list" : Str) = some (.type "list") := by decide +kernel
theorem boot_tuple : bootBuiltins ("tuple" : Str) = some (.type "tuple") := by decide +kernel
theorem boot_sum' : bootBuiltins ("sum" : Str) = some (.builtin "sum") := by decide +kernel
theorem boot_any' : bootBuiltins ("any" : Str) = some (.builtin "any") := by decide +kernel
theorem boot_all' : bootBuiltins ("all" : Str) = some (.builtin "all") := by decide +kernel
theorem xv_len {p : Pos} {n : Nat} (hm : X.mg "len" = none) (ha : XB X e ds A) (hn : lenD A = some n := by rfl) (hg : Gl X "len" := by rfl) (hs : starEach [e] X.env = (false, eval e X.env) :: starEach [] X.env := by exact se rfl) (hpl : (backTo pos (starEach [] X.env)).any (·.1) = false := by exact spl rfl) :
    XV X (.Call (.Name "len" p) [e] [] pos) ds (.int n) :=
  xv_callB call_len_seq hm PySem.boot_len (xab_cons ha xab_nil hs) (fun S H vs Q k r q => by
    obtain ⟨v, rfl, r1⟩ := rba1 r
    cases A with
    | lst xs =>
      cases hn
      obtain ⟨p, vs, rfl, h1, h2⟩ := r1.lst k
      exact ⟨p, vs, rfl, .inl (sq_of h1), by rw [da_len h2]; exact q _ S H (.refl k) (.int _)⟩
    | tup xs =>
      cases hn
      obtain ⟨p, vs, rfl, h1, h2⟩ := r1.tup
      exact ⟨p, vs, rfl, .inr (st_of (k _ _ h1)), by rw [da_len h2]; exact q _ S H (.refl k) (.int _)⟩
    | scr xs =>
      cases hn
      obtain ⟨p, rfl, h1⟩ := r1.scr k
      exact ⟨p, _, rfl, .inl h1, by rw [List.length_map]; exact q _ S H (.refl k) (.int _)⟩
    | _ => cases hn) hg (he := hs) (hpl := hpl)
theorem xv_abs {p : Pos} (hm : X.mg "abs" = none) (ha : XB X e ds (.int i)) (hg : Gl X "abs" := by rfl) (hs : starEach [e] X.env = (false, eval e X.env) :: starEach [] X.env := by exact se rfl) (hpl : (backTo pos (starEach [] X.env)).any (·.1) = false := by exact spl rfl) :
    XV X (.Call (.Name "abs" p) [e] [] pos) ds (.int (i.natAbs : Int)) :=
  xv_callB call_abs hm boot_abs (xab_cons ha xab_nil hs) (fun S H vs Q k r q => by
    obtain ⟨v, rfl, r1⟩ := rba1 r
    rw [r1.int]
    refine ⟨i, rfl, ?_⟩
    have e : (if i < 0 then -i else i) = (i.natAbs : Int) := by split <;> omega
    rw [e]
    exact q _ S H (.refl k) (.int _)) hg (he := hs) (hpl := hpl)
theorem xv_max {p : Pos} (hc : X.calm = true) (hm : X.mg "max" = none) (ha : XB X a ds (.int i)) (hb : XB X b ds (.int j)) (hg : Gl X "max" := by rfl) (hs : starEach [a, b] X.env = (false, eval a X.env) :: starEach [b] X.env := by exact se rfl) (hs' : starEach [b] X.env = (false, eval b X.env) :: starEach [] X.env := by exact se rfl) (hpl : (backTo pos (starEach [b] X.env)).any (·.1) = false := by exact spl rfl) :
    XV X (.Call (.Name "max" p) [a, b] [] pos) ds (.int (max i j)) :=
  xv_callB (call_max2 hc) hm boot_max (xab_cons ha (xab_cons hb xab_nil hs') hs) (fun S H vs Q k r q => by
    obtain ⟨v, w, rfl, r1, r2⟩ := rba2 r
    rw [r1.int, r2.int]
    refine ⟨i, j, rfl, ?_⟩
    have e : (if j > i then j else i) = max i j := by split <;> omega
    rw [e]
    exact q _ S H (.refl k) (.int _)) hg (he := hs) (hpl := hpl)
theorem xv_int1 {p : Pos} {k : Bool} (hm : X.mg "int" = none) (ha : XB X e ds (.bl k)) (hg : Gl X "int" := by rfl) (hs : starEach [e] X.env = (false, eval e X.env) :: starEach [] X.env := by exact se rfl) (hpl : (backTo pos (starEach [] X.env)).any (·.1) = false := by exact spl rfl) :
    XV X (.Call (.Name "int" p) [e] [] pos) ds (.int (if k then 1 else 0)) :=
  xv_callTy call_int1 hm boot_int (xab_cons ha xab_nil hs) (fun S H vs Q kk r q => by
    obtain ⟨v, rfl, r1⟩ := rba1 r
    rw [r1.bl]
    exact .inr ⟨k, rfl, q _ S H (.refl kk) (.int _)⟩) hg (he := hs) (hpl := hpl)
theorem xl_list {p : Pos} {xs : List D} (hm : X.mg "list" = none) (ha : XB X e ds A) (hA : A = .lst xs ∨ A = .tup xs := by first | exact Or.inl rfl | exact Or.inr rfl) (hg : Gl X "list" := by rfl) (hs : starEach [e] X.env = (false, eval e X.env) :: starEach [] X.env := by exact se rfl) (hpl : (backTo pos (starEach [] X.env)).any (·.1) = false := by exact spl rfl) :
    XL X (.Call (.Name "list" p) [e] [] pos) ds xs :=
  xl_callTy call_list_of hm boot_list (xab_cons ha xab_nil hs) (fun S H vs Q k r q => by
    obtain ⟨v, rfl, r1⟩ := rba1 r
    obtain ⟨p, vs, rfl, h1, h2⟩ := rb_seq k r1 hA
    exact ⟨p, vs, rfl, h1, fun l hl => q l vs S _ (Gr.newH k hl) hl (k.free hl) upd_same h2⟩) hg (he := hs) (hpl := hpl)
theorem xv_tuple {p : Pos} {xs : List D} (hm : X.mg "tuple" = none) (ha : XB X e ds (.lst xs)) (hg : Gl X "tuple" := by rfl) (hs : starEach [e] X.env = (false, eval e X.env) :: starEach [] X.env := by exact se rfl) (hpl : (backTo pos (starEach [] X.env)).any (·.1) = false := by exact spl rfl) :
    XV X (.Call (.Name "tuple" p) [e] [] pos) ds (.tup xs) :=
  xv_callTy call_tuple_of hm boot_tuple (xab_cons ha xab_nil hs) (fun S H vs Q k r q => by
    obtain ⟨v, rfl, r1⟩ := rba1 r
    obtain ⟨p, vs, rfl, h1, h2⟩ := r1.lst k
    exact ⟨p, vs, rfl, .inl ⟨sq_of h1, fun l hl => q _ _ _ (Gr.new k hl) (.tup upd_same (da_same (same_new (k.free hl)) h2))⟩⟩) hg (he := hs) (hpl := hpl)
end
end Lay
/-! Lay4: what a statement does. -/
namespace Lay
open PySem L2
/-- how a statement ends -/
inductive Ou where
  | nx (ds : List It)
  | bk (ds : List It)
  | ct (ds : List It)
  /-- a value is handed back -/
  | rt (d : D)
  /-- .. and slot 0 holds this -/
  | rs (d : D) (it : It)
  /-- an exception of the class at c -/
  | er (c : Addr)
  /-- .. the slots as they are -/
  | es (c : Addr) (ds : List It)
structure Fnl (G S0 S H : Hp) : Prop where
  sh : Same S H
  gh : Same G H
  s0 : Same S0 S
  gs : ∀ a, G a ≠ none → S a = S0 a
theorem Env.fin {K : Fg} {G S0 S H : Hp} {σ : St} {ds : List It} (e : Env K G S0 S H σ ds) : Fnl G S0 S H := ⟨e.sh, e.gh, e.s0, e.gs⟩
def PostS (K : Fg) (W : WX) (G S0 : Hp) (Z : Ends) : Ou → Prop
  | .nx ds => ∀ σ S H, Env K G S0 S H σ ds → Z.nx σ H
  | .bk ds => ∀ σ S H, Env K G S0 S H σ ds → Z.bk σ H
  | .ct ds => ∀ σ S H, Env K G S0 S H σ ds → Z.ct σ H
  | .rt d => ∀ v S H, Fnl G S0 S H → Rp K S v d → Z.rt v H
  | .rs d it => ∀ v σ S H ds, Env K G S0 S H σ (it :: ds) → Rp K S v d → Z.rt v H
  | .er c => ∀ σ S H, Fnl G S0 S H → W (.ref c) none σ H
  | .es c ds => ∀ σ S H, Env K G S0 S H σ ds → W (.ref c) none σ H
/-- ds' tells less -/
structure Le (ds ds' : List It) : Prop where
  mk ::
  run : ∀ (K : Fg) (G S0 S H : Hp) (σ : St), Env K G S0 S H σ ds → Env K G S0 S H σ ds'
instance {ds ds' : List It} : CoeFun (Le ds ds') (fun _ => ∀ (K : Fg) (G S0 S H : Hp) (σ : St), Env K G S0 S H σ ds → Env K G S0 S H σ ds') := ⟨Le.run⟩
theorem Le.refl {ds : List It} : Le ds ds := .mk fun _ _ _ _ _ _ e => e
theorem Le.trans {a b c : List It} (h : Le a b) (q : Le b c) : Le a c := .mk fun _ _ _ _ _ _ e => q _ _ _ _ _ _ (h _ _ _ _ _ _ e)
theorem Le.no {ds : List It} (i : Nat) : Le ds (ds.set i .no) := .mk fun K G S0 S H σ e => by
  have q := e.put_no i (σ[i]?.join)
  by_cases hi : i < σ.length
  · have z : σ[i]?.join = σ[i] := by rw [List.getElem?_eq_getElem hi]; rfl
    rw [z, List.set_getElem_self] at q
    exact q
  · rw [List.set_eq_of_length_le (by omega)] at q
    exact q
/-- the slots js are forgotten -/
def fg : List Nat → List It → List It
  | [], ds => ds
  | j :: js, ds => fg js (ds.set j .no)
theorem Le.fg {ds ds' : List It} (js : List Nat) (h : fg js ds = ds') : Le ds ds' := by
  subst h
  induction js generalizing ds with
  | nil => exact .refl
  | cons j js ih => exact (Le.no j).trans ih
theorem Le.eq {ds ds' : List It} (h : ds = ds') : Le ds ds' := h ▸ .refl

section
variable {X : Cx} {W : WX} {e a b c : Expr} {st : Stmt} {sts rest : List Stmt} {ds ds' ds1 : List It} {o : Ou} {pos : Pos} {d : D} {xs ys : List D}
def wS (X : Cx) (st : Stmt) : TS := fun Z σ H => ∀ pins s, Inv X pins σ H s → wpAny (model X.prog X.w) X.A (exec st X.env) (SP X pins Z) X.xe s
theorem ps_w : PS X st (wS X st) := ⟨fun pins s _ _ _ I h => h pins s I⟩
def wSs (X : Cx) (sts : List Stmt) : TS := fun Z σ H => ∀ pins s, Inv X pins σ H s → wpAny (model X.prog X.w) X.A (execs sts X.env) (SP X pins Z) X.xe s
theorem pss_w : PSs X sts (wSs X sts) := ⟨fun pins s _ _ _ I h => h pins s I⟩
def wG (X : Cx) (tg : Expr) : TG := fun v σ H Q => ∀ pins s u, Inv X pins σ H s → RelV v u → wpAny (model X.prog X.w) X.A (assign tg X.env u) (fun _ s' => ∃ σ' H', Inv X pins σ' H' s' ∧ Q σ' H') X.xe s
theorem pg_w {tg : Expr} : PG X tg (wG X tg) := ⟨fun pins s _ _ _ u _ I r h => h pins s u I r⟩
def wGs (X : Cx) (tgs : List Expr) : TGs := fun vs σ H Q => ∀ pins s us, Inv X pins σ H s → Vals vs us → wpAny (model X.prog X.w) X.A (assignInOrder ((assignEach tgs X.env).map (·.2)) us) (fun _ s' => ∃ σ' H', Inv X pins σ' H' s' ∧ Q σ' H') X.xe s
theorem pgs_w {tgs : List Expr} : PGs X tgs (wGs X tgs) := ⟨fun pins s _ _ _ us _ I r h => h pins s us I r⟩
theorem ws_of {t : TS} (h : PS X st t) {σ : St} {H : Hp} {Z : Ends} (q : t Z σ H) : wS X st Z σ H := fun pins s I => h.run pins s σ H Z I q
theorem wss_of {t : TS} (h : PSs X sts t) {σ : St} {H : Hp} {Z : Ends} (q : t Z σ H) : wSs X sts Z σ H := fun pins s I => h.run pins s σ H Z I q
theorem wg_of {tg : Expr} {t : TG} (h : PG X tg t) {v : V} {σ : St} {H : Hp} {Q : St → Hp → Prop} (q : t v σ H Q) : wG X tg v σ H Q := fun pins s u I r => h.run pins s σ H v u Q I r q
theorem wgs_of {tgs : List Expr} {t : TGs} (h : PGs X tgs t) {v : List V} {σ : St} {H : Hp} {Q : St → Hp → Prop} (q : t v σ H Q) : wGs X tgs v σ H Q := fun pins s u I r => h.run pins s σ H v u Q I r q

structure XS (X : Cx) (W : WX) (st : Stmt) (ds : List It) (o : Ou) : Prop where
  mk ::
  run : ∀ G S0 S H σ, Env X.K G S0 S H σ ds → ∀ Z, PostS X.K W G S0 Z o → wS X st Z σ H
instance {X : Cx} {W : WX} {st : Stmt} {ds : List It} {o : Ou} : CoeFun (XS X W st ds o) (fun _ => ∀ G S0 S H σ, Env X.K G S0 S H σ ds → ∀ Z, PostS X.K W G S0 Z o → wS X st Z σ H) := ⟨XS.run⟩
structure XSs (X : Cx) (W : WX) (sts : List Stmt) (ds : List It) (o : Ou) : Prop where
  mk ::
  run : ∀ G S0 S H σ, Env X.K G S0 S H σ ds → ∀ Z, PostS X.K W G S0 Z o → wSs X sts Z σ H
instance {X : Cx} {W : WX} {sts : List Stmt} {ds : List It} {o : Ou} : CoeFun (XSs X W sts ds o) (fun _ => ∀ G S0 S H σ, Env X.K G S0 S H σ ds → ∀ Z, PostS X.K W G S0 Z o → wSs X sts Z σ H) := ⟨XSs.run⟩
/-- a target gets d -/
structure XG (X : Cx) (tg : Expr) (d : D) (ds ds' : List It) : Prop where
  mk ::
  run : ∀ G S0 S H σ v, Env X.K G S0 S H σ ds → Rp X.K S v d → ∀ Q : St → Hp → Prop, (∀ σ', Env X.K G S0 S H σ' ds' → Q σ' H) → wG X tg v σ H Q
instance {X : Cx} {tg : Expr} {d : D} {ds ds' : List It} : CoeFun (XG X tg d ds ds') (fun _ => ∀ G S0 S H σ v, Env X.K G S0 S H σ ds → Rp X.K S v d → ∀ Q : St → Hp → Prop, (∀ σ', Env X.K G S0 S H σ' ds' → Q σ' H) → wG X tg v σ H Q) := ⟨XG.run⟩
structure XGs (X : Cx) (tgs : List Expr) (xs : List D) (ds ds' : List It) : Prop where
  mk ::
  run : ∀ G S0 S H σ vs, Env X.K G S0 S H σ ds → RpA X.K S vs xs → ∀ Q : St → Hp → Prop, (∀ σ', Env X.K G S0 S H σ' ds' → Q σ' H) → wGs X tgs vs σ H Q
instance {X : Cx} {tgs : List Expr} {xs : List D} {ds ds' : List It} : CoeFun (XGs X tgs xs ds ds') (fun _ => ∀ G S0 S H σ vs, Env X.K G S0 S H σ ds → RpA X.K S vs xs → ∀ Q : St → Hp → Prop, (∀ σ', Env X.K G S0 S H σ' ds' → Q σ' H) → wGs X tgs vs σ H Q) := ⟨XGs.run⟩

/-! ### blocks -/
def goesOn : Ou → Bool
  | .nx _ => true
  | _ => false
theorem xss_nil : XSs X W [] ds (.nx ds) := .mk fun G S0 S H σ E Z q => wss_of pss_nil (q σ S H E)
theorem xss_cons (h1 : XS X W st ds (.nx ds1)) (h2 : XSs X W rest ds1 o) : XSs X W (st :: rest) ds o := .mk fun G S0 S H σ E Z q =>
  wss_of (pss_cons ps_w pss_w) (h1 G S0 S H σ E _ fun σ' S' H' E' => h2 G S0 S' H' σ' E' Z q)
theorem xss_stop (h1 : XS X W st ds o) (ho : goesOn o = false := by rfl) : XSs X W (st :: rest) ds o := .mk fun G S0 S H σ E Z q =>
  wss_of (pss_cons ps_w pss_w) (h1 G S0 S H σ E _ (by cases o <;> first | exact q | cases ho))
theorem xss_one (h1 : XS X W st ds o) : XSs X W [st] ds o := .mk fun G S0 S H σ E Z q => wss_of (pss_one ps_w) (h1 G S0 S H σ E Z q)
theorem XSs.pre (h : XSs X W sts ds' o) (l : Le ds ds') : XSs X W sts ds o := .mk fun G S0 S H σ E Z q => h G S0 S H σ (l _ _ _ _ _ _ E) Z q
theorem XS.pre (h : XS X W st ds' o) (l : Le ds ds') : XS X W st ds o := .mk fun G S0 S H σ E Z q => h G S0 S H σ (l _ _ _ _ _ _ E) Z q
theorem XSs.le (h : XSs X W sts ds (.nx ds1)) (l : Le ds1 ds') : XSs X W sts ds (.nx ds') := .mk fun G S0 S H σ E Z q => h G S0 S H σ E Z fun σ' S' H' E' => q σ' S' H' (l _ _ _ _ _ _ E')
theorem XS.le (h : XS X W st ds (.nx ds1)) (l : Le ds1 ds') : XS X W st ds (.nx ds') := .mk fun G S0 S H σ E Z q => h G S0 S H σ E Z fun σ' S' H' E' => q σ' S' H' (l _ _ _ _ _ _ E')
theorem XSs.er {c : Addr} (h : XSs X W sts ds (.es c ds1)) : XSs X W sts ds (.er c) := .mk fun G S0 S H σ E Z q => h G S0 S H σ E Z fun σ' S' H' E' => q σ' S' H' E'.fin
theorem XS.er {c : Addr} (h : XS X W st ds (.es c ds1)) : XS X W st ds (.er c) := .mk fun G S0 S H σ E Z q => h G S0 S H σ E Z fun σ' S' H' E' => q σ' S' H' E'.fin
theorem XSs.is {o' : Ou} (h : XSs X W sts ds o) (e : o = o') : XSs X W sts ds o' := e ▸ h
theorem XS.is {o' : Ou} (h : XS X W st ds o) (e : o = o') : XS X W st ds o' := e ▸ h
/-- an owned list is frozen -/
theorem XSs.freeze (i : Nat) (h : XSs X W sts (ds.set i (.fz (.lst xs))) o) (hd : ds[i]? = some (.ow xs) := by rfl) : XSs X W sts ds o := .mk fun G S0 S H σ E Z q => by
  obtain ⟨S', k, E'⟩ := E.freeze hd
  exact h G S0 S' H σ E' Z q
theorem XV.gr (h : XV X e ds d) : XV X e ds d := h

/-! ### targets -/
theorem xg_name (i : Nat) {x : Str} {p : Pos} (hN : X.N.Nodup) (hi : X.N[i]? = some x := by rfl) (hx : Loc X.env.scope x := by first | exact Or.inl rfl | exact Or.inr rfl) (hf : X.fn x = true ∨ X.env.scope.names.lookup x = some .local := by first | exact .inl rfl | exact .inr rfl) :
    XG X (.Name x p) d ds (ds.set i (.fz d)) := .mk fun G S0 S H σ v E r Q q => wg_of (pg_name (i := i) hN hi hx hf) (q _ (E.putD i r))
theorem xgs_nil : XGs X [] [] ds ds := .mk fun G S0 S H σ vs E r Q q => by cases r; exact wgs_of pgs_nil ⟨rfl, q σ E⟩
theorem xgs_cons {tg : Expr} {tgs : List Expr} (h1 : XG X tg d ds ds1) (h2 : XGs X tgs xs ds1 ds') (hs : (assignEach (tg :: tgs) X.env).map (·.2) = assign tg X.env :: (assignEach tgs X.env).map (·.2) := by rfl) : XGs X (tg :: tgs) (d :: xs) ds ds' := .mk fun G S0 S H σ vs E r Q q => by
  cases r with
  | cons r rs => exact wgs_of (pgs_cons pg_w pgs_w hs) ⟨_, _, rfl, h1 G S0 S H σ _ E r _ fun σ' E' => h2 G S0 S H σ' _ E' rs Q q⟩
theorem xg_tup {tgs : List Expr} {k : Nat} {p : Pos} (hc : X.calm = true) (h : XGs X tgs xs ds ds') (hn : (assignEach tgs X.env).length = xs.length := by rfl) (hst : (assignEach tgs X.env).findIdx? (·.1) = none := by rfl) : XG X (.Tuple tgs k p) (.tup xs) ds ds' := .mk fun G S0 S H σ v E r Q q => by
  cases r with
  | tup h1 ra => exact wg_of (pg_tup (n := xs.length) hc pgs_w hn hst) ⟨_, _, rfl, st_of (E.sh _ _ h1), by rw [da_len ra], h G S0 S H σ _ E ra Q q⟩

/-! ### stores -/
theorem xs_set (i : Nat) {x : Str} {p : Pos} (hN : X.N.Nodup) (he : XV X e ds d) (hi : X.N[i]? = some x := by rfl) (hx : Loc X.env.scope x := by first | exact Or.inl rfl | exact Or.inr rfl) (hs : swapsWith e (some (.Name x p)) pos.line X.env = pure false := by rfl)
    (hf : X.fn x = true ∨ X.env.scope.names.lookup x = some .local := by first | exact .inl rfl | exact .inr rfl) : XS X W (.Assign [.Name x p] e pos) ds (.nx (ds.set i (.fz d))) := .mk fun G S0 S H σ E Z q =>
  ws_of (ps_set hN hi hx pe_w hs hf) (he G S0 S H σ E _ fun v S' H' g r => q _ S' H' ((E.grow g).putD i r))
theorem xs_own (i : Nat) {x : Str} {p : Pos} (hN : X.N.Nodup) (he : XL X e ds xs) (hi : X.N[i]? = some x := by rfl) (hx : Loc X.env.scope x := by first | exact Or.inl rfl | exact Or.inr rfl) (hs : swapsWith e (some (.Name x p)) pos.line X.env = pure false := by rfl)
    (hf : X.fn x = true ∨ X.env.scope.names.lookup x = some .local := by first | exact .inl rfl | exact .inr rfl) : XS X W (.Assign [.Name x p] e pos) ds (.nx (ds.set i (.ow xs))) := .mk fun G S0 S H σ E Z q =>
  ws_of (ps_set hN hi hx pe_w hs hf) (he G S0 S H σ E _ fun p vs S' H' g h1 h2 h3 h4 => q _ S' H' (E.putL g i h1 h3 h2 h4))
theorem xs_asg {tg : Expr} (he : XV X e ds d) (hg : XG X tg d ds ds') (hs : swapsWithSole [tg] e pos.line X.env = pure false := by rfl) (hw : swappedStores [tg] e X.env = pure none := by rfl)
    (h1 : (assignEach [tg] X.env).map (·.2) = [assign tg X.env] := by rfl) : XS X W (.Assign [tg] e pos) ds (.nx ds') := .mk fun G S0 S H σ E Z q =>
  ws_of (ps_asg pe_w pg_w hs hw h1) (he G S0 S H σ E _ fun v S' H' g r => hg G S0 S' H' σ v (E.grow g) r _ fun σ' E' => q σ' S' H' E')
theorem xs_asgR {tg : Expr} {c : Addr} (he : XR X W e ds c) (hs : swapsWithSole [tg] e pos.line X.env = pure false := by rfl) (hw : swappedStores [tg] e X.env = pure none := by rfl)
    (h1 : (assignEach [tg] X.env).map (·.2) = [assign tg X.env] := by rfl) : XS X W (.Assign [tg] e pos) ds (.es c ds) := .mk fun G S0 S H σ E Z q =>
  ws_of (ps_asg pe_w pg_w hs hw h1) (he G S0 S H σ E (fun S' H' g => q σ S' H' (E.grow g)) _)
theorem xs_setR {x : Str} {p : Pos} {i : Nat} {c : Addr} (hN : X.N.Nodup) (he : XR X W e ds c) (hi : X.N[i]? = some x := by rfl) (hx : Loc X.env.scope x := by first | exact Or.inl rfl | exact Or.inr rfl) (hs : swapsWith e (some (.Name x p)) pos.line X.env = pure false := by rfl)
    (hf : X.fn x = true ∨ X.env.scope.names.lookup x = some .local := by first | exact .inl rfl | exact .inr rfl) : XS X W (.Assign [.Name x p] e pos) ds (.es c ds) := .mk fun G S0 S H σ E Z q =>
  ws_of (ps_set hN hi hx pe_w hs hf) (he G S0 S H σ E (fun S' H' g => q σ S' H' (E.grow g)) _)
theorem xs_expr (he : XV X e ds d) (hs : swapsWith e none pos.line X.env = pure false := by rfl) : XS X W (.Expr e pos) ds (.nx ds) := .mk fun G S0 S H σ E Z q =>
  ws_of (ps_expr pe_w hs) (he G S0 S H σ E _ fun v S' H' g r => q σ S' H' (E.grow g))
theorem xs_exprR {c : Addr} (he : XR X W e ds c) (hs : swapsWith e none pos.line X.env = pure false := by rfl) : XS X W (.Expr e pos) ds (.es c ds) := .mk fun G S0 S H σ E Z q =>
  ws_of (ps_expr pe_w hs) (he G S0 S H σ E (fun S' H' g => q σ S' H' (E.grow g)) _)
theorem xs_ret (he : XV X e ds d) : XS X W (.Return (some e) pos) ds (.rt d) := .mk fun G S0 S H σ E Z q =>
  ws_of (ps_ret pe_w) (he G S0 S H σ E _ fun v S' H' g r => q v S' H' (E.grow g).fin r)
theorem xs_retS {it : It} (he : XV X e (it :: ds) d) : XS X W (.Return (some e) pos) (it :: ds) (.rs d it) := .mk fun G S0 S H σ E Z q =>
  ws_of (ps_ret pe_w) (he G S0 S H σ E _ fun v S' H' g r => q v σ S' H' ds (E.grow g) r)
theorem xs_retR {c : Addr} (he : XR X W e ds c) : XS X W (.Return (some e) pos) ds (.es c ds) := .mk fun G S0 S H σ E Z q =>
  ws_of (ps_ret pe_w) (he G S0 S H σ E (fun S' H' g => q σ S' H' (E.grow g)) _)
theorem xs_pass : XS X W (.Pass pos) ds (.nx ds) := .mk fun G S0 S H σ E Z q => ws_of ps_pass (q σ S H E)
theorem xs_if {A B : List Stmt} {k : Bool} (hc : XT X c ds k) (ha : k = true → XSs X W A ds o) (hb : k = false → XSs X W B ds o) : XS X W (.If c A B pos) ds o := .mk fun G S0 S H σ E Z q =>
  ws_of (ps_if pt_w pss_w pss_w) (hc G S0 S H σ E _ fun S' H' g => by
    cases k with
    | true => rw [if_pos rfl]; exact ha rfl G S0 S' H' σ (E.grow g) Z q
    | false => rw [if_neg Bool.false_ne_true]; exact hb rfl G S0 S' H' σ (E.grow g) Z q)
theorem xs_yes {A B : List Stmt} (hc : XT X c ds true) (ha : XSs X W A ds o) : XS X W (.If c A B pos) ds o := xs_if hc (fun _ => ha) fun z => by cases z
theorem xs_no {A B : List Stmt} (hc : XT X c ds false) (ha : XSs X W B ds o) : XS X W (.If c A B pos) ds o := xs_if hc (fun z => by cases z) fun _ => ha

/-! ### a list of the frame's own -/
theorem ty_list {K : Fg} {H : Hp} {p : Addr} {vs : List V} (h : H p = some (.lst vs)) : tyV K "list" (.ref p) H := .inl ⟨rfl, _, sq_of h⟩
section
variable {x : Str} {px pa : Pos}
theorem bm_own {r : V → List V → Hp → VK → Prop} {es : List Expr} {name : Str} {id : String} {ys : List D} (i : Nat) (slot : Slot "list" name id) (hty : typeOf (.builtin id) = pure (.type "method_descriptor")) (hm : MtR X id r) (ha : XA X (e :: es) ds ys)
    (hd : ds[i]? = some (.ow xs)) (hN : X.N[i]? = some x) (hv : Vis X.env.scope x) (h1 : (x == ("__debug__" : Str)) = false) (h2 : (x == ("__classdict__" : Str)) = false)
    (hbase : attributeBase (.Name x px) name X.env (eval (.Name x px) X.env) = eval (.Name x px) X.env)
    (hfew : ((backTo pos (starEach (e :: es) X.env)).all (fun x => !x.1) && (backToKw pos (keywordEach [] X.env)).all (fun x => x.1.isSome)
      && decide ((e :: es).length + ([] : List Keyword).length + (if ([] : List Keyword).isEmpty then 0 else 1) < 30)) = true)
    (hline : (pa.endLine == pos.line) = true) (hs : starEach (e :: es) X.env = (false, eval e X.env) :: starEach es X.env) (hplain : (backTo pos (starEach es X.env)).any (·.1) = false)
    {G S0 S H : Hp} {σ : St} (E : Env X.K G S0 S H σ ds) {Q : VK} (q : ∀ p vs ws S' H', Gr S H S' H' → σ[i]? = some (some (.ref p)) → H' p = some (.lst vs) → S' p = none → G p = none → RpA X.K S' vs xs → RpA X.K S' ws ys → r (.ref p) ws H' Q) :
    wE X (.Call (.Attribute (.Name x px) name pa) (e :: es) [] pos) σ H Q := by
  obtain ⟨p, vs, hv', hp, sp, gp, ra⟩ := E.ow hd
  refine we_of (pe_bm PySem.F.plainAttrs_list slot hty hm (pe_var (i := i) hN hv h1 h2) pa_w hbase hfew hline hs hplain) ⟨.ref p, hv', ty_list hp, ha G S0 S H σ E _ fun ws S' H' g rw => ?_⟩
  exact q p vs ws S' H' g hv' (g.h _ _ hp) (by rw [g.old p (nn_of hp)]; exact sp) gp (da_same g.s ra) rw
theorem xs_append (i : Nat) (he : XV X e ds d) (hd : ds[i]? = some (.ow xs) := by rfl) (hz : xs.length < 100000) (hN : X.N[i]? = some x := by rfl) (hv : Vis X.env.scope x := by first | exact Or.inl rfl | exact Or.inr (Or.inl rfl) | exact Or.inr (Or.inr rfl))
    (h1 : (x == ("__debug__" : Str)) = false := by decide) (h2 : (x == ("__classdict__" : Str)) = false := by decide) (hbase : attributeBase (.Name x px) "append" X.env (eval (.Name x px) X.env) = eval (.Name x px) X.env := by rfl)
    {pc : Pos} (hfew : ((backTo pc (starEach [e] X.env)).all (fun x => !x.1) && (backToKw pc (keywordEach [] X.env)).all (fun x => x.1.isSome) && decide (([e] : List Expr).length + ([] : List Keyword).length + (if ([] : List Keyword).isEmpty then 0 else 1) < 30)) = true := by exact sfew rfl (by decide))
    (hline : (pa.endLine == pc.line) = true := by rfl) (hs : starEach [e] X.env = (false, eval e X.env) :: starEach [] X.env := by exact se rfl) (hplain : (backTo pc (starEach [] X.env)).any (·.1) = false := by exact spl rfl)
    (hsw : swapsWith (.Call (.Attribute (.Name x px) "append" pa) [e] [] pc) none pos.line X.env = pure false := by rfl) :
    XS X W (.Expr (.Call (.Attribute (.Name x px) "append" pa) [e] [] pc) pos) ds (.nx (ds.set i (.ow (xs ++ [d])))) := .mk fun G S0 S H σ E Z q =>
  ws_of (ps_expr pe_w hsw) (bm_own i PySem.F.slot_list_append PySem.F.type_list_append (fun pins s σ H x xs v us Q I rx rv h => mt_append pins s σ H x xs v us Q I rx rv h) (xa_cons he xa_nil hs) hd hN hv h1 h2 hbase hfew hline hs hplain E fun p vs ws S' H' g hv' hp sp gp ra rb => by
    cases rb with
    | cons r rn =>
      cases rn
      exact ⟨p, vs, _, rfl, rfl, hp, szlt _ (by rw [da_len ra]; exact hz), q _ S' _ ((E.grow g).mut hd hv' (da_append ra (da_one r)))⟩)
end
end
end Lay
/-! Lay5: more stores; loops. -/
namespace Lay
open PySem L2
section
variable {X : Cx} {W : WX} {e a b c : Expr} {st : Stmt} {sts rest body : List Stmt} {ds ds' ds1 : List It} {o : Ou} {pos : Pos} {d : D} {xs ys : List D} {tg iter : Expr}
section
variable {x : Str} {px pa : Pos}
theorem xs_extend (i : Nat) (he : XL X e ds ys) (hd : ds[i]? = some (.ow xs) := by rfl) (hz : xs.length + ys.length ≤ 100000) (hN : X.N[i]? = some x := by rfl) (hv : Vis X.env.scope x := by first | exact Or.inl rfl | exact Or.inr (Or.inl rfl) | exact Or.inr (Or.inr rfl))
    (h1 : (x == ("__debug__" : Str)) = false := by decide) (h2 : (x == ("__classdict__" : Str)) = false := by decide) (hbase : attributeBase (.Name x px) "extend" X.env (eval (.Name x px) X.env) = eval (.Name x px) X.env := by rfl)
    {pc : Pos} (hfew : ((backTo pc (starEach [e] X.env)).all (fun x => !x.1) && (backToKw pc (keywordEach [] X.env)).all (fun x => x.1.isSome) && decide (([e] : List Expr).length + ([] : List Keyword).length + (if ([] : List Keyword).isEmpty then 0 else 1) < 30)) = true := by exact sfew rfl (by decide))
    (hline : (pa.endLine == pc.line) = true := by rfl) (hs : starEach [e] X.env = (false, eval e X.env) :: starEach [] X.env := by exact se rfl) (hplain : (backTo pc (starEach [] X.env)).any (·.1) = false := by exact spl rfl)
    (hsw : swapsWith (.Call (.Attribute (.Name x px) "extend" pa) [e] [] pc) none pos.line X.env = pure false := by rfl) :
    XS X W (.Expr (.Call (.Attribute (.Name x px) "extend" pa) [e] [] pc) pos) ds (.nx (ds.set i (.ow (xs ++ ys)))) := .mk fun G S0 S H σ E Z q =>
  ws_of (ps_expr pe_w hsw) (bm_own i PySem.F.slot_list_extend PySem.F.type_list_extend (fun pins s σ H x xs v us Q I rx rv h => mt_extend pins s σ H x xs v us Q I rx rv h) (xa_cons he.v xa_nil hs) hd hN hv h1 h2 hbase hfew hline hs hplain E fun p vs ws S' H' g hv' hp sp gp ra rb => by
    cases rb with
    | cons r rn =>
      cases rn
      cases r with
      | lst hq rq => exact ⟨p, _, vs, _, rfl, rfl, hp, g.sh _ _ hq, sz _ (by rw [da_len ra, da_len rq]; exact hz), q _ S' _ ((E.grow g).mut hd hv' (da_append ra rq))⟩)
theorem xs_insert0 (i : Nat) {j0} {p0 : Pos} (he : XV X e ds d) (hd : ds[i]? = some (.ow xs) := by rfl) (hz : xs.length < 100000) (hN : X.N[i]? = some x := by rfl) (hv : Vis X.env.scope x := by first | exact Or.inl rfl | exact Or.inr (Or.inl rfl) | exact Or.inr (Or.inr rfl))
    (h1 : (x == ("__debug__" : Str)) = false := by decide) (h2 : (x == ("__classdict__" : Str)) = false := by decide) (hbase : attributeBase (.Name x px) "insert" X.env (eval (.Name x px) X.env) = eval (.Name x px) X.env := by rfl)
    {pc : Pos} (hfew : ((backTo pc (starEach [.Constant (.int 0) j0 p0, e] X.env)).all (fun x => !x.1) && (backToKw pc (keywordEach [] X.env)).all (fun x => x.1.isSome) && decide (([.Constant (.int 0) j0 p0, e] : List Expr).length + ([] : List Keyword).length + (if ([] : List Keyword).isEmpty then 0 else 1) < 30)) = true := by exact sfew rfl (by decide))
    (hline : (pa.endLine == pc.line) = true := by rfl) (hs0 : starEach [.Constant (.int 0) j0 p0, e] X.env = (false, eval (.Constant (.int 0) j0 p0) X.env) :: starEach [e] X.env := by exact se rfl) (hs : starEach [e] X.env = (false, eval e X.env) :: starEach [] X.env := by exact se rfl) (hplain : (backTo pc (starEach [e] X.env)).any (·.1) = false := by exact spl rfl)
    (hsw : swapsWith (.Call (.Attribute (.Name x px) "insert" pa) [.Constant (.int 0) j0 p0, e] [] pc) none pos.line X.env = pure false := by rfl) :
    XS X W (.Expr (.Call (.Attribute (.Name x px) "insert" pa) [.Constant (.int 0) j0 p0, e] [] pc) pos) ds (.nx (ds.set i (.ow (d :: xs)))) := .mk fun G S0 S H σ E Z q =>
  ws_of (ps_expr pe_w hsw) (bm_own i PySem.F.slot_list_insert PySem.F.type_list_insert (fun pins s σ H x xs v us Q I rx rv h => mt_insert pins s σ H x xs v us Q I rx rv h) (xa_cons xv_int (xa_cons he xa_nil hs) hs0) hd hN hv h1 h2 hbase hfew hline hs0 hplain E fun p vs ws S' H' g hv' hp sp gp ra rb => by
    cases rb with
    | cons r rn =>
      cases r
      cases rn with
      | cons r rn =>
        cases rn
        exact ⟨p, vs, 0, _, rfl, rfl, hp, szlt _ (by rw [da_len ra]; exact hz), by decide, by decide, q _ S' _ ((E.grow g).mut hd hv' (.cons r ra))⟩)
/-- y = xs.pop() -/
theorem xs_pop (i k : Nat) {y : Str} {py : Pos} {ev : D} (hNd : X.N.Nodup) (hik : i ≠ k) (hd : ds[i]? = some (.ow xs) := by rfl) (hl : xs.getLast? = some ev) (hN : X.N[i]? = some x := by rfl) (hv : Vis X.env.scope x := by first | exact Or.inl rfl | exact Or.inr (Or.inl rfl) | exact Or.inr (Or.inr rfl))
    (h1 : (x == ("__debug__" : Str)) = false := by decide) (h2 : (x == ("__classdict__" : Str)) = false := by decide) (hbase : attributeBase (.Name x px) "pop" X.env (eval (.Name x px) X.env) = eval (.Name x px) X.env := by rfl)
    {pc : Pos} (hline : (pa.endLine == pc.line) = true := by rfl) (hi : X.N[k]? = some y := by rfl) (hx : Loc X.env.scope y := by first | exact Or.inl rfl | exact Or.inr rfl) (hs : swapsWith (.Call (.Attribute (.Name x px) "pop" pa) [] [] pc) (some (.Name y py)) pos.line X.env = pure false := by rfl)
    (hf : X.fn y = true ∨ X.env.scope.names.lookup y = some .local := by first | exact .inl rfl | exact .inr rfl) :
    XS X W (.Assign [.Name y py] (.Call (.Attribute (.Name x px) "pop" pa) [] [] pc) pos) ds (.nx ((ds.set i (.ow xs.dropLast)).set k (.fz ev))) := .mk fun G S0 S H σ E Z q => by
  obtain ⟨p, vs, hv', hp, sp, gp, ra⟩ := E.ow hd
  refine ws_of (ps_set hNd hi hx (pe_bm0 PySem.F.plainAttrs_list PySem.F.slot_list_pop PySem.F.type_list_pop (fun pins s σ H x xs v us Q I rx rv h => mt_pop pins s σ H x xs v us Q I rx rv h) (pe_var (i := i) hN hv h1 h2) hbase hline) hs hf) ⟨.ref p, hv', ty_list hp, ?_⟩
  rw [List.getLast?_eq_getElem?] at hl
  obtain ⟨w, hw, rw'⟩ := da_get ra hl
  rw [← da_len ra] at hw
  exact ⟨p, vs, w, rfl, rfl, hp, hw, q _ S _ ((E.mut hd hv' (da_dropLast ra)).putD k rw')⟩
end
/-- xs[k] = e -/
theorem xs_setix (i : Nat) {x : Str} {px : Pos} {k : Int} {j : Nat} (he : XV X e ds d) (hb : XV X b ds (.int k)) (hd : ds[i]? = some (.ow xs) := by rfl) (hj : ixN xs.length k = some j) (hN : X.N[i]? = some x := by rfl) (hv : Vis X.env.scope x := by first | exact Or.inl rfl | exact Or.inr (Or.inl rfl) | exact Or.inr (Or.inr rfl))
    (h1 : (x == ("__debug__" : Str)) = false := by decide) (h2 : (x == ("__classdict__" : Str)) = false := by decide) {pt : Pos}
    (ha : ∀ v, assign (.Subscript (.Name x px) b pt) X.env v = (do
      let ov ← holding [v] (eval (.Name x px) X.env)
      let iv ← holding [v, ov] (eval b X.env)
      standAt pt
      holding [v, ov, iv] (setItem ov iv v)
      release [v, ov, iv] []) := by intro _; rfl)
    (hs : swapsWithSole [.Subscript (.Name x px) b pt] e pos.line X.env = pure false := by rfl) (hw : swappedStores [.Subscript (.Name x px) b pt] e X.env = pure none := by rfl)
    (h3 : (assignEach [.Subscript (.Name x px) b pt] X.env).map (·.2) = [assign (.Subscript (.Name x px) b pt) X.env] := by rfl) :
    XS X W (.Assign [.Subscript (.Name x px) b pt] e pos) ds (.nx (ds.set i (.ow (xs.set j d)))) := .mk fun G S0 S H σ E Z q =>
  ws_of (ps_asg pe_w (pg_sub (pe_var (i := i) hN hv h1 h2) pe_w set_list ha) hs hw h3) (he G S0 S H σ E _ fun v S' H' g r => by
    have E' := E.grow g
    obtain ⟨p, vs, hv', hp, sp, gp, ra⟩ := E'.ow hd
    refine ⟨.ref p, hv', hb G S0 S' H' σ E' _ fun kv S2 H2 g2 rk => ?_⟩
    cases rk
    exact ⟨p, vs, k, j, rfl, rfl, g2.h _ _ hp, by rw [da_len ra]; exact hj, q _ S2 _ ((E'.grow g2).mut hd hv' (da_set j (da_same g2.s ra) (dp_same g2.s r)))⟩)

/-! ### what is walked -/
def Wk (K : Fg) (J : L2.It) (xs : List D) (S : Hp) : Prop := ∀ (i : Nat) (S2 H2 : Hp), Same S S2 → Same S2 H2 → (i < xs.length → J.go i H2 ∧ ∀ x H3, J.yld i H2 x H3 → H3 = H2 ∧ ∃ d, xs[i]? = some d ∧ Rp K S2 x d) ∧ (xs.length ≤ i → J.stop i H2)
def wI (X : Cx) (tg iter : Expr) : TI := fun σ H R => ∀ pins s, Inv X pins σ H s → wpAny (model X.prog X.w) X.A (eval iter X.env) (fun v s1 => wpAny (model X.prog X.w) X.A (pyIter v) (PIE X pins σ tg R) X.xe s1) X.xe s
theorem pi_w : PI X tg iter (wI X tg iter) := ⟨fun pins s _ _ _ I h => h pins s I⟩
theorem wi_of {wi : TI} (h : PI X tg iter wi) {σ : St} {H : Hp} {R : L2.It → Hp → Prop} (q : wi σ H R) : wI X tg iter σ H R := fun pins s I => h.run pins s σ H R I q
structure XI (X : Cx) (tg iter : Expr) (ds : List It) (xs : List D) : Prop where
  mk ::
  run : ∀ G S0 S H σ, Env X.K G S0 S H σ ds → ∀ R : L2.It → Hp → Prop, (∀ J S' H', Gr S H S' H' → Wk X.K J xs S' → R J H') → wI X tg iter σ H R
instance {X : Cx} {tg iter : Expr} {ds : List It} {xs : List D} : CoeFun (XI X tg iter ds xs) (fun _ => ∀ G S0 S H σ, Env X.K G S0 S H σ ds → ∀ R : L2.It → Hp → Prop, (∀ J S' H', Gr S H S' H' → Wk X.K J xs S' → R J H') → wI X tg iter σ H R) := ⟨XI.run⟩
theorem xi_list (ha : XV X iter ds (.lst xs)) : XI X tg iter ds xs := .mk fun G S0 S H σ E R q =>
  wi_of (pi_list pe_w) (ha G S0 S H σ E _ fun v S' H' g r => by
    cases r with
    | @lst a vs _ h ra =>
      refine ⟨a, rfl, ⟨vs, sq_of (g.sh _ _ h)⟩, q _ S' H' g fun i S2 H2 k1 k2 => ?_⟩
      have sq : SqL X.K H2 a vs := sq_of (k2 _ _ (k1 _ _ h))
      refine ⟨fun hi => ?_, fun hi => ⟨vs, sq, by rw [da_len ra]; exact hi⟩⟩
      obtain ⟨v, hv, rv⟩ := da_get ra (List.getElem?_eq_getElem hi)
      refine ⟨⟨vs, v, sq, hv⟩, fun x H3 hy => ?_⟩
      obtain ⟨e, hy⟩ := hy
      have z := hy vs sq
      rw [hv] at z
      cases z
      exact ⟨e, _, List.getElem?_eq_getElem hi, dp_same k1 rv⟩)
theorem xi_tup (ha : XV X iter ds (.tup xs)) : XI X tg iter ds xs := .mk fun G S0 S H σ E R q =>
  wi_of (pi_tup pe_w) (ha G S0 S H σ E _ fun v S' H' g r => by
    cases r with
    | @tup a vs _ h ra =>
      refine ⟨a, rfl, ⟨vs, st_of (g.sh _ _ h)⟩, q _ S' H' g fun i S2 H2 k1 k2 => ?_⟩
      have sq : SqT X.K H2 a vs := st_of (k2 _ _ (k1 _ _ h))
      refine ⟨fun hi => ?_, fun hi => ⟨vs, sq, by rw [da_len ra]; exact hi⟩⟩
      obtain ⟨v, hv, rv⟩ := da_get ra (List.getElem?_eq_getElem hi)
      refine ⟨⟨vs, v, sq, hv⟩, fun x H3 hy => ?_⟩
      obtain ⟨e, hy⟩ := hy
      have z := hy vs sq
      rw [hv] at z
      cases z
      exact ⟨e, _, List.getElem?_eq_getElem hi, dp_same k1 rv⟩)
/-- 0, 1, .. -/
def rngD (n : Nat) : List D := (List.range n).map fun (i : Nat) => D.int (i : Int)
theorem xi_range {p pr : Pos} {n : Int} (hm : X.mg "range" = none) (ha : XV X a ds (.int n)) (h1 : -(2 ^ 62) ≤ n) (h2 : n < 2 ^ 62) (hg : Gl X "range" := by rfl) (hs : starEach [a] X.env = [(false, eval a X.env)] := by exact se rfl) :
    XI X tg (.Call (.Name "range" p) [a] [] pr) ds (rngD n.toNat) := .mk fun G S0 S H σ E R q =>
  wi_of (pi_range1 hg hm (pa_cons pe_w pa_nil hs) hs) (ha G S0 S H σ E _ fun v S' H' g r => by
    cases r
    refine ⟨n, rfl, h1, h2, q _ S' H' g fun i S2 H2 k1 k2 => ?_⟩
    have len : (rngD n.toNat).length = n.toNat := by simp [rngD]
    rw [len]
    refine ⟨fun hi => ⟨hi, fun x H3 hy => ?_⟩, fun hi => hi⟩
    obtain ⟨e1, e2⟩ := hy
    subst e1 e2
    refine ⟨rfl, .int i, by simp [rngD, hi], ?_⟩
    rw [Int.zero_add]
    exact .int _)

/-! ### for -/
theorem Env.rebase {K : Fg} {G S0 S H : Hp} {σ : St} {ds : List It} (e : Env K G S0 S H σ ds) : Env K G S S H σ ds :=
  let ⟨A, e⟩ := e; ⟨A, e.sh, e.gh, Same.refl _, fun _ _ => rfl, e.len, e.it, e.nd, e.dj, e.fr⟩
theorem Env.base {K : Fg} {G S0 S1 S H : Hp} {σ : St} {ds : List It} (e : Env K G S1 S H σ ds) (k : Same S0 S1) (gs : ∀ a, G a ≠ none → S1 a = S0 a) : Env K G S0 S H σ ds :=
  let ⟨A, e⟩ := e; ⟨A, e.sh, e.gh, k.trans e.s0, fun a ha => (e.gs a ha).trans (gs a ha), e.len, e.it, e.nd, e.dj, e.fr⟩
theorem Fnl.base {G S0 S1 S H : Hp} (e : Fnl G S1 S H) (k : Same S0 S1) (gs : ∀ a, G a ≠ none → S1 a = S0 a) : Fnl G S0 S H := ⟨e.sh, e.gh, k.trans e.s0, fun a ha => (e.gs a ha).trans (gs a ha)⟩
theorem PostS.base {K : Fg} {W : WX} {G S0 S1 : Hp} {Z : Ends} {o : Ou} (q : PostS K W G S0 Z o) (k : Same S0 S1) (gs : ∀ a, G a ≠ none → S1 a = S0 a) : PostS K W G S1 Z o := by
  cases o with
  | nx ds => exact fun σ S H E => q σ S H (E.base k gs)
  | bk ds => exact fun σ S H E => q σ S H (E.base k gs)
  | ct ds => exact fun σ S H E => q σ S H (E.base k gs)
  | rt d => exact fun v S H E => q v S H (E.base k gs)
  | rs d it => exact fun v σ S H ds E => q v σ S H ds (E.base k gs)
  | er c => exact fun σ S H E => q σ S H (E.base k gs)
  | es c ds => exact fun σ S H E => q σ S H (E.base k gs)
def brk : Ou → Ou
  | .bk ds => .nx ds
  | o => o
def turns : Ou → Option (List It)
  | .nx ds => some ds
  | .ct ds => some ds
  | _ => none
inductive Fr (X : Cx) (W : WX) (tg : Expr) (body : List Stmt) : List D → List It → Ou → Prop where
  | nil {ds : List It} : Fr X W tg body [] ds (.nx ds)
  | step {d : D} {xs : List D} {ds ds1 a b : List It} {o o' : Ou} : XG X tg d ds ds1 → XSs X W body ds1 o' → turns o' = some a → Le a b → Fr X W tg body xs b o → Fr X W tg body (d :: xs) ds o
  | out {d : D} {xs : List D} {ds ds1 : List It} {o : Ou} : XG X tg d ds ds1 → XSs X W body ds1 o → turns o = none → Fr X W tg body (d :: xs) ds (brk o)
theorem xs_for (hp : PassesOwn (model X.prog X.w) X.A X.env X.xe) (hc : X.calm = true) (hi : XI X tg iter ds xs) (hf : Fr X W tg body xs ds o) (hs : ∀ x, foldedSetIterable iter X.env x = pure x := by intro _; rfl) :
    XS X W (.For tg iter body [] pos) ds o := .mk fun G S0 S H σ E Z q =>
  ws_of (ps_for hp hc pi_w pg_w pss_w hs) (hi G S0 S H σ E _ fun J S1 H1 g wk => by
    refine ⟨fun i m σ H => m = xs.length - i ∧ i ≤ xs.length ∧ ∃ S ds', Same S1 S ∧ Env X.K G S0 S H σ ds' ∧ Fr X W tg body (xs.drop i) ds' o, ⟨xs.length, by simp, Nat.zero_le _, S1, ds, Same.refl _, E.grow g, hf⟩, ?_⟩
    rintro i m σ2 H2 ⟨rfl, hi, S2, ds2, k, E2, F⟩
    obtain ⟨w1, w2⟩ := wk i S2 H2 k E2.sh
    by_cases hlt : i < xs.length
    · obtain ⟨go, y⟩ := w1 hlt
      rw [List.drop_eq_getElem_cons hlt] at F
      refine .inr ⟨go, fun σ' H' => ∃ S ds', Same S1 S ∧ Env X.K G S0 S H' σ' ds' ∧ Fr X W tg body (xs.drop (i + 1)) ds' o, fun σ' H' ⟨S', ds', h1, h2, h3⟩ => ⟨xs.length - (i + 1), by omega, rfl, hlt, S', ds', h1, h2, h3⟩, fun x H3 hy => ?_⟩
      obtain ⟨rfl, d, hd, r⟩ := y x H3 hy
      rw [List.getElem?_eq_getElem hlt] at hd
      have hd' := Option.some.inj hd
      subst hd'
      cases F with
      | @step _ _ _ ds3 a b _ o' hg hb ht hl F =>
        refine hg G S0 S2 _ σ2 x E2 r _ fun σ' E' => hb G S2 S2 _ σ' E'.rebase _ ?_
        -- the end of a turn: only later states
        cases o' with
        | nx z => cases ht; exact fun σ'' S'' H'' E'' => ⟨S'', b, k.trans E''.s0, hl _ _ _ _ _ _ (E''.base E2.s0 E2.gs), F⟩
        | ct z => cases ht; exact fun σ'' S'' H'' E'' => ⟨S'', b, k.trans E''.s0, hl _ _ _ _ _ _ (E''.base E2.s0 E2.gs), F⟩
        | _ => cases ht
      | out hg hb ht =>
        refine hg G S0 S2 _ σ2 x E2 r _ fun σ' E' => hb G S0 S2 _ σ' E' _ ?_
        rename_i o'
        cases o' with
        | nx z => cases ht
        | ct z => cases ht
        | _ => exact q
    · have e : i = xs.length := by omega
      subst e
      rw [List.drop_length] at F
      cases F
      exact .inl ⟨w2 (Nat.le_refl _), q σ2 S2 H2 E2⟩)
/-! ### while -/
inductive Wh (X : Cx) (W : WX) (c : Expr) (body : List Stmt) : Nat → List It → Ou → Prop where
  | stop {ds : List It} : XT X c ds false → Wh X W c body 0 ds (.nx ds)
  | out {ds : List It} {o : Ou} : XT X c ds true → XSs X W body ds o → turns o = none → Wh X W c body 0 ds (brk o)
  | step {n : Nat} {ds a b : List It} {o o' : Ou} : XT X c ds true → XSs X W body ds o' → turns o' = some a → Le a b → Wh X W c body n b o → Wh X W c body (n + 1) ds o
theorem xs_while {n : Nat} (hp : PassesOwn (model X.prog X.w) X.A X.env X.xe) (hw : Wh X W c body n ds o) : XS X W (.While c body [] pos) ds o := .mk fun G S0 S H σ E Z q =>
  ws_of (ps_while hp pt_w pss_w) ⟨fun m σ H => ∃ S ds', Env X.K G S0 S H σ ds' ∧ Wh X W c body m ds' o, ⟨n, S, ds, E, hw⟩, by
    rintro m σ1 H1 ⟨S1, ds1, E1, h⟩
    cases h with
    | stop hc =>
      refine hc G S0 S1 H1 σ1 E1 _ fun S' H' g => ?_
      rw [if_neg Bool.false_ne_true]
      exact q σ1 S' H' (E1.grow g)
    | @out _ o' hc hb ht =>
      refine hc G S0 S1 H1 σ1 E1 _ fun S' H' g => ?_
      rw [if_pos rfl]
      refine ⟨fun _ _ => False, fun _ _ z => z.elim, hb G S0 S' H' σ1 (E1.grow g) _ ?_⟩
      cases o' with
      | nx z => cases ht
      | ct z => cases ht
      | _ => exact q
    | @step n _ a b _ o' hc hb ht hl h =>
      refine hc G S0 S1 H1 σ1 E1 _ fun S' H' g => ?_
      rw [if_pos rfl]
      refine ⟨fun σ' H' => ∃ S ds', Env X.K G S0 S H' σ' ds' ∧ Wh X W c body n ds' o, fun σ' H' z => ⟨n, Nat.lt_succ_self n, z⟩, hb G S0 S' H' σ1 (E1.grow g) _ ?_⟩
      cases o' with
      | nx z => cases ht; exact fun σ'' S'' H'' E'' => ⟨S'', b, hl _ _ _ _ _ _ E'', h⟩
      | ct z => cases ht; exact fun σ'' S'' H'' E'' => ⟨S'', b, hl _ _ _ _ _ _ E'', h⟩
      | _ => cases ht⟩
end
end Lay
/-! Lay6: raise, try, defs and their calls. -/
namespace Lay
open PySem L2
/-! ### raise -/
/-- an error class of the program: X at C, below ValueError -/
structure EC (K : Fg) (mg : Str → Option Value) (x : Str) (C : Addr) : Prop where
  g : mg x = some (.ref C)
  q : PySem.W.excIn K C [.type "ValueError", .type "Exception", .type "BaseException", .type "object"] "ValueError.__new__" = true
  kp : PySem.W.keepIn K (.ref C) = true
  b : PySem.W.subIn K (.ref C) (.type "BaseException") = some true
  t : PySem.W.typeIn K (.ref C) = some (.type "type")
section
variable {X : Cx} {W : WX} {e a b c : Expr} {st : Stmt} {sts rest body : List Stmt} {ds ds' ds1 : List It} {o : Ou} {pos : Pos} {d : D} {xs ys : List D}
theorem xs_raise {x m : Str} {C : Addr} {j : Nat} {p p2 p3 : Pos} (hc : X.calm = true) (tk : Takes X W) (T : EC X.K X.mg x C) (hg : Gl X x := by rfl) (hdb : (x == ("__debug__" : Str)) = false := by decide) :
    XS X W (.Raise (some (.Call (.Name x p) [.Constant (.str m) j p2] [] p3)) none pos) ds (.es C ds) := .mk fun G S0 S H σ E Z q =>
  ws_of (ps_raise hc tk (pmk_own PySem.F.excBase_ValueError T.q T.g T.kp (raises_own T.b T.t) hg hdb)) (q σ S H E)

/-! ### try -/
/-- an object that came since the def's entry, and is no frame, is tracked from now on -/
theorem inv_track {pins : List (Addr × Obj)} {σ : L2.St} {H : Hp} {s : Shared} {a : Addr} {u : HO} (I : Inv X pins σ H s) (hH : H a = none) (hnew : X.s_0.heap.get? a = none) (hL : a ≠ X.env.locals) (hC : ∀ y k, X.env.cells.lookup y = some k → k ≠ a)
    (hP : ∀ p ∈ X.pn ++ pins, p.1 ≠ a) (ok : ObjOk X.prog X.w (upd H a u) s.heap a u) : Inv X pins σ (upd H a u) s where
  ok := I.ok
  os := I.os
  bare := I.bare
  base := by
    have far : ∀ {k : Addr} {w : Obj}, X.s_0.heap.get? k = some w → k ≠ a := fun {k w} q z => by rw [z, hnew] at q; cases q
    refine ⟨I.base.keep, I.base.slot, fun k w q n nx => ?_, I.base.there, fun k w q => ?_, fun k w z q => ?_, fun k w q => ?_⟩
    · rw [upd_ne (far q)]; exact I.base.free k w q n nx
    · have r := I.base.tups k w q
      rw [upd_ne (ne_of_none r hH)]; exact r
    · have r := I.base.frzs k w z q
      rw [upd_ne (ne_of_none r hH)]; exact r
    · obtain ⟨m, r⟩ := I.base.tbls k w q
      exact ⟨m, by rw [upd_ne (ne_of_none r hH)]; exact r⟩
  loc := I.loc
  cell := I.cell
  free := by rw [upd_ne (Ne.symm hL)]; exact I.free
  freeC := fun y k q => by rw [upd_ne (hC y k q)]; exact I.freeC y k q
  pin := fun p hp => by
    obtain ⟨q1, q2, q3⟩ := I.pin p hp
    exact ⟨q1, by rw [upd_ne (hP p hp)]; exact q2, q3⟩
  hok := fun k w q => by
    by_cases z : k = a
    · subst z; rw [upd_same] at q; cases q; exact ok
    · rw [upd_ne z] at q
      refine (I.hok k w q).stay (fun _ _ _ r => r) (fun y r => ?_) fun y ys r => ?_
      · rw [upd_ne (ne_of_none r hH)]; exact r
      · rw [upd_ne (ne_of_none r hH)]; exact r
  len := I.len
/-- what a try whose clause keeps the exception wishes: slot i is the clause's name -/
def wKeep (K : Fg) (c : Value) (i : Nat) (ts : TS) (Z : Ends) : WX := fun cls d σ H =>
  ∃ C, cls = .ref C ∧ d = none ∧ PySem.W.exmOne K cls c = some true ∧ ∀ a, H a = none →
    ts { nx := fun σ' H' => Z.nx (σ'.set i none) H', rt := Z.rt, bk := fun σ' H' => Z.bk (σ'.set i none) H', ct := fun σ' H' => Z.ct (σ'.set i none) H' } (σ.set i (some (.ref a))) (upd H a (ExT C a))
theorem ps_try_keep {x n : Str} {cv : Value} {i : Nat} {suite : List Stmt} {b0 : Stmt} {np pt : Pos} {tb : WX → TS} {ts : TS} (hs : X.stack = X.env :: X.outer) (hf : X.env.frame = some X.env.locals) (hex0 : X.ex = []) (hN : X.N.Nodup) (hi : X.N[i]? = some n)
    (hln : X.env.kindOf n = some .local) (hcn : Names X x cv)
    (hb : ∀ (V : WX) (pn : List (Addr × Obj)) (xe : Value → Shared → Prop), Takes (X.tr pn xe) V → PassesOwn (model X.prog X.w) X.A X.env xe → PSs (X.tr pn xe) body (tb V))
    (hsu : ∀ (a : Addr) (pn : List (Addr × Obj)), PSs (X.suite a pn) (b0 :: suite) ts) :
    PS X (.Try body [.ExceptHandler (some (.Name x np)) (some n) (b0 :: suite) pt] [] [] pos) (fun Z σ H => tb (wKeep X.K cv i ts Z) Z σ H) := by
  constructor
  intro pins s σ H Z I hw
  have hfr : X.A.frames = some (X.env :: X.outer) := I.ok.frames.trans (by rw [hs])
  apply wpAny_Try_except
  have run := (hb (wKeep X.K cv i ts Z) (X.pn ++ pins) (fun x1 z1 => wpAny (model X.prog X.w) X.A (noteFrame x1 X.env)
      (fun _ z2 => wpAny (model X.prog X.w) X.A (setFlight x1 none) (fun _ z3 => wpAny (model X.prog X.w) X.A
        (handleBy x1 X.env [.ExceptHandler (some (.Name x np)) (some n) (b0 :: suite) pt]) (SP X pins Z) X.xe z3) X.xe z2) X.xe z1)
    (fun u sx hx => ?_) PassesOwn.looking).run [] s σ H Z (I.toTry _) hw
  · refine wpAny_mono run (fun f s1 q => ?_) fun _ _ q => q
    cases f with
    | next => obtain ⟨σ1, H1, J, q⟩ := q; exact wpAny_execs_nil ⟨σ1, H1, J.ofTry I.ok, q⟩
    | brk => obtain ⟨σ1, H1, J, q⟩ := q; exact ⟨σ1, H1, J.ofTry I.ok, q⟩
    | cont => obtain ⟨σ1, H1, J, q⟩ := q; exact ⟨σ1, H1, J.ofTry I.ok, q⟩
    | ret u => obtain ⟨v, σ1, H1, J, r, q⟩ := q; exact ⟨v, σ1, H1, J.ofTry I.ok, r, q⟩
  · obtain ⟨a, B, sI, pl, σ1, H1, cls, dd, rfl, Jt, nb, up, sky, na, hos, hag, C, rfl, rfl, hex, want⟩ := hx
    have J : Inv X pins σ1 H1 sI := Jt.ofTry I.ok
    rw [show (X.tr (X.pn ++ pins) _).stack = X.env :: X.outer from hs] at sky
    refine Sky.land Zc.steady hfr hf sky fun h3 fl3 up3 => ?_
    have nofr : ∀ {h : Heap} {w : Obj} {vs : Array Value}, h.FunFrames B (X.env :: X.outer) → h.get? a = some w → w.data = .fields vs → a ∉ frs (X.env :: X.outer) := fun {h w vs} ff q z hm => by
      obtain ⟨_, w', q', hnf⟩ := ff.mem hm
      rw [q] at q'; cases q'
      exact hnf _ z
    obtain ⟨oe3, vs3, T3, oT3, ts3, he3, hz3, hd3, h13, hT3⟩ := id fl3.2.2.2
    have nfr := nofr fl3.2.2.1 he3 hd3
    have freshI : sI.heap.get? a = none := by
      cases q : sI.heap.get? a with
      | none => rfl
      | some w =>
        have z := nb a w q (by rw [show (X.tr (X.pn ++ pins) _).stack = X.env :: X.outer from hs]; exact nfr)
        rw [fl3.2.1] at z; cases z
    have nL : a ≠ X.env.locals := fun z => nfr (List.mem_filterMap.mpr ⟨X.env, List.mem_cons_self, by rw [hf, z]⟩)
    have fresh0 : X.s_0.heap.get? a = none := by
      cases q : X.s_0.heap.get? a with
      | none => rfl
      | some w =>
        obtain ⟨w', q'⟩ := J.base.there a w q (by rw [hex0]; exact List.not_mem_nil)
        rw [freshI] at q'; cases q'
    have nC : ∀ y k, X.env.cells.lookup y = some k → k ≠ a := fun y k q z => by
      obtain ⟨v, w, r, _⟩ := J.cell y k q
      rw [z, freshI] at r; cases r
    have nP : ∀ p ∈ X.pn ++ pins, p.1 ≠ a := fun p hp z => by
      have r := (J.pin p hp).1
      rw [z, freshI] at r; cases r
    have lift : ∀ {h : Heap}, HandSPX.FlyingZ B (X.env :: X.outer) a (Zc (.ref C) none) h → sx.heap.UpToSlots h → Inv X pins σ1 (upd H1 a (ExT C a)) { sx with heap := h } := fun {h} fl u => by
      have L := J.landed (s' := { sx with heap := h }) (fun k w q hk => nb k w q hk) fl.1 (up.trans u) hos hag
      obtain ⟨oe, vs, T, oT, tss, he, hz, hd, _⟩ := id fl.2.2.2
      refine inv_track L na fresh0 nL nC nP ⟨⟨oe, vs, he, hz, hd⟩, ⟨oe, he⟩, fun h1 h2 ⟨oe', vs', r1, r2, r3⟩ k => ⟨oe', vs', k _ r1, r2, r3⟩⟩
    have suiteI : ∀ {τ : L2.St} {F : Hp} {z : Shared}, Inv X pins τ F z → Inv (X.suite a (X.pn ++ pins)) [] τ F z := fun {τ F z} Q =>
      ⟨Q.ok.suite _ _, Q.os, Q.bare, Q.base, Q.loc, Q.cell, Q.free, Q.freeC, fun p hp => Q.pin p (by rwa [List.append_nil] at hp), Q.hok, Q.len⟩
    have backI : ∀ {τ : L2.St} {F : Hp} {z : Shared}, Inv (X.suite a (X.pn ++ pins)) [] τ F z → Inv X pins τ F z := fun {τ F z} Q =>
      ⟨I.ok, Q.os, Q.bare, Q.base, Q.loc, Q.cell, Q.free, Q.freeC, fun p hp => Q.pin p (List.mem_append_left _ hp), Q.hok, Q.len⟩
    have I3 := lift fl3 up3
    have tyL : PySem.W.Looks (model X.prog X.w) h3 (typeOf (.ref a)) (.ref C) := fun _ _ _ _ kk qq => wpAny_typeOf_ref (kk _ _ he3) (by rw [hz3.1]; exact qq)
    have mt := PySem.W.exm_one (M := model X.prog X.w) I3.kIn tyL hex
    apply wpAny_handleBy_cons (codeAny_handlers_test _) (by intro q; cases q)
    have test : ∀ {Q : Value → Shared → Prop} {E : Value → Shared → Prop}, Q cv { sx with heap := h3 } → wpAny (model X.prog X.w) (X.A.mark (some (.ref a))) (eval (.Name x np) X.env) Q E { sx with heap := h3 } := fun {Q E} q => by
      obtain ⟨hg, hdb, hm | ⟨hm, hv, hnn⟩⟩ := hcn
      · exact ld_glob (X := X.suite a (X.pn ++ pins)) (suiteI I3) hg hm q hdb
      · exact ld_blt (X := X.suite a (X.pn ++ pins)) (suiteI I3) hg hm hv q hnn hdb
    refine test (mt.here ?_)
    apply codeAny_handlers_suite_as
    refine HandSPX.lands_againZ fl3 fun h4 fl4 up4 => ?_
    refine store_ok (X := X.suite a (X.pn ++ pins)) (v := .ref a) (suiteI (lift fl4 (up3.trans up4))) hN hi (.inl hln) rfl (fun s5 I5 => ?_) (.inr hln)
    refine wpAny_mono ((hsu a (X.pn ++ pins)).run [] s5 _ _ _ I5 (want a na)) (fun f s6 q => ?_) fun _ _ z => False.elim z
    cases f with
    | next => obtain ⟨τ, F, Q, q⟩ := q; exact gone_ok (backI Q) hN hi hln fun s7 Q7 => ⟨_, _, Q7, q⟩
    | brk => obtain ⟨τ, F, Q, q⟩ := q; exact gone_ok (backI Q) hN hi hln fun s7 Q7 => ⟨_, _, Q7, q⟩
    | cont => obtain ⟨τ, F, Q, q⟩ := q; exact gone_ok (backI Q) hN hi hln fun s7 Q7 => ⟨_, _, Q7, q⟩
    | ret u => obtain ⟨v, τ, F, Q, r, q⟩ := q; exact gone_ok (backI Q) hN hi hln fun s7 Q7 => ⟨_, _, _, Q7, r, q⟩

/-- try: body / except x as n: kept = n: the exception's class is known; kept is slot k, n slot i -/
theorem xs_try {x n y : Str} {cv : Value} {i k : Nat} {np pt py pn' ps' : Pos} {C : Addr} (hs : X.stack = X.env :: X.outer) (hf : X.env.frame = some X.env.locals) (hex0 : X.ex = []) (hN : X.N.Nodup) (hi : X.N[i]? = some n) (hk : X.N[k]? = some y)
    (hln : X.env.kindOf n = some .local) (hly : X.env.kindOf y = some .local) (hcn : Names X x cv) (hex : PySem.W.exmOne X.K (.ref C) cv = some true)
    (hb : ∀ (V : WX) (pn : List (Addr × Obj)) (xe : Value → Shared → Prop), Takes (X.tr pn xe) V → PassesOwn (model X.prog X.w) X.A X.env xe → XSs (X.tr pn xe) V body ds (.es C ds))
    (h1 : (n == ("__debug__" : Str)) = false := by decide) (h2 : (n == ("__classdict__" : Str)) = false := by decide) (hsw : swapsWith (.Name n pn') (some (.Name y py)) ps'.line X.env = pure false := by rfl) (hik : i < ds.length := by exact Nat.lt_of_lt_of_le (Nat.lt_succ_self _) (Nat.le_of_ble_eq_true rfl)) :
    XS X W (.Try body [.ExceptHandler (some (.Name x np)) (some n) [.Assign [.Name y py] (.Name n pn') ps'] pt] [] [] pos) ds (.nx (((ds.set i (.fz (.exc C))).set k (.fz (.exc C))).set i .no)) := .mk fun G S0 S H σ E Z q => by
  refine ws_of (ps_try_keep (tb := fun V => fun Z σ H => ∀ (pn : List (Addr × Obj)) (xe : Value → Shared → Prop), Takes (X.tr pn xe) V → PassesOwn (model X.prog X.w) X.A X.env xe → wSs (X.tr pn xe) body Z σ H) (ts := tAsg (tVar i) (gName k)) hs hf hex0 hN hi hln hcn
    (fun V pn xe tk hp => ⟨fun pins s σ H Z I w => w pn xe tk hp pins s I⟩)
    (fun a pn => pss_one (ps_set (X := X.suite a pn) hN hk (.inl hly) (pe_var (X := X.suite a pn) hi (.inl hln) h1 h2) hsw (.inr hly)))) ?_
  intro pn xe tk hp
  refine hb _ pn xe tk hp G S0 S H σ E _ fun σ1 S1 H1 E1 => ⟨C, rfl, rfl, hex, fun a na => ?_⟩
  have sna : S1 a = none := E1.sh.free na
  have g : Gr S1 H1 (upd S1 a (ExT C a)) (upd H1 a (ExT C a)) := Gr.new E1.sh na
  have E2 := E1.grow g
  have r : Rp X.K (upd S1 a (ExT C a)) (.ref a) (.exc C) := .exc upd_same
  have hil : i < σ1.length := by rw [E1.len]; exact hik
  refine ⟨.ref a, by rw [List.getElem?_set_self hil], ?_⟩
  exact q _ _ _ (((E2.putD i r).putD k r).put_no i none)
/-- the body goes through -/
theorem xs_try0 {x n y : Str} {cv : Value} {i k : Nat} {np pt py pn' ps' : Pos} (hs : X.stack = X.env :: X.outer) (hf : X.env.frame = some X.env.locals) (hex0 : X.ex = []) (hN : X.N.Nodup) (hi : X.N[i]? = some n) (hk : X.N[k]? = some y)
    (hln : X.env.kindOf n = some .local) (hly : X.env.kindOf y = some .local) (hcn : Names X x cv)
    (hb : ∀ (V : WX) (pn : List (Addr × Obj)) (xe : Value → Shared → Prop), Takes (X.tr pn xe) V → PassesOwn (model X.prog X.w) X.A X.env xe → XSs (X.tr pn xe) V body ds (.nx ds1))
    (h1 : (n == ("__debug__" : Str)) = false := by decide) (h2 : (n == ("__classdict__" : Str)) = false := by decide) (hsw : swapsWith (.Name n pn') (some (.Name y py)) ps'.line X.env = pure false := by rfl) :
    XS X W (.Try body [.ExceptHandler (some (.Name x np)) (some n) [.Assign [.Name y py] (.Name n pn') ps'] pt] [] [] pos) ds (.nx ds1) := .mk fun G S0 S H σ E Z q => by
  refine ws_of (ps_try_keep (tb := fun V => fun Z σ H => ∀ (pn : List (Addr × Obj)) (xe : Value → Shared → Prop), Takes (X.tr pn xe) V → PassesOwn (model X.prog X.w) X.A X.env xe → wSs (X.tr pn xe) body Z σ H) (ts := tAsg (tVar i) (gName k)) hs hf hex0 hN hi hln hcn
    (fun V pn xe tk hp => ⟨fun pins s σ H Z I w => w pn xe tk hp pins s I⟩)
    (fun a pn => pss_one (ps_set (X := X.suite a pn) hN hk (.inl hly) (pe_var (X := X.suite a pn) hi (.inl hln) h1 h2) hsw (.inr hly)))) ?_
  intro pn xe tk hp
  exact hb _ pn xe tk hp G S0 S H σ E _ fun σ1 S1 H1 E1 => q σ1 S1 H1 E1
end

/-! ### defs -/
/-- what a def answers -/
inductive Res where
  | ok (d : D)
  | er (c : Addr)
abbrev Fs := List D → Res → Prop
def PostF (K : Fg) (S H : Hp) (Q : VK) (E : XK) : Res → Prop
  | .ok d => ∀ v S' H', Gr S H S' H' → Rp K S' v d → Q v H'
  | .er c => ∀ S' H', Gr S H S' H' → E (.ref c) none H'
/-- the promise: what F says of the arguments' data -/
def spF (K : Fg) (F : Fs) : Sp := fun vs H Q E => ∃ S args r, Same S H ∧ RpA K S vs args ∧ F args r ∧ PostF K S H Q E r
/-- a body's end and the def's answer -/
def Fits : Ou → Res → Prop
  | .rt d, .ok d' => d = d'
  | .nx _, .ok d' => d' = .non
  | .er c, .er c' => c = c'
  | .es c _, .er c' => c = c'
  | _, _ => False
/-- from a body: F's answer -/
def XF (X : Cx) (W : WX) (body : List Stmt) (ds : List It) (r : Res) : Prop := ∃ o, XSs X W body ds o ∧ Fits o r
/-- a def that is known by its module's name x, at level k -/
structure Df (P : Program) (w : World) (K : Fg) (mg : Str → Option Value) (base : Heap) (x : Str) (k : Nat) (F : Fs) : Prop where
  ex : ∃ f fd ps, mg x = some (.ref f) ∧ PySem.W.keepIn K (.ref f) = true ∧ Binds K fd ps [] ∧ FnOk P w K mg base (L2.CX P w) k f fd ps (spF K F)
/-- the slots at a def's entry -/
def ctx0 (n : Nat) (args : List D) : List It := args.map .fz ++ List.replicate (n - args.length) .no
theorem env_start {K : Fg} {S H : Hp} (k : Same S H) {N : List Str} {vs : List V} {args : List D} (r : RpA K S vs args) : Env K H S S H (L2.start N vs) (ctx0 N.length args) := by
  refine ⟨fun _ => [], k, Same.refl _, Same.refl _, fun _ _ => rfl, ?_, fun i it hi => ?_, fun _ => .nil, fun i j a h => (by cases h), fun i a h => (by cases h)⟩
  · simp [L2.start, ctx0, da_len r]
  · unfold ctx0 at hi
    by_cases h : i < args.length
    · rw [List.getElem?_append_left (by simpa using h), List.getElem?_map] at hi
      rw [List.getElem?_eq_getElem h] at hi
      cases hi
      obtain ⟨v, hv, rv⟩ := da_get r (List.getElem?_eq_getElem h)
      have hl := da_len r
      have e : (L2.start N vs)[i]? = some (some v) := by
        unfold L2.start
        rw [List.getElem?_append_left (by simpa [hl] using h), List.getElem?_map, hv]
        rfl
      rw [e]
      exact .fz rv
    · rw [List.getElem?_append_right (by simpa using h), List.getElem?_replicate] at hi
      split at hi
      · cases hi; exact .no _
      · cases hi
section
variable {P : Program} {w : World} {K : Fg} {mg : Str → Option Value} {base : Heap}
/-- a def by its body -/
theorem fn_ok {x qual : Str} {st : Stmt} {f : Addr} {fd : FuncData} {N ps : List Str} {k : Nat} {F : Fs} (U : Fun K x qual st f fd) (S : FnScope N ps (defScope st)) (len : ∀ args r, F args r → args.length = ps.length)
    (body : ∀ (cdv : Value) (A : Around) (outer : List PySem.Env) (s : Shared) (H : Hp) (E : XK) (args : List D) (r : Res), Room k (A.deeper (PyProof.Rows.envOfC qual (defScope st) s.heap.objs.size f cdv)) → F args r →
      XF (cxOf (L2.CX P w) P w K mg base N qual (defScope st) f cdv A outer s H E) (fun cls d _ H => E cls d H) (defBody st) (ctx0 N.length args) r) : FnOk P w K mg base (L2.CX P w) (k + 1) f fd ps (spF K F) := by
  refine U.okX S (fun vs H Q E ⟨S, args, r, _, ra, hf, _⟩ => (da_len ra).trans (len args r hf)) fun cdv A outer s H vs Q E hr ⟨S, args, r, ks, ra, hf, q⟩ => ?_
  obtain ⟨o, ho, he⟩ := body cdv A outer s H E args r hr hf
  refine ⟨_, pss_w, ho H S S H _ (env_start ks ra) _ ?_⟩
  have gr : ∀ {S' H' : Hp}, Fnl H S S' H' → Gr S H S' H' := fun z => ⟨z.s0, z.gh, z.sh, z.gs⟩
  cases o with
  | nx ds => cases r with
    | ok d => cases he; exact fun σ S' H' z => q .non S' H' (gr z.fin) .non
    | er c => cases he
  | rt d => cases r with
    | ok d' => cases he; exact fun v S' H' z rv => q v S' H' (gr z) rv
    | er c => cases he
  | er c => cases r with
    | ok d => cases he
    | er c' => cases he; exact fun σ S' H' z => q S' H' (gr z)
  | es c ds => cases r with
    | ok d => cases he
    | er c' => cases he; exact fun σ S' H' z => q S' H' (gr z.fin)
  | bk ds => cases r <;> cases he
  | ct ds => cases r <;> cases he
  | rs d it => cases r <;> cases he
end
section
variable {X : Cx} {W : WX} {e : Expr} {es : List Expr} {ds : List It} {pos : Pos} {d : D} {args : List D} {x : Str} {p : Pos} {k : Nat} {F : Fs}
theorem call_any (T : Df X.prog X.w X.K X.mg X.base x k F) (hr : Room k X.A) (tk : Takes X W) (ha : XA X (e :: es) ds args) {r : Res} (hF : F args r) (hg : Gl X x) (hdb : (x == ("__debug__" : Str)) = false)
    (he : starEach (e :: es) X.env = (false, eval e X.env) :: starEach es X.env) (hpl : (backTo pos (starEach es X.env)).any (·.1) = false) {G S0 S H : Hp} {σ : L2.St} (E : Env X.K G S0 S H σ ds) {Q : VK}
    (q : ∀ S1 H1, Gr S H S1 H1 → PostF X.K S1 H1 Q (fun cls d H => W cls d σ H) r) : wE X (.Call (.Name x p) (e :: es) [] pos) σ H Q := by
  obtain ⟨f, fd, ps, hm, hk, hb, fo⟩ := T.ex
  refine we_of (pe_callS fo hr hg hm hk hb (fun σ => passAt tk σ) pa_w hdb he hpl) (ha G S0 S H σ E _ fun vs S1 H1 g r1 => ?_)
  exact ⟨S1, args, r, g.sh, r1, hF, q S1 H1 g⟩
theorem xv_call (T : Df X.prog X.w X.K X.mg X.base x k F) (hr : Room k X.A) (tk : Takes X W) (ha : XA X (e :: es) ds args) (hF : F args (.ok d)) (hg : Gl X x := by rfl) (hdb : (x == ("__debug__" : Str)) = false := by decide)
    (he : starEach (e :: es) X.env = (false, eval e X.env) :: starEach es X.env := by exact se rfl) (hpl : (backTo pos (starEach es X.env)).any (·.1) = false := by exact spl rfl) : XV X (.Call (.Name x p) (e :: es) [] pos) ds d := .mk fun G S0 S H σ E Q q =>
  call_any T hr tk ha hF hg hdb he hpl E fun S1 H1 g v S' H' g' r => q v S' H' (g.trans g') r
theorem xr_call {c : Addr} (T : Df X.prog X.w X.K X.mg X.base x k F) (hr : Room k X.A) (tk : Takes X W) (ha : XA X (e :: es) ds args) (hF : F args (.er c)) (hg : Gl X x := by rfl) (hdb : (x == ("__debug__" : Str)) = false := by decide)
    (he : starEach (e :: es) X.env = (false, eval e X.env) :: starEach es X.env := by exact se rfl) (hpl : (backTo pos (starEach es X.env)).any (·.1) = false := by exact spl rfl) : XR X W (.Call (.Name x p) (e :: es) [] pos) ds c := .mk fun G S0 S H σ E q Q =>
  call_any T hr tk ha hF hg hdb he hpl E fun S1 H1 g S' H' g' => q S' H' (g.trans g')
end
end Lay
/-! Lay7: list comprehensions. -/
namespace Lay
open PySem L2
theorem wipe_at {σ : L2.St} {j : Nat} : ∀ vs : List Nat, (wipe σ vs)[j]? = if j ∈ vs then (σ[j]?.map fun _ => none) else σ[j]?
  | [] => by simp [wipe]
  | v :: vs => by
    have ih := wipe_at (σ := σ) (j := j) vs
    have hl := wipe_length σ vs
    unfold wipe
    by_cases h : v = j
    · subst h
      rw [if_pos List.mem_cons_self]
      by_cases q : v < σ.length
      · rw [List.getElem?_set_self (by rw [hl]; exact q), List.getElem?_eq_getElem q]; rfl
      · rw [List.getElem?_eq_none (by rw [List.length_set, hl]; omega), List.getElem?_eq_none (by omega)]; rfl
    · rw [List.getElem?_set_ne h, ih]
      by_cases z : j ∈ vs
      · rw [if_pos z, if_pos (List.mem_cons_of_mem _ z)]
      · rw [if_neg z, if_neg]
        intro q
        rcases List.mem_cons.mp q with e | e
        · exact h e.symm
        · exact z e
theorem wipe_set {σ : L2.St} {i : Nat} {o : Option V} {vs : List Nat} (h : i ∈ vs) : wipe (σ.set i o) vs = wipe σ vs := by
  apply List.ext_getElem?
  intro j
  rw [wipe_at, wipe_at]
  by_cases z : i = j
  · subst z
    rw [if_pos h, if_pos h]
    by_cases q : i < σ.length
    · rw [List.getElem?_set_self q, List.getElem?_eq_getElem q]; rfl
    · rw [List.set_eq_of_length_le (by omega)]
  · rw [List.getElem?_set_ne z]
theorem wipe_wipe {σ : L2.St} (vs : List Nat) : wipe (wipe σ vs) vs = wipe σ vs := by
  apply List.ext_getElem?
  intro j
  rw [wipe_at, wipe_at]
  split
  · cases σ[j]? <;> rfl
  · rfl
def wipeC (ds : List It) : List Nat → List It
  | [] => ds
  | v :: vs => (wipeC ds vs).set v .no
theorem Env.wipe {K : Fg} {G S0 S H : Hp} {σ : L2.St} {ds : List It} (e : Env K G S0 S H σ ds) : ∀ vs, Env K G S0 S H (L2.wipe σ vs) (wipeC ds vs)
  | [] => e
  | v :: vs => (Env.wipe e vs).put_no v none

abbrev Bk (X : Cx) (scope : Scope) (s : Shared) (H : Hp) (C : Addr) (cl : List (Str × Addr)) (fp : List Addr) : Cx := X.blk s H scope (compEnvC scope cl C X.env) fp
section
variable {X : Cx} {W : WX} {e a b c : Expr} {st : Stmt} {ds ds' ds1 : List It} {o : Ou} {pos : Pos} {d : D} {xs ys : List D} {tg iter elt : Expr} {ifs : List Expr} {scope : Scope} {own : List (Str × Nat)} {vs : List Nat}
/-- a target within a comprehension: its slots are among vs -/
structure XGW (X : Cx) (tg : Expr) (d : D) (ds ds' : List It) (vs : List Nat) : Prop where
  mk ::
  run : ∀ G S0 S H σ v, Env X.K G S0 S H σ ds → Rp X.K S v d → ∀ Q : L2.St → Hp → Prop, (∀ σ', Env X.K G S0 S H σ' ds' → wipe σ' vs = wipe σ vs → Q σ' H) → wG X tg v σ H Q
instance {X : Cx} {tg : Expr} {d : D} {ds ds' : List It} {vs : List Nat} : CoeFun (XGW X tg d ds ds' vs) (fun _ => ∀ G S0 S H σ v, Env X.K G S0 S H σ ds → Rp X.K S v d → ∀ Q : L2.St → Hp → Prop, (∀ σ', Env X.K G S0 S H σ' ds' → wipe σ' vs = wipe σ vs → Q σ' H) → wG X tg v σ H Q) := ⟨XGW.run⟩
structure XGWs (X : Cx) (tgs : List Expr) (xs : List D) (ds ds' : List It) (vs : List Nat) : Prop where
  mk ::
  run : ∀ G S0 S H σ us, Env X.K G S0 S H σ ds → RpA X.K S us xs → ∀ Q : L2.St → Hp → Prop, (∀ σ', Env X.K G S0 S H σ' ds' → wipe σ' vs = wipe σ vs → Q σ' H) → wGs X tgs us σ H Q
instance {X : Cx} {tgs : List Expr} {xs : List D} {ds ds' : List It} {vs : List Nat} : CoeFun (XGWs X tgs xs ds ds' vs) (fun _ => ∀ G S0 S H σ us, Env X.K G S0 S H σ ds → RpA X.K S us xs → ∀ Q : L2.St → Hp → Prop, (∀ σ', Env X.K G S0 S H σ' ds' → wipe σ' vs = wipe σ vs → Q σ' H) → wGs X tgs us σ H Q) := ⟨XGWs.run⟩
theorem xgw_name (i : Nat) {x : Str} {p : Pos} (hN : X.N.Nodup) (hi : X.N[i]? = some x := by rfl) (hx : Loc X.env.scope x := by first | exact Or.inl rfl | exact Or.inr rfl) (hf : X.fn x = true ∨ X.env.scope.names.lookup x = some .local := by first | exact .inl rfl | exact .inr rfl) (hm : i ∈ vs := by simp) :
    XGW X (.Name x p) d ds (ds.set i (.fz d)) vs := .mk fun G S0 S H σ v E r Q q => wg_of (pg_name (i := i) hN hi hx hf) (q _ (E.putD i r) (wipe_set hm))
theorem xgws_nil : XGWs X [] [] ds ds vs := .mk fun G S0 S H σ us E r Q q => by cases r; exact wgs_of pgs_nil ⟨rfl, q σ E rfl⟩
theorem xgws_cons {tg : Expr} {tgs : List Expr} (h1 : XGW X tg d ds ds1 vs) (h2 : XGWs X tgs xs ds1 ds' vs) (hs : (assignEach (tg :: tgs) X.env).map (·.2) = assign tg X.env :: (assignEach tgs X.env).map (·.2) := by rfl) : XGWs X (tg :: tgs) (d :: xs) ds ds' vs := .mk fun G S0 S H σ us E r Q q => by
  cases r with
  | cons r rs => exact wgs_of (pgs_cons pg_w pgs_w hs) ⟨_, _, rfl, h1 G S0 S H σ _ E r _ fun σ' E' w => h2 G S0 S H σ' _ E' rs Q fun σ2 E2 w2 => q σ2 E2 (w2.trans w)⟩
theorem xgw_tup {tgs : List Expr} {k : Nat} {p : Pos} (hc : X.calm = true) (h : XGWs X tgs xs ds ds' vs) (hn : (assignEach tgs X.env).length = xs.length := by rfl) (hst : (assignEach tgs X.env).findIdx? (·.1) = none := by rfl) : XGW X (.Tuple tgs k p) (.tup xs) ds ds' vs := .mk fun G S0 S H σ v E r Q q => by
  cases r with
  | tup h1 ra => exact wg_of (pg_tup (n := xs.length) hc pgs_w hn hst) ⟨_, _, rfl, st_of (E.sh _ _ h1), by rw [da_len ra], h G S0 S H σ _ E ra Q q⟩
/-- a clause's tests -/
def wPt (X : Cx) (ifs : List Expr) : TT := fun σ H Q => ∀ pins s, Inv X pins σ H s →
    wpAny (model X.prog X.w) X.A (forIn ifs true fun c r => if r = true then do let ok ← isTrue c X.env (eval c X.env); pure (ForInStep.yield ok) else pure (ForInStep.yield r)) (TP X pins σ Q) X.xe s
structure XTs (X : Cx) (ifs : List Expr) (ds : List It) (k : Bool) : Prop where
  mk ::
  run : ∀ G S0 S H σ, Env X.K G S0 S H σ ds → ∀ Q : Bool → Hp → Prop, (∀ S' H', Gr S H S' H' → Q k H') → wPt X ifs σ H Q
instance {X : Cx} {ifs : List Expr} {ds : List It} {k : Bool} : CoeFun (XTs X ifs ds k) (fun _ => ∀ G S0 S H σ, Env X.K G S0 S H σ ds → ∀ Q : Bool → Hp → Prop, (∀ S' H', Gr S H S' H' → Q k H') → wPt X ifs σ H Q) := ⟨XTs.run⟩
theorem xts_nil : XTs X [] ds true := .mk fun G S0 S H σ E Q q pins s I => pts_nil.run pins s σ H Q I (q S H E.gr)
theorem xts_one {k : Bool} (h : XT X c ds k) : XTs X [c] ds k := .mk fun G S0 S H σ E Q q pins s I => (pts_one pt_w).run pins s σ H Q I (h G S0 S H σ E Q q)
/-- the turns of a comprehension, whatever its frame -/
inductive Lc (X : Cx) (scope : Scope) (vs : List Nat) (tg elt : Expr) (ifs : List Expr) (ds : List It) : List D → List D → Prop where
  | nil : Lc X scope vs tg elt ifs ds [] []
  | cons {d y : D} {xs ys : List D} {ds1 : List It} : (∀ s H C cl fp, XGW (Bk X scope s H C cl fp) tg d ds ds1 vs) → (∀ s H C cl fp, XTs (Bk X scope s H C cl fp) ifs ds1 true) → (∀ s H C cl fp, XV (Bk X scope s H C cl fp) elt ds1 y) →
      Lc X scope vs tg elt ifs ds xs ys → Lc X scope vs tg elt ifs ds (d :: xs) (y :: ys)
  | skip {d : D} {xs ys : List D} {ds1 : List It} : (∀ s H C cl fp, XGW (Bk X scope s H C cl fp) tg d ds ds1 vs) → (∀ s H C cl fp, XTs (Bk X scope s H C cl fp) ifs ds1 false) →
      Lc X scope vs tg elt ifs ds xs ys → Lc X scope vs tg elt ifs ds (d :: xs) ys
theorem Lc.len (h : Lc X scope vs tg elt ifs ds xs ys) : ys.length ≤ xs.length := by
  induction h with
  | nil => simp
  | cons _ _ _ _ ih => simp; exact ih
  | skip _ _ _ ih => simp; omega
def uG (X : Cx) (scope : Scope) (tg : Expr) : TG := fun v σ H Q => ∀ s H0 C cl fp, wG (Bk X scope s H0 C cl fp) tg v σ H Q
def uT (X : Cx) (scope : Scope) (ifs : List Expr) : TT := fun σ H Q => ∀ s H0 C cl fp, wPt (Bk X scope s H0 C cl fp) ifs σ H Q
def uE (X : Cx) (scope : Scope) (elt : Expr) : TE := fun σ H Q => ∀ s H0 C cl fp, wE (Bk X scope s H0 C cl fp) elt σ H Q
theorem wG_all {v : V} {σ : L2.St} {H : Hp} {Q : L2.St → Hp → Prop} (h : ∀ s H0 C cl fp, wG (Bk X scope s H0 C cl fp) tg v σ H Q) : uG X scope tg v σ H Q := h
theorem lc_read (hi : XI X tg iter ds xs) (hl : Lc X scope vs tg elt ifs (wipeC ds vs) xs ys) (hz : xs.length ≤ 100000) {G S0 S H : Hp} {σ : L2.St} (E : Env X.K G S0 S H σ ds) {Q : VK}
    (q : ∀ p us S' H', Gr S H S' H' → H p = none → S' p = none → H' p = some (.lst us) → RpA X.K S' us ys → Q (.ref p) H') : tLc (wI X tg iter) (uG X scope tg) (uT X scope ifs) (uE X scope elt) vs σ H Q :=
  hi G S0 S H σ E _ fun J S1 H1 g1 wk => fun D hD => by
    have sD : S1 D = none := g1.sh.free hD
    refine ⟨fun i m H => m = xs.length - i ∧ i ≤ xs.length ∧ ∃ S us acc rest, Gr S1 H1 S H ∧ S D = none ∧ H D = some (.lst us) ∧ RpA X.K S us acc ∧ Lc X scope vs tg elt ifs (wipeC ds vs) (xs.drop i) rest ∧ acc ++ rest = ys,
      ⟨xs.length, by simp, Nat.zero_le _, S1, [], [], ys, Gr.newH g1.sh hD, sD, upd_same, .nil, hl, rfl⟩, ?_⟩
    rintro i m H2 ⟨rfl, hi, S2, us, acc, rest, g2, s2, h2, ra, F, eq⟩
    obtain ⟨w1, w2⟩ := wk i S2 H2 g2.s g2.sh
    have E2 : Env X.K G S0 S2 H2 (wipe σ vs) (wipeC ds vs) := ((E.grow g1).grow g2).wipe vs
    by_cases hlt : i < xs.length
    · obtain ⟨go, y⟩ := w1 hlt
      rw [List.drop_eq_getElem_cons hlt] at F
      refine .inr ⟨go, fun H' => ∃ S us acc rest, Gr S1 H1 S H' ∧ S D = none ∧ H' D = some (.lst us) ∧ RpA X.K S us acc ∧ Lc X scope vs tg elt ifs (wipeC ds vs) (xs.drop (i + 1)) rest ∧ acc ++ rest = ys,
        fun H' h => ⟨xs.length - (i + 1), by omega, rfl, hlt, h⟩, fun x H3 hy => ?_⟩
      obtain ⟨rfl, d, hd, r⟩ := y x H3 hy
      rw [List.getElem?_eq_getElem hlt] at hd
      have hd' := Option.some.inj hd
      subst hd'
      -- the block's own judgements, whatever its frame
      have glue : ∀ {ds1 : List It} {k : Bool} {R : L2.St → Hp → Prop}, (∀ s H C cl fp, XGW (Bk X scope s H C cl fp) tg xs[i] (wipeC ds vs) ds1 vs) → (∀ σ', Env X.K G S0 S2 H3 σ' ds1 → wipe σ' vs = wipe σ vs → R σ' H3) → uG X scope tg x (wipe σ vs) H3 R := fun {ds1 k R} hg hR s H0 C cl fp =>
        hg s H0 C cl fp G S0 S2 H3 _ x E2 r R fun σ' E' w => hR σ' E' (w.trans (wipe_wipe vs))
      cases F with
      | @cons _ y _ rest' ds1 hg ht hv F =>
        refine glue (k := true) hg fun σ' E' w => ⟨w, fun s H0 C cl fp => ht s H0 C cl fp G S0 S2 H3 σ' E' _ fun S3 H4 g3 => ?_⟩
        rw [if_pos rfl]
        intro s H0 C cl fp
        refine hv s H0 C cl fp G S0 S3 H4 σ' (E'.grow g3) _ fun u S4 H5 g4 ru => ?_
        have g34 := g3.trans g4
        have h5 : H5 D = some (.lst us) := g34.h _ _ h2
        have s4 : S4 D = none := by rw [g34.old D (nn_of h2)]; exact s2
        have ra' := da_same g34.s ra
        refine ⟨us, h5, szlt _ ?_, S4, us ++ [u], acc ++ [y], rest', ⟨g2.s.trans g34.s, fun k w z => ?_, fun k w z => ?_, fun k hk => ?_⟩, s4, upd_same, da_append ra' (da_one ru), F, by rw [List.append_assoc]; exact eq⟩
        · have e1 : acc.length + (y :: rest').length = ys.length := by rw [← eq, List.length_append]
          have e2 := hl.len
          have e3 := da_len ra
          simp only [List.length_cons] at e1
          omega
        · rw [upd_ne (ne_of_none z hD)]
          exact g34.h _ _ (g2.h _ _ z)
        · rw [upd_ne (fun e => by rw [e, s4] at z; cases z)]
          exact g34.sh _ _ z
        · exact (g34.old k (Same.nn g2.h hk)).trans (g2.old k hk)
      | @skip _ _ _ ds1 hg ht F =>
        refine glue (k := true) hg fun σ' E' w => ⟨w, fun s H0 C cl fp => ht s H0 C cl fp G S0 S2 H3 σ' E' _ fun S3 H4 g3 => ?_⟩
        rw [if_neg Bool.false_ne_true]
        exact ⟨S3, us, acc, rest, g2.trans g3, by rw [g3.old D (nn_of h2)]; exact s2, g3.h _ _ h2, da_same g3.s ra, F, eq⟩
    · have e : i = xs.length := by omega
      subst e
      rw [List.drop_length] at F
      cases F
      rw [List.append_nil] at eq
      subst eq
      exact .inl ⟨w2 (Nat.le_refl _), q D us S2 H2 (g1.trans g2) (g1.h.free hD) s2 h2 ra⟩
theorem xl_lc (own : List (Str × Nat)) (hc : X.calm = true) (hN : X.N.Nodup) (hi : XI X tg iter ds xs) (ok : BlkOk X.N X.env.scope scope own) (hl : Lc X scope (own.map (·.2)) tg elt ifs (wipeC ds (own.map (·.2))) xs ys) (hz : xs.length ≤ 100000)
    (hs : ∀ x, foldedSetIterable iter X.env x = pure x := by intro _; rfl) : XL X (.ListComp elt [⟨tg, iter, ifs, 0⟩] scope pos) ds ys := .mk fun G S0 S H σ E Q q =>
  we_of (pe_lc hc hN pi_w ok (fun s H0 C cl fp => ⟨fun pins s σ H v u Q I r h => (h _ _ _ _ _) pins s u I r⟩) (fun s H0 C cl fp => ⟨fun pins s σ H Q I h => (h _ _ _ _ _) pins s I⟩) (fun s H0 C cl fp => ⟨fun pins s σ H Q I h => (h _ _ _ _ _) pins s I⟩) hs)
    (lc_read hi hl hz E q)
theorem xs_lc (i : Nat) {y : Str} {py : Pos} (own : List (Str × Nat)) (hc : X.calm = true) (hN : X.N.Nodup) (hi : XI X tg iter ds xs) (ok : BlkOk X.N X.env.scope scope own) (hl : Lc X scope (own.map (·.2)) tg elt ifs (wipeC ds (own.map (·.2))) xs ys) (hz : xs.length ≤ 100000)
    (hy : X.N[i]? = some y := by rfl) (hyl : X.env.scope.names.lookup y = some .local := by rfl) (hsw : swapsWith (.ListComp elt [⟨tg, iter, ifs, 0⟩] scope pos) (some (.Name y py)) pos.line X.env = pure true := by exact sw_true rfl rfl rfl (by decide +kernel))
    {spos : Pos} (hline : spos.line = pos.line := by rfl) (hs : ∀ x, foldedSetIterable iter X.env x = pure x := by intro _; rfl) : XS X W (.Assign [.Name y py] (.ListComp elt [⟨tg, iter, ifs, 0⟩] scope pos) spos) ds (.nx (ds.set i (.ow ys))) := .mk fun G S0 S H σ E Z q =>
  ws_of (ps_setLc hc hN hy hyl (by rw [hline]; exact hsw) pi_w ok (fun s H0 C cl fp => ⟨fun pins s σ H v u Q I r h => (h _ _ _ _ _) pins s u I r⟩) (fun s H0 C cl fp => ⟨fun pins s σ H Q I h => (h _ _ _ _ _) pins s I⟩) (fun s H0 C cl fp => ⟨fun pins s σ H Q I h => (h _ _ _ _ _) pins s I⟩) hs)
    (lc_read hi hl hz E fun p us S' H' g h1 h2 h3 h4 => q _ S' H' (E.putL g i h1 h3 h2 h4))
end
end Lay
/-! Lay8: what the top leaves; more built-ins. -/
namespace Lay
open PySem L2
/-- the built-ins that are used are what they were -/
structure Tx (K : Fg) (mg : Str → Option Value) : Prop where
  len : mg "len" = none
  range : mg "range" = none
  sorted : mg "sorted" = none
  set : mg "set" = none
  list : mg "list" = none
  tuple : mg "tuple" = none
  sum : mg "sum" = none
  any : mg "any" = none
  all : mg "all" = none
  abs : mg "abs" = none
  max : mg "max" = none
  min : mg "min" = none
  int : mg "int" = none
  isinstance : mg "isinstance" = none
/-- a def of the text, by its name -/
structure Dn (K : Fg) (mg : Str → Option Value) (x : Str) (st : Stmt) (ps : List Str) : Prop where
  ex : ∃ f fd, mg x = some (.ref f) ∧ Fun K x x st f fd ∧ Binds K fd ps []
section
variable {P : Program} {w : World} {K : Fg} {mg : Str → Option Value} {base : Heap}
theorem df_of {x : Str} {st : Stmt} {N ps : List Str} (k : Nat) {F : Fs} (U : Dn K mg x st ps) (S : FnScope N ps (defScope st)) (len : ∀ args r, F args r → args.length = ps.length)
    (body : ∀ (f : Addr) (cdv : Value) (A : Around) (outer : List PySem.Env) (s : Shared) (H : Hp) (E : XK) (args : List D) (r : Res), Room k (A.deeper (PyProof.Rows.envOfC x (defScope st) s.heap.objs.size f cdv)) →
      Takes (cxOf (L2.CX P w) P w K mg base N x (defScope st) f cdv A outer s H E) (fun cls d _ H => E cls d H) →
      PassesOwn (model P w) (A.deeper (PyProof.Rows.envOfC x (defScope st) s.heap.objs.size f cdv)) (PyProof.Rows.envOfC x (defScope st) s.heap.objs.size f cdv) (cxOf (L2.CX P w) P w K mg base N x (defScope st) f cdv A outer s H E).xe → F args r →
      XF (cxOf (L2.CX P w) P w K mg base N x (defScope st) f cdv A outer s H E) (fun cls d _ H => E cls d H) (defBody st) (ctx0 N.length args) r) : Df P w K mg base x (k + 1) F := by
  obtain ⟨f, fd, hm, hf, hb⟩ := U.ex
  exact ⟨f, fd, ps, hm, hf.kp, hb, fn_ok hf S len fun cdv A outer s H E args r hr hF => body f cdv A outer s H E args r hr (takes_of rfl rfl rfl rfl) (passes_of rfl) hF⟩
end
/-- the same for the law itself -/
theorem fnl_of {P : Program} {w : World} {K : Fg} {mg : Str → Option Value} {base : Heap} {x : Str} {st : Stmt} {N ps : List Str} (k : Nat) {F : Fs} {f : Addr} {fd : FuncData} (U : Fun K x x st f fd) (S : FnScope N ps (defScope st)) (len : ∀ args r, F args r → args.length = ps.length)
    (body : ∀ (cdv : Value) (A : Around) (outer : List PySem.Env) (s : Shared) (H : Hp) (E : XK) (args : List D) (r : Res), Room k (A.deeper (PyProof.Rows.envOfC x (defScope st) s.heap.objs.size f cdv)) →
      Takes (cxOf (L2.CX P w) P w K mg base N x (defScope st) f cdv A outer s H E) (fun cls d _ H => E cls d H) →
      PassesOwn (model P w) (A.deeper (PyProof.Rows.envOfC x (defScope st) s.heap.objs.size f cdv)) (PyProof.Rows.envOfC x (defScope st) s.heap.objs.size f cdv) (cxOf (L2.CX P w) P w K mg base N x (defScope st) f cdv A outer s H E).xe → F args r →
      XF (cxOf (L2.CX P w) P w K mg base N x (defScope st) f cdv A outer s H E) (fun cls d _ H => E cls d H) (defBody st) (ctx0 N.length args) r) : FnOk P w K mg base (L2.CX P w) (k + 1) f fd ps (spF K F) :=
  fn_ok U S len fun cdv A outer s H E args r hr hF => body cdv A outer s H E args r hr (takes_of rfl rfl rfl rfl) (passes_of rfl) hF
/-- the law's own promise -/
def F_law : Fs := fun args r => ∃ ns : List Int, args = [.scr ns] ∧ ns.length ≤ 63 ∧ r = .ok (.bl true)
theorem law_sp {K : Fg} {H : Hp} {a : Addr} {ns : List Int} (hl : ns.length ≤ 63) (h : SqL K H a (ns.map V.int)) : spF K F_law [.ref a] H (fun v _ => v = .bl true) fun _ _ _ => False :=
  ⟨H, [.scr ns], .ok (.bl true), Same.refl _, .cons (.scr h) .nil, ⟨ns, rfl, hl, rfl⟩, fun v S' H' g r => by cases r; rfl⟩
theorem law_cx {P : Program} {w : World} {outer : List PySem.Env} {H : Hp} {s s' : Shared} {e : Value} (h : L2.CX P w outer H s (fun _ _ _ => False) e s') : False := by
  obtain ⟨_, _, _, _, _, _, _, _, _, _, _, _, z⟩ := h
  exact z
/-- a def, by what the head tells of it -/
theorem dn_mk {K : Fg} {h : Heap} {mg : Str → Option Value} {x : Str} {st : Stmt} {ps : List Str} {f : Addr} {oc : Value} {od an : Option Addr} {osl : Array (Option Value)} {kV doc pm cdv ct : Value} (X : K.In h) (G : h.Ns mainGlobals mg)
    (a : PySem.W.nsIn K mainGlobals x = some (some (.ref f))) (l : K.lookup f = some ⟨oc, od, .func (PySem.W.fnOf x x (defArgs st) (defBody st) (defScope st) .none kV doc pm an cdv ct), osl⟩) (c : PySem.W.codeIn K cdv x = true) (k : PySem.W.keepIn K (.ref f) = true)
    (b : ∀ (kV doc pm : Value) (an : Option Addr) (cdv ct : Value) (us : List Value), us.length = ps.length → bindArgs (PySem.W.fnOf x x (defArgs st) (defBody st) (defScope st) .none kV doc pm an cdv ct) ⟨us, []⟩ = pure (ps.zip us)) : Dn K mg x st ps :=
  ⟨f, _, PySem.W.mg_of X G a, fun_mk l c k, (fun_mk l c k).binds b⟩
/-- the law itself, likewise -/
structure Dl (K : Fg) (st : Stmt) (fa : Addr) : Prop where
  ex : ∃ fd, Fun K "law" "law" st fa fd ∧ ∀ (s : Shared) (v : Value), BindsTo s fd ⟨[v], []⟩ [("_law_script", v)]
theorem dl_mk {K : Fg} {h : Heap} {mg : Str → Option Value} {st : Stmt} {fa f : Addr} {oc : Value} {od an : Option Addr} {osl : Array (Option Value)} {kV doc pm cdv ct : Value} (X : K.In h) (G : h.Ns mainGlobals mg) (hfa : mg "law" = some (.ref fa))
    (a : PySem.W.nsIn K mainGlobals "law" = some (some (.ref f))) (l : K.lookup f = some ⟨oc, od, .func (PySem.W.fnOf "law" "law" (defArgs st) (defBody st) (defScope st) .none kV doc pm an cdv ct), osl⟩) (c : PySem.W.codeIn K cdv "law" = true) (k : PySem.W.keepIn K (.ref f) = true)
    (b : ∀ (kV doc pm : Value) (an : Option Addr) (cdv ct v : Value), bindArgs (PySem.W.fnOf "law" "law" (defArgs st) (defBody st) (defScope st) .none kV doc pm an cdv ct) ⟨[v], []⟩ = pure [(("_law_script" : Str), v)]) : Dl K st fa := by
  have e := hfa.symm.trans (PySem.W.mg_of X G a)
  cases e
  exact ⟨_, fun_mk l c k, fun s v => .of_eq (b ..)⟩
theorem Df.mono {P : Program} {w : World} {K : Fg} {mg : Str → Option Value} {base : Heap} {x : Str} {j k : Nat} {F : Fs} (h : Df P w K mg base x j F) (l : j ≤ k) : Df P w K mg base x k F :=
  let ⟨f, fd, ps, a, b, c, d⟩ := h.ex; ⟨f, fd, ps, a, b, c, d.mono l⟩
theorem XF.mk {X : Cx} {W : WX} {body : List Stmt} {ds : List It} {r : Res} (o : Ou) (h : XSs X W body ds o) (f : Fits o r) : XF X W body ds r := ⟨o, h, f⟩
theorem XF.rt {X : Cx} {W : WX} {body : List Stmt} {ds : List It} {d : D} (h : XSs X W body ds (.rt d)) : XF X W body ds (.ok d) := ⟨_, h, rfl⟩
theorem XF.er {X : Cx} {W : WX} {body : List Stmt} {ds : List It} {c : Addr} (h : XSs X W body ds (.er c)) : XF X W body ds (.er c) := ⟨_, h, rfl⟩
theorem XF.nx {X : Cx} {W : WX} {body : List Stmt} {ds ds' : List It} (h : XSs X W body ds (.nx ds')) : XF X W body ds (.ok .non) := ⟨_, h, rfl⟩
section
variable {X : Cx} {W : WX} {e a b c : Expr} {ds : List It} {pos : Pos} {A B : D} {i j : Int}
theorem xv_ifd {d d' : D} {k : Bool} (hc : XT X c ds k) (ha : k = true → XV X a ds d) (hb : k = false → XV X b ds d') : XV X (.IfExp c a b pos) ds (if k = true then d else d') :=
  xv_if hc (fun h => by rw [if_pos h]; exact ha h) fun h => by rw [h, if_neg Bool.false_ne_true]; exact hb h
/-- an item of a list that a typed list makes -/
theorem ix_map {α : Type} {f : α → D} {xs : List α} {i : Int} {x : α} (h : atI xs i = some x) : ixD (.lst (xs.map f)) i = some (f x) := by
  show atI (xs.map f) i = some (f x)
  unfold atI at h ⊢
  rw [List.length_map]
  cases q : ixN xs.length i with
  | none => rw [q] at h; cases h
  | some j =>
    rw [q] at h
    show (xs.map f)[j]? = _
    have h : xs[j]? = some x := h
    rw [List.getElem?_map, h]; rfl
theorem atI_ge {α : Type} {xs : List α} {i : Int} (h0 : 0 ≤ i) (h1 : i < xs.length) : atI xs i = some (xs[i.toNat]'(by omega)) := by
  unfold atI ixN
  rw [if_pos h0, if_pos h1]
  show xs[i.toNat]? = _
  rw [List.getElem?_eq_getElem]
theorem atI_d {α : Type} {xs : List α} {i : Int} (d : α) (h0 : 0 ≤ i) (h1 : i < xs.length) : atI xs i = some (xs.getD i.toNat d) := by
  rw [atI_ge h0 h1]; congr 1
  rw [List.getD_eq_getElem?_getD, List.getElem?_eq_getElem (by omega)]; rfl
theorem atI_lastD {α : Type} {xs : List α} (h : xs ≠ []) : atI xs (-1) = some (xs.getLast h) := by
  have hl : 0 < xs.length := List.length_pos_iff.mpr h
  unfold atI ixN
  rw [if_neg (by omega), if_pos (by omega)]
  show xs[((-1 : Int) + (xs.length : Int)).toNat]? = _
  have e : ((-1 : Int) + (xs.length : Int)).toNat = xs.length - 1 := by omega
  rw [e, ← List.getLast?_eq_getElem?, List.getLast?_eq_some_getLast h]
theorem ixN_ge {n : Nat} {i : Int} (h0 : 0 ≤ i) (h1 : i < n) : ixN n i = some i.toNat := by unfold ixN; rw [if_pos h0, if_pos h1]
theorem xv_sum {p : Pos} {ns : List Int} (hc : X.calm = true) (hm : X.mg "sum" = none) (ha : XB X e ds A) (h : A = .lst (ns.map .int)) (hg : Gl X "sum" := by rfl) (hs : starEach [e] X.env = (false, eval e X.env) :: starEach [] X.env := by exact se rfl) (hpl : (backTo pos (starEach [] X.env)).any (·.1) = false := by exact spl rfl) :
    XV X (.Call (.Name "sum" p) [e] [] pos) ds (.int ns.sum) := by
  subst h
  exact xv_callB (cr_sum hc) hm boot_sum' (xab_cons ha xab_nil hs) (fun S H vs Q k r q => by
    obtain ⟨v, rfl, r1⟩ := rba1 r
    obtain ⟨p, vs, rfl, h1, h2⟩ := r1.lst k
    have e := da_ints h2
    subst e
    exact ⟨p, ns, rfl, sq_of h1, q _ S H (.refl k) (.int _)⟩) hg (he := hs) (hpl := hpl)
theorem xv_any {p : Pos} {ns : List Bool} (hc : X.calm = true) (hm : X.mg "any" = none) (ha : XB X e ds A) (h : A = .lst (ns.map .bl)) (hg : Gl X "any" := by rfl) (hs : starEach [e] X.env = (false, eval e X.env) :: starEach [] X.env := by exact se rfl) (hpl : (backTo pos (starEach [] X.env)).any (·.1) = false := by exact spl rfl) :
    XV X (.Call (.Name "any" p) [e] [] pos) ds (.bl (ns.any id)) := by
  subst h
  exact xv_callB (cr_any hc) hm boot_any' (xab_cons ha xab_nil hs) (fun S H vs Q k r q => by
    obtain ⟨v, rfl, r1⟩ := rba1 r
    obtain ⟨p, vs, rfl, h1, h2⟩ := r1.lst k
    have e := da_bools h2
    subst e
    exact ⟨p, ns, rfl, sq_of h1, q _ S H (.refl k) (.bl _)⟩) hg (he := hs) (hpl := hpl)
theorem xv_all {p : Pos} {ns : List Bool} (hc : X.calm = true) (hm : X.mg "all" = none) (ha : XB X e ds A) (h : A = .lst (ns.map .bl)) (hg : Gl X "all" := by rfl) (hs : starEach [e] X.env = (false, eval e X.env) :: starEach [] X.env := by exact se rfl) (hpl : (backTo pos (starEach [] X.env)).any (·.1) = false := by exact spl rfl) :
    XV X (.Call (.Name "all" p) [e] [] pos) ds (.bl (ns.all id)) := by
  subst h
  exact xv_callB (cr_all hc) hm boot_all' (xab_cons ha xab_nil hs) (fun S H vs Q k r q => by
    obtain ⟨v, rfl, r1⟩ := rba1 r
    obtain ⟨p, vs, rfl, h1, h2⟩ := r1.lst k
    have e := da_bools h2
    subst e
    exact ⟨p, ns, rfl, sq_of h1, q _ S H (.refl k) (.bl _)⟩) hg (he := hs) (hpl := hpl)
/-! ### comprehensions of the usual kinds -/
theorem Lc.is {scope : Scope} {vs : List Nat} {tg elt : Expr} {ifs : List Expr} {xs ys zs : List D} (h : Lc X scope vs tg elt ifs ds xs ys) (q : ys = zs) : Lc X scope vs tg elt ifs ds xs zs := q ▸ h
theorem truD_map {α : Type} {f : α → D} {xs : List α} {k : Bool} (h : (!xs.isEmpty) = k) : truD (.lst (xs.map f)) = some k := by subst h; cases xs <;> rfl
theorem lc_map {α : Type} {f g : α → D} {scope : Scope} {vs : List Nat} {tg elt : Expr} : ∀ (xs : List α), (∀ x ∈ xs, ∃ ds1, (∀ s H C cl fp, XGW (Bk X scope s H C cl fp) tg (f x) ds ds1 vs) ∧ (∀ s H C cl fp, XV (Bk X scope s H C cl fp) elt ds1 (g x))) →
    Lc X scope vs tg elt [] ds (xs.map f) (xs.map g)
  | [], _ => .nil
  | x :: xs, h => by
    obtain ⟨ds1, hg, he⟩ := h x List.mem_cons_self
    exact .cons hg (fun _ _ _ _ _ => xts_nil) he (lc_map xs fun y hy => h y (List.mem_cons_of_mem _ hy))
theorem lc_filter {α : Type} {f g : α → D} {p : α → Bool} {scope : Scope} {vs : List Nat} {tg elt : Expr} {ifs : List Expr} : ∀ (xs : List α), (∀ x ∈ xs, ∃ ds1, (∀ s H C cl fp, XGW (Bk X scope s H C cl fp) tg (f x) ds ds1 vs) ∧ (∀ s H C cl fp, XTs (Bk X scope s H C cl fp) ifs ds1 (p x)) ∧ (p x = true → ∀ s H C cl fp, XV (Bk X scope s H C cl fp) elt ds1 (g x))) →
    Lc X scope vs tg elt ifs ds (xs.map f) ((xs.filter p).map g)
  | [], _ => .nil
  | x :: xs, h => by
    obtain ⟨ds1, hg, ht, he⟩ := h x List.mem_cons_self
    have ih := lc_filter xs fun y hy => h y (List.mem_cons_of_mem _ hy)
    cases e : p x with
    | true =>
      rw [List.filter_cons_of_pos (by rw [e])]
      rw [e] at ht
      exact .cons hg ht (he e) ih
    | false =>
      rw [List.filter_cons_of_neg (by rw [e]; exact Bool.false_ne_true)]
      rw [e] at ht
      exact .skip hg ht ih
/-! ### ifs in a block -/
variable {st : Stmt} {sts rest AA BB : List Stmt} {ds1 : List It} {o : Ou} {k : Bool}
theorem xss_if (hc : XT X c ds k) (ht : k = true → XT X c ds true → XSs X W (.If c AA BB pos :: rest) ds o) (hf : k = false → XT X c ds false → XSs X W (.If c AA BB pos :: rest) ds o) : XSs X W (.If c AA BB pos :: rest) ds o := by
  cases k with
  | true => exact ht rfl hc
  | false => exact hf rfl hc
theorem xss_yes (hc : XT X c ds true) (h : XSs X W AA ds (.nx ds1)) (h2 : XSs X W rest ds1 o) : XSs X W (.If c AA BB pos :: rest) ds o := xss_cons (xs_yes hc h) h2
theorem xss_no (hc : XT X c ds false) (h : XSs X W BB ds (.nx ds1)) (h2 : XSs X W rest ds1 o) : XSs X W (.If c AA BB pos :: rest) ds o := xss_cons (xs_no hc h) h2
theorem xss_no0 (hc : XT X c ds false) (h2 : XSs X W rest ds o) : XSs X W (.If c AA [] pos :: rest) ds o := xss_cons (xs_no hc xss_nil) h2
theorem xss_yesS (hc : XT X c ds true) (h : XSs X W AA ds o) (ho : goesOn o = false := by rfl) : XSs X W (.If c AA BB pos :: rest) ds o := xss_stop (xs_yes hc h) ho
theorem xss_noS (hc : XT X c ds false) (h : XSs X W BB ds o) (ho : goesOn o = false := by rfl) : XSs X W (.If c AA BB pos :: rest) ds o := xss_stop (xs_no hc h) ho
theorem xss_ret {d : D} (he : XV X e ds d) : XSs X W (.Return (some e) pos :: rest) ds (.rt d) := xss_stop (xs_ret he)
theorem xss_raise {x m : Str} {C : Addr} {j : Nat} {p p2 p3 : Pos} (hc : X.calm = true) (tk : Takes X W) (T : EC X.K X.mg x C) (hg : Gl X x := by rfl) (hdb : (x == ("__debug__" : Str)) = false := by decide) :
    XSs X W (.Raise (some (.Call (.Name x p) [.Constant (.str m) j p2] [] p3)) none pos :: rest) ds (.er C) := (xss_stop (xs_raise hc tk T hg hdb)).er
theorem xss_then {o1 : Ou} (h : XS X W st ds o1) (hn : ∀ ds1, o1 = .nx ds1 → XSs X W rest ds1 o) (hs : goesOn o1 = false → o1 = o) : XSs X W (st :: rest) ds o := by
  cases o1 with
  | nx ds1 => exact xss_cons h (hn ds1 rfl)
  | _ => exact xss_stop (h.is (hs rfl)) (by rw [← hs rfl]; rfl)
/-! ### 0, 1, .. from a number on -/
def rngF (i m : Nat) : List D := (List.range' i m).map fun (k : Nat) => D.int (k : Int)
theorem rngD_F (n : Nat) : rngD n = rngF 0 n := by unfold rngD rngF; rw [List.range_eq_range']
theorem rngF_0 (i : Nat) : rngF i 0 = [] := rfl
theorem rngF_succ (i m : Nat) : rngF i (m + 1) = .int i :: rngF (i + 1) m := rfl
theorem rngF_len (i m : Nat) : (rngF i m).length = m := by simp [rngF]
/-- a turn that goes on if c, else ends the loop by o1 -/
theorem Fr.chk {tg : Expr} {body : List Stmt} {d : D} {xs : List D} {a b : List It} {o1 : Ou} (cc : Bool) (hg : XG X tg d ds ds1) (hb : XSs X W body ds1 (if cc = true then .nx a else o1)) (hl : Le a b) (ht : turns o1 = none) (h : cc = true → Fr X W tg body xs b o) (h' : cc = false → o = brk o1) :
    Fr X W tg body (d :: xs) ds o := by
  cases cc with
  | true => rw [if_pos rfl] at hb; exact .step hg hb rfl hl (h rfl)
  | false => rw [if_neg Bool.false_ne_true] at hb; rw [h' rfl]; exact .out hg hb ht
/-! ### tuples of whole numbers, compared -/
theorem xt_ltT {ns ms : List Int} (hu : X.A.units + 64 < cLine) (ha : XB X a ds A) (hb : XB X b ds B) (h1 : A = .tup (ns.map .int)) (h2 : B = .tup (ms.map .int)) : XT X (.Compare a [.Lt] [b] pos) ds (HT.lexLt ns ms) := by
  subst h1 h2
  exact xt_cmp (op_ltT (by omega)) ha hb (nomark _) fun S H x y Q k r1 r2 q => by
    obtain ⟨p, vs, rfl, p1, a1⟩ := r1.tup
    obtain ⟨p', vs', rfl, p2, a2⟩ := r2.tup
    have e1 := da_ints a1
    have e2 := da_ints a2
    subst e1 e2
    exact ⟨p, p', ns, ms, rfl, rfl, st_of (k _ _ p1), st_of (k _ _ p2), q⟩
end
end Lay
/-! Lay9: sorted(set(..)) of tuples of whole numbers. -/
namespace Lay
open PySem L2
/-- a tuple of whole numbers -/
def eT (ns : List Int) : D := .tup (ns.map .int)
section
variable {B : Int}
theorem code_bd : ∀ {ns : List Int}, TS.Bd B ns → 0 ≤ TS.code B ns ∧ TS.code B ns < B ^ ns.length
  | [], _ => by simp [TS.code]
  | d :: r, h => by
    obtain ⟨h1, h2⟩ := h.head
    obtain ⟨h3, h4⟩ := code_bd h.tail
    have hB : 0 < B := by omega
    have hp : 0 < B ^ r.length := Int.pow_pos hB
    simp only [TS.code, List.length_cons, Int.pow_succ]
    constructor
    · have := Int.mul_nonneg h1 (Int.le_of_lt hp); omega
    · have : (d + 1) * B ^ r.length ≤ B * B ^ r.length := Int.mul_le_mul_of_nonneg_right (by omega) (Int.le_of_lt hp)
      rw [Int.add_mul] at this
      rw [Int.mul_comm (B ^ r.length) B]
      omega
theorem code_inj : ∀ {ns ms : List Int}, TS.Bd B ns → TS.Bd B ms → ns.length = ms.length → TS.code B ns = TS.code B ms → ns = ms
  | [], [], _, _, _, _ => rfl
  | [], _ :: _, _, _, h, _ => by cases h
  | _ :: _, [], _, _, h, _ => by cases h
  | d :: r, d' :: r', h, h', hl, hc => by
    have hl' : r.length = r'.length := by simpa using hl
    obtain ⟨a1, a2⟩ := code_bd h.tail
    obtain ⟨b1, b2⟩ := code_bd h'.tail
    simp only [TS.code] at hc
    rw [← hl'] at hc b2
    have hp : 0 < B ^ r.length := Int.pow_pos (by have := h.head; omega)
    have e : d = d' := by
      rcases Int.lt_trichotomy d d' with z | z | z
      · have : (d + 1) * B ^ r.length ≤ d' * B ^ r.length := Int.mul_le_mul_of_nonneg_right (by omega) (Int.le_of_lt hp)
        rw [Int.add_mul] at this; omega
      · exact z
      · have : (d' + 1) * B ^ r.length ≤ d * B ^ r.length := Int.mul_le_mul_of_nonneg_right (by omega) (Int.le_of_lt hp)
        rw [Int.add_mul] at this; omega
    subst e
    rw [code_inj h.tail h'.tail hl' (by omega)]
/-- a list that rises strictly by a key is told by its members -/
theorem rise_unique {α : Type} (f : α → Int) : ∀ {xs ys : List α}, xs.Pairwise (fun a b => f a < f b) → ys.Pairwise (fun a b => f a < f b) → (∀ x, x ∈ xs ↔ x ∈ ys) → xs = ys
  | [], [], _, _, _ => rfl
  | [], y :: ys, _, _, h => absurd ((h y).mpr List.mem_cons_self) (by simp)
  | x :: xs, [], _, _, h => absurd ((h x).mp List.mem_cons_self) (by simp)
  | x :: xs, y :: ys, hx, hy, h => by
    rw [List.pairwise_cons] at hx hy
    have e : x = y := by
      rcases List.mem_cons.mp ((h x).mp List.mem_cons_self) with q | q
      · exact q
      · rcases List.mem_cons.mp ((h y).mpr List.mem_cons_self) with q' | q'
        · exact q'.symm
        · have := hx.1 y q'
          have := hy.1 x q
          omega
    subst e
    congr 1
    refine rise_unique f hx.2 hy.2 fun z => ⟨fun hz => ?_, fun hz => ?_⟩
    · rcases List.mem_cons.mp ((h z).mp (List.mem_cons_of_mem _ hz)) with q | q
      · subst q; exact absurd (hx.1 _ hz) (Int.lt_irrefl _)
      · exact q
    · rcases List.mem_cons.mp ((h z).mpr (List.mem_cons_of_mem _ hz)) with q | q
      · subst q; exact absurd (hy.1 _ hz) (Int.lt_irrefl _)
      · exact q
end
theorem da_tups {K : Fg} {S : Hp} : ∀ {vs : List V} {xs : List (List Int)}, RpA K S vs (xs.map eT) → ∃ ks : List (Addr × List Int), vs = ks.map (fun p => V.ref p.1) ∧ xs = ks.map (·.2) ∧ ∀ p ∈ ks, S p.1 = some (.tup (p.2.map V.int))
  | _, [], h => by cases h; exact ⟨[], rfl, rfl, fun _ z => by cases z⟩
  | _, x :: xs, h => by
    cases h with
    | cons h t =>
      obtain ⟨ks, e1, e2, hk⟩ := da_tups t
      cases h with
      | @tup a vs _ ha hr =>
        have z := da_ints hr
        subst z
        refine ⟨(a, x) :: ks, by rw [e1]; rfl, by rw [e2]; rfl, fun p hp => ?_⟩
        rcases List.mem_cons.mp hp with rfl | hp
        · exact ha
        · exact hk p hp
theorem tups_da {K : Fg} {S : Hp} : ∀ (ks : List (Addr × List Int)), (∀ p ∈ ks, S p.1 = some (.tup (p.2.map V.int))) → RpA K S (ks.map fun p => V.ref p.1) ((ks.map (·.2)).map eT)
  | [], _ => .nil
  | p :: ks, h => .cons (.tup (h p List.mem_cons_self) (ints_da _)) (tups_da ks fun q hq => h q (List.mem_cons_of_mem _ hq))
theorem boot_sorted' : bootBuiltins ("sorted" : Str) = some (.builtin "sorted") := by decide +kernel
theorem boot_set' : bootBuiltins ("set" : Str) = some (.type "set") := by decide +kernel
section
variable {X : Cx} {e : Expr} {ds : List It} {pos : Pos}
theorem xl_sortset {p p2 pos2 : Pos} {A : D} {xs ys : List (List Int)} (d : Nat) (B : Int) (hc : X.calm = true) (hu : X.A.units + 64 < cLine) (hm : X.mg "sorted" = none) (hm2 : X.mg "set" = none) (ha : XB X e ds A) (hA : A = .lst (xs.map eT)) (hz : xs.length < 64) (hd : 1 ≤ d) (hb : ∀ x ∈ xs, x.length = d ∧ TS.Bd B x)
    (hy : ys.Pairwise fun a b => TS.code B a < TS.code B b) (hmem : ∀ x, x ∈ ys ↔ x ∈ xs) (hg : Gl X "sorted" := by rfl) (hg2 : Gl X "set" := by rfl) (hs : starEach [e] X.env = (false, eval e X.env) :: starEach [] X.env := by exact se rfl) (hpl2 : (backTo pos2 (starEach [] X.env)).any (·.1) = false := by exact spl rfl)
    (hs2 : starEach [.Call (.Name "set" p2) [e] [] pos2] X.env = (false, eval (.Call (.Name "set" p2) [e] [] pos2) X.env) :: starEach [] X.env := by rfl) (hpl : (backTo pos (starEach [] X.env)).any (·.1) = false := by exact spl rfl) :
    XL X (.Call (.Name "sorted" p) [.Call (.Name "set" p2) [e] [] pos2] [] pos) ds (ys.map eT) := .mk fun G S0 S H σ E Q q =>
  we_of (pe_callB (cr_sortedT hc) hg hm boot_sorted' (pa_cons (pe_callTy (cr_setOfT hc hu) hg2 hm2 boot_set' (pa_cons pe_w pa_nil hs) (he := hs) (hpl := hpl2)) pa_nil hs2) (he := hs2) (hpl := hpl)) (ha G S0 S H σ E _ fun v S1 H1 g1 r1 => by
    obtain ⟨l, vs, rfl, hl, ra⟩ := (hA ▸ r1).lst g1.sh
    obtain ⟨ks, rfl, rfl, hk⟩ := da_tups ra
    refine ⟨l, ks, rfl, sq_of hl, fun p hp => st_of (g1.sh _ _ (hk p hp)), by simpa using hz, fun a L ha0 hL1 hL2 => ?_⟩
    have kL : ∀ p ∈ L, S1 p.1 = some (.tup (p.2.map V.int)) := fun p hp => hk p (hL1 p hp)
    have g2 : Gr S1 H1 S1 (upd H1 a (SetTO X.prog X.w a L)) := Gr.newH g1.sh ha0
    refine ⟨a, L, d, B, rfl, upd_same, fun p hp => st_of (g2.sh _ _ (kL p hp)), hd, fun p hp => hb p.2 (List.mem_map_of_mem (hL1 p hp)), fun L' n pm nd h64 pw hn => ?_⟩
    have hb' : ∀ p ∈ L', p.2.length = d ∧ TS.Bd B p.2 := fun p hp => hb p.2 (List.mem_map_of_mem (hL1 p (pm.mem_iff.mp hp)))
    have strict : (L'.map (·.2)).Pairwise fun a b => TS.code B a < TS.code B b := by
      rw [List.pairwise_map]
      have nd' : L'.Pairwise fun a b => a.2 ≠ b.2 := by
        have := nd
        unfold List.Nodup at this
        rwa [List.pairwise_map] at this
      have both := pw.and nd'
      refine both.imp_of_mem fun {a b} ha hb ⟨h1, h2⟩ => ?_
      rcases Int.lt_or_eq_of_le h1 with z | z
      · exact z
      · obtain ⟨a1, a2⟩ := hb' a ha
        obtain ⟨b1, b2⟩ := hb' b hb
        exact absurd (code_inj a2 b2 (by omega) z) h2
    have eq : L'.map (·.2) = ys := rise_unique (TS.code B) strict hy fun x => by
      rw [hmem, List.mem_map, List.mem_map]
      constructor
      · rintro ⟨p, hp, rfl⟩
        exact ⟨p, hL1 p (pm.mem_iff.mp hp), rfl⟩
      · rintro ⟨p, hp, rfl⟩
        obtain ⟨p', hp', e'⟩ := List.mem_map.mp (hL2 p hp)
        exact ⟨p', pm.mem_iff.mpr hp', e'⟩
    have g3 : Gr S1 (upd H1 a (SetTO X.prog X.w a L)) S1 (upd (upd H1 a (SetTO X.prog X.w a L)) n (.lst (L'.map fun q => V.ref q.1))) := Gr.newH g2.sh hn
    have gg := (g1.trans g2).trans g3
    refine q n _ S1 _ gg (g1.h.free (g2.h.free hn)) (g1.sh.free (g2.h.free hn)) upd_same ?_
    rw [← eq]
    exact tups_da L' fun p hp => kL p (pm.mem_iff.mp hp))
end
end Lay
/-! Lay10: methods that only read; isinstance. -/
namespace Lay
open PySem L2 PyProof.Rows
/-! ### flat data -/
def flatD : D → Bool
  | .non => true
  | .bl _ => true
  | .int _ => true
  | .str _ => true
  | _ => false
def toV : D → V
  | .non => .non
  | .bl b => .bl b
  | .int i => .int i
  | .str x => .str x
  | _ => .non
theorem rp_flat {K : Fg} {S : Hp} {v : V} {d : D} (h : Rp K S v d) (f : flatD d = true) : v = toV d ∧ flatV v = true := by
  cases h <;> first | exact ⟨rfl, rfl⟩ | cases f
theorem rb_flat {K : Fg} {S H : Hp} {v : V} {d : D} (h : Rb K S H v d) (f : flatD d = true) : v = toV d ∧ flatV v = true := by
  rcases h with h | ⟨p, vs, xs, rfl, rfl, _⟩
  · exact rp_flat h f
  · cases f
theorem rpa_flat {K : Fg} {S : Hp} : ∀ {vs : List V} {ds : List D}, RpA K S vs ds → ds.all flatD = true → vs = ds.map toV ∧ vs.all flatV = true
  | _, _, .nil, _ => ⟨rfl, rfl⟩
  | _, _, .cons h t, f => by
    rw [List.all_cons, Bool.and_eq_true] at f
    obtain ⟨e1, e2⟩ := rp_flat h f.1
    obtain ⟨e3, e4⟩ := rpa_flat t f.2
    exact ⟨by rw [e1, e3]; rfl, by rw [List.all_cons, e2, e4]; rfl⟩
/-- == of flat data -/
def eqF (a b : D) : Bool := eqV (toV a) (toV b)
theorem eqF_int {i j : Int} : eqF (.int i) (.int j) = decide (i = j) := rfl
section
variable {X : Cx} {e a b c : Expr} {es : List Expr} {ds : List It} {pos : Pos} {A B d : D} {xs ys : List D}
theorem xv_bm {T id : String} {name : Str} {r : V → List V → Hp → VK → Prop} {pa : Pos} (pl : PlainAttrs T) (slot : Slot T name id) (hty : typeOf (.builtin id) = pure (.type "method_descriptor")) (hm : MtR X id r) (ho : XB X a ds A) (ha : XAB X (e :: es) ds ys)
    (ht : ∀ (S H : Hp) x, Same S H → Rb X.K S H x A → tyV X.K T x H) (hr : ∀ (S H : Hp) x vs (Q : VK), Same S H → Rb X.K S H x A → RbA X.K S H vs ys → (∀ v S' H', Gr S H S' H' → Rp X.K S' v d → Q v H') → r x vs H Q)
    (hbase : attributeBase a name X.env (eval a X.env) = eval a X.env) (hfew : ((backTo pos (starEach (e :: es) X.env)).all (fun x => !x.1) && (backToKw pos (keywordEach [] X.env)).all (fun x => x.1.isSome)
      && decide ((e :: es).length + ([] : List Keyword).length + (if ([] : List Keyword).isEmpty then 0 else 1) < 30)) = true)
    (hline : (pa.endLine == pos.line) = true) (hs : starEach (e :: es) X.env = (false, eval e X.env) :: starEach es X.env) (hplain : (backTo pos (starEach es X.env)).any (·.1) = false) : XV X (.Call (.Attribute a name pa) (e :: es) [] pos) ds d := .mk fun G S0 S H σ E Q q =>
  we_of (pe_bm pl slot hty hm pe_w pa_w hbase hfew hline hs hplain) (ho G S0 S H σ E _ fun x S1 H1 g1 r1 => ⟨ht S1 H1 x g1.sh r1, ha G S0 S1 H1 σ (E.grow g1) _ fun vs S2 H2 g2 r2 =>
    hr S2 H2 x vs Q g2.sh (r1.gr g2) r2 fun v S3 H3 g3 r3 => q v S3 H3 ((g1.trans g2).trans g3) r3⟩)
theorem ty_lst {xs : List D} (S H : Hp) (x : V) (k : Same S H) (r : Rb X.K S H x (.lst xs)) : tyV X.K "list" x H := by
  obtain ⟨p, vs, rfl, h1, _⟩ := r.lst k
  exact ty_list h1
/-- how often a flat thing stands in a list of such -/
def rCntF (K : Fg) : V → List V → Hp → VK → Prop := fun x xs H Q => ∃ (p : Addr) (ys : List V) (y : V), x = .ref p ∧ xs = [y] ∧ SqL K H p ys ∧ flatV y = true ∧ ys.all flatV = true ∧ Q (.int (ys.countP fun z => eqV z y : Nat)) H
theorem countP_eqU {x : V} : ∀ {xs : List V} {us : List Value}, Vals xs us → xs.all flatV = true → us.countP (eqU x) = xs.countP fun y => eqV y x
  | _, _, .nil, _ => rfl
  | y :: xs, u :: us, .cons r t, f => by
    rw [List.all_cons, Bool.and_eq_true] at f
    rw [List.countP_cons, List.countP_cons, eqU_of r f.1, countP_eqU t f.2]
theorem mt_cntF : MtR X "list.count" (rCntF X.K) := by
  rintro pins s σ H x zs v us Q I rx rz ⟨p, ys, y, rfl, rfl, hs, fy, fys, q⟩
  cases rx
  obtain ⟨u, rfl, ru⟩ := rz.one
  obtain ⟨its, rv, ⟨⟨c, dd, dt, sl⟩, n, ho, hc, hdn, hd⟩, _⟩ := I.list hs
  dsimp only at hc hd
  subst hc hd
  refine PySem.call_meets PySem.F.slot_list_count ⟨_, ho, rfl⟩ PySem.F.entry_list_count (PySem.F.args_list_count_2 _ _)
    (SeqAt.list_countAt p its.toArray n dd sl u (eqU y)) ⟨ho, fun z hz => mem_eqAt ru fy rv fys z (by simpa using hz), ?_⟩
  refine ⟨.int (ys.countP fun z => eqV z y : Nat), H, I.tok _, ⟨s.toks, ?_⟩, q⟩
  rw [← countP_eqU rv fys]
theorem count_toV {d : D} {xs : List D} : (xs.map toV).countP (fun z => eqV z (toV d)) = xs.countP fun z => eqF z d := by
  rw [List.countP_map]; rfl
theorem xv_count {pa : Pos} (ho : XB X a ds (.lst xs)) (ha : XB X e ds d) (hf : flatD d = true) (hfs : xs.all flatD = true) (hbase : attributeBase a "count" X.env (eval a X.env) = eval a X.env := by rfl) (hline : (pa.endLine == pos.line) = true := by rfl) (hst : isStar e = false := by rfl) :
    XV X (.Call (.Attribute a "count" pa) [e] [] pos) ds (.int (xs.countP fun z => eqF z d : Nat)) :=
  xv_bm PySem.F.plainAttrs_list PySem.F.slot_list_count PySem.F.type_list_count mt_cntF ho (xab_cons ha xab_nil (se hst)) ty_lst (fun S H x vs Q k r rr q => by
    obtain ⟨p, us, rfl, h1, h2⟩ := r.lst k
    obtain ⟨v, rfl, r1⟩ := rba1 rr
    obtain ⟨rfl, f1⟩ := rb_flat r1 hf
    obtain ⟨rfl, f2⟩ := rpa_flat h2 hfs
    exact ⟨p, _, _, rfl, rfl, sq_of h1, f1, f2, by rw [count_toV]; exact q _ S H (.refl k) (.int _)⟩) hbase (sfew (by simp [hst]) (by simp)) hline (se hst) (spl rfl)
theorem xv_index {pa : Pos} {j : Nat} {z : D} (ho : XB X a ds (.lst xs)) (ha : XB X e ds d) (hf : flatD d = true) (hfs : xs.all flatD = true) (hj : xs[j]? = some z) (hz : eqF z d = true) (hn : ∀ (m : Nat) (z' : D), m < j → xs[m]? = some z' → eqF z' d = false)
    (hbase : attributeBase a "index" X.env (eval a X.env) = eval a X.env := by rfl) (hline : (pa.endLine == pos.line) = true := by rfl) (hst : isStar e = false := by rfl) : XV X (.Call (.Attribute a "index" pa) [e] [] pos) ds (.int (j : Int)) :=
  xv_bm PySem.F.plainAttrs_list PySem.F.slot_list_index PySem.F.type_list_index mt_index ho (xab_cons ha xab_nil (se hst)) ty_lst (fun S H x vs Q k r rr q => by
    obtain ⟨p, us, rfl, h1, h2⟩ := r.lst k
    obtain ⟨v, rfl, r1⟩ := rba1 rr
    obtain ⟨rfl, f1⟩ := rb_flat r1 hf
    obtain ⟨rfl, f2⟩ := rpa_flat h2 hfs
    exact ⟨p, _, _, j, toV z, rfl, rfl, sq_of h1, f1, f2, by rw [List.getElem?_map, hj]; rfl, hz, fun m z' hm hz' => by
      rw [List.getElem?_map] at hz'
      cases w : xs[m]? with
      | none => rw [w] at hz'; cases hz'
      | some y => rw [w] at hz'; cases hz'; exact hn m y hm w, q _ S H (.refl k) (.int _)⟩) hbase (sfew (by simp [hst]) (by simp)) hline (se hst) (spl rfl)
/-- in, not in: a flat thing, a list or tuple of such -/
def inF (d : D) (xs : List D) : Bool := xs.any fun x => eqF x d
theorem inF_toV {d : D} {xs : List D} : inV (toV d) (xs.map toV) = inF d xs := by
  unfold inV inF
  rw [List.any_map]; rfl
theorem in_read {neg : Bool} {S H : Hp} {x y : V} {Q : VK} (k : Same S H) (hB : B = .lst xs ∨ B = .tup xs) (hf : flatD A = true) (hfs : xs.all flatD = true) (r1 : Rb X.K S H x A) (r2 : Rb X.K S H y B) (q : Q (.bl (if neg then !inF A xs else inF A xs)) H) : rIn X.K neg x y H Q := by
  obtain ⟨p, vs, rfl, h1, h2⟩ := rb_seq k r2 hB
  obtain ⟨rfl, f1⟩ := rb_flat r1 hf
  obtain ⟨rfl, f2⟩ := rpa_flat h2 hfs
  exact ⟨p, _, rfl, h1, f1, f2, by rw [inF_toV]; exact q⟩
theorem xt_in (ha : XB X a ds A) (hb : XB X b ds B) (hB : B = .lst xs ∨ B = .tup xs) (hf : flatD A = true) (hfs : xs.all flatD = true) (hm : behindInMarks .In b = false := by rfl) : XT X (.Compare a [.In] [b] pos) ds (inF A xs) :=
  xt_cmp op_in_seq ha hb hm fun S H x y Q k r1 r2 q => in_read k hB hf hfs r1 r2 q
theorem xv_in (ha : XB X a ds A) (hb : XB X b ds B) (hB : B = .lst xs ∨ B = .tup xs) (hf : flatD A = true) (hfs : xs.all flatD = true) (hm : behindInMarks .In b = false := by rfl) : XV X (.Compare a [.In] [b] pos) ds (.bl (inF A xs)) :=
  xv_cmp op_in_seq ha hb hm fun S H x y Q k r1 r2 q => in_read k hB hf hfs r1 r2 q
theorem xt_nin (ha : XB X a ds A) (hb : XB X b ds B) (hB : B = .lst xs ∨ B = .tup xs) (hf : flatD A = true) (hfs : xs.all flatD = true) (hm : behindInMarks .NotIn b = false := by rfl) : XT X (.Compare a [.NotIn] [b] pos) ds (!inF A xs) :=
  xt_cmp op_notIn_seq ha hb hm fun S H x y Q k r1 r2 q => in_read (neg := true) k hB hf hfs r1 r2 q
theorem xv_nin (ha : XB X a ds A) (hb : XB X b ds B) (hB : B = .lst xs ∨ B = .tup xs) (hf : flatD A = true) (hfs : xs.all flatD = true) (hm : behindInMarks .NotIn b = false := by rfl) : XV X (.Compare a [.NotIn] [b] pos) ds (.bl (!inF A xs)) :=
  xv_cmp op_notIn_seq ha hb hm fun S H x y Q k r1 r2 q => in_read (neg := true) k hB hf hfs r1 r2 q

/-! ### isinstance -/
theorem boot_isinstance' : bootBuiltins ("isinstance" : Str) = some (.builtin "isinstance") := by decide +kernel
/-- a class of the program's errors, as isinstance asks it -/
structure EI (K : Fg) (C : Addr) : Prop where
  ex : ExcC K C
  t : PySem.W.typeIn K (.ref C) = some (.type "type")
  i : PySem.W.isClsIn K C = true
  s : PySem.W.subIn K (.ref C) (.ref C) = some true
  v : PySem.W.subIn K (.ref C) (.type "ValueError") = some true
theorem kit_ref {K : Fg} {C C' : Addr} {k : Bool} (h : EI K C) (h' : EI K C') (s : PySem.W.subIn K (.ref C) (.ref C') = some k) : PySem.W.kitOne K (.ref C) (.ref C') = some k := by
  unfold PySem.W.kitOne
  by_cases z : C = C'
  · subst z
    rw [h.s] at s
    cases s
    rw [if_pos (by simp)]
  · rw [if_neg (by simp [z])]
    unfold PySem.W.kitCls
    dsimp only
    have i : (PySem.W.clsIn K C').isSome = true := h'.i
    rw [i, h'.t, if_pos (by rfl)]
    exact s
theorem kit_ve {K : Fg} {C : Addr} (h : EI K C) : PySem.W.kitOne K (.ref C) (.type "ValueError") = some true := by
  unfold PySem.W.kitOne
  rw [if_neg (by intro z; exact absurd (beq_iff_eq.mp z) (fun z => nomatch z))]
  unfold PySem.W.kitCls
  dsimp only
  rw [if_pos (by decide +kernel)]
  exact h.v
def rIsX (K : Fg) (C : Addr) : List V → Hp → VK → Prop := fun xs H Q => ∃ (a : Addr) (c : V) (cv : Value) (b : Bool), xs = [.ref a, c] ∧ H a = some (ExT C a) ∧ ClsV c cv ∧ PySem.W.kitOne K (.ref C) cv = some b ∧ Q (.bl b) H
theorem call_isX {C : Addr} (h : EI X.K C) : CallR X (.builtin "isinstance") (rIsX X.K C) := by
  rintro pins s σ H xs us Q I r ⟨a, c, cv, k, rfl, ha, hc, hk, q⟩
  cases r with
  | cons r1 r =>
    cases r with
    | cons r2 r =>
      cases r
      cases r1
      have e := hc.eq r2
      subst e
      obtain ⟨⟨oe, ws, g1, ⟨g2, g3⟩, g4⟩, _⟩ : ObjOk X.prog X.w H s.heap a (ExT C a) := I.hok a _ ha
      have J : PySem.W.InstAt s.heap a oe C none := by
        cases oe
        dsimp only at g2 g3 g4
        subst g2 g3 g4
        exact ⟨g1, rfl, rfl, trivial⟩
      exact PySem.W.kia_one (PySem.W.handS_kitx_exc h.ex.hg h.ex.hk h.ex.hs h.ex.hd h.ex.ha h.ex.hn h.ex.ht h.ex.hm) I.kIn J hk (fun z => nomatch z) fun tk => ⟨.bl k, H, I.tok tk, rfl, q⟩
/-- isinstance(x, Y), x an exception of the class at C, Y a class of the program -/
theorem xv_isX {p p2 : Pos} {y : Str} {C C' : Addr} {k : Bool} (hm : X.mg "isinstance" = none) (h : EI X.K C) (h' : EI X.K C') (s : PySem.W.subIn X.K (.ref C) (.ref C') = some k) (gy : X.mg y = some (.ref C')) (ha : XB X e ds (.exc C)) (hg : Gl X "isinstance" := by rfl) (hgy : Gl X y := by rfl)
    (hdb : (y == ("__debug__" : Str)) = false := by decide) (hst : isStar e = false := by rfl) : XV X (.Call (.Name "isinstance" p) [e, .Name y p2] [] pos) ds (.bl k) := .mk fun G S0 S H σ E Q q =>
  we_of (pe_callB (call_isX h) hg hm boot_isinstance' (pa_cons pe_w (pa_cons (pe_glob (v := .ref C') hgy gy rfl hdb) pa_nil (se rfl)) (se hst)) (he := se hst) (hpl := spl rfl)) (ha G S0 S H σ E _ fun v S1 H1 g r => by
    rcases r with r | ⟨_, _, _, _, z, _⟩
    · cases r with
      | exc ha => exact ⟨_, _, _, k, rfl, g.sh _ _ ha, .own C', kit_ref h h' s, q _ S1 H1 g (.bl k)⟩
    · cases z)
theorem xv_isVE {p p2 : Pos} {C : Addr} (hm : X.mg "isinstance" = none) (hmv : X.mg "ValueError" = none) (h : EI X.K C) (ha : XB X e ds (.exc C)) (hg : Gl X "isinstance" := by rfl) (hgy : Gl X "ValueError" := by rfl) (hst : isStar e = false := by rfl) :
    XV X (.Call (.Name "isinstance" p) [e, .Name "ValueError" p2] [] pos) ds (.bl true) := .mk fun G S0 S H σ E Q q =>
  we_of (pe_callB (call_isX h) hg hm boot_isinstance' (pa_cons pe_w (pa_cons (pe_bltn (v := .ty "ValueError") hgy hmv (by decide +kernel) rfl) pa_nil (se rfl)) (se hst)) (he := se hst) (hpl := spl rfl)) (ha G S0 S H σ E _ fun v S1 H1 g r => by
    rcases r with r | ⟨_, _, _, _, z, _⟩
    · cases r with
      | exc ha => exact ⟨_, _, _, true, rfl, g.sh _ _ ha, .ty "ValueError", kit_ve h, q _ S1 H1 g (.bl true)⟩
    · cases z)
end
end Lay
/-! Lay11: sorted of any number of tuples of whole numbers. -/
namespace Lay
open PySem L2 PyProof.Rows
section
variable {prog : Program} {w : World} {A : Around} {s : Shared}
/-- a tuple's number, read off the heap h -/
noncomputable def rkT (h : Heap) (B : Int) (v : Value) : Int := open Classical in if z : ∃ ns, TS.TupInts h v ns then TS.code B z.choose else 0
theorem rkT_of {h : Heap} {B : Int} {v : Value} {ns : List Int} (t : TS.TupInts h v ns) : rkT h B v = TS.code B ns := by
  unfold rkT
  have z : ∃ ns, TS.TupInts h v ns := ⟨ns, t⟩
  rw [dif_pos z, show z.choose = ns from z.choose_spec.ints.symm.trans t.ints]
theorem swoT (r : Value → Int) : SrtO.Swo fun v u => decide (r v < r u) := ⟨fun x y h => by simp at h ⊢; omega, fun x y z h q => by simp at h q ⊢; omega⟩
theorem sortableT {a : Addr} {vs : List Value} {d : Nat} {B : Int} (hd : 1 ≤ d) (h2 : 2 ≤ vs.length) (x : TS.TupsOk s.heap d B vs) (r : Value → Int) (hr : ∀ v ∈ vs, ∀ ns, TS.TupInts s.heap v ns → r v = TS.code B ns)
    (ha : ∀ o, s.heap.get? a = some o → o.cls ≠ .type "tuple") : SrtO.SortableO prog w A s a vs fun v u => decide (r v < r u) := fun h' keep => by
  have kp : ∀ b o, s.heap.get? b = some o → o.cls = .type "tuple" → h'.get? b = some o := fun b o e c => keep b o (fun z => ha o (by rw [← z]; exact e) c) e
  have x' := x.keeps kp
  obtain ⟨fs, k, hl, hi⟩ := TS.firsts_of hd vs x'
  refine ⟨tuples' true, fun Q E hq => PySem.W.kat_kind (T := .type "int") k (by omega) (fun f hf => ?_) rfl ?_, fun p q hp hq => ?_⟩
  · obtain ⟨n, t, rfl⟩ := hi f hf
    exact PySem.W.Looks.now
  · rw [show (Value.type "int" != Value.type "tuple") = true from by decide +kernel]
    exact hq
  · obtain ⟨ns, tp, lp, bp⟩ := x' _ hp
    obtain ⟨ms, tq, lq, bq⟩ := x' _ hq
    obtain ⟨ns0, tp0, _⟩ := x _ hp
    obtain ⟨ms0, tq0, _⟩ := x _ hq
    have ep : r p.1 = TS.code B ns := by rw [hr _ hp _ tp0, (tp0.keeps kp).ints.symm.trans tp.ints]
    have eq : r q.1 = TS.code B ms := by rw [hr _ hq _ tq0, (tq0.keeps kp).ints.symm.trans tq.ints]
    show wpAny (model prog w) A (keyLt' (tuples' true) p.1 q.1) (fun z s' => s' = { s with heap := h' } ∧ z = decide (r p.1 < r q.1)) (fun _ _ => False) { s with heap := h' }
    rw [ep, eq]
    obtain ⟨a1, xs, e1, ⟨o, ho, hc, n, hdt⟩, i⟩ := tp
    obtain ⟨a2, ys, e2, ⟨o', ho', hc', n', hdt'⟩, i'⟩ := tq
    rw [e1, e2]
    refine PySem.W.kat_lt ho hdt ho' hdt' ?_
    have l1 := i.length
    have l2 := i'.length
    rw [Array.length_toList] at l1 l2
    rw [show decide (xs.size < ys.size) = false from decide_eq_false (by omega)]
    exact TS.lex_ints 0 i i' (by omega) bp bq ⟨rfl, rfl⟩
end
/-- sorted(xs), xs tuples of d ints in [0, B) -/
def rSortA (K : Fg) (d : Nat) (B : Int) : List V → Hp → VK → Prop := fun vs H Q => ∃ (a : Addr) (ks : List (Addr × List Int)), vs = [V.ref a] ∧ SqL K H a (ks.map fun p => V.ref p.1) ∧ (∀ p ∈ ks, SqT K H p.1 (p.2.map V.int) ∧ p.2.length = d ∧ TS.Bd B p.2) ∧
  ∀ (ls : List (Addr × List Int)) (p : Addr), ls.Perm ks → ls.Pairwise (fun x y => TS.code B x.2 ≤ TS.code B y.2) → H p = none → Q (.ref p) (upd H p (.lst (ls.map fun p => V.ref p.1)))
theorem perm_back {α β : Type} {f : α → β} : ∀ {ys : List β} {xs : List α}, ys.Perm (xs.map f) → ∃ zs : List α, zs.Perm xs ∧ ys = zs.map f := by
  intro ys xs h
  generalize e : xs.map f = l at h
  induction h generalizing xs with
  | nil => cases xs with
    | nil => exact ⟨[], .refl _, rfl⟩
    | cons => cases e
  | cons x p ih =>
    -- ys = x :: l1, perm to x :: l2 = xs.map f
    cases xs with
    | nil => cases e
    | cons a xs =>
      cases e
      obtain ⟨zs, h1, h2⟩ := ih rfl
      exact ⟨a :: zs, h1.cons a, by rw [h2]; rfl⟩
  | swap x y l =>
    cases xs with
    | nil => cases e
    | cons a xs => cases xs with
      | nil => cases e
      | cons b xs => cases e; exact ⟨b :: a :: xs, .swap a b xs, rfl⟩
  | trans p q ih1 ih2 =>
    obtain ⟨zs, h1, h2⟩ := ih2 e
    obtain ⟨ws, h3, h4⟩ := ih1 h2.symm
    exact ⟨ws, h3.trans h1, h4⟩
section
variable {X : Cx}
theorem cr_sortA {d : Nat} {B : Int} (hd : 1 ≤ d) : CallR X (.builtin "sorted") (rSortA X.K d B) := by
  rintro pins s σ H vs us Q I r ⟨a, ks, rfl, hs, hk, q⟩
  obtain ⟨its, rv, hl, hz⟩ := I.list hs
  obtain ⟨u, rfl, ru⟩ := vals1 r
  obtain rfl : u = Value.ref a := ru
  have e0 := refs_of_vals rv
  have e1 : its = ks.map fun p => Value.ref p.1 := by simpa using e0
  subst e1
  have hx : TS.TupsOk s.heap d B (ks.map fun p => Value.ref p.1) := fun v hv => by
    obtain ⟨p, hp, rfl⟩ := List.mem_map.mp hv
    obtain ⟨h1, h2, h3⟩ := hk p hp
    exact ⟨p.2, tupI_raw I h1, h2, h3⟩
  refine SrtO.sorted_ord (swoT (rkT s.heap B)) hl.isList (by simpa using hz) (fun h2 h1 b hb kk => ?_) fun out hs hb => ?_
  · refine sortableT (s := { s with heap := h1 }) hd h2 (hx.keeps fun b o e _ => (kk b o e).2) (rkT s.heap B) (fun v hv ns t => ?_) fun o e => ?_
    · obtain ⟨ns0, t0, _⟩ := hx v hv
      rw [rkT_of t0, (t0.keeps fun b o e _ => (kk b o e).2).ints.symm.trans t.ints]
    · have e' : some o = some (seqObj "list" _ 0) := e.symm.trans hb
      cases e'
      intro c
      exact absurd (Value.type.inj c) (by decide)
  · obtain ⟨ls, hp, rfl⟩ := perm_back hb.perm
    have hsz : ls.length = ks.length := hp.length_eq
    obtain ⟨n, hn⟩ : ∃ n, (sortedAll s.heap (ks.map fun p => Value.ref p.1) (ls.map fun p => Value.ref p.1).toArray).get? (s.heap.objs.size + 1) = some (seqObj "list" (ls.map fun p => Value.ref p.1).toArray n) := sortedAll_at _ _ _
    refine ⟨.ref (s.heap.objs.size + 1), upd H (s.heap.objs.size + 1) (.lst (ls.map fun p => V.ref p.1)), I.laid (t' := s.toks) (fun b o e => sortedAll_old e) (Nat.le_succ _) ⟨by rw [List.length_map, hsz]; simpa using hz, _, n, vals_of_refs ls, hn⟩, rfl,
      q ls _ hp ?_ (I.hok.fresh (Nat.le_succ _))⟩
    have hs' := hs
    unfold SrtO.Srtd at hs'
    rw [List.pairwise_map] at hs'
    refine hs'.imp_of_mem fun {x y} hx1 hy1 h => ?_
    have t1 := tupI_raw I (hk x (hp.mem_iff.mp hx1)).1
    have t2 := tupI_raw I (hk y (hp.mem_iff.mp hy1)).1
    have h : decide (rkT s.heap B (.ref y.1) < rkT s.heap B (.ref x.1)) = false := h
    rw [rkT_of t1, rkT_of t2, decide_eq_false_iff_not] at h
    omega
end
section
variable {X : Cx} {e : Expr} {ds : List It} {pos : Pos} {A : D}
/-- sorted(xs): ys is the same list in order -/
theorem xl_sortA {p : Pos} {xs ys : List (List Int)} (d : Nat) (B : Int) (hm : X.mg "sorted" = none) (ha : XB X e ds A) (hA : A = .lst (xs.map eT)) (hd : 1 ≤ d) (hb : ∀ x ∈ xs, x.length = d ∧ TS.Bd B x)
    (hy : ys.Pairwise fun a b => TS.code B a ≤ TS.code B b) (hp : ys.Perm xs) (hg : Gl X "sorted" := by rfl) (hs : isStar e = false := by rfl) : XL X (.Call (.Name "sorted" p) [e] [] pos) ds (ys.map eT) := .mk fun G S0 S H σ E Q q =>
  we_of (pe_callB (cr_sortA (d := d) (B := B) hd) hg hm boot_sorted' (pa_cons pe_w pa_nil (se hs)) (he := se hs) (hpl := spl rfl)) (ha G S0 S H σ E _ fun v S1 H1 g1 r1 => by
    rw [hA] at r1
    obtain ⟨l, vs, rfl, hl, ra⟩ := r1.lst g1.sh
    obtain ⟨ks, rfl, rfl, hk⟩ := da_tups ra
    refine ⟨l, ks, rfl, sq_of hl, fun p hp => ⟨st_of (g1.sh _ _ (hk p hp)), hb p.2 (List.mem_map_of_mem hp)⟩, fun ls n pm pw hn => ?_⟩
    have hb' : ∀ z ∈ ls.map (·.2), z.length = d ∧ TS.Bd B z := fun z hz => by
      obtain ⟨p, hp, rfl⟩ := List.mem_map.mp hz
      exact hb p.2 (List.mem_map_of_mem (pm.mem_iff.mp hp))
    have pw' : (ls.map (·.2)).Pairwise fun a b => TS.code B a ≤ TS.code B b := by rw [List.pairwise_map]; exact pw
    have eq : ls.map (·.2) = ys := by
      have pp : (ls.map (·.2)).Perm ys := (pm.map _).trans hp.symm
      refine pp.eq_of_pairwise (fun a b ha hb2 h1 h2 => ?_) pw' hy
      obtain ⟨a1, a2⟩ := hb' a ha
      obtain ⟨b1, b2⟩ := hb b (hp.mem_iff.mp hb2)
      exact code_inj a2 b2 (by omega) (by omega)
    have g2 : Gr S1 H1 S1 (upd H1 n (.lst (ls.map fun p => V.ref p.1))) := Gr.newH g1.sh hn
    refine q n _ S1 _ (g1.trans g2) (g1.h.free hn) (g1.sh.free hn) upd_same ?_
    rw [← eq]
    exact tups_da ls fun p hp => hk p (pm.mem_iff.mp hp))
end
end Lay
/-! Lay12: the facts of the top. -/
namespace Lay
open PySem L2 PyProof.Rows
section
variable {K : Fg} {h : Heap} {mg : Str → Option Value}
theorem tx_mk (X : K.In h) (G : h.Ns mainGlobals mg) (z1 : PySem.W.nsIn K mainGlobals "len" = some none) (z2 : PySem.W.nsIn K mainGlobals "range" = some none) (z3 : PySem.W.nsIn K mainGlobals "sorted" = some none) (z4 : PySem.W.nsIn K mainGlobals "set" = some none)
    (z5 : PySem.W.nsIn K mainGlobals "list" = some none) (z6 : PySem.W.nsIn K mainGlobals "tuple" = some none) (z7 : PySem.W.nsIn K mainGlobals "sum" = some none) (z8 : PySem.W.nsIn K mainGlobals "any" = some none) (z9 : PySem.W.nsIn K mainGlobals "all" = some none)
    (z10 : PySem.W.nsIn K mainGlobals "abs" = some none) (z11 : PySem.W.nsIn K mainGlobals "max" = some none) (z12 : PySem.W.nsIn K mainGlobals "min" = some none) (z13 : PySem.W.nsIn K mainGlobals "int" = some none) (z14 : PySem.W.nsIn K mainGlobals "isinstance" = some none)
    (z15 : PySem.W.nsIn K mainGlobals "ValueError" = some none) : Tx K mg ∧ mg "ValueError" = none :=
  have m := fun {x : Str} (z : PySem.W.nsIn K mainGlobals x = some none) => PySem.W.mg_none_of X G z
  ⟨⟨m z1, m z2, m z3, m z4, m z5, m z6, m z7, m z8, m z9, m z10, m z11, m z12, m z13, m z14⟩, m z15⟩
theorem c_mk {x : Str} {i : Int} {t : Tok} (X : K.In h) (G : h.Ns mainGlobals mg) (a : PySem.W.nsIn K mainGlobals x = some (some (.int i t))) : ∃ t, mg x = some (.int i t) := ⟨t, PySem.W.mg_of X G a⟩
theorem ec_mk {x : Str} {C : Addr} (X : K.In h) (G : h.Ns mainGlobals mg) (a : PySem.W.nsIn K mainGlobals x = some (some (.ref C))) (q : PySem.W.excIn K C [.type "ValueError", .type "Exception", .type "BaseException", .type "object"] "ValueError.__new__" = true) (kp : PySem.W.keepIn K (.ref C) = true)
    (b : PySem.W.subIn K (.ref C) (.type "BaseException") = some true) (t : PySem.W.typeIn K (.ref C) = some (.type "type")) : EC K mg x C := ⟨PySem.W.mg_of X G a, q, kp, b, t⟩
theorem ei_mk {C : Addr} (t : PySem.W.typeIn K (.ref C) = some (.type "type")) (i : PySem.W.isClsIn K C = true) (s : PySem.W.subIn K (.ref C) (.ref C) = some true) (v : PySem.W.subIn K (.ref C) (.type "ValueError") = some true)
    (hg : PySem.W.findIn K (.ref C) "__getattribute__" = some (some (.builtin "BaseException.__getattribute__"))) (hk : PySem.W.findIn K (.ref C) "__getattr__" = some none) (hs : PySem.W.subIn K (.ref C) (.type "BaseException") = some true) (hd : PySem.W.hasDictIn K C = true)
    (ha : PySem.W.findIn K (.ref C) "__class__" = some (some (.builtin "object.__class__"))) (hn : PySem.W.specialIn K (.builtin "object.__class__") "__get__" = some (some (.builtin "getset_descriptor.__get__"))) (ht : PySem.W.takesIn K (.builtin "object.__class__") = some true)
    (hm : PySem.W.mroIn K C (.type "object") = some true) : EI K C := ⟨⟨hg, hk, hs, hd, ha, hn, ht, hm⟩, t, i, s, v⟩
end
/-- the error that all errors of the program are: what an except clause asks -/
structure EP (K : Fg) (mg : Str → Option Value) (cE : Addr) : Prop where
  g : mg "PurseError" = some (.ref cE)
  hd : PySem.W.hasDictIn K cE = true
  b : PySem.W.subIn K (.ref cE) (.type "BaseException") = some true
  t : PySem.W.typeIn K (.ref cE) = some (.type "type")
theorem ep_mk {K : Fg} {h : Heap} {mg : Str → Option Value} {C : Addr} (X : K.In h) (G : h.Ns mainGlobals mg) (a : PySem.W.nsIn K mainGlobals "PurseError" = some (some (.ref C))) (hd : PySem.W.hasDictIn K C = true)
    (b : PySem.W.subIn K (.ref C) (.type "BaseException") = some true) (t : PySem.W.typeIn K (.ref C) = some (.type "type")) : EP K mg C := ⟨PySem.W.mg_of X G a, hd, b, t⟩
theorem EP.exm {K : Fg} {mg : Str → Option Value} {cE C : Addr} (h : EP K mg cE) (s : PySem.W.subIn K (.ref C) (.ref cE) = some true) : PySem.W.exmOne K (.ref C) (.ref cE) = some true := PySem.W.exm_ref h.b h.hd h.t s
theorem EP.names {X : Cx} {cE : Addr} (h : EP X.K X.mg cE) (hg : Gl X "PurseError") : Names X "PurseError" (.ref cE) := ⟨hg, rfl, .inl h.g⟩
/-- the five errors, in the law's order -/
def nm5 : Fin 5 → Str
  | 0 => "BadMachine"
  | 1 => "BadRow"
  | 2 => "BadPrices"
  | 3 => "BadModel"
  | 4 => "BadForm"
def cls5 (a b c d e : Addr) : Fin 5 → Addr
  | 0 => a
  | 1 => b
  | 2 => c
  | 3 => d
  | 4 => e
structure E5 (K : Fg) (mg : Str → Option Value) (cE : Addr) (cls : Fin 5 → Addr) : Prop where
  ep : EP K mg cE
  ve : mg "ValueError" = none
  ec : ∀ i, EC K mg (nm5 i) (cls i)
  ei : ∀ i, EI K (cls i)
  sub : ∀ i j, PySem.W.subIn K (.ref (cls i)) (.ref (cls j)) = some (decide (i = j))
  par : ∀ i, PySem.W.subIn K (.ref (cls i)) (.ref cE) = some true
theorem e5_mk {K : Fg} {mg : Str → Option Value} {cE a b c d e : Addr} (ep : EP K mg cE) (ve : mg "ValueError" = none) (ec0 : EC K mg "BadMachine" a) (ec1 : EC K mg "BadRow" b) (ec2 : EC K mg "BadPrices" c) (ec3 : EC K mg "BadModel" d) (ec4 : EC K mg "BadForm" e)
    (ei0 : EI K a) (ei1 : EI K b) (ei2 : EI K c) (ei3 : EI K d) (ei4 : EI K e)
    (s01 : PySem.W.subIn K (.ref a) (.ref b) = some false) (s02 : PySem.W.subIn K (.ref a) (.ref c) = some false) (s03 : PySem.W.subIn K (.ref a) (.ref d) = some false) (s04 : PySem.W.subIn K (.ref a) (.ref e) = some false)
    (s10 : PySem.W.subIn K (.ref b) (.ref a) = some false) (s12 : PySem.W.subIn K (.ref b) (.ref c) = some false) (s13 : PySem.W.subIn K (.ref b) (.ref d) = some false) (s14 : PySem.W.subIn K (.ref b) (.ref e) = some false)
    (s20 : PySem.W.subIn K (.ref c) (.ref a) = some false) (s21 : PySem.W.subIn K (.ref c) (.ref b) = some false) (s23 : PySem.W.subIn K (.ref c) (.ref d) = some false) (s24 : PySem.W.subIn K (.ref c) (.ref e) = some false)
    (s30 : PySem.W.subIn K (.ref d) (.ref a) = some false) (s31 : PySem.W.subIn K (.ref d) (.ref b) = some false) (s32 : PySem.W.subIn K (.ref d) (.ref c) = some false) (s34 : PySem.W.subIn K (.ref d) (.ref e) = some false)
    (s40 : PySem.W.subIn K (.ref e) (.ref a) = some false) (s41 : PySem.W.subIn K (.ref e) (.ref b) = some false) (s42 : PySem.W.subIn K (.ref e) (.ref c) = some false) (s43 : PySem.W.subIn K (.ref e) (.ref d) = some false)
    (p0 : PySem.W.subIn K (.ref a) (.ref cE) = some true) (p1 : PySem.W.subIn K (.ref b) (.ref cE) = some true) (p2 : PySem.W.subIn K (.ref c) (.ref cE) = some true) (p3 : PySem.W.subIn K (.ref d) (.ref cE) = some true) (p4 : PySem.W.subIn K (.ref e) (.ref cE) = some true) :
    E5 K mg cE (cls5 a b c d e) where
  ep := ep
  ve := ve
  ec := fun i => match i with | 0 => ec0 | 1 => ec1 | 2 => ec2 | 3 => ec3 | 4 => ec4
  ei := fun i => match i with | 0 => ei0 | 1 => ei1 | 2 => ei2 | 3 => ei3 | 4 => ei4
  sub := fun i j => match i, j with
    | 0, 0 => ei0.s | 0, 1 => s01 | 0, 2 => s02 | 0, 3 => s03 | 0, 4 => s04
    | 1, 0 => s10 | 1, 1 => ei1.s | 1, 2 => s12 | 1, 3 => s13 | 1, 4 => s14
    | 2, 0 => s20 | 2, 1 => s21 | 2, 2 => ei2.s | 2, 3 => s23 | 2, 4 => s24
    | 3, 0 => s30 | 3, 1 => s31 | 3, 2 => s32 | 3, 3 => ei3.s | 3, 4 => s34
    | 4, 0 => s40 | 4, 1 => s41 | 4, 2 => s42 | 4, 3 => s43 | 4, 4 => ei4.s
  par := fun i => match i with | 0 => p0 | 1 => p1 | 2 => p2 | 3 => p3 | 4 => p4
theorem walk_F {l : PySem.W.OpenLaw} {q : Program} {loose : List Str} {XP : (Str → Option Value) → Heap → Prop} {YP : World → Heap → Prop} {d : DefRec} {K : Params → PySem.W.Frag} (k : Nat) (hn : l.most = some 63) (hdf : d.params.defaults = []) (hr : Room k callerA)
    (hY : ∀ (w : World) (h : Heap), YP w h → (K w.params).In h)
    (F : ∀ (w : World) (mg : Str → Option Value) (fa : Addr) (h : Heap), (K w.params).In h → h.Ns mainGlobals mg → mg d.name = some (.ref fa) →
      ∃ fd : FuncData, (∀ (s : Shared) (u : Value), BindsTo s fd ⟨[u], []⟩ [("_law_script", u)]) ∧ ∀ base : Heap, (K w.params).In base → base.Ns mainGlobals mg → FnOk l.prog w (K w.params) mg base (L2.CX l.prog w) k fa fd ["_law_script"] (spF (K w.params) F_law)) :
    PySem.W.WalkO q loose XP YP l.row.toRowW d [] (fun f vs => PySem.call f vs) :=
  L2.walk_of (n := 63) (k := k) (x := "_law_script") (CX := fun w => L2.CX l.prog w) (sp := fun w => spF (K w.params) F_law) hn (by decide) hdf hr hY F (fun w H a ns hl _ hS => law_sp hl hS) fun w H s e s2 z => law_cx z
end Lay
/-! Lay13: what may be compared, told by depth; lists of lists of the frame's own. -/
namespace Lay
open PySem L2
/-- data of at most n deep, that may be compared -/
def okN (n : Nat) (d : D) : Prop := plain d = true ∧ (py d).canLay0 = true ∧ (py d).depth ≤ n
theorem okN.e {n : Nat} {d : D} (h : okN n d) (hn : n ≤ 64 := by decide) : okE d = true := by
  obtain ⟨h1, h2, h3⟩ := h
  unfold okE SeqAt.shaped
  rw [h1, h2]
  simp; omega
theorem okN.mono {m n : Nat} {d : D} (h : okN m d) (l : m ≤ n) : okN n d := ⟨h.1, h.2.1, Nat.le_trans h.2.2 l⟩
theorem okN_int {n : Nat} {i : Int} : okN n (.int i) := ⟨rfl, rfl, Nat.zero_le _⟩
theorem okN_bl {n : Nat} {i : Bool} : okN n (.bl i) := ⟨rfl, rfl, Nat.zero_le _⟩
theorem okN_non {n : Nat} : okN n .non := ⟨rfl, rfl, Nat.zero_le _⟩
theorem okN_all {n : Nat} : ∀ {ds : List D}, (∀ d ∈ ds, okN n d) → plainAll ds = true ∧ PyData.canLayAll0 (pyAll ds) = true ∧ PyData.depthAll (pyAll ds) ≤ n
  | [], _ => ⟨rfl, rfl, Nat.zero_le _⟩
  | d :: ds, h => by
    obtain ⟨a, b, c⟩ := okN_all (ds := ds) fun x hx => h x (List.mem_cons_of_mem _ hx)
    obtain ⟨a1, b1, c1⟩ := h d List.mem_cons_self
    refine ⟨?_, ?_, ?_⟩
    · show (plain d && plainAll ds) = true
      rw [a1, a]; rfl
    · show (PyData.canLay0 (py d) && PyData.canLayAll0 (pyAll ds)) = true
      rw [b1, b]; rfl
    · show max (PyData.depth (py d)) (PyData.depthAll (pyAll ds)) ≤ n
      omega
theorem okN_lst {n : Nat} {ds : List D} (h : ∀ d ∈ ds, okN n d) : okN (n + 1) (.lst ds) := by
  obtain ⟨a, b, c⟩ := okN_all h
  refine ⟨a, b, ?_⟩
  show PyData.depthAll (pyAll ds) + 1 ≤ n + 1
  omega
theorem okN_tup {n : Nat} {ds : List D} (h : ∀ d ∈ ds, okN n d) : okN (n + 1) (.tup ds) := by
  obtain ⟨a, b, c⟩ := okN_all h
  refine ⟨a, b, ?_⟩
  show PyData.depthAll (pyAll ds) + 1 ≤ n + 1
  omega
theorem eqD_refl {A : D} (h : okE A = true) : eqD A A = true := PySem.SeqAt.eqv_refl _ (SeqAt.canLay_of_shaped (okE_r h))

/-! ### lists of lists of the frame's own -/
section
variable {K : Fg} {G S0 S H S' H' : Hp} {σ : St} {ds : List It} {A : Nat → List Addr}
theorem itr_ll {o : Option V} {xss : List (List D)} {as : List Addr} (q : ItR K S H (.ll xss) o as) : ∃ p vs bs, o = some (.ref p) ∧ as = p :: bs ∧ H p = some (.lst vs) ∧ LlR K S H xss vs bs := by
  cases q with
  | ll q q2 => exact ⟨_, _, _, rfl, rfl, q, q2⟩
theorem llr_len : ∀ {xss : List (List D)} {vs : List V} {as : List Addr}, LlR K S H xss vs as → vs.length = xss.length ∧ as.length = xss.length
  | _, _, _, .nil => ⟨rfl, rfl⟩
  | _, _, _, .cons _ _ t => by
    obtain ⟨a, b⟩ := llr_len t
    exact ⟨by simp [a], by simp [b]⟩
theorem llr_get : ∀ {xss : List (List D)} {vs : List V} {as : List Addr} {j : Nat} {xs : List D}, LlR K S H xss vs as → xss[j]? = some xs → ∃ p ws, vs[j]? = some (.ref p) ∧ as[j]? = some p ∧ H p = some (.lst ws) ∧ RpA K S ws xs
  | _, _, _, 0, _, .cons h r _, e => by cases e; exact ⟨_, _, rfl, rfl, h, r⟩
  | _, _, _, j + 1, _, .cons _ _ t, e => llr_get (j := j) t e
theorem llr_set : ∀ {xss : List (List D)} {vs : List V} {as : List Addr} {j : Nat} {ys : List D} {p : Addr} {ws : List V}, LlR K S H xss vs as → as.Nodup → as[j]? = some p → RpA K S ws ys → LlR K S (upd H p (.lst ws)) (xss.set j ys) vs as
  | _, _, _, 0, _, p, _, .cons h r t, nd, e, q => by
    cases e
    rw [List.nodup_cons] at nd
    exact .cons upd_same q (llr_keep (Same.refl _) t fun a ha => upd_ne fun z => nd.1 (by rw [← z]; exact ha))
  | _, _, _, j + 1, _, p, _, .cons (as := bs) h r t, nd, e, q => by
    rw [List.nodup_cons] at nd
    have hm : p ∈ bs := List.mem_of_getElem? (show bs[j]? = some p from e)
    exact .cons ((upd_ne fun z => nd.1 (by rw [z]; exact hm)).trans h) r (llr_set t nd.2 e q)
theorem llr_dp (k : Same S H) : ∀ {xss : List (List D)} {vs : List V} {as : List Addr}, LlR K S H xss vs as → plainAll (xss.map D.lst) = true → DpAll K H vs (pyAll (xss.map D.lst))
  | _, _, _, .nil, _ => .nil
  | _, _, _, .cons h r t, p => by
    obtain ⟨p1, p2⟩ := Bool.and_eq_true_iff.mp p
    exact .cons (.lst (sq_of h) (rpa_dp k _ _ r p1)) (llr_dp k t p2)
theorem EnvA.ll (e : EnvA K G S0 S H σ ds A) {i : Nat} {xss : List (List D)} (h : ds[i]? = some (.ll xss)) : ∃ p vs bs, σ[i]? = some (some (.ref p)) ∧ A i = p :: bs ∧ H p = some (.lst vs) ∧ LlR K S H xss vs bs := by
  obtain ⟨p, vs, bs, hv, ha, hp, r⟩ := itr_ll (e.it i _ h)
  exact ⟨p, vs, bs, join_some hv, ha, hp, r⟩
/-- one of the lists changes -/
theorem Env.mutLL (e : Env K G S0 S H σ ds) {i : Nat} {xss : List (List D)} {j : Nat} {xs : List D} (h : ds[i]? = some (.ll xss)) (hj : xss[j]? = some xs) : ∃ p vs q ws, σ[i]? = some (some (.ref p)) ∧ H p = some (.lst vs) ∧ vs.length = xss.length ∧ vs[j]? = some (.ref q) ∧ H q = some (.lst ws) ∧ RpA K S ws xs ∧
    ∀ us ys, RpA K S us ys → Env K G S0 S (upd H q (.lst us)) σ (ds.set i (.ll (xss.set j ys))) := by
  obtain ⟨A, e⟩ := e
  obtain ⟨p, vs, bs, hv, ha, hp, r⟩ := e.ll h
  obtain ⟨q, ws, h1, h2, h3, h4⟩ := llr_get r hj
  refine ⟨p, vs, q, ws, hv, hp, (llr_len r).1, h1, h3, h4, fun us ys ru => ?_⟩
  have hm : q ∈ A i := by rw [ha]; exact List.mem_cons_of_mem _ (List.mem_of_getElem? h2)
  have nd := e.nd i
  obtain ⟨_, sq, gq⟩ := e.fr i q hm
  have hne : ∀ j a, j ≠ i → a ∈ A j → a ≠ q := fun j a z hj w => z (e.dj j i a hj (w ▸ hm))
  have fr := e.fr i
  rw [ha] at nd fr
  rw [List.nodup_cons] at nd
  have pq : p ≠ q := fun z => nd.1 (z ▸ List.mem_of_getElem? h2)
  have w := e.put (S' := S) (H' := upd H q (.lst us)) i (it := .ll (xss.set j ys)) (v := some (.ref p)) (Same.refl _) (fun b u w => by
      rw [upd_ne (fun z => by subst z; rw [sq] at w; cases w)]; exact e.sh _ _ w) (fun b u w => by rw [upd_ne (fun z => by subst z; rw [gq] at w; cases w)]; exact e.gh _ _ w) e.gs (.ll ((upd_ne pq).trans hp) (llr_set r nd.2 h2 ru)) (List.nodup_cons.mpr nd)
    (fun j a z hj => ⟨upd_ne (hne j a z hj), (e.fr j a hj).2.1⟩) fun a ha' => ⟨(fr a ha').2.1, (fr a ha').2.2, fun j z hj => z (e.dj j i a hj (by rw [ha]; exact ha'))⟩
  rw [set_get hv] at w
  exact ⟨_, w⟩
end
section
variable {X : Cx} {W : WX} {e a b c : Expr} {ds ds' : List It} {pos : Pos} {d : D} {xs ys : List D} {tg : Expr}
variable {x : Str} {px pa : Pos}
/-- x = [xs, ys] of new lists -/
theorem xs_own2 (i : Nat) {p pl : Pos} (hN : X.N.Nodup) (ha : XL X a ds xs) (hb : XL X b ds ys) (hi : X.N[i]? = some x := by rfl) (hx : Loc X.env.scope x := by first | exact Or.inl rfl | exact Or.inr rfl) (hs : swapsWith (.List [a, b] pl) (some (.Name x p)) pos.line X.env = pure false := by rfl)
    (hf : X.fn x = true ∨ X.env.scope.names.lookup x = some .local := by first | exact .inl rfl | exact .inr rfl) (h1 : starEach [a, b] X.env = (false, eval a X.env) :: starEach [b] X.env := by exact se rfl) (h2 : starEach [b] X.env = (false, eval b X.env) :: starEach [] X.env := by exact se rfl) :
    XS X W (.Assign [.Name x p] (.List [a, b] pl) pos) ds (.nx (ds.set i (.ll [xs, ys]))) := .mk fun G S0 S H σ E Z q =>
  ws_of (ps_set hN hi hx (pe_lst (pa_cons pe_w (pa_cons pe_w pa_nil h2) h1)) hs hf) (ha G S0 S H σ E _ fun p1 vs1 S1 H1 g1 f1 f2 f3 r1 => hb G S0 S1 H1 σ (E.grow g1) _ fun p2 vs2 S2 H2 g2 f4 f5 f6 r2 => by
    refine ⟨sz _ (Nat.le_of_ble_eq_true rfl), fun p hp => q _ S2 _ ?_⟩
    have z1 : H2 p1 = some (.lst vs1) := g2.h _ _ f3
    have s1 : S2 p1 = none := by rw [g2.old p1 (nn_of f3)]; exact f2
    have n12 : p1 ≠ p2 := fun z => by rw [z, f4] at f3; cases f3
    have np1 : p1 ≠ p := fun z => by rw [z, hp] at z1; cases z1
    have np2 : p2 ≠ p := fun z => by rw [z, hp] at f6; cases f6
    have n2 : H p2 = none := g1.h.free f4
    have n3 : H p = none := g1.h.free (g2.h.free hp)
    have g : Gr S H S2 (upd H2 p (.lst [.ref p1, .ref p2])) := (g1.trans g2).trans (Gr.newH g2.sh hp)
    obtain ⟨A, e⟩ := E
    have e' := e.grow g
    have hS : S2 p = none := g2.sh.free hp
    refine ⟨_, e'.put i (it := .ll [xs, ys]) (as := [p, p1, p2]) (Same.refl _) e'.sh e'.gh e'.gs (.ll upd_same (.cons ((upd_ne np1).trans z1) (da_same g2.s r1) (.cons ((upd_ne np2).trans f6) r2 .nil))) ?_ (fun j a _ ha => ⟨rfl, (e'.fr j a ha).2.1⟩) fun a ha => ?_⟩
    · simp [n12, np1.symm, np2.symm]
    · have new : ∀ a, H a = none → S2 a = none → S2 a = none ∧ G a = none ∧ ∀ j, j ≠ i → a ∉ A j := fun a h1 h2 => ⟨h2, e.gh.free h1, fun j _ hj => e.own hj h1⟩
      rcases List.mem_cons.mp ha with rfl | ha
      · exact new _ n3 hS
      · rcases List.mem_cons.mp ha with rfl | ha
        · exact new _ f1 s1
        · rcases List.mem_singleton.mp ha with rfl
          exact new _ n2 f5)
/-- x != b -/
theorem xt_neLL (i : Nat) {B : D} {xss : List (List D)} (hu : X.A.units + 64 < cLine) (hb : XB X b ds B) (h1 : okE (.lst (xss.map .lst)) = true) (h2 : okE B = true) (hd : ds[i]? = some (.ll xss) := by rfl) (hN : X.N[i]? = some x := by rfl) (hv : Vis X.env.scope x := by first | exact Or.inl rfl | exact Or.inr (Or.inl rfl) | exact Or.inr (Or.inr rfl)) (h3 : (x == ("__debug__" : Str)) = false := by decide)
    (h4 : (x == ("__classdict__" : Str)) = false := by decide) : XT X (.Compare (.Name x px) [.NotEq] [b] pos) ds (!eqD (.lst (xss.map .lst)) B) := .mk fun G S0 S H σ E Q q => by
  obtain ⟨A, e⟩ := E
  obtain ⟨p, vs, bs, hv', ha, hp, r⟩ := e.ll hd
  exact wt_of (pt_cmpR (op_neD hu) (pe_var (i := i) hN hv h3 h4) pe_w (nomark _)) ⟨.ref p, hv', hb G S0 S H σ ⟨A, e⟩ _ fun y S2 H2 g r2 => ⟨_, _, .lst (sq_of (g.h _ _ hp)) (llr_dp g.sh (llr_keep g.s r fun a ha' => keep_of g.h (llr_owned r a ha')) (okE_l h1)), rb_dp g.sh r2 (okE_l h2), okE_r h1, okE_r h2, ⟨_, rfl, q S2 H2 g⟩⟩⟩
theorem ll_atI {α : Type} {vs : List α} {n : Nat} {m : Int} {j : Nat} {v : α} (hn : vs.length = n) (hj : ixN n m = some j) (h : vs[j]? = some v) : atI vs m = some v := by
  unfold atI
  rw [hn, hj]; exact h
/-- x[k] == b -/
theorem xt_eqLL (i : Nat) {B : D} {xss : List (List D)} {m : Int} {j : Nat} {k : Expr} {pk : Pos} (hu : X.A.units + 64 < cLine) (hk : XV X k ds (.int m)) (hj : ixN xss.length m = some j) (hx : xss[j]? = some xs) (hb : XB X b ds B) (h1 : okE (.lst xs) = true) (h2 : okE B = true) (hd : ds[i]? = some (.ll xss) := by rfl) (hN : X.N[i]? = some x := by rfl) (hv : Vis X.env.scope x := by first | exact Or.inl rfl | exact Or.inr (Or.inl rfl) | exact Or.inr (Or.inr rfl)) (h3 : (x == ("__debug__" : Str)) = false := by decide)
    (h4 : (x == ("__classdict__" : Str)) = false := by decide) (hs : PlainIx k := by exact fun _ _ => rfl) : XT X (.Compare (.Subscript (.Name x px) k pk) [.Eq] [b] pos) ds (eqD (.lst xs) B) := .mk fun G S0 S H σ E Q q => by
  refine wt_of (pt_cmpR (op_eqD hu) (pe_ix ix_seq (pe_var (i := i) hN hv h3 h4) pe_w hs) pe_w (nomark _)) ?_
  obtain ⟨p, vs, r, ws, hv', hp, hl, hvj, hr, ra, _⟩ := E.mutLL hd hx
  refine ⟨.ref p, hv', hk G S0 S H σ E _ fun kv S1 H1 g1 rk => ?_⟩
  cases rk
  refine .inl ⟨p, vs, m, .ref r, rfl, rfl, sq_of (g1.h _ _ hp), ll_atI hl hj hvj, ?_⟩
  exact hb G S0 S1 H1 σ (E.grow g1) _ fun y S2 H2 g r2 => ⟨_, _, .lst (sq_of (g.h _ _ (g1.h _ _ hr))) (rpa_dp g.sh _ _ (da_same g.s (da_same g1.s ra)) (okE_l h1)), rb_dp g.sh r2 (okE_l h2), okE_r h1, okE_r h2, ⟨_, rfl, q S2 H2 (g1.trans g)⟩⟩
/-- tg = a[x[k].pop(0)] -/
theorem xs_asgPopIx (i : Nat) {xss : List (List D)} {m y : Int} {j : Nat} {k : Expr} {pk pc ps pz : Pos} {jz} (ha : XV X a ds (.lst xs)) (hk : XV X k ds (.int m)) (hj : ixN xss.length m = some j) (hx : xss[j]? = some (.int y :: ys)) (hy : atI xs y = some d) (hg : XG X tg d (ds.set i (.ll (xss.set j ys))) ds') (hd : ds[i]? = some (.ll xss) := by rfl)
    (hN : X.N[i]? = some x := by rfl) (hv : Vis X.env.scope x := by first | exact Or.inl rfl | exact Or.inr (Or.inl rfl) | exact Or.inr (Or.inr rfl)) (h3 : (x == ("__debug__" : Str)) = false := by decide) (h4 : (x == ("__classdict__" : Str)) = false := by decide) (hi : PlainIx k := by exact fun _ _ => rfl)
    (hbase : attributeBase (.Subscript (.Name x px) k pk) "pop" X.env (eval (.Subscript (.Name x px) k pk) X.env) = eval (.Subscript (.Name x px) k pk) X.env := by rfl) (hline : (pa.endLine == pc.line) = true := by rfl)
    (hs : swapsWithSole [tg] (.Subscript a (.Call (.Attribute (.Subscript (.Name x px) k pk) "pop" pa) [.Constant (.int 0) jz pz] [] pc) ps) pos.line X.env = pure false := by rfl) (hw : swappedStores [tg] (.Subscript a (.Call (.Attribute (.Subscript (.Name x px) k pk) "pop" pa) [.Constant (.int 0) jz pz] [] pc) ps) X.env = pure none := by rfl)
    (h1 : (assignEach [tg] X.env).map (·.2) = [assign tg X.env] := by rfl) : XS X W (.Assign [tg] (.Subscript a (.Call (.Attribute (.Subscript (.Name x px) k pk) "pop" pa) [.Constant (.int 0) jz pz] [] pc) ps) pos) ds (.nx ds') := .mk fun G S0 S H σ E Z q => by
  refine ws_of (ps_asg (pe_ix ix_seq pe_w (pe_bm PySem.F.plainAttrs_list PySem.F.slot_list_pop PySem.F.type_list_pop (fun pins s σ H x xs v us Q I rx rv h => mt_popAt pins s σ H x xs v us Q I rx rv h) (pe_ix ix_seq (pe_var (i := i) hN hv h3 h4) pe_w hi) (pa_cons pe_int pa_nil (se rfl)) hbase (sfew rfl (Nat.le_of_ble_eq_true rfl)) hline (se rfl) (spl rfl)) (fun _ _ => rfl)) pg_w hs hw h1) ?_
  refine ha G S0 S H σ E _ fun av S1 H1 g1 r1 => ?_
  have E1 := E.grow g1
  obtain ⟨p, vs, r, ws, hv', hp, hl, hvj, hr, ra, _⟩ := E1.mutLL hd hx
  refine ⟨.ref p, hv', hk G S0 S1 H1 σ E1 _ fun kv S2 H2 g2 rk => ?_⟩
  cases rk
  refine .inl ⟨p, vs, m, .ref r, rfl, rfl, sq_of (g2.h _ _ hp), ll_atI hl hj hvj, ty_list (g2.h _ _ hr), ?_⟩
  obtain ⟨p', vs', r', ws', hv2, hp2, hl2, hvj2, hr2, ra2, mut2⟩ := (E1.grow g2).mutLL hd hx
  rw [hv'] at hv2
  cases hv2
  rw [g2.h _ _ hp] at hp2
  cases hp2
  rw [hvj] at hvj2
  cases hvj2
  cases ra2 with
  | @cons v0 _ vs0 _ rv rvs =>
    cases rv
    refine ⟨r, _, 0, 0, _, rfl, rfl, hr2, by decide, by decide, (ixN_seq (ixN_ge (i := 0) (by decide) (by simp))).1, rfl, ?_⟩
    have E3 := mut2 _ _ rvs
    cases r1 with
    | @lst qa ws2 _ hq raq =>
      obtain ⟨v, hv3, rv3⟩ := da_atI raq hy
      have hq2 := E3.sh _ _ (g2.s _ _ hq)
      exact .inl ⟨qa, ws2, y, v, rfl, rfl, sq_of hq2, hv3, hg G S0 S2 _ σ v E3 (dp_same g2.s rv3) _ fun σ' E4 => q σ' S2 _ E4⟩
theorem pyAll_get : ∀ {xs : List D} {j : Nat}, (pyAll xs)[j]? = xs[j]?.map py
  | [], _ => rfl
  | x :: xs, 0 => rfl
  | x :: xs, j + 1 => pyAll_get (xs := xs) (j := j)
/-- xs.index(e), of data of any depth -/
theorem xv_indexD {j : Nat} {z : D} (hu : X.A.units + 65 < cLine) (ho : XB X a ds (.lst xs)) (ha : XB X e ds d) (hk1 : okE (.lst xs) = true) (hk2 : okE d = true) (hj : xs[j]? = some z) (hz : eqD z d = true) (hn : ∀ (m : Nat) (z' : D), m < j → xs[m]? = some z' → eqD z' d = false)
    (hbase : attributeBase a "index" X.env (eval a X.env) = eval a X.env := by rfl) (hline : (pa.endLine == pos.line) = true := by rfl) (hst : isStar e = false := by rfl) : XV X (.Call (.Attribute a "index" pa) [e] [] pos) ds (.int (j : Int)) :=
  xv_bm PySem.F.plainAttrs_list PySem.F.slot_list_index PySem.F.type_list_index (mt_indexD hu) ho (xab_cons ha xab_nil (se hst)) ty_lst (fun S H x vs Q k r rr q => by
    have r0 := r
    obtain ⟨p, us, rfl, h1, h2⟩ := r.lst k
    obtain ⟨v, rfl, r1⟩ := rba1 rr
    refine ⟨p, v, py d, pyAll xs, j, py z, rfl, rfl, rb_dp k r0 (okE_l hk1), rb_dp k r1 (okE_l hk2), okE_r hk1, okE_r hk2, by rw [pyAll_get, hj]; rfl, hz, fun m z' hm hz' => ?_, q _ S H (.refl k) (.int _)⟩
    rw [pyAll_get] at hz'
    cases w : xs[m]? with
    | none => rw [w] at hz'; cases hz'
    | some y => rw [w] at hz'; cases hz'; exact hn m y hm w) hbase (sfew (by simp [hst]) (by simp)) hline (se hst) (spl rfl)
/-- a while whose end is told by what is true of it -/
theorem xss_whileE {c : Expr} {body rest : List Stmt} {n : Nat} {Q : List It → Prop} {o : Ou} (hp : PassesOwn (model X.prog X.w) X.A X.env X.xe) (hw : ∃ ds1, Q ds1 ∧ Wh X W c body n ds (.nx ds1)) (h : ∀ ds1, Q ds1 → XSs X W rest ds1 o) : XSs X W (.While c body [] pos :: rest) ds o := by
  obtain ⟨ds1, q, hw⟩ := hw
  exact xss_cons (xs_while hp hw) (h ds1 q)
end
end Lay
set_option autoImplicit true
namespace Prog
open PySem L2 Lay

def top (i : Nat) : Stmt := PySem.Challenge.pw_pursehall_k02_beside.main.body.getD i (.Pass ⟨0, 0, 0, 0⟩)

/-! the law's own draws -/
def cell (s : List Int) (k : Int) : Int := if s.isEmpty then 0 else s.getD (k % s.length).toNat 0
@[irreducible] def mix (s : List Int) (k : Int) : Int :=
  let n := (cell s k + 104729 * (k + 1)) % 4294967291
  let n := n * 48271 % 4294967279
  (n / 64 * 69621 + n) % 4294967231
theorem mix_nonneg (s : List Int) (k : Int) : 0 ≤ mix s k := by unfold mix; exact Int.emod_nonneg _ (by decide)
theorem mix_lt (s : List Int) (k : Int) : mix s k < 4294967231 := by unfold mix; exact Int.emod_lt_of_pos _ (by decide)

/-! machines, as the document has them -/
abbrev Deed := Int × Int × Int × Int
def dl (d : Deed) : List Int := [d.1, d.2.1, d.2.2.1, d.2.2.2]
def eDeed (d : Deed) : D := .tup ((dl d).map .int)
def eMach (p k : Int) (ds : List Deed) : D := .tup [.int p, .int k, .lst (ds.map eDeed)]
def deedOk (p kn : Int) (d : Deed) : Bool := decide (0 ≤ d.1) && decide (d.1 < p) && (decide (0 ≤ d.2.2.1) && decide (d.2.2.1 < p)) && (decide (0 ≤ d.2.1) && decide (d.2.1 < kn)) && (decide (0 ≤ d.2.2.2) && decide (d.2.2.2 ≤ 1000))
def dlt (c d : Deed) : Bool := HT.lexLt (dl c) (dl d)
def prevOk : Option Deed → Deed → Bool
  | none, _ => true
  | some c, d => dlt c d
def look (p kn : Int) : Option Deed → List Deed → Bool
  | _, [] => true
  | prev, d :: ds => deedOk p kn d && prevOk prev d && look p kn (some d) ds
def goodM (p kn : Int) (ds : List Deed) : Bool := decide (1 ≤ p) && decide (p ≤ 200) && (decide (1 ≤ kn) && decide (kn ≤ 8)) && decide (ds.length ≤ 600) && look p kn none ds
def dAt (ds : List Deed) (n : Int) : Deed := ds.getD n.toNat (0, 0, 0, 0)
theorem ix_deed {ds : List Deed} {n : Int} (h0 : 0 ≤ n) (h1 : n < ds.length) : ixD (.lst (ds.map eDeed)) n = some (eDeed (dAt ds n)) := ix_map (atI_d _ h0 h1)
theorem in_of {n : Int} {m : Nat} (h : (!(cmpI .LtE 0 n && cmpI .Lt n (m : Int))) = false) : 0 ≤ n ∧ n < m := by simpa [cmpI] using h
theorem ix_deedC {ds : List Deed} {n : Int} (h : (!(cmpI .LtE 0 n && cmpI .Lt n (((ds.map eDeed).length : Nat) : Int))) = false) : ixD (.lst (ds.map eDeed)) n = some (eDeed (dAt ds n)) := by
  obtain ⟨h0, h1⟩ := in_of h
  rw [List.length_map] at h1
  exact ix_deed h0 h1
theorem ix_lastM {α : Type} {f : α → D} {xs : List α} {x : α} (h : xs.getLast? = some x) : ixD (.lst (xs.map f)) (-1) = some (f x) := by
  refine ix_map ?_
  have hn : xs ≠ [] := by intro z; rw [z] at h; cases h
  rw [atI_lastD hn, ← List.getLast?_eq_some_getLast hn, h]
/-- a deed done at a place: where it leads -/
def step (ds : List Deed) (here n : Int) : Option Int := if 0 ≤ n ∧ n < ds.length ∧ (dAt ds n).1 = here then some (dAt ds n).2.2.1 else none
/-- the places that a row comes to, behind here -/
def goneL (ds : List Deed) : Int → List Int → Option (List Int)
  | _, [] => some []
  | here, n :: r => match step ds here n with
    | none => none
    | some h => (goneL ds h r).map (h :: ·)
theorem goneL_len (ds : List Deed) : ∀ (row : List Int) (here : Int) (l : List Int), goneL ds here row = some l → l.length = row.length
  | [], here, l, h => by cases h; rfl
  | n :: r, here, l, h => by
    unfold goneL at h
    split at h
    · cases h
    · rename_i h2 hs
      cases e : goneL ds h2 r with
      | none => rw [e] at h; cases h
      | some l2 => rw [e] at h; cases h; simp [goneL_len ds r h2 l2 e]
theorem goneL_some {ds : List Deed} {here n h : Int} {r : List Int} (e : step ds here n = some h) : goneL ds here (n :: r) = (goneL ds h r).map (h :: ·) := by
  conv => lhs; unfold goneL
  rw [e]
theorem goneL_none {ds : List Deed} {here n : Int} {r : List Int} (e : step ds here n = none) : goneL ds here (n :: r) = none := by
  conv => lhs; unfold goneL
  rw [e]
theorem step_to {ds : List Deed} {here n h : Int} (e : step ds here n = some h) : h = (dAt ds n).2.2.1 := by
  unfold step at e
  split at e
  · cases e; rfl
  · cases e
/-- what the deeds of a row cost -/
def costL (ds : List Deed) (row : List Int) : Int := (row.map fun n => (dAt ds n).2.2.2).sum
theorem goneL_in {ds : List Deed} : ∀ (row : List Int) (here : Int) (l : List Int), goneL ds here row = some l → ∀ n ∈ row, 0 ≤ n ∧ n < ds.length
  | [], here, l, _, n, hn => by cases hn
  | n :: r, here, l, h, m, hm => by
    cases e : step ds here n with
    | none => rw [goneL_none e] at h; cases h
    | some h2 =>
      rw [goneL_some e] at h
      have hin : 0 ≤ n ∧ n < ds.length := by
        unfold step at e
        split at e
        · omega
        · cases e
      rcases List.mem_cons.mp hm with rfl | hm
      · exact hin
      · cases e3 : goneL ds h2 r with
        | none => rw [e3] at h; cases h
        | some l2 => exact goneL_in r h2 l2 e3 m hm

/-! the law's drawn machines -/
def cd (d : Deed) : Int := TS.code 1024 (dl d)
def dins (d : Deed) : List Deed → List Deed
  | [] => [d]
  | x :: xs => if cd d < cd x then d :: x :: xs else if cd d = cd x then x :: xs else x :: dins d xs
/-- sorted, each once -/
def dsort : List Deed → List Deed
  | [] => []
  | d :: ds => dins d (dsort ds)
def BdD (d : Deed) : Prop := TS.Bd 1024 (dl d)
theorem dl_inj {c d : Deed} (h : dl c = dl d) : c = d := by
  obtain ⟨a, b, c', e⟩ := c
  obtain ⟨a2, b2, c2, e2⟩ := d
  simp only [dl, List.cons.injEq] at h
  obtain ⟨h1, h2, h3, h4, _⟩ := h
  rw [h1, h2, h3, h4]
theorem cd_inj {c d : Deed} (hc : BdD c) (hd : BdD d) (h : cd c = cd d) : c = d := dl_inj (code_inj hc hd rfl h)
theorem dins_mem {d : Deed} (hd : BdD d) : ∀ {xs : List Deed}, (∀ x ∈ xs, BdD x) → ∀ y, y ∈ dins d xs ↔ y = d ∨ y ∈ xs
  | [], _, y => by simp [dins]
  | x :: xs, h, y => by
    have ih := dins_mem hd (xs := xs) (fun z hz => h z (List.mem_cons_of_mem _ hz)) y
    unfold dins
    split
    · simp
    · split
      · rename_i h1 h2
        have e := cd_inj hd (h x List.mem_cons_self) h2
        subst e
        simp
      · simp only [List.mem_cons, ih]
        constructor
        · rintro (h | h | h) <;> simp [h]
        · rintro (h | h | h) <;> simp [h]
theorem dins_rise {d : Deed} : ∀ {xs : List Deed}, xs.Pairwise (fun a b => cd a < cd b) → (dins d xs).Pairwise (fun a b => cd a < cd b) ∧ ∀ y ∈ dins d xs, y = d ∨ y ∈ xs
  | [], _ => by simp [dins]
  | x :: xs, h => by
    rw [List.pairwise_cons] at h
    obtain ⟨ih1, ih2⟩ := dins_rise (d := d) h.2
    unfold dins
    split
    · rename_i h1
      refine ⟨?_, fun y hy => by simpa using hy⟩
      rw [List.pairwise_cons, List.pairwise_cons]
      refine ⟨fun y hy => ?_, h.1, h.2⟩
      rcases List.mem_cons.mp hy with rfl | hy
      · exact h1
      · have := h.1 y hy; omega
    · split
      · refine ⟨by rw [List.pairwise_cons]; exact ⟨h.1, h.2⟩, fun y hy => .inr hy⟩
      · rename_i h1 h2
        refine ⟨?_, fun y hy => ?_⟩
        · rw [List.pairwise_cons]
          refine ⟨fun y hy => ?_, ih1⟩
          rcases ih2 y hy with rfl | hy
          · omega
          · exact h.1 y hy
        · rcases List.mem_cons.mp hy with rfl | hy
          · exact .inr List.mem_cons_self
          · rcases ih2 y hy with z | z
            · exact .inl z
            · exact .inr (List.mem_cons_of_mem _ z)
theorem dsort_rise : ∀ (ds : List Deed), (dsort ds).Pairwise (fun a b => cd a < cd b)
  | [] => .nil
  | d :: ds => (dins_rise (dsort_rise ds)).1
theorem dsort_mem : ∀ {ds : List Deed}, (∀ d ∈ ds, BdD d) → ∀ y, y ∈ dsort ds ↔ y ∈ ds
  | [], _, y => by simp [dsort]
  | d :: ds, h, y => by
    have ih := dsort_mem (ds := ds) fun z hz => h z (List.mem_cons_of_mem _ hz)
    unfold dsort
    rw [dins_mem (h d List.mem_cons_self) (fun x hx => h x (List.mem_cons_of_mem _ ((ih x).mp hx))) y, ih y, List.mem_cons]
theorem dins_len {d : Deed} : ∀ (xs : List Deed), (dins d xs).length ≤ xs.length + 1
  | [] => by simp [dins]
  | x :: xs => by
    have := dins_len (d := d) xs
    unfold dins
    split
    · simp
    · split <;> simp <;> omega
theorem dsort_len : ∀ (ds : List Deed), (dsort ds).length ≤ ds.length
  | [] => by simp [dsort]
  | d :: ds => by
    have := dsort_len ds
    have := dins_len (d := d) (dsort ds)
    simp only [dsort, List.length_cons]; omega
/-- code and the tuples' own order -/
theorem lex_code {B : Int} : ∀ {ns ms : List Int}, TS.Bd B ns → TS.Bd B ms → ns.length = ms.length → (HT.lexLt ns ms = true ↔ TS.code B ns < TS.code B ms)
  | [], [], _, _, _ => by simp [HT.lexLt, TS.code]
  | [], _ :: _, _, _, h => by cases h
  | _ :: _, [], _, _, h => by cases h
  | d :: r, d' :: r', h, h', hl => by
    have hl' : r.length = r'.length := by simpa using hl
    obtain ⟨a1, a2⟩ := code_bd h.tail
    obtain ⟨b1, b2⟩ := code_bd h'.tail
    have ih := lex_code h.tail h'.tail hl'
    simp only [TS.code, HT.lexLt]
    rw [← hl'] at b2 ⊢
    have hp : 0 < B ^ r.length := Int.pow_pos (by have := h.head; omega)
    rcases Int.lt_trichotomy d d' with z | z | z
    · have : (d + 1) * B ^ r.length ≤ d' * B ^ r.length := Int.mul_le_mul_of_nonneg_right (by omega) (Int.le_of_lt hp)
      rw [Int.add_mul] at this
      rw [if_neg (by omega), decide_eq_true z]
      constructor
      · intro _; omega
      · intro _; rfl
    · subst z
      rw [if_pos rfl, ih]
      omega
    · have : (d' + 1) * B ^ r.length ≤ d * B ^ r.length := Int.mul_le_mul_of_nonneg_right (by omega) (Int.le_of_lt hp)
      rw [Int.add_mul] at this
      rw [if_neg (by omega), decide_eq_false (by omega)]
      constructor
      · intro q; cases q
      · intro q; omega
theorem dlt_cd {c d : Deed} (hc : BdD c) (hd : BdD d) : dlt c d = true ↔ cd c < cd d := lex_code hc hd rfl
/-- what look asks, of a list that rises by code -/
theorem look_of {p kn : Int} : ∀ (ds : List Deed) (prev : Option Deed), (∀ d ∈ ds, BdD d ∧ deedOk p kn d = true) → ds.Pairwise (fun a b => cd a < cd b) → (∀ c, prev = some c → BdD c ∧ ∀ d ∈ ds, cd c < cd d) → look p kn prev ds = true
  | [], _, _, _, _ => rfl
  | d :: ds, prev, h, hp, hc => by
    rw [List.pairwise_cons] at hp
    obtain ⟨hb, ho⟩ := h d List.mem_cons_self
    have h1 : prevOk prev d = true := by
      cases prev with
      | none => rfl
      | some c =>
        obtain ⟨c1, c2⟩ := hc c rfl
        exact (dlt_cd c1 hb).mpr (c2 d List.mem_cons_self)
    have h2 := look_of ds (some d) (fun x hx => h x (List.mem_cons_of_mem _ hx)) hp.2 fun c e => by cases e; exact ⟨hb, hp.1⟩
    unfold look
    rw [ho, h1, h2]
    rfl

def mPl (s : List Int) (k most : Int) : Int := 1 + mix s k % most
def mKn (s : List Int) (k : Int) : Int := 1 + mix s (k + 1) % 3
def mCost (n : Int) : Int := ([0, 1, 2, 3, 5, 9, 1, 0] : List Int).getD (n / 4096 % 8).toNat 0
def mDeed (s : List Int) (k most : Int) (j : Int) : Deed :=
  let n := mix s (k + 3 + j)
  (n % mPl s k most, n / 16 % mKn s k, n / 64 % mPl s k most, mCost n)
def mMany (s : List Int) (k most : Int) : Nat := (mix s (k + 2) % (2 * most + 1)).toNat
def mRaw (s : List Int) (k most : Int) : List Deed := (List.range (mMany s k most)).map fun (j : Nat) => mDeed s k most (j : Int)
def mDs (s : List Int) (k most : Int) : List Deed := dsort (mRaw s k most)
theorem mPl_bd {s : List Int} {k most : Int} (h : 1 ≤ most) : 1 ≤ mPl s k most ∧ mPl s k most ≤ most := by
  unfold mPl
  have h1 := Int.emod_nonneg (mix s k) (show most ≠ 0 by omega)
  have h2 := Int.emod_lt_of_pos (mix s k) (show 0 < most by omega)
  omega
theorem mKn_bd (s : List Int) (k : Int) : 1 ≤ mKn s k ∧ mKn s k ≤ 3 := by unfold mKn; omega
theorem mCost_bd (n : Int) : 0 ≤ mCost n ∧ mCost n ≤ 9 := by
  unfold mCost
  have : (n / 4096 % 8).toNat < 8 := by omega
  generalize (n / 4096 % 8).toNat = m at this
  match m, this with
  | 0, _ => decide
  | 1, _ => decide
  | 2, _ => decide
  | 3, _ => decide
  | 4, _ => decide
  | 5, _ => decide
  | 6, _ => decide
  | 7, _ => decide
theorem mMany_bd {s : List Int} {k most : Int} (h : 1 ≤ most) : (mMany s k most : Int) ≤ 2 * most := by
  unfold mMany
  have h1 := Int.emod_nonneg (mix s (k + 2)) (show 2 * most + 1 ≠ 0 by omega)
  have h2 := Int.emod_lt_of_pos (mix s (k + 2)) (show 0 < 2 * most + 1 by omega)
  omega
theorem mDeed_bd {s : List Int} {k most : Int} (h : 1 ≤ most) (h7 : most ≤ 200) (j : Int) : BdD (mDeed s k most j) ∧ deedOk (mPl s k most) (mKn s k) (mDeed s k most j) = true := by
  obtain ⟨p1, p2⟩ := mPl_bd (s := s) (k := k) h
  obtain ⟨k1, k2⟩ := mKn_bd s k
  obtain ⟨c1, c2⟩ := mCost_bd (mix s (k + 3 + j))
  have a1 := Int.emod_nonneg (mix s (k + 3 + j)) (show mPl s k most ≠ 0 by omega)
  have a2 := Int.emod_lt_of_pos (mix s (k + 3 + j)) (show 0 < mPl s k most by omega)
  have b1 := Int.emod_nonneg (mix s (k + 3 + j) / 16) (show mKn s k ≠ 0 by omega)
  have b2 := Int.emod_lt_of_pos (mix s (k + 3 + j) / 16) (show 0 < mKn s k by omega)
  have d1 := Int.emod_nonneg (mix s (k + 3 + j) / 64) (show mPl s k most ≠ 0 by omega)
  have d2 := Int.emod_lt_of_pos (mix s (k + 3 + j) / 64) (show 0 < mPl s k most by omega)
  constructor
  · intro m hm
    simp only [dl, mDeed, List.mem_cons, List.not_mem_nil, or_false] at hm
    rcases hm with rfl | rfl | rfl | rfl <;> omega
  · unfold deedOk
    simp only [mDeed, Bool.and_eq_true, decide_eq_true_eq]
    exact ⟨⟨⟨⟨decide_eq_true a1, decide_eq_true a2⟩, decide_eq_true d1, decide_eq_true d2⟩, decide_eq_true b1, decide_eq_true b2⟩, decide_eq_true c1, decide_eq_true (Int.le_trans c2 (by omega))⟩
theorem mRaw_bd {s : List Int} {k most : Int} (h : 1 ≤ most) (h7 : most ≤ 200) : ∀ d ∈ mRaw s k most, BdD d ∧ deedOk (mPl s k most) (mKn s k) d = true := fun d hd => by
  obtain ⟨j, _, rfl⟩ := List.mem_map.mp hd
  exact mDeed_bd h h7 j
theorem mDs_mem {s : List Int} {k most : Int} (h : 1 ≤ most) (h7 : most ≤ 200) (d : Deed) : d ∈ mDs s k most ↔ d ∈ mRaw s k most := dsort_mem (fun d hd => (mRaw_bd h h7 d hd).1) d
theorem mDs_bd {s : List Int} {k most : Int} (h : 1 ≤ most) (h7 : most ≤ 200) : ∀ d ∈ mDs s k most, BdD d ∧ deedOk (mPl s k most) (mKn s k) d = true := fun d hd => mRaw_bd h h7 d ((mDs_mem h h7 d).mp hd)
theorem mDs_len {s : List Int} {k most : Int} (h : 1 ≤ most) : ((mDs s k most).length : Int) ≤ 2 * most := by
  have h1 := dsort_len (mRaw s k most)
  have h2 := mMany_bd (s := s) (k := k) h
  have h3 : (mRaw s k most).length = mMany s k most := by simp [mRaw]
  unfold mDs
  omega
theorem mDs_rise (s : List Int) (k most : Int) : (mDs s k most).Pairwise (fun a b => cd a < cd b) := dsort_rise _
theorem mDs_good {s : List Int} {k most : Int} (h : 1 ≤ most) (h7 : most ≤ 200) : goodM (mPl s k most) (mKn s k) (mDs s k most) = true := by
  obtain ⟨p1, p2⟩ := mPl_bd (s := s) (k := k) h
  obtain ⟨k1, k2⟩ := mKn_bd s k
  have hl := mDs_len (s := s) (k := k) h
  unfold goodM
  rw [decide_eq_true p1, decide_eq_true (show mPl s k most ≤ 200 by omega), decide_eq_true k1, decide_eq_true (show mKn s k ≤ 8 by omega), decide_eq_true (show (mDs s k most).length ≤ 600 by omega),
    look_of _ none (mDs_bd h h7) (mDs_rise s k most) (fun c e => by cases e)]
  rfl
/-- the deeds that can be done at a place -/
def mSome (ds : List Deed) (here : Int) : List Nat := (List.range ds.length).filter fun (n : Nat) => decide ((dAt ds (n : Int)).1 = here)
def mPick (s : List Int) (k : Int) (ds : List Deed) (here : Int) (j : Nat) : Int := ((mSome ds here).getD (mix s (k + 1 + j) % (mSome ds here).length).toNat 0 : Nat)
def rowStep (s : List Int) (k : Int) (ds : List Deed) (st : List Int × Int) (j : Nat) : List Int × Int :=
  if (mSome ds st.2).isEmpty then st else (st.1 ++ [mPick s k ds st.2 j], (dAt ds (mPick s k ds st.2 j)).2.2.1)
def rowSt (s : List Int) (k : Int) (ds : List Deed) (n : Nat) : List Int × Int := (List.range n).foldl (rowStep s k ds) ([], 0)
def mRow (s : List Int) (k : Int) (ds : List Deed) (most : Int) : List Int := (rowSt s k ds (mix s k % (most + 1)).toNat).1
theorem rowSt_succ (s : List Int) (k : Int) (ds : List Deed) (n : Nat) : rowSt s k ds (n + 1) = rowStep s k ds (rowSt s k ds n) n := by
  unfold rowSt; rw [List.range_succ, List.foldl_append]; rfl
theorem mPick_mem {s : List Int} {k : Int} {ds : List Deed} {here : Int} {j : Nat} (h : (mSome ds here).isEmpty = false) : ∃ n ∈ mSome ds here, mPick s k ds here j = (n : Int) ∧ (mSome ds here)[(mix s (k + 1 + j) % (mSome ds here).length).toNat]? = some n := by
  have hl : 0 < (mSome ds here).length := by
    rw [List.isEmpty_eq_false_iff] at h
    exact List.length_pos_iff.mpr h
  have h1 := Int.emod_nonneg (mix s (k + 1 + j)) (show ((mSome ds here).length : Int) ≠ 0 by omega)
  have h2 := Int.emod_lt_of_pos (mix s (k + 1 + j)) (show (0 : Int) < ((mSome ds here).length : Int) by omega)
  unfold mPick
  generalize he : (mix s (k + 1 + j) % ((mSome ds here).length : Int)).toNat = m
  have hm : m < (mSome ds here).length := by omega
  refine ⟨(mSome ds here)[m], List.getElem_mem hm, ?_, ?_⟩
  · rw [List.getD_eq_getElem?_getD, List.getElem?_eq_getElem hm]; rfl
  · rw [List.getElem?_eq_getElem hm]
theorem mSome_spec {ds : List Deed} {here : Int} {n : Nat} (h : n ∈ mSome ds here) : n < ds.length ∧ (dAt ds n).1 = here := by
  unfold mSome at h
  rw [List.mem_filter, List.mem_range, decide_eq_true_eq] at h
  exact h
theorem step_pick {s : List Int} {k : Int} {ds : List Deed} {here : Int} {j : Nat} (h : (mSome ds here).isEmpty = false) : step ds here (mPick s k ds here j) = some (dAt ds (mPick s k ds here j)).2.2.1 := by
  obtain ⟨n, hn, e, _⟩ := mPick_mem (s := s) (k := k) (j := j) h
  obtain ⟨h1, h2⟩ := mSome_spec hn
  unfold step
  rw [e, if_pos ⟨by omega, by omega, h2⟩]
theorem getLast_snoc {a x : Int} {l : List Int} (h : a :: (l ++ [x]) ≠ []) : (a :: (l ++ [x])).getLast h = x := by
  have e : (a :: (l ++ [x])).getLast? = some x := List.getLast?_concat (l := a :: l)
  rw [List.getLast?_eq_some_getLast h] at e
  exact Option.some.inj e
/-- a row goes on -/
theorem goneL_snoc {ds : List Deed} : ∀ (row : List Int) (here : Int) (l : List Int) (n h : Int), goneL ds here row = some l → step ds ((here :: l).getLast (by simp)) n = some h → goneL ds here (row ++ [n]) = some (l ++ [h])
  | [], here, l, n, h, e, es => by
    cases e
    have es' : step ds here n = some h := es
    show goneL ds here [n] = _
    rw [goneL_some es']
    rfl
  | m :: r, here, l, n, h, e, es => by
    cases e1 : step ds here m with
    | none => rw [goneL_none e1] at e; cases e
    | some h1 =>
      rw [goneL_some e1] at e
      cases e2 : goneL ds h1 r with
      | none => rw [e2] at e; cases e
      | some l2 =>
        rw [e2] at e
        cases e
        have ih := goneL_snoc r h1 l2 n h e2 (by simpa using es)
        show goneL ds here (m :: (r ++ [n])) = _
        rw [goneL_some e1, ih]
        rfl
theorem rowSt_good (s : List Int) (k : Int) (ds : List Deed) : ∀ n, ∃ l, goneL ds 0 (rowSt s k ds n).1 = some l ∧ (0 :: l).getLast (by simp) = (rowSt s k ds n).2 ∧ (rowSt s k ds n).1.length ≤ n
  | 0 => ⟨[], rfl, rfl, by simp [rowSt]⟩
  | n + 1 => by
    obtain ⟨l, h1, h2, h3⟩ := rowSt_good s k ds n
    rw [rowSt_succ]
    unfold rowStep
    cases e : (mSome ds (rowSt s k ds n).2).isEmpty with
    | true => rw [if_pos rfl]; exact ⟨l, h1, h2, by omega⟩
    | false =>
      rw [if_neg Bool.false_ne_true]
      have q := goneL_snoc (rowSt s k ds n).1 0 l _ _ h1 (by rw [h2]; exact step_pick (s := s) (k := k) (j := n) e)
      exact ⟨_, q, getLast_snoc _, by rw [List.length_append, List.length_singleton]; omega⟩
theorem mRow_good (s : List Int) (k : Int) (ds : List Deed) (most : Int) (hm : 0 ≤ most) : ∃ l, goneL ds 0 (mRow s k ds most) = some l ∧ ((mRow s k ds most).length : Int) ≤ most := by
  obtain ⟨l, h1, _, h3⟩ := rowSt_good s k ds (mix s k % (most + 1)).toNat
  have h4 := Int.emod_nonneg (mix s k) (show most + 1 ≠ 0 by omega)
  have h5 := Int.emod_lt_of_pos (mix s k) (show 0 < most + 1 by omega)
  exact ⟨l, h1, by unfold mRow; omega⟩

/-! two machines side by side -/
theorem look_mem {p kn : Int} : ∀ (ds : List Deed) (prev : Option Deed), look p kn prev ds = true → ∀ d ∈ ds, deedOk p kn d = true
  | [], _, _, d, h => by cases h
  | c :: ds, prev, e, d, h => by
    unfold look at e
    rw [Bool.and_eq_true, Bool.and_eq_true] at e
    rcases List.mem_cons.mp h with rfl | h
    · exact e.1.1
    · exact look_mem ds _ e.2 d h
theorem goodM_d {p kn : Int} {ds : List Deed} (h : goodM p kn ds = true) : (1 ≤ p ∧ p ≤ 200) ∧ (1 ≤ kn ∧ kn ≤ 8) ∧ ds.length ≤ 600 ∧ ∀ d ∈ ds, (0 ≤ d.1 ∧ d.1 < p) ∧ (0 ≤ d.2.2.1 ∧ d.2.2.1 < p) ∧ (0 ≤ d.2.1 ∧ d.2.1 < kn) ∧ 0 ≤ d.2.2.2 ∧ d.2.2.2 ≤ 1000 := by
  unfold goodM at h
  simp only [Bool.and_eq_true, decide_eq_true_eq] at h
  obtain ⟨⟨⟨h1, h2⟩, h3⟩, h4⟩ := h
  refine ⟨h1, h2, h3, fun d hd => ?_⟩
  have q := look_mem ds none h4 d hd
  unfold deedOk at q
  simp only [Bool.and_eq_true, decide_eq_true_eq] at q
  obtain ⟨⟨⟨q1, q2⟩, q3⟩, q4⟩ := q
  exact ⟨q1, q2, q3, q4⟩
def bD1 (many : Int) (d : Deed) (q : Int) : Deed := (d.1 * many + q, d.2.1, d.2.2.1 * many + q, d.2.2.2)
def bD2 (k many : Int) (d : Deed) (p : Int) : Deed := (p * many + d.1, k + d.2.1, p * many + d.2.2.1, d.2.2.2)
def bR1 (many : Int) (d : Deed) : List Deed := (List.range many.toNat).map fun (q : Nat) => bD1 many d (q : Int)
def bR2 (p k many : Int) (d : Deed) : List Deed := (List.range p.toNat).map fun (x : Nat) => bD2 k many d (x : Int)
def bRaw (p k : Int) (ds : List Deed) (many : Int) (ds' : List Deed) : List Deed := ds.flatMap (bR1 many) ++ ds'.flatMap (bR2 p k many)
/-- sorted, as often as it stands there -/
def linsD (d : Deed) : List Deed → List Deed
  | [] => [d]
  | x :: xs => if dlt x d then x :: linsD d xs else d :: x :: xs
def isrt : List Deed → List Deed
  | [] => []
  | d :: ds => linsD d (isrt ds)
theorem linsD_perm (d : Deed) : ∀ xs, (linsD d xs).Perm (d :: xs)
  | [] => .refl _
  | x :: xs => by
    unfold linsD
    split
    · exact ((linsD_perm d xs).cons x).trans (.swap d x xs)
    · exact .refl _
theorem isrt_perm : ∀ ds, (isrt ds).Perm ds
  | [] => .refl _
  | d :: ds => (linsD_perm d _).trans ((isrt_perm ds).cons d)
def cB (B : Int) (d : Deed) : Int := TS.code B (dl d)
def BdB (B : Int) (d : Deed) : Prop := TS.Bd B (dl d)
theorem dlt_cB {B : Int} {c d : Deed} (hc : BdB B c) (hd : BdB B d) : dlt c d = true ↔ cB B c < cB B d := lex_code hc hd rfl
theorem linsD_rise {B : Int} {d : Deed} (hd : BdB B d) : ∀ xs, (∀ x ∈ xs, BdB B x) → xs.Pairwise (fun a b => cB B a ≤ cB B b) → (linsD d xs).Pairwise (fun a b => cB B a ≤ cB B b)
  | [], _, _ => by simp [linsD]
  | x :: xs, h, hp => by
    rw [List.pairwise_cons] at hp
    have ih := linsD_rise hd xs (fun y hy => h y (List.mem_cons_of_mem _ hy)) hp.2
    unfold linsD
    split
    · rename_i hl
      have hl := (dlt_cB (h x List.mem_cons_self) hd).mp hl
      rw [List.pairwise_cons]
      refine ⟨fun y hy => ?_, ih⟩
      rcases List.mem_cons.mp ((linsD_perm d xs).mem_iff.mp hy) with rfl | hy
      · omega
      · exact hp.1 y hy
    · rename_i hl
      have hl : ¬ cB B x < cB B d := fun z => hl ((dlt_cB (h x List.mem_cons_self) hd).mpr z)
      rw [List.pairwise_cons, List.pairwise_cons]
      refine ⟨fun y hy => ?_, hp⟩
      rcases List.mem_cons.mp hy with rfl | hy
      · omega
      · have := hp.1 y hy; omega
theorem isrt_rise {B : Int} : ∀ ds, (∀ x ∈ ds, BdB B x) → (isrt ds).Pairwise (fun a b => cB B a ≤ cB B b)
  | [], _ => .nil
  | d :: ds, h => linsD_rise (h d List.mem_cons_self) _ (fun x hx => h x (List.mem_cons_of_mem _ ((isrt_perm ds).mem_iff.mp hx))) (isrt_rise ds fun x hx => h x (List.mem_cons_of_mem _ hx))
theorem isrt_uniq {B : Int} {xs ys : List Deed} (h : xs.Perm ys) (hb : ∀ x ∈ xs, BdB B x) : isrt xs = isrt ys := by
  have hb' : ∀ y ∈ ys, BdB B y := fun y hy => hb y (h.mem_iff.mpr hy)
  refine List.Perm.eq_of_pairwise (le := fun a b => cB B a ≤ cB B b) (fun a b ha hb2 h1 h2 => ?_) (isrt_rise xs hb) (isrt_rise ys hb') (((isrt_perm xs).trans h).trans (isrt_perm ys).symm)
  have a1 := hb a ((isrt_perm xs).mem_iff.mp ha)
  have b1 := hb' b ((isrt_perm ys).mem_iff.mp hb2)
  exact dl_inj (code_inj a1 b1 rfl (by unfold cB at h1 h2; omega))
def bDs (p k : Int) (ds : List Deed) (many : Int) (ds' : List Deed) : List Deed := isrt (bRaw p k ds many ds')
theorem mul_le {a b : Int} {m n : Int} (h1 : 0 ≤ a) (h2 : a ≤ m) (h3 : 0 ≤ b) (h4 : b ≤ n) : 0 ≤ a * b ∧ a * b ≤ m * n :=
  ⟨Int.mul_nonneg h1 h3, Int.le_trans (Int.mul_le_mul_of_nonneg_right h2 h3) (Int.mul_le_mul_of_nonneg_left h4 (Int.le_trans h1 h2))⟩
theorem bRaw_bd {p k many k' : Int} {ds ds' : List Deed} (h : goodM p k ds = true) (h' : goodM many k' ds' = true) : ∀ d ∈ bRaw p k ds many ds', BdB 65536 d := by
  obtain ⟨p1, k1, _, g⟩ := goodM_d h
  obtain ⟨p2, k2, _, g'⟩ := goodM_d h'
  intro d hd
  unfold bRaw at hd
  rcases List.mem_append.mp hd with hd | hd
  · obtain ⟨c, hc, hd⟩ := List.mem_flatMap.mp hd
    obtain ⟨q, hq, rfl⟩ := List.mem_map.mp hd
    have hq := List.mem_range.mp hq
    obtain ⟨c1, c2, c3, c4⟩ := g c hc
    have m1 := mul_le (a := c.1) (b := many) (m := 199) (n := 200) (by omega) (by omega) (by omega) (by omega)
    have m2 := mul_le (a := c.2.2.1) (b := many) (m := 199) (n := 200) (by omega) (by omega) (by omega) (by omega)
    intro m hm
    simp only [dl, bD1, List.mem_cons, List.not_mem_nil, or_false] at hm
    rcases hm with rfl | rfl | rfl | rfl <;> omega
  · obtain ⟨c, hc, hd⟩ := List.mem_flatMap.mp hd
    obtain ⟨q, hq, rfl⟩ := List.mem_map.mp hd
    have hq := List.mem_range.mp hq
    obtain ⟨c1, c2, c3, c4⟩ := g' c hc
    have m1 := mul_le (a := (q : Int)) (b := many) (m := 199) (n := 200) (by omega) (by omega) (by omega) (by omega)
    intro m hm
    simp only [dl, bD2, List.mem_cons, List.not_mem_nil, or_false] at hm
    rcases hm with rfl | rfl | rfl | rfl <;> omega
def besideM (p k : Int) (ds : List Deed) (p' k' : Int) (ds' : List Deed) : Option (Int × Int × List Deed) :=
  if goodM p k ds && (goodM p' k' ds' && goodM (p * p') (k + k') (bDs p k ds p' ds')) then some (p * p', k + k', bDs p k ds p' ds') else none
def bSmall (p : Int) (ds : List Deed) (p' : Int) (ds' : List Deed) : Prop := ds.length * p'.toNat + ds'.length * p.toNat ≤ 10000
theorem bR1_len (many : Int) : ∀ ds : List Deed, (ds.flatMap (bR1 many)).length = ds.length * many.toNat
  | [] => by simp
  | d :: ds => by rw [List.flatMap_cons, List.length_append, bR1_len many ds]; simp [bR1, Nat.add_mul]; omega
theorem bR2_len (p k many : Int) : ∀ ds : List Deed, (ds.flatMap (bR2 p k many)).length = ds.length * p.toNat
  | [] => by simp
  | d :: ds => by rw [List.flatMap_cons, List.length_append, bR2_len p k many ds]; simp [bR2, Nat.add_mul]; omega

/-! what the law finds due of two machines side by side -/
def dR1 (many : Int) (ds : List Deed) (p q : Nat) : List Deed := (ds.filter fun d => decide (d.1 = (p : Int))).map fun d => ((p : Int) * many + q, d.2.1, d.2.2.1 * many + q, d.2.2.2)
def dR2 (k many : Int) (ds' : List Deed) (p q : Nat) : List Deed := (ds'.filter fun d => decide (d.1 = (q : Int))).map fun d => ((p : Int) * many + q, k + d.2.1, (p : Int) * many + d.2.2.1, d.2.2.2)
def dRow (k : Int) (ds : List Deed) (many : Int) (ds' : List Deed) (p : Nat) : List Deed := (List.range many.toNat).flatMap fun (q : Nat) => dR1 many ds p q ++ dR2 k many ds' p q
def dRaw (p k : Int) (ds : List Deed) (many : Int) (ds' : List Deed) : List Deed := (List.range p.toNat).flatMap fun (x : Nat) => dRow k ds many ds' x
theorem flatMap_append_perm {α β : Type} (f g : α → List β) : ∀ xs : List α, (xs.flatMap fun x => f x ++ g x).Perm (xs.flatMap f ++ xs.flatMap g)
  | [] => .refl _
  | x :: xs => by
    rw [List.flatMap_cons, List.flatMap_cons, List.flatMap_cons]
    have ih := flatMap_append_perm f g xs
    refine (ih.append_left (f x ++ g x)).trans ?_
    rw [List.append_assoc, List.append_assoc]
    refine List.Perm.append_left _ ?_
    rw [← List.append_assoc, ← List.append_assoc]
    exact List.perm_append_comm.append_right _
theorem flatMap_perm {α β : Type} {f g : α → List β} : ∀ {xs : List α}, (∀ x ∈ xs, (f x).Perm (g x)) → (xs.flatMap f).Perm (xs.flatMap g)
  | [], _ => .refl _
  | x :: xs, h => by
    rw [List.flatMap_cons, List.flatMap_cons]
    exact (h x List.mem_cons_self).append (flatMap_perm fun y hy => h y (List.mem_cons_of_mem _ hy))
/-- two walks, one within the other, in either order -/
theorem flatMap_swap {α β γ : Type} (f : α → β → List γ) : ∀ (xs : List α) (ys : List β), (xs.flatMap fun x => ys.flatMap fun y => f x y).Perm (ys.flatMap fun y => xs.flatMap fun x => f x y)
  | [], ys => by induction ys with
    | nil => exact .refl _
    | cons y ys ih => rw [List.flatMap_cons]; exact ih
  | x :: xs, ys => by
    rw [List.flatMap_cons]
    have ih := flatMap_swap f xs ys
    refine (ih.append_left _).trans ?_
    have e : (ys.flatMap fun y => (x :: xs).flatMap fun x => f x y) = ys.flatMap fun y => f x y ++ xs.flatMap fun x => f x y := by
      congr 1
    rw [e]
    exact (flatMap_append_perm _ _ ys).symm
/-- walking the places, the deeds that begin there: each deed once -/
theorem flatMap_place {β : Type} (g : Deed → List β) (n : Nat) : ∀ (ds : List Deed), (∀ d ∈ ds, 0 ≤ d.1 ∧ d.1 < n) → ((List.range n).flatMap fun (x : Nat) => (ds.filter fun d => decide (d.1 = (x : Int))).flatMap g).Perm (ds.flatMap g)
  | [], _ => by
    have e : ∀ xs : List Nat, (xs.flatMap fun (x : Nat) => (([] : List Deed).filter fun d => decide (d.1 = (x : Int))).flatMap g) = [] := fun xs => by
      induction xs with
      | nil => rfl
      | cons x xs ih => rw [List.flatMap_cons, ih]; rfl
    rw [e]; exact .refl _
  | d :: ds, h => by
    have ih := flatMap_place g n ds fun x hx => h x (List.mem_cons_of_mem _ hx)
    obtain ⟨h1, h2⟩ := h d List.mem_cons_self
    have e : ((List.range n).flatMap fun (x : Nat) => ((d :: ds).filter fun d => decide (d.1 = (x : Int))).flatMap g) = (List.range n).flatMap fun (x : Nat) => (if d.1 = (x : Int) then g d else []) ++ (ds.filter fun d => decide (d.1 = (x : Int))).flatMap g := by
      congr 1
      funext x
      rw [List.filter_cons]
      by_cases z : d.1 = (x : Int)
      · rw [if_pos (decide_eq_true z), if_pos z, List.flatMap_cons]
      · rw [if_neg (by simp [z]), if_neg z, List.nil_append]
    rw [e, List.flatMap_cons]
    refine (flatMap_append_perm _ _ _).trans (List.Perm.append ?_ ih)
    have one : ∀ (xs : List Nat), xs.Nodup → d.1.toNat ∈ xs → (xs.flatMap fun (x : Nat) => if d.1 = (x : Int) then g d else []) = g d := by
      intro xs
      induction xs with
      | nil => intro _ hm; cases hm
      | cons x xs ihx =>
        intro hn hm
        rw [List.nodup_cons] at hn
        rw [List.flatMap_cons]
        by_cases z : d.1 = (x : Int)
        · rw [if_pos z]
          have none : (xs.flatMap fun (x : Nat) => if d.1 = (x : Int) then g d else []) = [] := by
            rw [List.flatMap_eq_nil_iff]
            intro y hy
            rw [if_neg]
            intro q
            have : x = y := by omega
            exact hn.1 (this ▸ hy)
          rw [none, List.append_nil]
        · rw [if_neg z, List.nil_append]
          refine ihx hn.2 ?_
          rcases List.mem_cons.mp hm with q | q
          · omega
          · exact q
    rw [one _ List.nodup_range (List.mem_range.mpr (by omega))]
theorem map_flat {α β : Type} (f : α → β) : ∀ xs : List α, xs.map f = xs.flatMap fun x => [f x]
  | [] => rfl
  | x :: xs => by rw [List.flatMap_cons, List.map_cons, map_flat f xs]; rfl
theorem dRaw_perm {p k many k' : Int} {ds ds' : List Deed} (h : goodM p k ds = true) (h' : goodM many k' ds' = true) : (dRaw p k ds many ds').Perm (bRaw p k ds many ds') := by
  obtain ⟨p1, _, _, g⟩ := goodM_d h
  obtain ⟨p2, _, _, g'⟩ := goodM_d h'
  unfold dRaw dRow
  refine (flatMap_perm fun x _ => flatMap_append_perm _ _ _).trans ?_
  refine (flatMap_append_perm _ _ _).trans ?_
  unfold bRaw
  refine List.Perm.append ?_ ?_
  · -- the one's deeds
    have e : ((List.range p.toNat).flatMap fun (x : Nat) => (List.range many.toNat).flatMap fun (q : Nat) => dR1 many ds x q) = (List.range p.toNat).flatMap fun (x : Nat) => (List.range many.toNat).flatMap fun (q : Nat) => (ds.filter fun d => decide (d.1 = (x : Int))).flatMap fun d => [bD1 many d (q : Int)] := by
      congr 1; funext x; congr 1; funext q
      unfold dR1
      rw [map_flat]
      have : ∀ l : List Deed, (∀ d ∈ l, d.1 = (x : Int)) → (l.flatMap fun d => [((x : Int) * many + q, d.2.1, d.2.2.1 * many + q, d.2.2.2)]) = l.flatMap fun d => [bD1 many d (q : Int)] := by
        intro l hl
        induction l with
        | nil => rfl
        | cons d l ih =>
          rw [List.flatMap_cons, List.flatMap_cons, ih fun y hy => hl y (List.mem_cons_of_mem _ hy)]
          have := hl d List.mem_cons_self
          unfold bD1
          rw [this]
      exact this _ fun d hd => of_decide_eq_true (List.mem_filter.mp hd).2
    rw [e]
    refine (flatMap_perm (g := fun (x : Nat) => (ds.filter fun d => decide (d.1 = (x : Int))).flatMap (bR1 many)) fun x _ => ?_).trans (flatMap_place (bR1 many) p.toNat ds fun d hd => by have := g d hd; omega)
    refine (flatMap_swap _ _ _).trans (flatMap_perm fun d _ => ?_)
    unfold bR1
    rw [map_flat]
  · have e : ((List.range p.toNat).flatMap fun (x : Nat) => (List.range many.toNat).flatMap fun (q : Nat) => dR2 k many ds' x q) = (List.range p.toNat).flatMap fun (x : Nat) => (List.range many.toNat).flatMap fun (q : Nat) => (ds'.filter fun d => decide (d.1 = (q : Int))).flatMap fun d => [bD2 k many d (x : Int)] := by
      congr 1; funext x; congr 1; funext q
      unfold dR2
      rw [map_flat]
      have : ∀ l : List Deed, (∀ d ∈ l, d.1 = (q : Int)) → (l.flatMap fun d => [((x : Int) * many + q, k + d.2.1, (x : Int) * many + d.2.2.1, d.2.2.2)]) = l.flatMap fun d => [bD2 k many d (x : Int)] := by
        intro l hl
        induction l with
        | nil => rfl
        | cons d l ih =>
          rw [List.flatMap_cons, List.flatMap_cons, ih fun y hy => hl y (List.mem_cons_of_mem _ hy)]
          have := hl d List.mem_cons_self
          unfold bD2
          rw [this]
      exact this _ fun d hd => of_decide_eq_true (List.mem_filter.mp hd).2
    rw [e]
    refine (flatMap_perm fun (x : Nat) _ => flatMap_place (fun d => [bD2 k many d (x : Int)]) many.toNat ds' fun d hd => by have := g' d hd; omega).trans ?_
    refine (flatMap_swap _ _ _).trans (flatMap_perm fun d _ => ?_)
    unfold bR2
    rw [map_flat]
theorem due_same {p k many k' : Int} {ds ds' : List Deed} (h : goodM p k ds = true) (h' : goodM many k' ds' = true) : isrt (dRaw p k ds many ds') = bDs p k ds many ds' :=
  (isrt_uniq (B := 65536) (dRaw_perm h h').symm (bRaw_bd h h')).symm

/-! two machines side by side: drawn ones are one machine; a walk of both is a walk of the one -/
theorem mulq {a a' many q q' : Int} (h0 : 0 ≤ q) (h1 : q < many) (h2 : 0 ≤ q') (h3 : q' < many) (h : a * many + q = a' * many + q') : a = a' ∧ q = q' := by
  have e : a = a' := by
    rcases Int.lt_trichotomy a a' with z | z | z
    · have : (a + 1) * many ≤ a' * many := Int.mul_le_mul_of_nonneg_right (by omega) (by omega)
      rw [Int.add_mul] at this; omega
    · exact z
    · have : (a' + 1) * many ≤ a * many := Int.mul_le_mul_of_nonneg_right (by omega) (by omega)
      rw [Int.add_mul] at this; omega
  subst e
  exact ⟨rfl, by omega⟩
theorem bRaw_nodup {p k many k' : Int} {ds ds' : List Deed} (h : goodM p k ds = true) (h' : goodM many k' ds' = true) (n : ds.Nodup) (n' : ds'.Nodup) : (bRaw p k ds many ds').Nodup := by
  obtain ⟨p1, k1, _, g⟩ := goodM_d h
  obtain ⟨p2, k2, _, g'⟩ := goodM_d h'
  unfold bRaw
  rw [List.nodup_append]
  refine ⟨?_, ?_, ?_⟩
  · unfold List.Nodup
    rw [List.pairwise_flatMap]
    refine ⟨fun d hd => ?_, (List.Pairwise.and_mem.mp n).imp ?_⟩
    · unfold bR1
      rw [List.pairwise_map]
      refine (List.Pairwise.and_mem.mp List.nodup_range).imp ?_
      rintro x y ⟨hx, hy, hxy⟩ e
      have hx := List.mem_range.mp hx
      have hy := List.mem_range.mp hy
      simp only [bD1, Prod.mk.injEq] at e
      exact hxy (by omega)
    · rintro c d ⟨hc, hd, hcd⟩ x hx y hy e
      obtain ⟨q, hq, rfl⟩ := List.mem_map.mp hx
      obtain ⟨q', hq', rfl⟩ := List.mem_map.mp hy
      have hq := List.mem_range.mp hq
      have hq' := List.mem_range.mp hq'
      simp only [bD1, Prod.mk.injEq] at e
      obtain ⟨e1, e2, e3, e4⟩ := e
      obtain ⟨a1, a2⟩ := mulq (by omega) (by omega) (by omega) (by omega) e1
      obtain ⟨b1, _⟩ := mulq (by omega) (by omega) (by omega) (by omega) e3
      exact hcd (Prod.ext a1 (Prod.ext e2 (Prod.ext b1 e4)))
  · unfold List.Nodup
    rw [List.pairwise_flatMap]
    refine ⟨fun d hd => ?_, (List.Pairwise.and_mem.mp n').imp ?_⟩
    · unfold bR2
      rw [List.pairwise_map]
      obtain ⟨d1, d2, _⟩ := g' d hd
      refine (List.Pairwise.and_mem.mp List.nodup_range).imp ?_
      rintro x y ⟨hx, hy, hxy⟩ e
      simp only [bD2, Prod.mk.injEq] at e
      have := (mulq (by omega) (by omega) (by omega) (by omega) e.1).1
      exact hxy (by omega)
    · rintro c d ⟨hc, hd, hcd⟩ x hx y hy e
      obtain ⟨q, hq, rfl⟩ := List.mem_map.mp hx
      obtain ⟨q', hq', rfl⟩ := List.mem_map.mp hy
      obtain ⟨c1, c2, _⟩ := g' c hc
      obtain ⟨d1, d2, _⟩ := g' d hd
      simp only [bD2, Prod.mk.injEq] at e
      obtain ⟨e1, e2, e3, e4⟩ := e
      obtain ⟨_, a2⟩ := mulq (by omega) (by omega) (by omega) (by omega) e1
      obtain ⟨_, b2⟩ := mulq (by omega) (by omega) (by omega) (by omega) e3
      exact hcd (Prod.ext a2 (Prod.ext (by omega) (Prod.ext b2 e4)))
  · intro x hx y hy e
    obtain ⟨c, hc, hx⟩ := List.mem_flatMap.mp hx
    obtain ⟨d, hd, hy⟩ := List.mem_flatMap.mp hy
    obtain ⟨q, hq, rfl⟩ := List.mem_map.mp hx
    obtain ⟨q', hq', rfl⟩ := List.mem_map.mp hy
    obtain ⟨_, _, c3, _⟩ := g c hc
    obtain ⟨_, _, d3, _⟩ := g' d hd
    simp only [bD1, bD2, Prod.mk.injEq] at e
    omega
theorem look_ofB {B p kn : Int} : ∀ (ds : List Deed) (prev : Option Deed), (∀ d ∈ ds, BdB B d ∧ deedOk p kn d = true) → ds.Pairwise (fun a b => cB B a < cB B b) → (∀ c, prev = some c → BdB B c ∧ ∀ d ∈ ds, cB B c < cB B d) → look p kn prev ds = true
  | [], _, _, _, _ => rfl
  | d :: ds, prev, h, hp, hc => by
    rw [List.pairwise_cons] at hp
    obtain ⟨hb, ho⟩ := h d List.mem_cons_self
    have h1 : prevOk prev d = true := by
      cases prev with
      | none => rfl
      | some c =>
        obtain ⟨c1, c2⟩ := hc c rfl
        exact (dlt_cB c1 hb).mpr (c2 d List.mem_cons_self)
    have h2 := look_ofB ds (some d) (fun x hx => h x (List.mem_cons_of_mem _ hx)) hp.2 fun c e => by cases e; exact ⟨hb, hp.1⟩
    unfold look
    rw [ho, h1, h2]
    rfl
theorem bD_ok {p k many k' : Int} {ds ds' : List Deed} (h : goodM p k ds = true) (h' : goodM many k' ds' = true) : ∀ d ∈ bRaw p k ds many ds', deedOk (p * many) (k + k') d = true := by
  obtain ⟨p1, k1, _, g⟩ := goodM_d h
  obtain ⟨p2, k2, _, g'⟩ := goodM_d h'
  have key : ∀ a q : Int, 0 ≤ a → a < p → 0 ≤ q → q < many → 0 ≤ a * many + q ∧ a * many + q < p * many := by
    intro a q h0 h1 h2 h3
    have m1 : 0 ≤ a * many := Int.mul_nonneg h0 (by omega)
    have m2 : (a + 1) * many ≤ p * many := Int.mul_le_mul_of_nonneg_right (by omega) (by omega)
    rw [Int.add_mul] at m2
    omega
  intro d hd
  unfold deedOk
  simp only [Bool.and_eq_true, decide_eq_true_eq]
  unfold bRaw at hd
  rcases List.mem_append.mp hd with hd | hd
  · obtain ⟨c, hc, hd⟩ := List.mem_flatMap.mp hd
    obtain ⟨q, hq, rfl⟩ := List.mem_map.mp hd
    have hq := List.mem_range.mp hq
    obtain ⟨c1, c2, c3, c4⟩ := g c hc
    exact ⟨⟨⟨key _ _ c1.1 c1.2 (by omega) (by omega), key _ _ c2.1 c2.2 (by omega) (by omega)⟩, by show 0 ≤ c.2.1 ∧ c.2.1 < k + k'; omega⟩, c4⟩
  · obtain ⟨c, hc, hd⟩ := List.mem_flatMap.mp hd
    obtain ⟨q, hq, rfl⟩ := List.mem_map.mp hd
    have hq := List.mem_range.mp hq
    obtain ⟨c1, c2, c3, c4⟩ := g' c hc
    exact ⟨⟨⟨key _ _ (by omega) (by omega) c1.1 c1.2, key _ _ (by omega) (by omega) c2.1 c2.2⟩, by show 0 ≤ k + c.2.1 ∧ k + c.2.1 < k + k'; omega⟩, c4⟩
theorem bDs_good {p k many k' : Int} {ds ds' : List Deed} (h : goodM p k ds = true) (h' : goodM many k' ds' = true) (n : ds.Nodup) (n' : ds'.Nodup) (hp : p * many ≤ 200) (hk : k + k' ≤ 8) (hl : ds.length * many.toNat + ds'.length * p.toNat ≤ 600) :
    goodM (p * many) (k + k') (bDs p k ds many ds') = true := by
  obtain ⟨p1, k1, _, g⟩ := goodM_d h
  obtain ⟨p2, k2, _, g'⟩ := goodM_d h'
  have hb := bRaw_bd h h'
  have hnd := bRaw_nodup h h' n n'
  have m1 : 1 * 1 ≤ p * many := Int.mul_le_mul p1.1 p2.1 (by decide) (by omega)
  unfold goodM
  simp only [Bool.and_eq_true, decide_eq_true_eq]
  refine ⟨⟨⟨⟨by omega, hp⟩, by omega, hk⟩, ?_⟩, ?_⟩
  · unfold bDs
    rw [(isrt_perm _).length_eq]
    unfold bRaw
    rw [List.length_append, bR1_len, bR2_len]
    exact hl
  · refine look_ofB (B := 65536) _ none (fun d hd => ?_) ?_ (by intro c e; cases e)
    · have hd := (isrt_perm _).mem_iff.mp hd
      exact ⟨hb d hd, bD_ok h h' d hd⟩
    · have nd2 : (bDs p k ds many ds').Nodup := (isrt_perm _).nodup_iff.mpr hnd
      have r := isrt_rise (B := 65536) _ hb
      refine (List.Pairwise.and_mem.mp (r.and nd2)).imp ?_
      rintro a b ⟨ha, hbm, hle, hne⟩
      have ha := hb a ((isrt_perm _).mem_iff.mp ha)
      have hbm := hb b ((isrt_perm _).mem_iff.mp hbm)
      have : cB 65536 a ≠ cB 65536 b := fun z => hne (dl_inj (code_inj ha hbm rfl z))
      omega
theorem bD1_in {p k many k' : Int} {ds ds' : List Deed} {d : Deed} {q : Int} (hd : d ∈ ds) (h0 : 0 ≤ q) (h1 : q < many) : bD1 many d q ∈ bDs p k ds many ds' := by
  refine (isrt_perm _).mem_iff.mpr (List.mem_append_left _ (List.mem_flatMap.mpr ⟨d, hd, List.mem_map.mpr ⟨q.toNat, List.mem_range.mpr (by omega), ?_⟩⟩))
  rw [Int.toNat_of_nonneg h0]
theorem bD2_in {p k many k' : Int} {ds ds' : List Deed} {d : Deed} {q : Int} (hd : d ∈ ds') (h0 : 0 ≤ q) (h1 : q < p) : bD2 k many d q ∈ bDs p k ds many ds' := by
  refine (isrt_perm _).mem_iff.mpr (List.mem_append_right _ (List.mem_flatMap.mpr ⟨d, hd, List.mem_map.mpr ⟨q.toNat, List.mem_range.mpr (by omega), ?_⟩⟩))
  rw [Int.toNat_of_nonneg h0]
/-- where a deed stands first -/
theorem deed_at {l : List Deed} {d : Deed} (h : d ∈ l) : ∃ j : Nat, j < l.length ∧ l[j]? = some d ∧ dAt l (j : Int) = d ∧ ∀ (m : Nat) (z : Deed), m < j → l[m]? = some z → z ≠ d := by
  have hl := List.idxOf_lt_length_of_mem h
  refine ⟨l.idxOf d, hl, ?_, ?_, ?_⟩
  · rw [List.getElem?_eq_getElem hl, List.getElem_idxOf]
  · unfold dAt
    rw [Int.toNat_natCast, List.getD_eq_getElem?_getD, List.getElem?_eq_getElem hl, List.getElem_idxOf]; rfl
  · intro m z hm hz e
    subst e
    obtain ⟨h1, h2⟩ := List.getElem?_eq_some_iff.mp hz
    have := List.not_of_lt_findIdx (p := (· == z)) (xs := l) (show m < l.findIdx (· == z) from hm)
    rw [h2] at this
    simp at this
theorem dAt_mem {ds : List Deed} {n : Int} (h0 : 0 ≤ n) (h1 : n < ds.length) : dAt ds n ∈ ds := by
  unfold dAt
  rw [List.getD_eq_getElem?_getD, List.getElem?_eq_getElem (by omega)]
  exact List.getElem_mem _
theorem goneL_cons {ds : List Deed} {here n : Int} {r : List Int} {l : List Int} (h : goneL ds here (n :: r) = some l) : (0 ≤ n ∧ n < ds.length ∧ (dAt ds n).1 = here) ∧ ∃ l2, goneL ds (dAt ds n).2.2.1 r = some l2 ∧ l = (dAt ds n).2.2.1 :: l2 := by
  cases e : step ds here n with
  | none => rw [goneL_none e] at h; cases h
  | some h2 =>
    rw [goneL_some e] at h
    have e2 := step_to e
    subst e2
    refine ⟨?_, ?_⟩
    · unfold step at e
      split at e
      · assumption
      · cases e
    · cases e3 : goneL ds (dAt ds n).2.2.1 r with
      | none => rw [e3] at h; cases h
      | some l2 => rw [e3] at h; cases h; exact ⟨l2, rfl, rfl⟩
theorem step_at {ds : List Deed} {here n : Int} (h0 : 0 ≤ n) (h1 : n < ds.length) (h : (dAt ds n).1 = here) : step ds here n = some (dAt ds n).2.2.1 := by
  unfold step
  rw [if_pos ⟨h0, h1, h⟩]

/-! machines may be compared -/
theorem okN_deed (d : Deed) : okN 1 (eDeed d) := okN_tup (n := 0) fun x hx => by
  obtain ⟨i, _, rfl⟩ := List.mem_map.mp hx
  exact okN_int
theorem okN_deeds (ds : List Deed) : okN 2 (.lst (ds.map eDeed)) := okN_lst (n := 1) fun x hx => by
  obtain ⟨d, _, rfl⟩ := List.mem_map.mp hx
  exact okN_deed d
theorem okN_mach (p k : Int) (ds : List Deed) : okN 3 (eMach p k ds) := okN_tup (n := 2) fun x hx => by
  simp only [List.mem_cons, List.not_mem_nil, or_false] at hx
  rcases hx with rfl | rfl | rfl
  · exact okN_int
  · exact okN_int
  · exact okN_deeds ds
theorem okN_ints (ns : List Int) : okN 1 (.lst (ns.map .int)) := okN_lst (n := 0) fun x hx => by
  obtain ⟨i, _, rfl⟩ := List.mem_map.mp hx
  exact okN_int
theorem okN_intsT (ns : List Int) : okN 1 (.tup (ns.map .int)) := okN_tup (n := 0) fun x hx => by
  obtain ⟨i, _, rfl⟩ := List.mem_map.mp hx
  exact okN_int
theorem eqD_deed (c d : Deed) : eqD (eDeed c) (eDeed d) = decide (c = d) := by
  obtain ⟨a, b, e, f⟩ := c
  obtain ⟨a', b', e', f'⟩ := d
  show ((a == a') && ((b == b') && ((e == e') && ((f == f') && true)))) = _
  rw [Bool.eq_iff_iff]
  simp [Prod.ext_iff, and_assoc]
theorem idx_no {l : List Deed} {d : Deed} {j : Nat} (h : ∀ (m : Nat) (z : Deed), m < j → l[m]? = some z → z ≠ d) (m : Nat) (z' : D) (hm : m < j) (hz : (l.map eDeed)[m]? = some z') : eqD z' (eDeed d) = false := by
  rw [List.getElem?_map] at hz
  cases w : l[m]? with
  | none => rw [w] at hz; cases hz
  | some c =>
    rw [w] at hz
    cases hz
    rw [eqD_deed]
    exact decide_eq_false (h m c hm w)
theorem costL_cons (ds : List Deed) (n : Int) (r : List Int) : costL ds (n :: r) = (dAt ds n).2.2.2 + costL ds r := by
  unfold costL
  rw [List.map_cons, List.sum_cons]

abbrev s_look_machine : Stmt := top 12
abbrev N_look_machine : List Str := ["machine", "places", "kinds", "deeds", "k", "one", "kind", "other", "cost"]
abbrev P_look_machine : List Str := ["machine"]
theorem sc_look_machine : FnScope N_look_machine P_look_machine (defScope s_look_machine) := ⟨rfl, rfl, rfl, by decide +kernel, rfl, by decide +kernel, by decide +kernel⟩

/-- None, or an error of the class at cM -/
def F_look_machine (cM : Addr) : Fs := fun args r => ∃ (p kn : Int) (ds : List Deed), args = [eMach p kn ds] ∧ r = if goodM p kn ds then .ok .non else .er cM
theorem df_look_machine {P : Program} {w : World} {K : Fg} {mg : Str → Option Value} {base : Heap} {cM : Addr} (T : Tx K mg) (U : Dn K mg "look_machine" s_look_machine P_look_machine) (EM : EC K mg "BadMachine" cM)
    (c_MOST_PLACES : ∃ t, mg "MOST_PLACES" = some (.int 200 t)) (c_MOST_DEEDS : ∃ t, mg "MOST_DEEDS" = some (.int 600 t)) (c_MOST_KINDS : ∃ t, mg "MOST_KINDS" = some (.int 8 t)) (c_MOST_COST : ∃ t, mg "MOST_COST" = some (.int 1000 t)) :
    Df P w K mg base "look_machine" 1 (F_look_machine cM) :=
  df_of 0 U sc_look_machine (fun _ _ ⟨_, _, _, h, _⟩ => by rw [h]; rfl) fun f cdv A outer s H E args r hr tk hp hF => by
    obtain ⟨p, kn, ds, rfl, rfl⟩ := hF
    have nd := sc_look_machine.nd
    have hu := hr.units
    have hsz : ds.length ≤ 600 ∨ 600 < ds.length := by omega
    refine XF.mk (if goodM p kn ds then .nx [.fz (eMach p kn ds), .fz (.int p), .fz (.int kn), .fz (.lst (ds.map eDeed)), .no, .no, .no, .no, .no] else .er cM) ?_ (by split <;> rfl)
    refine xss_cons (xs_asg (xv_var 0) (xg_tup rfl (xgs_cons (xg_name 1 nd) (xgs_cons (xg_name 2 nd) (xgs_cons (xg_name 3 nd) xgs_nil))))) ?_
    refine xss_if ((xw_or (xt_not (xt_chain (xv_int).br ((xv_var 1)).br ((xv_glob c_MOST_PLACES)).br)) (fun hk => (xw_or (xt_not (xt_chain (xv_int).br ((xv_var 2)).br ((xv_glob c_MOST_KINDS)).br)) (fun hk => (xw_and1 (xt_gt ((xv_len T.len ((xv_var 3)).br)).br ((xv_glob c_MOST_DEEDS)).br))))))).t (fun hk ht => ?_) fun hk ht => ?_
    · have e : goodM p kn ds = false := by
        unfold goodM
        simp only [cmpI, List.length_map] at hk
        rw [Bool.eq_false_iff]
        intro q
        simp only [Bool.and_eq_true, Bool.or_eq_true, Bool.not_eq_true', decide_eq_true_eq, Bool.and_eq_false_iff, decide_eq_false_iff_not] at hk q
        omega
      rw [e, if_neg Bool.false_ne_true]
      exact xss_yesS ht (xss_raise rfl tk EM)
    · refine xss_no0 ht ?_
      simp only [cmpI, List.length_map, Bool.or_eq_false_iff, Bool.not_eq_false', Bool.and_eq_true, decide_eq_true_eq, decide_eq_false_iff_not] at hk
      have eg : goodM p kn ds = look p kn none ds := by
        unfold goodM
        rw [decide_eq_true hk.1.1, decide_eq_true hk.1.2, decide_eq_true hk.2.1.1, decide_eq_true hk.2.1.2, decide_eq_true (show ds.length ≤ 600 by omega)]
        rfl
      rw [eg]
      refine xss_one (xs_for hp rfl (xi_range T.range (xv_len T.len ((xv_var 3)).br) (by omega) (by simp only [List.length_map]; omega)) ?_)
      rw [Int.toNat_natCast, List.length_map, rngD_F]
      -- from the i-th deed on
      suffices h : ∀ (m i : Nat), i + m = ds.length → ∀ prev, prev = (if i = 0 then none else ds[i - 1]?) → Fr _ _ _ _ (rngF i m) [.fz (eMach p kn ds), .fz (.int p), .fz (.int kn), .fz (.lst (ds.map eDeed)), .no, .no, .no, .no, .no]
          (if look p kn prev (ds.drop i) then .nx [.fz (eMach p kn ds), .fz (.int p), .fz (.int kn), .fz (.lst (ds.map eDeed)), .no, .no, .no, .no, .no] else .er cM) by
        exact h ds.length 0 (by omega) none rfl
      intro m
      induction m with
      | zero =>
        intro i hi prev hprev
        rw [rngF_0, List.drop_of_length_le (by omega)]
        exact .nil
      | succ m ih =>
        intro i hi prev hprev
        have hlt : i < ds.length := by omega
        rw [rngF_succ, List.drop_eq_getElem_cons hlt]
        have hix : ixD (.lst (ds.map eDeed)) (i : Int) = some (eDeed ds[i]) := ix_map (by rw [atI_ge (by omega) (by omega)]; simp)
        have hl : look p kn prev (ds[i] :: ds.drop (i + 1)) = ((deedOk p kn ds[i] && prevOk prev ds[i]) && look p kn (some ds[i]) (ds.drop (i + 1))) := rfl
        rw [hl]
        refine Fr.chk (deedOk p kn ds[i] && prevOk prev ds[i]) (xg_name 4 nd) (a := [.fz (eMach p kn ds), .fz (.int p), .fz (.int kn), .fz (.lst (ds.map eDeed)), .fz (.int i), .fz (.int ds[i].1), .fz (.int ds[i].2.1), .fz (.int ds[i].2.2.1), .fz (.int ds[i].2.2.2)]) (o1 := .er cM) ?_ (Le.fg [4, 5, 6, 7, 8] rfl) rfl
          (fun hc => ?_) (fun hc => ?_)
        · refine xss_cons (xs_asg (xv_ix ((xv_var 3)).br ((xv_var 4)).br (hix)) (xg_tup rfl (xgs_cons (xg_name 5 nd) (xgs_cons (xg_name 6 nd) (xgs_cons (xg_name 7 nd) (xgs_cons (xg_name 8 nd) xgs_nil)))))) ?_
          refine xss_if ((xw_or (xt_not (xt_chain (xv_int).br ((xv_var 5)).br ((xv_var 1)).br)) (fun hk => (xw_or (xt_not (xt_chain (xv_int).br ((xv_var 7)).br ((xv_var 1)).br)) (fun hk => (xw_or (xt_not (xt_chain (xv_int).br ((xv_var 6)).br ((xv_var 2)).br)) (fun hk => (xw_and1 (xt_not (xt_chain (xv_int).br ((xv_var 8)).br ((xv_glob c_MOST_COST)).br)))))))))).t (fun hk ht => ?_) fun hk ht => ?_
          · have e : deedOk p kn ds[i] = false := by
              unfold deedOk
              simp only [cmpI] at hk
              rw [Bool.eq_false_iff]
              intro q
              simp only [Bool.and_eq_true, Bool.or_eq_true, Bool.not_eq_true', decide_eq_true_eq, Bool.and_eq_false_iff, decide_eq_false_iff_not] at hk q
              omega
            rw [e, Bool.false_and, if_neg Bool.false_ne_true]
            exact xss_yesS ht (xss_raise rfl tk EM)
          · have e : deedOk p kn ds[i] = true := by
              unfold deedOk
              simp only [cmpI, Bool.or_eq_false_iff, Bool.not_eq_false', Bool.and_eq_true, decide_eq_true_eq] at hk
              simp only [Bool.and_eq_true, decide_eq_true_eq]
              omega
            rw [e, Bool.true_and]
            refine xss_no0 ht ?_
            by_cases h0 : i = 0
            · subst h0
              rw [hprev, if_pos rfl, show prevOk none ds[0] = true from rfl, if_pos rfl]
              exact xss_no0 ((xw_and (l := false) (xt_gt ((xv_var 4)).br (xv_int).br) (fun hk => absurd hk (by simp))).t.is (by simp)) xss_nil
            · rw [if_neg h0, List.getElem?_eq_getElem (by omega)] at hprev
              subst hprev
              have hix' : ixD (.lst (ds.map eDeed)) ((i : Int) - 1) = some (eDeed ds[i - 1]) := ix_map (by rw [atI_ge (by omega) (by omega)]; congr 2; omega)
              refine xss_if (XT.is ((xw_and (xt_gt ((xv_var 4)).br (xv_int).br) (fun _ => xw_and1 (xt_not (xt_ltT hu ((xv_ix ((xv_var 3)).br ((xv_sub ((xv_var 4)).br (xv_int).br)).br (hix'))).br ((xv_ix ((xv_var 3)).br ((xv_var 4)).br (hix))).br (rfl) (rfl))))).t) (show _ = !(dlt ds[i - 1] ds[i]) by rw [decide_eq_true (by omega)]; rfl)) (fun hk ht => ?_) fun hk ht => ?_
              · have e : prevOk (some ds[i - 1]) ds[i] = false := by simpa [prevOk] using hk
                rw [e, if_neg Bool.false_ne_true]
                exact xss_yesS ht (xss_raise rfl tk EM)
              · have e : prevOk (some ds[i - 1]) ds[i] = true := by simpa [prevOk] using hk
                rw [e, if_pos rfl]
                exact xss_no0 ht xss_nil
        · rw [hc, Bool.true_and]
          refine ih (i + 1) (by omega) (some ds[i]) ?_
          rw [if_neg (by omega)]
          simp [hlt]
        · rw [hc]; rfl

abbrev s_gone : Stmt := top 13
abbrev N_gone : List Str := ["machine", "row", "found", "number"]
abbrev P_gone : List Str := ["machine", "row"]
theorem sc_gone : FnScope N_gone P_gone (defScope s_gone) := ⟨rfl, rfl, rfl, by decide +kernel, rfl, by decide +kernel, by decide +kernel⟩

def goneR (cM cR : Addr) (p kn : Int) (ds : List Deed) (row : List Int) : Res := if goodM p kn ds then (match goneL ds 0 row with | some l => .ok (.lst ((0 :: l).map .int)) | none => .er cR) else .er cM
def F_gone (cM cR : Addr) : Fs := fun args r => ∃ (p kn : Int) (ds : List Deed) (row : List Int), args = [eMach p kn ds, .lst (row.map .int)] ∧ row.length ≤ 1000 ∧ r = goneR cM cR p kn ds row
theorem df_gone {P : Program} {w : World} {K : Fg} {mg : Str → Option Value} {base : Heap} {cM cR : Addr} (T : Tx K mg) (U : Dn K mg "gone" s_gone P_gone) (ER : EC K mg "BadRow" cR) (D_look_machine : Df P w K mg base "look_machine" 1 (F_look_machine cM)) :
    Df P w K mg base "gone" 2 (F_gone cM cR) :=
  df_of 1 U sc_gone (fun _ _ ⟨_, _, _, _, h, _⟩ => by rw [h]; rfl) fun f cdv A outer s H E args r hr tk hp hF => by
    obtain ⟨p, kn, ds, row, rfl, hlen, rfl⟩ := hF
    have nd := sc_gone.nd
    unfold goneR
    cases hg : goodM p kn ds with
    | false =>
      rw [if_neg Bool.false_ne_true]
      exact XF.er (xss_stop (xs_exprR (xr_call D_look_machine hr tk (xa_cons (xv_var 0) xa_nil) ⟨p, kn, ds, rfl, by rw [hg]; rfl⟩))).er
    | true =>
      rw [if_pos rfl]
      refine XF.mk (match goneL ds 0 row with | some l => .rt (.lst ((0 :: l).map .int)) | none => .er cR) ?_ (by split <;> rfl)
      refine xss_cons (xs_expr (xv_call D_look_machine (hr.mono (by decide)) tk (xa_cons (xv_var 0) xa_nil) (⟨p, kn, ds, rfl, by rw [hg]; rfl⟩))) ?_
      refine xss_cons (xs_own 2 nd (xl_lst (xa_cons xv_int xa_nil))) ?_
      refine xss_then (o1 := match goneL ds 0 row with | some l => .nx [.fz (eMach p kn ds), .fz (.lst (row.map .int)), .ow ((0 :: l).map .int), .no] | none => .er cR) (xs_for hp rfl (xi_list (xv_var 1)) ?_) ?_ ?_
      · suffices loop : ∀ (row2 : List Int) (acc : List Int) (here : Int), acc.getLast? = some here → acc.length + row2.length ≤ 2000 → Fr _ _ _ _ (row2.map .int) [.fz (eMach p kn ds), .fz (.lst (row.map .int)), .ow (acc.map .int), .no]
            (match goneL ds here row2 with | some l => .nx [.fz (eMach p kn ds), .fz (.lst (row.map .int)), .ow ((acc ++ l).map .int), .no] | none => .er cR) by
          exact loop row [0] 0 rfl (by simp; omega)
        intro row2
        induction row2 with
        | nil => intro acc here _ _; rw [show goneL ds here [] = some [] from rfl]; simp only [List.append_nil]; exact .nil
        | cons n row2 ih =>
          intro acc here hl hsz
          have hix := ix_lastM (f := D.int) hl
          simp only [List.length_cons] at hsz
          refine Fr.chk (step ds here n).isSome (xg_name 3 nd) (a := [.fz (eMach p kn ds), .fz (.lst (row.map .int)), .ow ((acc ++ [(dAt ds n).2.2.1]).map .int), .fz (.int n)]) (o1 := .er cR) ?_ (Le.fg [3] rfl) rfl (fun hc => ?_) (fun hc => ?_)
          · refine xss_if (XT.is ((xw_or (xt_not (xt_chain (xv_int).br ((xv_var 3)).br ((xv_len T.len ((xv_ix ((xv_var 0)).br (xv_int).br (by rfl))).br)).br)) (fun hk => (xw_and1 (xt_neI ((xv_ix ((xv_ix ((xv_ix ((xv_var 0)).br (xv_int).br (by rfl))).br ((xv_var 3)).br (ix_deedC hk))).br (xv_int).br (by rfl))).br ((xv_ix (xb_own 2) ((xv_neg (xv_int).br)).br (hix))).br))))).t (show _ = !(step ds here n).isSome by
              unfold step
              rw [List.length_map]
              by_cases q : 0 ≤ n ∧ n < ds.length ∧ (dAt ds n).1 = here
              · rw [if_pos q]; simp [cmpI, q]
              · rw [if_neg q]
                by_cases q0 : 0 ≤ n <;> by_cases q1 : n < ds.length <;> simp [cmpI, q0, q1]
                exact fun z => q ⟨q0, q1, z⟩)) (fun hk ht => ?_) fun hk ht => ?_
            · have e : (step ds here n).isSome = false := by simpa using hk
              rw [e, if_neg Bool.false_ne_true]
              exact xss_yesS ht (xss_raise rfl tk ER)
            · have e : (step ds here n).isSome = true := by simpa using hk
              rw [e, if_pos rfl]
              refine xss_no0 ht (xss_one ?_)
              have hin : 0 ≤ n ∧ n < ds.length := by
                unfold step at e
                split at e
                · omega
                · cases e
              refine XS.is (xs_append 2 (xv_ix ((xv_ix ((xv_ix ((xv_var 0)).br (xv_int).br (by rfl))).br ((xv_var 3)).br (ix_deed hin.1 hin.2))).br (xv_int).br (by rfl)) (by rfl) (by simp; omega)) ?_
              simp
          · obtain ⟨h2, hs⟩ := Option.isSome_iff_exists.mp hc
            have e2 := step_to hs
            have q := ih (acc ++ [(dAt ds n).2.2.1]) (dAt ds n).2.2.1 (by simp) (by simp; omega)
            rw [goneL_some hs, e2]
            cases e3 : goneL ds (dAt ds n).2.2.1 row2 with
            | none => rw [e3] at q; exact q
            | some l => rw [e3] at q; simp only [List.append_assoc] at q; exact q
          · have hs : step ds here n = none := by cases e : step ds here n <;> simp_all
            rw [goneL_none hs]
            rfl
      · intro ds1 h1
        cases e : goneL ds 0 row with
        | none => rw [e] at h1; cases h1
        | some l =>
          rw [e] at h1
          cases h1
          exact XSs.freeze 2 (xss_ret (xv_var 2))
      · intro h1
        cases e : goneL ds 0 row with
        | none => rfl
        | some l => rw [e] at h1; cases h1

abbrev s_cost_of : Stmt := top 14
abbrev N_cost_of : List Str := ["machine", "row", "number"]
abbrev P_cost_of : List Str := ["machine", "row"]
theorem sc_cost_of : FnScope N_cost_of P_cost_of (defScope s_cost_of) := ⟨rfl, rfl, rfl, by decide +kernel, rfl, by decide +kernel, by decide +kernel⟩

def costR (cM cR : Addr) (p kn : Int) (ds : List Deed) (row : List Int) : Res := if goodM p kn ds then (match goneL ds 0 row with | some _ => .ok (.int (costL ds row)) | none => .er cR) else .er cM
def F_cost_of (cM cR : Addr) : Fs := fun args r => ∃ (p kn : Int) (ds : List Deed) (row : List Int), args = [eMach p kn ds, .lst (row.map .int)] ∧ row.length ≤ 1000 ∧ r = costR cM cR p kn ds row
theorem df_cost_of {P : Program} {w : World} {K : Fg} {mg : Str → Option Value} {base : Heap} {cM cR : Addr} (T : Tx K mg) (U : Dn K mg "cost_of" s_cost_of P_cost_of) (D_gone : Df P w K mg base "gone" 2 (F_gone cM cR)) :
    Df P w K mg base "cost_of" 3 (F_cost_of cM cR) :=
  df_of 2 U sc_cost_of (fun _ _ ⟨_, _, _, _, h, _⟩ => by rw [h]; rfl) fun f cdv A outer s H E args r hr tk hp hF => by
    obtain ⟨p, kn, ds, row, rfl, hlen, rfl⟩ := hF
    have nd := sc_cost_of.nd
    have call : ∀ r, r = goneR cM cR p kn ds row → F_gone cM cR [eMach p kn ds, .lst (row.map .int)] r := fun r h => ⟨p, kn, ds, row, rfl, hlen, h⟩
    unfold costR
    cases hg : goodM p kn ds with
    | false =>
      rw [if_neg Bool.false_ne_true]
      exact XF.er (xss_stop (xs_exprR (xr_call D_gone hr tk (xa_cons (xv_var 0) (xa_cons (xv_var 1) xa_nil)) (call _ (by unfold goneR; rw [hg]; rfl))))).er
    | true =>
      rw [if_pos rfl]
      cases e : goneL ds 0 row with
      | none => exact XF.er (xss_stop (xs_exprR (xr_call D_gone hr tk (xa_cons (xv_var 0) (xa_cons (xv_var 1) xa_nil)) (call _ (by unfold goneR; rw [hg, e]; rfl))))).er
      | some l =>
        refine XF.rt (xss_cons (xs_expr (xv_call D_gone (hr.mono (by decide)) tk (xa_cons (xv_var 0) (xa_cons (xv_var 1) xa_nil)) (call _ (by unfold goneR; rw [hg, e]; rfl)))) ?_)
        have hin := goneL_in row 0 l e
        exact xss_ret (xv_sum rfl T.sum ((xl_lc [("number", 2)] rfl nd (xi_list (xv_var 1)) (blkOk_by (own := [("number", 2)]) (N := N_cost_of) (sc := defScope s_cost_of) (by decide +kernel)) (lc_map (g := fun n => D.int (dAt ds n).2.2.2) row fun x hx => ⟨_, (fun _ _ _ _ _ => (xgw_name 2 nd)), (fun _ _ _ _ _ => (xv_ix ((xv_ix ((xv_ix ((xv_var 0)).br (xv_int).br (by rfl))).br ((xv_var 2)).br (ix_deed (hin x hx).1 (hin x hx).2))).br (xv_int).br (by rfl)))⟩) (by simp; omega))).br (show _ = D.lst ((row.map fun n => (dAt ds n).2.2.2).map D.int) by rw [List.map_map]; rfl))

abbrev s_law_cell : Stmt := top 17
abbrev N_law_cell : List Str := ["_law_script", "_law_k"]
abbrev P_law_cell : List Str := ["_law_script", "_law_k"]
theorem sc_law_cell : FnScope N_law_cell P_law_cell (defScope s_law_cell) := ⟨rfl, rfl, rfl, by decide +kernel, rfl, by decide +kernel, by decide +kernel⟩

def F_law_cell : Fs := fun args r => ∃ (s : List Int) (k : Int), args = [.scr s, .int k] ∧ r = .ok (.int (cell s k))
theorem df_law_cell {P : Program} {w : World} {K : Fg} {mg : Str → Option Value} {base : Heap} (T : Tx K mg) (U : Dn K mg "_law_cell" s_law_cell P_law_cell) : Df P w K mg base "_law_cell" 1 F_law_cell :=
  df_of 0 U sc_law_cell (fun _ _ ⟨_, _, h, _⟩ => by rw [h]; rfl) fun f cdv A outer s H E args r hr tk hp hF => by
    obtain ⟨xs, k, rfl, rfl⟩ := hF
    refine XF.rt ?_
    cases xs with
    | nil =>
      refine xss_cons (xs_no (xt_truth ((xv_var 0)).br) xss_nil) (xss_one ?_)
      exact xs_ret xv_int
    | cons x xs =>
      refine xss_stop (xs_yes (xt_truth ((xv_var 0)).br) (xss_one ?_))
      refine xs_ret (xv_ix ((xv_var 0)).br ((xv_mod ((xv_var 1)).br ((xv_len T.len ((xv_var 0)).br)).br (by first | omega | decide | (simp only [List.length_cons]; omega)))).br (?_))
      show (atI (x :: xs) _).map _ = _
      have h0 : (0 : Int) < ((x :: xs).length : Int) := by simp only [List.length_cons]; omega
      rw [atI_d 0 (Int.emod_nonneg _ (by omega)) (Int.emod_lt_of_pos _ h0)]
      rfl

abbrev s_law_mix : Stmt := top 18
abbrev N_law_mix : List Str := ["_law_script", "_law_k", "_law_number"]
abbrev P_law_mix : List Str := ["_law_script", "_law_k"]
theorem sc_law_mix : FnScope N_law_mix P_law_mix (defScope s_law_mix) := ⟨rfl, rfl, rfl, by decide +kernel, rfl, by decide +kernel, by decide +kernel⟩

def F_law_mix : Fs := fun args r => ∃ (s : List Int) (k : Int), args = [.scr s, .int k] ∧ r = .ok (.int (mix s k))
theorem df_law_mix {P : Program} {w : World} {K : Fg} {mg : Str → Option Value} {base : Heap} (T : Tx K mg) (U : Dn K mg "_law_mix" s_law_mix P_law_mix) (D__law_cell : Df P w K mg base "_law_cell" 1 F_law_cell) : Df P w K mg base "_law_mix" 2 F_law_mix :=
  df_of 1 U sc_law_mix (fun _ _ ⟨_, _, h, _⟩ => by rw [h]; rfl) fun f cdv A outer s H E args r hr tk hp hF => by
    obtain ⟨xs, k, rfl, rfl⟩ := hF
    have nd := sc_law_mix.nd
    unfold mix
    refine XF.rt ?_
    refine xss_cons (xs_set 2 nd (xv_mod ((xv_add ((xv_call D__law_cell (hr.mono (by decide)) tk (xa_cons (xv_var 0) (xa_cons (xv_var 1) xa_nil)) (by exact ⟨_, _, rfl, rfl⟩))).br ((xv_mul (xv_int).br ((xv_add ((xv_var 1)).br (xv_int).br)).br (by first | exact Or.inl ⟨by omega, by omega⟩ | exact Or.inr ⟨by omega, by omega⟩))).br)).br (xv_int).br (by first | omega | decide | (simp only [List.length_cons]; omega)))) ?_
    refine xss_cons (xs_set 2 nd (xv_mod ((xv_mul ((xv_var 2)).br (xv_int).br (by first | exact Or.inl ⟨by omega, by omega⟩ | exact Or.inr ⟨by omega, by omega⟩))).br (xv_int).br (by first | omega | decide | (simp only [List.length_cons]; omega)))) ?_
    exact xss_one (xs_ret (xv_mod ((xv_add ((xv_mul ((xv_div ((xv_var 2)).br (xv_int).br (by first | exact ⟨by omega, by omega⟩ | exact ⟨by decide, by decide⟩))).br (xv_int).br (by first | exact Or.inl ⟨by omega, by omega⟩ | exact Or.inr ⟨by omega, by omega⟩))).br ((xv_var 2)).br)).br (xv_int).br (by first | omega | decide | (simp only [List.length_cons]; omega))))

abbrev s_law_machine : Stmt := top 19
abbrev N_law_machine : List Str := ["_law_script", "_law_k", "_law_most", "_law_places", "_law_kinds", "_law_deeds", "_law_j", "_law_number", "_law_cost"]
abbrev P_law_machine : List Str := ["_law_script", "_law_k", "_law_most"]
theorem sc_law_machine : FnScope N_law_machine P_law_machine (defScope s_law_machine) := ⟨rfl, rfl, rfl, by decide +kernel, rfl, by decide +kernel, by decide +kernel⟩

def F_law_machine : Fs := fun args r => ∃ (s : List Int) (k most : Int), args = [.scr s, .int k, .int most] ∧ 1 ≤ most ∧ most ≤ 7 ∧ r = .ok (eMach (mPl s k most) (mKn s k) (mDs s k most))
theorem df_law_machine {P : Program} {w : World} {K : Fg} {mg : Str → Option Value} {base : Heap} (T : Tx K mg) (U : Dn K mg "_law_machine" s_law_machine P_law_machine) (D__law_mix : Df P w K mg base "_law_mix" 2 F_law_mix) :
    Df P w K mg base "_law_machine" 3 F_law_machine :=
  df_of 2 U sc_law_machine (fun _ _ ⟨_, _, _, h, _⟩ => by rw [h]; rfl) fun f cdv A outer s H E args r hr tk hp hF => by
    obtain ⟨xs, k, most, rfl, hm1, hm7, rfl⟩ := hF
    have nd := sc_law_machine.nd
    have hu := hr.units
    obtain ⟨p1, p2⟩ := mPl_bd (s := xs) (k := k) hm1
    obtain ⟨k1, k2⟩ := mKn_bd xs k
    refine XF.rt ?_
    refine xss_cons (xs_set 3 nd (xv_add (xv_int).br ((xv_mod ((xv_call D__law_mix (hr.mono (by decide)) tk (xa_cons (xv_var 0) (xa_cons (xv_var 1) xa_nil)) (by exact ⟨_, _, rfl, rfl⟩))).br ((xv_var 2)).br (by first | omega | decide | (simp only [List.length_cons]; omega)))).br)) ?_
    refine xss_cons (xs_set 4 nd (xv_add (xv_int).br ((xv_mod ((xv_call D__law_mix (hr.mono (by decide)) tk (xa_cons (xv_var 0) (xa_cons (xv_add ((xv_var 1)).br (xv_int).br) xa_nil)) (by exact ⟨_, _, rfl, rfl⟩))).br (xv_int).br (by first | omega | decide | (simp only [List.length_cons]; omega)))).br)) ?_
    refine xss_cons (xs_own 5 nd (xl_lst xa_nil)) ?_
    have hmod := Int.emod_nonneg (mix xs (k + 2)) (show 2 * most + 1 ≠ 0 by omega)
    have hmod2 := Int.emod_lt_of_pos (mix xs (k + 2)) (show 0 < 2 * most + 1 by omega)
    refine xss_then (o1 := .nx [.fz (.scr xs), .fz (.int k), .fz (.int most), .fz (.int (mPl xs k most)), .fz (.int (mKn xs k)), .ow ((mRaw xs k most).map eDeed), .no, .no, .no]) (xs_for hp rfl (xi_range T.range (xv_mod ((xv_call D__law_mix (hr.mono (by decide)) tk (xa_cons (xv_var 0) (xa_cons (xv_add ((xv_var 1)).br (xv_int).br) xa_nil)) (by exact ⟨_, _, rfl, rfl⟩))).br ((xv_add ((xv_mul (xv_int).br ((xv_var 2)).br (by first | exact Or.inl ⟨by omega, by omega⟩ | exact Or.inr ⟨by omega, by omega⟩))).br (xv_int).br)).br (by first | omega | decide | (simp only [List.length_cons]; omega))) (by omega) (by omega)) ?_) ?_ (by intro h; cases h)
    · rw [rngD_F]
      suffices loop : ∀ (m i : Nat), i + m = mMany xs k most → Fr _ _ _ _ (rngF i m) [.fz (.scr xs), .fz (.int k), .fz (.int most), .fz (.int (mPl xs k most)), .fz (.int (mKn xs k)), .ow (((List.range i).map fun (j : Nat) => mDeed xs k most j).map eDeed), .no, .no, .no]
          (.nx [.fz (.scr xs), .fz (.int k), .fz (.int most), .fz (.int (mPl xs k most)), .fz (.int (mKn xs k)), .ow ((mRaw xs k most).map eDeed), .no, .no, .no]) by
        exact loop (mMany xs k most) 0 (by omega)
      intro m
      induction m with
      | zero => intro i hi; have e : i = mMany xs k most := by omega
                subst e; exact .nil
      | succ m ih =>
        intro i hi
        have hi2 : (i : Int) < 2 * most := by have := mMany_bd (s := xs) (k := k) hm1; omega
        have h8 := Int.emod_nonneg (mix xs (k + 3 + i) / 4096) (show (8 : Int) ≠ 0 by omega)
        have h9 := Int.emod_lt_of_pos (mix xs (k + 3 + i) / 4096) (show (0 : Int) < 8 by omega)
        have hcst : ixD (.lst (([0, 1, 2, 3, 5, 9, 1, 0] : List Int).map D.int)) (mix xs (k + 3 + i) / 4096 % 8) = some (.int (mCost (mix xs (k + 3 + i)))) := ix_map (atI_d 0 h8 (by simpa using h9))
        rw [rngF_succ]
        refine .step (xg_name 6 nd) (xss_cons (xs_set 7 nd (xv_call D__law_mix (hr.mono (by decide)) tk (xa_cons (xv_var 0) (xa_cons (xv_add ((xv_add ((xv_var 1)).br (xv_int).br)).br ((xv_var 6)).br) xa_nil)) (by exact ⟨_, _, rfl, rfl⟩))) (xss_cons (xs_set 8 nd (xv_ix ((xl_lst (xa_cons xv_int (xa_cons xv_int (xa_cons xv_int (xa_cons xv_int (xa_cons xv_int (xa_cons xv_int (xa_cons xv_int (xa_cons xv_int xa_nil)))))))))).br ((xv_mod ((xv_div ((xv_var 7)).br (xv_int).br (by first | exact ⟨by omega, by omega⟩ | exact ⟨by decide, by decide⟩))).br (xv_int).br (by first | omega | decide | (simp only [List.length_cons]; omega)))).br (hcst)))
          (xss_one (xs_append 5 (xv_tup (xa_cons (xv_mod ((xv_var 7)).br ((xv_var 3)).br (by first | omega | decide | (simp only [List.length_cons]; omega))) (xa_cons (xv_mod ((xv_div ((xv_var 7)).br (xv_int).br (by first | exact ⟨by omega, by omega⟩ | exact ⟨by decide, by decide⟩))).br ((xv_var 4)).br (by first | omega | decide | (simp only [List.length_cons]; omega))) (xa_cons (xv_mod ((xv_div ((xv_var 7)).br (xv_int).br (by first | exact ⟨by omega, by omega⟩ | exact ⟨by decide, by decide⟩))).br ((xv_var 3)).br (by first | omega | decide | (simp only [List.length_cons]; omega))) (xa_cons (xv_var 8) xa_nil))))) (by rfl) (by simp; omega))))) rfl (Le.fg [6, 7, 8] rfl) ?_
        have q := ih (i + 1) (by omega)
        rw [List.range_succ, List.map_append, List.map_append] at q
        exact q
    · intro ds1 h1
      cases h1
      have hrd := mRaw_bd (s := xs) (k := k) hm1 (by omega)
      have hbd := mDs_bd (s := xs) (k := k) hm1 (by omega)
      have hlen : (mRaw xs k most).length = mMany xs k most := by simp [mRaw]
      have hmany := mMany_bd (s := xs) (k := k) hm1
      have e1 : (mRaw xs k most).map eDeed = ((mRaw xs k most).map dl).map eT := by rw [List.map_map]; rfl
      have e2 : (mDs xs k most).map eDeed = ((mDs xs k most).map dl).map eT := by rw [List.map_map]; rfl
      refine xss_ret (xv_tup (xa_cons (xv_var 3) (xa_cons (xv_var 4) (xa_cons ((XL.is (xl_sortset (xs := (mRaw xs k most).map dl) (ys := (mDs xs k most).map dl) 4 1024 rfl hu T.sorted T.set (xb_own 5) (congrArg D.lst e1) (by rw [List.length_map]; omega) (by decide) ?_ ?_ ?_) e2.symm).v) xa_nil))))
      · intro x hx
        obtain ⟨d, hd, rfl⟩ := List.mem_map.mp hx
        exact ⟨rfl, (hrd d hd).1⟩
      · rw [List.pairwise_map]; exact mDs_rise xs k most
      · intro x
        rw [List.mem_map, List.mem_map]
        constructor
        · rintro ⟨d, hd, rfl⟩; exact ⟨d, (mDs_mem hm1 (by omega) d).mp hd, rfl⟩
        · rintro ⟨d, hd, rfl⟩; exact ⟨d, (mDs_mem hm1 (by omega) d).mpr hd, rfl⟩

abbrev s_law_row : Stmt := top 20
abbrev N_law_row : List Str := ["_law_script", "_law_k", "_law_machine_here", "_law_most", "_law_found", "_law_here", "_law_j", "_law_some", "_law_number"]
abbrev P_law_row : List Str := ["_law_script", "_law_k", "_law_machine_here", "_law_most"]
theorem sc_law_row : FnScope N_law_row P_law_row (defScope s_law_row) := ⟨rfl, rfl, rfl, by decide +kernel, rfl, by decide +kernel, by decide +kernel⟩

def F_law_row : Fs := fun args r => ∃ (s : List Int) (k p kn : Int) (ds : List Deed) (most : Int), args = [.scr s, .int k, eMach p kn ds, .int most] ∧ 0 ≤ most ∧ most ≤ 100 ∧ ds.length ≤ 1000 ∧ r = .ok (.lst ((mRow s k ds most).map .int))
theorem df_law_row {P : Program} {w : World} {K : Fg} {mg : Str → Option Value} {base : Heap} (T : Tx K mg) (U : Dn K mg "_law_row" s_law_row P_law_row) (D__law_mix : Df P w K mg base "_law_mix" 2 F_law_mix) :
    Df P w K mg base "_law_row" 3 F_law_row :=
  df_of 2 U sc_law_row (fun _ _ ⟨_, _, _, _, _, _, h, _⟩ => by rw [h]; rfl) fun f cdv A outer s H E args r hr tk hp hF => by
    obtain ⟨xs, k, p, kn, ds, most, rfl, hm0, hm1, hds, rfl⟩ := hF
    have nd := sc_law_row.nd
    have hmod := Int.emod_nonneg (mix xs k) (show most + 1 ≠ 0 by omega)
    have hmod2 := Int.emod_lt_of_pos (mix xs k) (show 0 < most + 1 by omega)
    refine XF.rt ?_
    refine xss_cons (xs_own 4 nd (xl_lst xa_nil)) (xss_cons (xs_set 5 nd xv_int) ?_)
    refine xss_then (o1 := .nx [.fz (.scr xs), .fz (.int k), .fz (eMach p kn ds), .fz (.int most), .ow ((mRow xs k ds most).map .int), .fz (.int (rowSt xs k ds (mix xs k % (most + 1)).toNat).2), .no, .no, .no]) (xs_for hp rfl (xi_range T.range (xv_mod ((xv_call D__law_mix (hr.mono (by decide)) tk (xa_cons (xv_var 0) (xa_cons (xv_var 1) xa_nil)) (by exact ⟨_, _, rfl, rfl⟩))).br ((xv_add ((xv_var 3)).br (xv_int).br)).br (by first | omega | decide | (simp only [List.length_cons]; omega))) (by omega) (by omega)) ?_)
      (fun ds1 h1 => by cases h1; exact XSs.freeze 4 (xss_ret (xv_var 4))) (by intro h; cases h)
    rw [rngD_F]
    suffices loop : ∀ (m i : Nat), i + m = (mix xs k % (most + 1)).toNat → Fr _ _ _ _ (rngF i m) [.fz (.scr xs), .fz (.int k), .fz (eMach p kn ds), .fz (.int most), .ow ((rowSt xs k ds i).1.map .int), .fz (.int (rowSt xs k ds i).2), .no, .no, .no]
        (.nx [.fz (.scr xs), .fz (.int k), .fz (eMach p kn ds), .fz (.int most), .ow ((mRow xs k ds most).map .int), .fz (.int (rowSt xs k ds (mix xs k % (most + 1)).toNat).2), .no, .no, .no]) by
      exact loop _ 0 (by omega)
    intro m
    induction m with
    | zero =>
      intro i hi
      have e : i = (mix xs k % (most + 1)).toNat := by omega
      subst e
      exact .nil
    | succ m ih =>
      intro i hi
      obtain ⟨l, g1, g2, g3⟩ := rowSt_good xs k ds i
      have q := ih (i + 1) (by omega)
      rw [rowSt_succ] at q
      unfold rowStep at q
      rw [rngF_succ]
      have hlen : (ds.map eDeed).length = ds.length := List.length_map _
      have hsz : ds.length < 2 ^ 62 := by omega
      have hsome : ((List.range (((ds.map eDeed).length : Nat) : Int).toNat).filter fun (n : Nat) => decide ((dAt ds (n : Int)).1 = (rowSt xs k ds i).2)).map (fun (n : Nat) => D.int n) = (mSome ds (rowSt xs k ds i).2).map fun (n : Nat) => D.int n := by
        rw [hlen, Int.toNat_natCast]; rfl
      cases e : (mSome ds (rowSt xs k ds i).2).isEmpty with
      | true =>
        rw [e, if_pos rfl] at q
        exact .step (xg_name 6 nd) (xss_cons (xs_lc 7 [("_law_number", 8)] rfl nd (xi_range T.range (xv_len T.len ((xv_ix ((xv_var 2)).br (xv_int).br (by rfl))).br) (by omega) (by rw [hlen]; omega)) (blkOk_by (own := [("_law_number", 8)]) (N := N_law_row) (sc := defScope s_law_row) (by decide +kernel)) ((lc_filter (p := fun (n : Nat) => decide ((dAt ds (n : Int)).1 = (rowSt xs k ds i).2)) (f := fun (n : Nat) => D.int n) (g := fun (n : Nat) => D.int n) (List.range _) fun x hx => ⟨_, (fun _ _ _ _ _ => (xgw_name 8 nd)), (fun _ _ _ _ _ => (xts_one (xt_eqI ((xv_ix ((xv_ix ((xv_ix ((xv_var 2)).br (xv_int).br (by rfl))).br ((xv_var 8)).br (ix_deed (by omega) (by have := List.mem_range.mp hx; omega)))).br (xv_int).br (by rfl))).br ((xv_var 5)).br))), fun _ => (fun _ _ _ _ _ => (xv_var 8))⟩).is hsome) (by rw [rngD_F, rngF_len]; omega)) (xss_no0 (xt_truth (xb_own 7) (truD_map (by rw [e]; rfl))) xss_nil)) rfl (Le.fg [6, 7, 8] rfl) q
      | false =>
        rw [e, if_neg Bool.false_ne_true] at q
        obtain ⟨n, hn, e1, e2⟩ := mPick_mem (s := xs) (k := k) (j := i) e
        obtain ⟨n1, n2⟩ := mSome_spec hn
        have h1 := Int.emod_nonneg (mix xs (k + 1 + i)) (show ((mSome ds (rowSt xs k ds i).2).length : Int) ≠ 0 by rw [List.isEmpty_eq_false_iff] at e; have := List.length_pos_iff.mpr e; omega)
        have h0 : 0 < (mSome ds (rowSt xs k ds i).2).length := by rw [List.isEmpty_eq_false_iff] at e; exact List.length_pos_iff.mpr e
        have h2 := Int.emod_lt_of_pos (mix xs (k + 1 + i)) (show (0 : Int) < ((mSome ds (rowSt xs k ds i).2).length : Int) by omega)
        have hix : ixD (.lst ((mSome ds (rowSt xs k ds i).2).map fun (n : Nat) => D.int n)) (mix xs (k + 1 + i) % (((mSome ds (rowSt xs k ds i).2).map fun (n : Nat) => D.int n).length : Nat)) = some (D.int (mPick xs k ds (rowSt xs k ds i).2 i)) := by
          rw [List.length_map, e1]
          refine ix_map (f := fun (n : Nat) => D.int n) ?_
          rw [atI_ge h1 h2, ← List.getElem?_eq_getElem]
          exact e2
        have hl2 := ix_lastM (f := D.int) (xs := (rowSt xs k ds i).1 ++ [mPick xs k ds (rowSt xs k ds i).2 i]) List.getLast?_concat
        have hd := ix_deed (ds := ds) (n := mPick xs k ds (rowSt xs k ds i).2 i) (by omega) (by omega)
        rw [List.map_append] at hl2 q
        exact .step (xg_name 6 nd) (xss_cons (xs_lc 7 [("_law_number", 8)] rfl nd (xi_range T.range (xv_len T.len ((xv_ix ((xv_var 2)).br (xv_int).br (by rfl))).br) (by omega) (by rw [hlen]; omega)) (blkOk_by (own := [("_law_number", 8)]) (N := N_law_row) (sc := defScope s_law_row) (by decide +kernel)) ((lc_filter (p := fun (n : Nat) => decide ((dAt ds (n : Int)).1 = (rowSt xs k ds i).2)) (f := fun (n : Nat) => D.int n) (g := fun (n : Nat) => D.int n) (List.range _) fun x hx => ⟨_, (fun _ _ _ _ _ => (xgw_name 8 nd)), (fun _ _ _ _ _ => (xts_one (xt_eqI ((xv_ix ((xv_ix ((xv_ix ((xv_var 2)).br (xv_int).br (by rfl))).br ((xv_var 8)).br (ix_deed (by omega) (by have := List.mem_range.mp hx; omega)))).br (xv_int).br (by rfl))).br ((xv_var 5)).br))), fun _ => (fun _ _ _ _ _ => (xv_var 8))⟩).is hsome) (by rw [rngD_F, rngF_len]; omega)) (xss_yes (xt_truth (xb_own 7) (truD_map (by rw [e]; rfl)))
          (xss_cons (xs_append 4 (xv_ix (xb_own 7) ((xv_mod ((xv_call D__law_mix (hr.mono (by decide)) tk (xa_cons (xv_var 0) (xa_cons (xv_add ((xv_add ((xv_var 1)).br (xv_int).br)).br ((xv_var 6)).br) xa_nil)) (by exact ⟨_, _, rfl, rfl⟩))).br ((xv_len T.len (xb_own 7))).br (by rw [List.length_map]; omega))).br (hix)) (by rfl) (by rw [List.length_map]; omega))
            (xss_one (xs_set 5 nd (xv_ix ((xv_ix ((xv_ix ((xv_var 2)).br (xv_int).br (by rfl))).br ((xv_ix (xb_own 4) ((xv_neg (xv_int).br)).br (hl2))).br (hd))).br (xv_int).br (by rfl))))) xss_nil)) rfl (Le.fg [6, 7, 8] rfl) q

abbrev s_law_refusal : Stmt := top 21
abbrev N_law_refusal : List Str := ["_law_kept", "_law_kinds"]
abbrev P_law_refusal : List Str := ["_law_kept"]
theorem sc_law_refusal : FnScope N_law_refusal P_law_refusal (defScope s_law_refusal) := ⟨rfl, rfl, rfl, by decide +kernel, rfl, by decide +kernel, by decide +kernel⟩

def nmR : Fin 5 → Str
  | 0 => "machine"
  | 1 => "row"
  | 2 => "prices"
  | 3 => "model"
  | 4 => "form"
def kindsR (i : Fin 5) : List D := [.bl (decide (i = 0)), .bl (decide (i = 1)), .bl (decide (i = 2)), .bl (decide (i = 3)), .bl (decide (i = 4))]
theorem kindsR_count : ∀ i : Fin 5, (kindsR i).countP (fun z => eqF z (.bl true)) = 1 := by decide
theorem kindsR_at : ∀ i : Fin 5, (kindsR i)[i.val]? = some (.bl true) := fun i => match i with | 0 => rfl | 1 => rfl | 2 => rfl | 3 => rfl | 4 => rfl
theorem kindsR_no (i : Fin 5) (m : Nat) (z : D) (h : m < i.val) (e : (kindsR i)[m]? = some z) : eqF z (.bl true) = false := by
  have k : ∀ (i : Fin 5) (m : Fin 5), m.val < i.val → ∀ z ∈ (kindsR i)[m.val]?, eqF z (.bl true) = false := by
    intro i m
    match i, m with
    | 0, m => intro h; omega
    | 1, 0 => intro _ z hz; cases hz; rfl
    | 2, 0 => intro _ z hz; cases hz; rfl
    | 2, 1 => intro _ z hz; cases hz; rfl
    | 3, 0 => intro _ z hz; cases hz; rfl
    | 3, 1 => intro _ z hz; cases hz; rfl
    | 3, 2 => intro _ z hz; cases hz; rfl
    | 4, 0 => intro _ z hz; cases hz; rfl
    | 4, 1 => intro _ z hz; cases hz; rfl
    | 4, 2 => intro _ z hz; cases hz; rfl
    | 4, 3 => intro _ z hz; cases hz; rfl
    | 1, 1 | 1, 2 | 1, 3 | 1, 4 | 2, 2 | 2, 3 | 2, 4 | 3, 3 | 3, 4 | 4, 4 => intro h; exact absurd h (by decide)
  exact k i ⟨m, by omega⟩ h z e
def F_law_refusal (cls : Fin 5 → Addr) : Fs := fun args r => ∃ i : Fin 5, args = [.exc (cls i)] ∧ r = .ok (.str (nmR i))
theorem df_law_refusal {P : Program} {w : World} {K : Fg} {mg : Str → Option Value} {base : Heap} {cE : Addr} {cls : Fin 5 → Addr} (T : Tx K mg) (E5 : E5 K mg cE cls) (U : Dn K mg "_law_refusal" s_law_refusal P_law_refusal) : Df P w K mg base "_law_refusal" 1 (F_law_refusal cls) :=
  df_of 0 U sc_law_refusal (fun _ _ ⟨_, h, _⟩ => by rw [h]; rfl) fun f cdv A outer s H E args r hr tk hp hF => by
    obtain ⟨i, rfl, rfl⟩ := hF
    have nd := sc_law_refusal.nd
    refine XF.rt ?_
    refine xss_no0 (XT.is (xt_isN ((xv_var 0)).br) (rfl)) ?_
    refine xss_cons (xs_own 1 nd (xl_lst (xa_cons (xv_isX T.isinstance (E5.ei i) (E5.ei 0) (E5.sub i 0) (E5.ec 0).g ((xv_var 0)).br) (xa_cons (xv_isX T.isinstance (E5.ei i) (E5.ei 1) (E5.sub i 1) (E5.ec 1).g ((xv_var 0)).br) (xa_cons (xv_isX T.isinstance (E5.ei i) (E5.ei 2) (E5.sub i 2) (E5.ec 2).g ((xv_var 0)).br) xa_nil))))) ?_
    refine xss_cons (xs_own 1 nd (xl_cat (xb_own 1) ((xl_lst (xa_cons (xv_isX T.isinstance (E5.ei i) (E5.ei 3) (E5.sub i 3) (E5.ec 3).g ((xv_var 0)).br) (xa_cons (xv_isX T.isinstance (E5.ei i) (E5.ei 4) (E5.sub i 4) (E5.ec 4).g ((xv_var 0)).br) xa_nil)))).br (by simp))) ?_
    have hc := kindsR_count i
    have hfl : (kindsR i).all flatD = true := rfl
    refine xss_no0 (XT.is ((xw_or (xt_neI ((xv_count (xs := kindsR i) (xb_own 1) (xv_bl).br rfl hfl)).br (xv_int).br) (fun hk => (xw_and1 (xt_not (xt_val (xv_isVE T.isinstance E5.ve (E5.ei i) ((xv_var 0)).br))))))).t (by rw [hc]; rfl)) ?_
    have hix : ixD (.lst [.str "machine", .str "row", .str "prices", .str "model", .str "form"]) (i.val : Int) = some (.str (nmR i)) := match i with | 0 => rfl | 1 => rfl | 2 => rfl | 3 => rfl | 4 => rfl
    exact xss_ret (xv_ix ((xl_lst (xa_cons xv_str (xa_cons xv_str (xa_cons xv_str (xa_cons xv_str (xa_cons xv_str xa_nil))))))).br ((xv_index (xs := kindsR i) (xb_own 1) (xv_bl).br rfl hfl (kindsR_at i) rfl (kindsR_no i))).br (hix))

abbrev s_beside : Stmt := top 15
abbrev N_beside : List Str := ["one", "other", "many", "deeds", "first", "kind", "last", "cost", "place", "found"]
abbrev P_beside : List Str := ["one", "other"]
theorem sc_beside : FnScope N_beside P_beside (defScope s_beside) := ⟨rfl, rfl, rfl, by decide +kernel, rfl, by decide +kernel, by decide +kernel⟩

def besR (cM : Addr) (p k : Int) (ds : List Deed) (p' k' : Int) (ds' : List Deed) : Res := match besideM p k ds p' k' ds' with | some m => .ok (eMach m.1 m.2.1 m.2.2) | none => .er cM
def F_beside (cM : Addr) : Fs := fun args r => ∃ (p k : Int) (ds : List Deed) (p' k' : Int) (ds' : List Deed), args = [eMach p k ds, eMach p' k' ds'] ∧ bSmall p ds p' ds' ∧ r = besR cM p k ds p' k' ds'
theorem df_beside {P : Program} {w : World} {K : Fg} {mg : Str → Option Value} {base : Heap} {cM : Addr} (T : Tx K mg) (U : Dn K mg "beside" s_beside P_beside) (D_look_machine : Df P w K mg base "look_machine" 1 (F_look_machine cM)) : Df P w K mg base "beside" 2 (F_beside cM) :=
  df_of 1 U sc_beside (fun _ _ ⟨_, _, _, _, _, _, h, _⟩ => by rw [h]; rfl) fun f cdv A outer s H E args r hr tk hp hF => by
    obtain ⟨p, k, ds, p', k', ds', rfl, hsm, rfl⟩ := hF
    have nd := sc_beside.nd
    unfold besR besideM
    cases hg : goodM p k ds with
    | false => exact XF.er (xss_stop (xs_exprR (xr_call D_look_machine hr tk (xa_cons (xv_var 0) xa_nil) ⟨p, k, ds, rfl, by rw [hg]; rfl⟩))).er
    | true =>
    cases hg' : goodM p' k' ds' with
    | false => exact XF.er (xss_cons (xs_expr (xv_call D_look_machine (hr.mono (by decide)) tk (xa_cons (xv_var 0) xa_nil) (⟨p, k, ds, rfl, by rw [hg]; rfl⟩))) (xss_stop (xs_exprR (xr_call D_look_machine hr tk (xa_cons (xv_var 1) xa_nil) ⟨p', k', ds', rfl, by rw [hg']; rfl⟩))).er)
    | true =>
    obtain ⟨p1, k1, _, g⟩ := goodM_d hg
    obtain ⟨p2, k2, _, g'⟩ := goodM_d hg'
    unfold bSmall at hsm
    have hl1 := bR1_len p' ds
    have hl2 := bR2_len p k p' ds'
    have pre : ∀ {o : Ou}, XSs (cxOf (L2.CX P w) P w K mg base N_beside "beside" (defScope s_beside) f cdv A outer s H E) (fun cls d _ H => E cls d H) ((defBody s_beside).drop 6) [.fz (eMach p k ds), .fz (eMach p' k' ds'), .fz (.int p'), .ow ((bRaw p k ds p' ds').map eDeed), .no, .no, .no, .no, .no, .no] o →
        XSs (cxOf (L2.CX P w) P w K mg base N_beside "beside" (defScope s_beside) f cdv A outer s H E) (fun cls d _ H => E cls d H) (defBody s_beside) [.fz (eMach p k ds), .fz (eMach p' k' ds'), .no, .no, .no, .no, .no, .no, .no, .no] o := by
      intro o rest
      refine xss_cons (xs_expr (xv_call D_look_machine (hr.mono (by decide)) tk (xa_cons (xv_var 0) xa_nil) (⟨p, k, ds, rfl, by rw [hg]; rfl⟩))) ?_
      refine xss_cons (xs_expr (xv_call D_look_machine (hr.mono (by decide)) tk (xa_cons (xv_var 1) xa_nil) (⟨p', k', ds', rfl, by rw [hg']; rfl⟩))) ?_
      refine xss_cons (xs_set 2 nd (xv_ix ((xv_var 1)).br (xv_int).br (by rfl))) (xss_cons (xs_own 3 nd (xl_lst xa_nil)) ?_)
      refine xss_then (o1 := .nx [.fz (eMach p k ds), .fz (eMach p' k' ds'), .fz (.int p'), .ow ((ds.flatMap (bR1 p')).map eDeed), .no, .no, .no, .no, .no, .no]) (xs_for hp rfl (xi_list (xv_ix ((xv_var 0)).br (xv_int).br (by rfl))) ?_) (fun dd h => ?_) (by intro h; cases h)
      · suffices loop : ∀ (l acc : List Deed), (∀ d ∈ l, d ∈ ds) → acc.length + l.length * p'.toNat ≤ 10000 → Fr _ _ _ _ (l.map eDeed) [.fz (eMach p k ds), .fz (eMach p' k' ds'), .fz (.int p'), .ow (acc.map eDeed), .no, .no, .no, .no, .no, .no] (.nx [.fz (eMach p k ds), .fz (eMach p' k' ds'), .fz (.int p'), .ow ((acc ++ l.flatMap (bR1 p')).map eDeed), .no, .no, .no, .no, .no, .no]) by
          exact loop ds [] (fun d hd => hd) (by simp; omega)
        intro l
        induction l with
        | nil => intro acc _ _; rw [List.flatMap_nil, List.append_nil]; exact .nil
        | cons d l ih =>
          intro acc hm hz
          obtain ⟨⟨d1, d2⟩, ⟨d3, d4⟩, d5, d6⟩ := g d (hm d List.mem_cons_self)
          have hlen : (bR1 p' d).length = p'.toNat := by simp [bR1]
          rw [List.length_cons, Nat.add_mul, Nat.one_mul] at hz
          have q := ih (acc ++ bR1 p' d) (fun x hx => hm x (List.mem_cons_of_mem _ hx)) (by rw [List.length_append, hlen]; omega)
          rw [List.append_assoc, ← List.flatMap_cons, List.map_append] at q
          refine .step (xg_tup rfl (xgs_cons (xg_name 4 nd) (xgs_cons (xg_name 5 nd) (xgs_cons (xg_name 6 nd) (xgs_cons (xg_name 7 nd) xgs_nil))))) (xss_one (xs_extend 3 (xl_lc [("place", 8)] rfl nd (xi_range T.range (xv_var 2) (by omega) (by omega)) (blkOk_by (own := [("place", 8)]) (N := N_beside) (sc := defScope s_beside) (by decide +kernel)) ((lc_map (f := fun (q : Nat) => D.int q) (g := fun (q : Nat) => eDeed (bD1 p' d (q : Int))) (List.range p'.toNat) fun x hx => ⟨_, (fun _ _ _ _ _ => (xgw_name 8 nd)), (fun _ _ _ _ _ => (xv_tup (xa_cons (xv_add ((xv_mul ((xv_var 4)).br ((xv_var 2)).br (by first | exact Or.inl ⟨by omega, by omega⟩ | exact Or.inr ⟨by omega, by omega⟩))).br ((xv_var 8)).br) (xa_cons (xv_var 5) (xa_cons (xv_add ((xv_mul ((xv_var 6)).br ((xv_var 2)).br (by first | exact Or.inl ⟨by omega, by omega⟩ | exact Or.inr ⟨by omega, by omega⟩))).br ((xv_var 8)).br) (xa_cons (xv_var 7) xa_nil))))))⟩).is (zs := (bR1 p' d).map eDeed) (by unfold bR1; rw [List.map_map]; rfl)) (by rw [rngD_F, rngF_len]; omega)) (by rfl) (by rw [List.length_map, List.length_map, hlen]; omega))) rfl (Le.fg [4, 5, 6, 7] rfl) q
      cases h
      refine xss_then (o1 := .nx [.fz (eMach p k ds), .fz (eMach p' k' ds'), .fz (.int p'), .ow ((bRaw p k ds p' ds').map eDeed), .no, .no, .no, .no, .no, .no]) (xs_for hp rfl (xi_list (xv_ix ((xv_var 1)).br (xv_int).br (by rfl))) ?_) (fun dd h => by cases h; exact rest) (by intro h; cases h)
      suffices loop : ∀ (l acc : List Deed), (∀ d ∈ l, d ∈ ds') → acc.length + l.length * p.toNat ≤ 20000 → Fr _ _ _ _ (l.map eDeed) [.fz (eMach p k ds), .fz (eMach p' k' ds'), .fz (.int p'), .ow (acc.map eDeed), .no, .no, .no, .no, .no, .no] (.nx [.fz (eMach p k ds), .fz (eMach p' k' ds'), .fz (.int p'), .ow ((acc ++ l.flatMap (bR2 p k p')).map eDeed), .no, .no, .no, .no, .no, .no]) by
        have q := loop ds' (ds.flatMap (bR1 p')) (fun d hd => hd) (by omega)
        exact q
      intro l
      induction l with
      | nil => intro acc _ _; rw [List.flatMap_nil, List.append_nil]; exact .nil
      | cons d l ih =>
        intro acc hm hz
        obtain ⟨⟨d1, d2⟩, ⟨d3, d4⟩, d5, d6⟩ := g' d (hm d List.mem_cons_self)
        have hlen : (bR2 p k p' d).length = p.toNat := by simp [bR2]
        rw [List.length_cons, Nat.add_mul, Nat.one_mul] at hz
        have q := ih (acc ++ bR2 p k p' d) (fun x hx => hm x (List.mem_cons_of_mem _ hx)) (by rw [List.length_append, hlen]; omega)
        rw [List.append_assoc, ← List.flatMap_cons] at q
        refine .step (xg_tup rfl (xgs_cons (xg_name 4 nd) (xgs_cons (xg_name 5 nd) (xgs_cons (xg_name 6 nd) (xgs_cons (xg_name 7 nd) xgs_nil))))) (xss_one (xs_for hp rfl (xi_range T.range (xv_ix ((xv_var 0)).br (xv_int).br (by rfl)) (by omega) (by omega)) (o := .nx [.fz (eMach p k ds), .fz (eMach p' k' ds'), .fz (.int p'), .ow ((acc ++ bR2 p k p' d).map eDeed), .fz (.int d.1), .fz (.int d.2.1), .fz (.int d.2.2.1), .fz (.int d.2.2.2), .no, .no]) ?_)) rfl (Le.fg [4, 5, 6, 7, 8] rfl) q
        rw [rngD_F]
        suffices inner : ∀ (m i : Nat), i + m = p.toNat → Fr _ _ _ _ (rngF i m) [.fz (eMach p k ds), .fz (eMach p' k' ds'), .fz (.int p'), .ow ((acc ++ (List.range i).map fun (x : Nat) => bD2 k p' d (x : Int)).map eDeed), .fz (.int d.1), .fz (.int d.2.1), .fz (.int d.2.2.1), .fz (.int d.2.2.2), .no, .no] (.nx [.fz (eMach p k ds), .fz (eMach p' k' ds'), .fz (.int p'), .ow ((acc ++ bR2 p k p' d).map eDeed), .fz (.int d.1), .fz (.int d.2.1), .fz (.int d.2.2.1), .fz (.int d.2.2.2), .no, .no]) by
          have q := inner p.toNat 0 (by omega)
          rw [List.range_zero, List.map_nil, List.append_nil] at q
          exact q
        intro m
        induction m with
        | zero =>
          intro i hi
          have e : i = p.toNat := by omega
          subst e
          exact .nil
        | succ m ihm =>
          intro i hi
          have qi := ihm (i + 1) (by omega)
          have e : (acc ++ (List.range (i + 1)).map fun (x : Nat) => bD2 k p' d (x : Int)).map eDeed = (acc ++ (List.range i).map fun (x : Nat) => bD2 k p' d (x : Int)).map eDeed ++ [eDeed (bD2 k p' d (i : Int))] := by
            rw [List.range_succ, List.map_append, List.map_append, List.map_append, List.map_append, List.append_assoc]; rfl
          rw [e] at qi
          rw [rngF_succ]
          exact .step (xg_name 8 nd) (xss_one (xs_append 3 (xv_tup (xa_cons (xv_add ((xv_mul ((xv_var 8)).br ((xv_var 2)).br (by first | exact Or.inl ⟨by omega, by omega⟩ | exact Or.inr ⟨by omega, by omega⟩))).br ((xv_var 4)).br) (xa_cons (xv_add ((xv_ix ((xv_var 0)).br (xv_int).br (by rfl))).br ((xv_var 5)).br) (xa_cons (xv_add ((xv_mul ((xv_var 8)).br ((xv_var 2)).br (by first | exact Or.inl ⟨by omega, by omega⟩ | exact Or.inr ⟨by omega, by omega⟩))).br ((xv_var 6)).br) (xa_cons (xv_var 7) xa_nil))))) (by rfl) (by simp; omega))) rfl (Le.fg [8] rfl) qi
    have hbd := bRaw_bd hg hg'
    have hlen : (bRaw p k ds p' ds').length ≤ 10000 := by unfold bRaw; rw [List.length_append, hl1, hl2]; omega
    have m1 := mul_le (a := p) (b := p') (m := 200) (n := 200) (by omega) (by omega) (by omega) (by omega)
    have e1 : (bRaw p k ds p' ds').map eDeed = ((bRaw p k ds p' ds').map dl).map eT := by rw [List.map_map]; rfl
    have e2 : (bDs p k ds p' ds').map eDeed = ((bDs p k ds p' ds').map dl).map eT := by rw [List.map_map]; rfl
    have hs1 : ∀ x ∈ (bRaw p k ds p' ds').map dl, x.length = 4 ∧ TS.Bd 65536 x := fun x hx => by
      obtain ⟨d, hd, rfl⟩ := List.mem_map.mp hx
      exact ⟨rfl, hbd d hd⟩
    have hs2 : ((bDs p k ds p' ds').map dl).Pairwise fun a b => TS.code 65536 a ≤ TS.code 65536 b := by
      rw [List.pairwise_map]; exact isrt_rise _ hbd
    have hs3 : ((bDs p k ds p' ds').map dl).Perm ((bRaw p k ds p' ds').map dl) := (isrt_perm _).map _
    cases hf : goodM (p * p') (k + k') (bDs p k ds p' ds') with
    | false =>
      refine XF.er (pre (xss_cons (xs_set 9 nd (xv_tup (xa_cons (xv_mul ((xv_ix ((xv_var 0)).br (xv_int).br (by rfl))).br ((xv_var 2)).br (by first | exact Or.inl ⟨by omega, by omega⟩ | exact Or.inr ⟨by omega, by omega⟩)) (xa_cons (xv_add ((xv_ix ((xv_var 0)).br (xv_int).br (by rfl))).br ((xv_ix ((xv_var 1)).br (xv_int).br (by rfl))).br) (xa_cons ((XL.is (xl_sortA 4 65536 T.sorted (xb_own 3) (congrArg D.lst e1) (by decide) hs1 hs2 hs3) e2.symm).v) xa_nil))))) ?_))
      exact (xss_stop (xs_exprR (xr_call D_look_machine hr tk (xa_cons (xv_var 9) xa_nil) ⟨p * p', k + k', bDs p k ds p' ds', rfl, by rw [hf]; rfl⟩))).er
    | true =>
      refine XF.rt (pre (xss_cons (xs_set 9 nd (xv_tup (xa_cons (xv_mul ((xv_ix ((xv_var 0)).br (xv_int).br (by rfl))).br ((xv_var 2)).br (by first | exact Or.inl ⟨by omega, by omega⟩ | exact Or.inr ⟨by omega, by omega⟩)) (xa_cons (xv_add ((xv_ix ((xv_var 0)).br (xv_int).br (by rfl))).br ((xv_ix ((xv_var 1)).br (xv_int).br (by rfl))).br) (xa_cons ((XL.is (xl_sortA 4 65536 T.sorted (xb_own 3) (congrArg D.lst e1) (by decide) hs1 hs2 hs3) e2.symm).v) xa_nil))))) ?_))
      refine xss_cons (xs_expr (xv_call D_look_machine (hr.mono (by decide)) tk (xa_cons (xv_var 9) xa_nil) (⟨p * p', k + k', bDs p k ds p' ds', rfl, by rw [hf]; rfl⟩))) ?_
      exact xss_ret (xv_var 9)

abbrev s_law_told : Stmt := top 22
abbrev N_law_told : List Str := ["_law_one", "_law_other", "_law_kept", "_law_found", "e"]
abbrev P_law_told : List Str := ["_law_one", "_law_other"]
theorem sc_law_told : FnScope N_law_told P_law_told (defScope s_law_told) := ⟨rfl, rfl, rfl, by decide +kernel, rfl, by decide +kernel, by decide +kernel⟩

def F_law_told (cls : Fin 5 → Addr) : Fs := fun args r => ∃ (p k : Int) (ds : List Deed) (p' k' : Int) (ds' : List Deed), args = [eMach p k ds, eMach p' k' ds'] ∧ bSmall p ds p' ds' ∧
  r = match besideM p k ds p' k' ds' with | some m => .ok (eMach m.1 m.2.1 m.2.2) | none => .ok (.str "machine")
theorem df_law_told {P : Program} {w : World} {K : Fg} {mg : Str → Option Value} {base : Heap} {cE : Addr} {cls : Fin 5 → Addr} (T : Tx K mg) (E5 : E5 K mg cE cls) (U : Dn K mg "_law_told" s_law_told P_law_told) (D_beside : Df P w K mg base "beside" 2 (F_beside (cls 0)))
    (D__law_refusal : Df P w K mg base "_law_refusal" 1 (F_law_refusal cls)) : Df P w K mg base "_law_told" 3 (F_law_told cls) :=
  df_of 2 U sc_law_told (fun _ _ ⟨_, _, _, _, _, _, h, _⟩ => by rw [h]; rfl) fun f cdv A outer s H E args r hr tk hp hF => by
    obtain ⟨p, k, ds, p', k', ds', rfl, hb, rfl⟩ := hF
    have nd := sc_law_told.nd
    cases hm : besideM p k ds p' k' ds' with
    | none =>
      refine XF.rt (xss_cons (xs_set 2 nd xv_non) (xss_cons (xs_set 3 nd xv_non) (xss_cons (xs_try (C := cls 0) (i := 4) (k := 2) rfl rfl rfl nd rfl rfl rfl rfl (E5.ep.names rfl) (E5.ep.exm (E5.par 0)) (fun V pn xe tk hp => ?_)) ?_)))
      · exact xss_stop (xs_setR (i := 3) nd (xr_call D_beside (hr.mono (by decide)) tk (xa_cons (xv_var 0) (xa_cons (xv_var 1) xa_nil)) ⟨p, k, ds, p', k', ds', rfl, hb, by unfold besR; rw [hm]⟩))
      · exact xss_ret (xv_if (XT.is (xt_isN ((xv_var 2)).br) (rfl)) (fun h => by cases h) (fun _ => (xv_call D__law_refusal (hr.mono (by decide)) tk (xa_cons (xv_var 2) xa_nil) (⟨0, rfl, rfl⟩))))
    | some m =>
      refine XF.rt (xss_cons (xs_set 2 nd xv_non) (xss_cons (xs_set 3 nd xv_non) (xss_cons (xs_try0 (ds1 := [.fz (eMach p k ds), .fz (eMach p' k' ds'), .fz .non, .fz (eMach m.1 m.2.1 m.2.2), .no]) (i := 4) (k := 2) rfl rfl rfl nd rfl rfl rfl rfl (E5.ep.names rfl) (fun V pn xe tk hp => ?_)) ?_)))
      · exact xss_one (xs_set 3 nd (xv_call D_beside (hr.mono (by decide)) tk (xa_cons (xv_var 0) (xa_cons (xv_var 1) xa_nil)) (⟨p, k, ds, p', k', ds', rfl, hb, by unfold besR; rw [hm]⟩)))
      · exact xss_ret (xv_if (XT.is (xt_isN ((xv_var 2)).br) (rfl)) (fun _ => (xv_var 3)) (fun h => by cases h))

abbrev s_law_due : Stmt := top 23
abbrev N_law_due : List Str := ["_law_one", "_law_other", "_law_deeds", "_law_p", "_law_q", "_law_first", "_law_kind", "_law_last", "_law_cost"]
abbrev P_law_due : List Str := ["_law_one", "_law_other"]
theorem sc_law_due : FnScope N_law_due P_law_due (defScope s_law_due) := ⟨rfl, rfl, rfl, by decide +kernel, rfl, by decide +kernel, by decide +kernel⟩

def F_law_due : Fs := fun args r => ∃ (p k : Int) (ds : List Deed) (p' k' : Int) (ds' : List Deed), args = [eMach p k ds, eMach p' k' ds'] ∧ goodM p k ds = true ∧ goodM p' k' ds' = true ∧ (p ≤ 4 ∧ p' ≤ 4 ∧ ds.length ≤ 8 ∧ ds'.length ≤ 8) ∧ r = .ok (eMach (p * p') (k + k') (bDs p k ds p' ds'))
theorem dR1_len (many : Int) (ds : List Deed) (p q : Nat) : (dR1 many ds p q).length ≤ ds.length := by unfold dR1; rw [List.length_map]; exact List.length_filter_le _ _
theorem dR2_len (k many : Int) (ds : List Deed) (p q : Nat) : (dR2 k many ds p q).length ≤ ds.length := by unfold dR2; rw [List.length_map]; exact List.length_filter_le _ _
theorem range'_cons (i m : Nat) : List.range' i (m + 1) = i :: List.range' (i + 1) m := rfl
theorem df_law_due {P : Program} {w : World} {K : Fg} {mg : Str → Option Value} {base : Heap} (T : Tx K mg) (U : Dn K mg "_law_due" s_law_due P_law_due) : Df P w K mg base "_law_due" 1 F_law_due :=
  df_of 0 U sc_law_due (fun _ _ ⟨_, _, _, _, _, _, h, _⟩ => by rw [h]; rfl) fun f cdv A outer s H E args r hr tk hp hF => by
    obtain ⟨p, k, ds, p', k', ds', rfl, hg, hg', ⟨z1, z2, z3, z4⟩, rfl⟩ := hF
    have nd := sc_law_due.nd
    obtain ⟨p1, k1, _, g⟩ := goodM_d hg
    obtain ⟨p2, k2, _, g'⟩ := goodM_d hg'
    have hbd := bRaw_bd hg hg'
    refine XF.rt (xss_cons (xs_own 2 nd (xl_lst xa_nil)) ?_)
    refine xss_then (o1 := .nx [.fz (eMach p k ds), .fz (eMach p' k' ds'), .ow ((dRaw p k ds p' ds').map eDeed), .no, .no, .no, .no, .no, .no]) (xs_for hp rfl (xi_range T.range (xv_ix ((xv_var 0)).br (xv_int).br (by rfl)) (by omega) (by omega)) ?_) (fun dd h => ?_) (by intro h; cases h)
    · rw [rngD_F]
      suffices loop : ∀ (m i : Nat) (acc : List Deed), i + m = p.toNat → acc.length + 64 * m ≤ 1000 → Fr _ _ _ _ (rngF i m) [.fz (eMach p k ds), .fz (eMach p' k' ds'), .ow ((acc).map eDeed), .no, .no, .no, .no, .no, .no] (.nx [.fz (eMach p k ds), .fz (eMach p' k' ds'), .ow ((acc ++ (List.range' i m).flatMap fun (x : Nat) => dRow k ds p' ds' x).map eDeed), .no, .no, .no, .no, .no, .no]) by
        have q := loop p.toNat 0 [] (by omega) (by simp; omega)
        rw [List.nil_append, ← List.range_eq_range'] at q
        exact q
      intro m
      induction m with
      | zero => intro i acc _ _; rw [show List.range' i 0 = [] from rfl, List.flatMap_nil, List.append_nil]; exact .nil
      | succ m ih =>
        intro i acc hi hz
        have rowlen : (dRow k ds p' ds' i).length ≤ 64 := by
          unfold dRow
          have : ∀ xs : List Nat, (xs.flatMap fun (q : Nat) => dR1 p' ds i q ++ dR2 k p' ds' i q).length ≤ 16 * xs.length := by
            intro xs
            induction xs with
            | nil => simp
            | cons x xs ihx =>
              rw [List.flatMap_cons, List.length_append, List.length_append, List.length_cons]
              have := dR1_len p' ds i x
              have := dR2_len k p' ds' i x
              omega
          have := this (List.range p'.toNat)
          rw [List.length_range] at this
          omega
        have q := ih (i + 1) (acc ++ dRow k ds p' ds' i) (by omega) (by rw [List.length_append]; omega)
        rw [List.append_assoc, ← List.flatMap_cons, ← range'_cons] at q
        rw [rngF_succ]
        refine .step (xg_name 3 nd) (xss_one (xs_for hp rfl (xi_range T.range (xv_ix ((xv_var 1)).br (xv_int).br (by rfl)) (by omega) (by omega)) (o := .nx [.fz (eMach p k ds), .fz (eMach p' k' ds'), .ow ((acc ++ dRow k ds p' ds' i).map eDeed), .fz (.int (i : Int)), .no, .no, .no, .no, .no]) ?_)) rfl (Le.fg [3, 4, 5, 6, 7, 8] rfl) q
        rw [rngD_F]
        suffices mid : ∀ (n j : Nat) (acc : List Deed), j + n = p'.toNat → acc.length + 16 * n ≤ 1100 → Fr _ _ _ _ (rngF j n) [.fz (eMach p k ds), .fz (eMach p' k' ds'), .ow ((acc).map eDeed), .fz (.int (i : Int)), .no, .no, .no, .no, .no] (.nx [.fz (eMach p k ds), .fz (eMach p' k' ds'), .ow ((acc ++ (List.range' j n).flatMap fun (q : Nat) => dR1 p' ds i q ++ dR2 k p' ds' i q).map eDeed), .fz (.int (i : Int)), .no, .no, .no, .no, .no]) by
          have q := mid p'.toNat 0 acc (by omega) (by omega)
          rw [← List.range_eq_range'] at q
          exact q
        clear q ih
        intro n
        induction n with
        | zero => intro j acc _ _; rw [show List.range' j 0 = [] from rfl, List.flatMap_nil, List.append_nil]; exact .nil
        | succ n ihn =>
          intro j acc hj hzj
          have l1 := dR1_len p' ds i j
          have l2 := dR2_len k p' ds' i j
          have q := ihn (j + 1) (acc ++ dR1 p' ds i j ++ dR2 k p' ds' i j) (by omega) (by rw [List.length_append, List.length_append]; omega)
          rw [List.append_assoc (acc ++ dR1 p' ds i j) _ (List.flatMap _ _), List.append_assoc acc _ (_ ++ List.flatMap _ _), ← List.append_assoc (dR1 p' ds i j), ← List.flatMap_cons (f := fun (q : Nat) => dR1 p' ds i q ++ dR2 k p' ds' i q), ← range'_cons] at q
          rw [rngF_succ]
          refine .step (xg_name 4 nd) (xss_cons (xs_for hp rfl (xi_list (xv_ix ((xv_var 0)).br (xv_int).br (by rfl))) (o := .nx [.fz (eMach p k ds), .fz (eMach p' k' ds'), .ow ((acc ++ dR1 p' ds i j).map eDeed), .fz (.int (i : Int)), .fz (.int (j : Int)), .no, .no, .no, .no]) ?_) (xss_one (xs_for hp rfl (xi_list (xv_ix ((xv_var 1)).br (xv_int).br (by rfl))) (o := .nx [.fz (eMach p k ds), .fz (eMach p' k' ds'), .ow ((acc ++ dR1 p' ds i j ++ dR2 k p' ds' i j).map eDeed), .fz (.int (i : Int)), .fz (.int (j : Int)), .no, .no, .no, .no]) ?_))) rfl (Le.fg [4, 5, 6, 7, 8] rfl) q
          · suffices in1 : ∀ (l acc2 : List Deed), (∀ d ∈ l, d ∈ ds) → acc2.length + l.length ≤ 2000 → Fr _ _ _ _ (l.map eDeed) [.fz (eMach p k ds), .fz (eMach p' k' ds'), .ow ((acc2).map eDeed), .fz (.int (i : Int)), .fz (.int (j : Int)), .no, .no, .no, .no] (.nx [.fz (eMach p k ds), .fz (eMach p' k' ds'), .ow ((acc2 ++ (l.filter fun d => decide (d.1 = (i : Int))).map fun d => ((i : Int) * p' + (j : Int), d.2.1, d.2.2.1 * p' + (j : Int), d.2.2.2)).map eDeed), .fz (.int (i : Int)), .fz (.int (j : Int)), .no, .no, .no, .no]) by
              exact in1 ds _ (fun d hd => hd) (by omega)
            intro l
            induction l with
            | nil => intro acc2 _ _; simp only [List.filter_nil, List.map_nil, List.append_nil]; exact .nil
            | cons d l ihl =>
              intro acc2 hmem hz2
              obtain ⟨⟨d1, d2⟩, ⟨d3, d4⟩, d5, d6⟩ := g d (hmem d List.mem_cons_self)
              rw [List.length_cons] at hz2
              by_cases hd : d.1 = (i : Int)
              · have qq := ihl (acc2 ++ [((i : Int) * p' + (j : Int), d.2.1, d.2.2.1 * p' + (j : Int), d.2.2.2)]) (fun x hx => hmem x (List.mem_cons_of_mem _ hx)) (by rw [List.length_append, List.length_singleton]; omega)
                rw [List.map_append, List.append_assoc] at qq
                rw [List.filter_cons_of_pos (by simp [hd]), List.map_cons]
                exact .step (xg_tup rfl (xgs_cons (xg_name 5 nd) (xgs_cons (xg_name 6 nd) (xgs_cons (xg_name 7 nd) (xgs_cons (xg_name 8 nd) xgs_nil))))) (xss_yes (XT.is (xt_eqI ((xv_var 5)).br ((xv_var 3)).br) (decide_eq_true hd)) (xss_one (xs_append 2 (xv_tup (xa_cons (xv_add ((xv_mul ((xv_var 3)).br ((xv_ix ((xv_var 1)).br (xv_int).br (by rfl))).br (by first | exact Or.inl ⟨by omega, by omega⟩ | exact Or.inr ⟨by omega, by omega⟩))).br ((xv_var 4)).br) (xa_cons (xv_var 6) (xa_cons (xv_add ((xv_mul ((xv_var 7)).br ((xv_ix ((xv_var 1)).br (xv_int).br (by rfl))).br (by first | exact Or.inl ⟨by omega, by omega⟩ | exact Or.inr ⟨by omega, by omega⟩))).br ((xv_var 4)).br) (xa_cons (xv_var 8) xa_nil))))) (by rfl) (by rw [List.length_map]; omega))) xss_nil) rfl (Le.fg [5, 6, 7, 8] rfl) qq
              · have qq := ihl acc2 (fun x hx => hmem x (List.mem_cons_of_mem _ hx)) (by omega)
                rw [List.filter_cons_of_neg (by simp [hd])]
                exact .step (xg_tup rfl (xgs_cons (xg_name 5 nd) (xgs_cons (xg_name 6 nd) (xgs_cons (xg_name 7 nd) (xgs_cons (xg_name 8 nd) xgs_nil))))) (xss_no0 (XT.is (xt_eqI ((xv_var 5)).br ((xv_var 3)).br) (decide_eq_false hd)) xss_nil) rfl (Le.fg [5, 6, 7, 8] rfl) qq
          · suffices in2 : ∀ (l acc2 : List Deed), (∀ d ∈ l, d ∈ ds') → acc2.length + l.length ≤ 2000 → Fr _ _ _ _ (l.map eDeed) [.fz (eMach p k ds), .fz (eMach p' k' ds'), .ow ((acc2).map eDeed), .fz (.int (i : Int)), .fz (.int (j : Int)), .no, .no, .no, .no] (.nx [.fz (eMach p k ds), .fz (eMach p' k' ds'), .ow ((acc2 ++ (l.filter fun d => decide (d.1 = (j : Int))).map fun d => ((i : Int) * p' + (j : Int), k + d.2.1, (i : Int) * p' + d.2.2.1, d.2.2.2)).map eDeed), .fz (.int (i : Int)), .fz (.int (j : Int)), .no, .no, .no, .no]) by
              exact in2 ds' _ (fun d hd => hd) (by rw [List.length_append]; omega)
            intro l
            induction l with
            | nil => intro acc2 _ _; simp only [List.filter_nil, List.map_nil, List.append_nil]; exact .nil
            | cons d l ihl =>
              intro acc2 hmem hz2
              obtain ⟨⟨d1, d2⟩, ⟨d3, d4⟩, d5, d6⟩ := g' d (hmem d List.mem_cons_self)
              rw [List.length_cons] at hz2
              by_cases hd : d.1 = (j : Int)
              · have qq := ihl (acc2 ++ [((i : Int) * p' + (j : Int), k + d.2.1, (i : Int) * p' + d.2.2.1, d.2.2.2)]) (fun x hx => hmem x (List.mem_cons_of_mem _ hx)) (by rw [List.length_append, List.length_singleton]; omega)
                rw [List.map_append, List.append_assoc] at qq
                rw [List.filter_cons_of_pos (by simp [hd]), List.map_cons]
                exact .step (xg_tup rfl (xgs_cons (xg_name 5 nd) (xgs_cons (xg_name 6 nd) (xgs_cons (xg_name 7 nd) (xgs_cons (xg_name 8 nd) xgs_nil))))) (xss_yes (XT.is (xt_eqI ((xv_var 5)).br ((xv_var 4)).br) (decide_eq_true hd)) (xss_one (xs_append 2 (xv_tup (xa_cons (xv_add ((xv_mul ((xv_var 3)).br ((xv_ix ((xv_var 1)).br (xv_int).br (by rfl))).br (by first | exact Or.inl ⟨by omega, by omega⟩ | exact Or.inr ⟨by omega, by omega⟩))).br ((xv_var 4)).br) (xa_cons (xv_add ((xv_ix ((xv_var 0)).br (xv_int).br (by rfl))).br ((xv_var 6)).br) (xa_cons (xv_add ((xv_mul ((xv_var 3)).br ((xv_ix ((xv_var 1)).br (xv_int).br (by rfl))).br (by first | exact Or.inl ⟨by omega, by omega⟩ | exact Or.inr ⟨by omega, by omega⟩))).br ((xv_var 7)).br) (xa_cons (xv_var 8) xa_nil))))) (by rfl) (by rw [List.length_map]; omega))) xss_nil) rfl (Le.fg [5, 6, 7, 8] rfl) qq
              · have qq := ihl acc2 (fun x hx => hmem x (List.mem_cons_of_mem _ hx)) (by omega)
                rw [List.filter_cons_of_neg (by simp [hd])]
                exact .step (xg_tup rfl (xgs_cons (xg_name 5 nd) (xgs_cons (xg_name 6 nd) (xgs_cons (xg_name 7 nd) (xgs_cons (xg_name 8 nd) xgs_nil))))) (xss_no0 (XT.is (xt_eqI ((xv_var 5)).br ((xv_var 4)).br) (decide_eq_false hd)) xss_nil) rfl (Le.fg [5, 6, 7, 8] rfl) qq
    · cases h
      have e1 : (dRaw p k ds p' ds').map eDeed = ((dRaw p k ds p' ds').map dl).map eT := by rw [List.map_map]; rfl
      have e2 : (bDs p k ds p' ds').map eDeed = ((bDs p k ds p' ds').map dl).map eT := by rw [List.map_map]; rfl
      have hs1 : ∀ x ∈ (dRaw p k ds p' ds').map dl, x.length = 4 ∧ TS.Bd 65536 x := fun x hx => by
        obtain ⟨d, hd, rfl⟩ := List.mem_map.mp hx
        exact ⟨rfl, hbd d ((dRaw_perm hg hg').mem_iff.mp hd)⟩
      have hs2 : ((bDs p k ds p' ds').map dl).Pairwise fun a b => TS.code 65536 a ≤ TS.code 65536 b := by
        rw [List.pairwise_map]; exact isrt_rise _ hbd
      have hs3 : ((bDs p k ds p' ds').map dl).Perm ((dRaw p k ds p' ds').map dl) := ((isrt_perm _).trans (dRaw_perm hg hg').symm).map _
      have m1 := mul_le (a := p) (b := p') (m := 200) (n := 200) (by omega) (by omega) (by omega) (by omega)
      exact xss_ret (xv_tup (xa_cons (xv_mul ((xv_ix ((xv_var 0)).br (xv_int).br (by rfl))).br ((xv_ix ((xv_var 1)).br (xv_int).br (by rfl))).br (by first | exact Or.inl ⟨by omega, by omega⟩ | exact Or.inr ⟨by omega, by omega⟩)) (xa_cons (xv_add ((xv_ix ((xv_var 0)).br (xv_int).br (by rfl))).br ((xv_ix ((xv_var 1)).br (xv_int).br (by rfl))).br) (xa_cons ((XL.is (xl_sortA 4 65536 T.sorted (xb_own 2) (congrArg D.lst e1) (by decide) hs1 hs2 hs3) e2.symm).v) xa_nil))))

abbrev s_law : Stmt := top 24
abbrev N_law : List Str := ["_law_script", "_law_one", "_law_other", "_law_found", "_law_rows", "_law_places", "_law_left", "_law_row_here", "_law_turn", "_law_who", "_law_first", "_law_kind", "_law_last", "_law_cost", "_law_here", "_law_deed", "_law_many", "_law_kinds", "_law_due_here", "_law_told_here"]
abbrev P_law : List Str := ["_law_script"]
theorem sc_law : FnScope N_law P_law (defScope s_law) := ⟨rfl, rfl, rfl, by decide +kernel, rfl, by decide +kernel, by decide +kernel⟩

abbrev stW (ns : List Int) (one other found rows : D) (a b : Int) (l1 l2 acc : List Int) (t : Int) : List Lay.It :=
  [.fz (.scr ns), .fz one, .fz other, .fz found, .fz rows, .ow [.int a, .int b], .ll [l1.map .int, l2.map .int], .ow (acc.map .int), .fz (.int t), .no, .no, .no, .no, .no, .no, .no, .no, .no, .no, .no]
abbrev stX (ns : List Int) (one other found rows : D) (a b : Int) (l1 l2 acc : List D) (t w : Int) (d : Deed) (here : Int) (e : Deed) : List Lay.It :=
  [.fz (.scr ns), .fz one, .fz other, .fz found, .fz rows, .ow [.int a, .int b], .ll [l1, l2], .ow acc, .fz (.int t), .fz (.int w), .fz (.int d.1), .fz (.int d.2.1), .fz (.int d.2.2.1), .fz (.int d.2.2.2), .fz (.int here), .fz (eDeed e), .no, .no, .no, .no]
theorem ok_law {P : Program} {w : World} {K : Fg} {mg : Str → Option Value} {base : Heap} {f : Addr} {fd : FuncData} {cls : Fin 5 → Addr} (T : Tx K mg) (U : Fun K "law" "law" s_law f fd)
    (D__law_mix : Df P w K mg base "_law_mix" 2 F_law_mix) (D__law_machine : Df P w K mg base "_law_machine" 3 F_law_machine) (D__law_row : Df P w K mg base "_law_row" 3 F_law_row) (D__law_told : Df P w K mg base "_law_told" 3 (F_law_told cls)) (D__law_due : Df P w K mg base "_law_due" 1 F_law_due)
    (D_gone : Df P w K mg base "gone" 2 (F_gone (cls 0) (cls 1))) (D_cost_of : Df P w K mg base "cost_of" 3 (F_cost_of (cls 0) (cls 1))) : FnOk P w K mg base (L2.CX P w) 9 f fd P_law (spF K F_law) :=
  fnl_of 8 U sc_law (fun _ _ ⟨_, h, _⟩ => by rw [h]; rfl) fun cdv A outer s H E args r hr tk hp hF => by
    obtain ⟨ns, rfl, hlen, rfl⟩ := hF
    have nd := sc_law.nd
    have hu := hr.units
    have hu65 : (A.deeper (PyProof.Rows.envOfC (Str.ofString "law") (defScope s_law) s.heap.objs.size f cdv)).units + 65 < cLine := by have := hr.un; omega
    have p1 := mPl_bd (s := ns) (k := 0) (most := 4) (by decide)
    have p2 := mPl_bd (s := ns) (k := 30) (most := 4) (by decide)
    have k1 := mKn_bd ns 0
    have k2 := mKn_bd ns 30
    have l1 := mDs_len (s := ns) (k := 0) (most := 4) (by decide)
    have l2 := mDs_len (s := ns) (k := 30) (most := 4) (by decide)
    have g1 := mDs_good (s := ns) (k := 0) (most := 4) (by decide) (by decide)
    have g2 := mDs_good (s := ns) (k := 30) (most := 4) (by decide) (by decide)
    have n1 : (mDs ns 0 4).Nodup := (mDs_rise ns 0 4).imp fun h e => by subst e; omega
    have n2 : (mDs ns 30 4).Nodup := (mDs_rise ns 30 4).imp fun h e => by subst e; omega
    obtain ⟨q1, r1, z1⟩ := mRow_good ns 60 (mDs ns 0 4) 5 (by decide)
    obtain ⟨q2, r2, z2⟩ := mRow_good ns 70 (mDs ns 30 4) 5 (by decide)
    refine XF.rt ?_
    refine xss_cons (xs_set 1 nd (xv_call D__law_machine (hr.mono (by decide)) tk (xa_cons (xv_var 0) (xa_cons xv_int (xa_cons xv_int xa_nil))) (⟨_, _, _, rfl, by decide, by decide, rfl⟩))) ?_
    refine xss_cons (xs_set 2 nd (xv_call D__law_machine (hr.mono (by decide)) tk (xa_cons (xv_var 0) (xa_cons xv_int (xa_cons xv_int xa_nil))) (⟨_, _, _, rfl, by decide, by decide, rfl⟩))) ?_
    have m1 := mul_le (a := mPl ns 0 4) (b := mPl ns 30 4) (m := 4) (n := 4) (by omega) (by omega) (by omega) (by omega)
    have m3 : (mDs ns 0 4).length * (mPl ns 30 4).toNat ≤ 8 * 4 := Nat.mul_le_mul (by omega) (by omega)
    have m4 : (mDs ns 30 4).length * (mPl ns 0 4).toNat ≤ 8 * 4 := Nat.mul_le_mul (by omega) (by omega)
    have gJ := bDs_good g1 g2 n1 n2 (by omega) (by omega) (by omega)
    have hT : F_law_told cls [eMach (mPl ns 0 4) (mKn ns 0) (mDs ns 0 4), eMach (mPl ns 30 4) (mKn ns 30) (mDs ns 30 4)] (.ok (eMach (mPl ns 0 4 * mPl ns 30 4) (mKn ns 0 + mKn ns 30) (bDs (mPl ns 0 4) (mKn ns 0) (mDs ns 0 4) (mPl ns 30 4) (mDs ns 30 4)))) :=
      ⟨_, _, _, _, _, _, rfl, by unfold bSmall; omega, by unfold besideM; rw [g1, g2, gJ]; rfl⟩
    refine xss_cons (xs_set 3 nd (xv_call D__law_told (hr.mono (by decide)) tk (xa_cons (xv_var 1) (xa_cons (xv_var 2) xa_nil)) (hT))) ?_
    refine xss_no0 (XT.is (xt_ne hu ((xv_var 3)).br ((xv_call D__law_due (hr.mono (by decide)) tk (xa_cons (xv_var 1) (xa_cons (xv_var 2) xa_nil)) (⟨_, _, _, _, _, _, rfl, g1, g2, ⟨by omega, by omega, by omega, by omega⟩, rfl⟩))).br ((okN_mach _ _ _).e) ((okN_mach _ _ _).e)) (by rw [eqD_refl (okN_mach _ _ _).e]; rfl)) ?_
    refine xss_cons (xs_set 4 nd (xl_lst (xa_cons (xv_call D__law_row (hr.mono (by decide)) tk (xa_cons (xv_var 0) (xa_cons xv_int (xa_cons (xv_var 1) (xa_cons xv_int xa_nil)))) (⟨_, _, _, _, _, _, rfl, by decide, by decide, by omega, rfl⟩)) (xa_cons (xv_call D__law_row (hr.mono (by decide)) tk (xa_cons (xv_var 0) (xa_cons xv_int (xa_cons (xv_var 2) (xa_cons xv_int xa_nil)))) (⟨_, _, _, _, _, _, rfl, by decide, by decide, by omega, rfl⟩)) xa_nil))).v) ?_
    generalize mRow ns 60 (mDs ns 0 4) 5 = row1 at *
    generalize mRow ns 70 (mDs ns 30 4) 5 = row2 at *
    generalize mDs ns 0 4 = ds at *
    generalize mDs ns 30 4 = ds' at *
    generalize mPl ns 0 4 = p at *
    generalize mPl ns 30 4 = p' at *
    generalize mKn ns 0 = k at *
    generalize mKn ns 30 = k' at *
    refine xss_cons (xs_own 5 nd (xl_lst (xa_cons xv_int (xa_cons xv_int xa_nil)))) (xss_cons (xs_own2 6 nd (xl_list T.list ((xv_ix ((xv_var 4)).br (xv_int).br (by rfl))).br) (xl_list T.list ((xv_ix ((xv_var 4)).br (xv_int).br (by rfl))).br)) (xss_cons (xs_own 7 nd (xl_lst xa_nil)) (xss_cons (xs_set 8 nd xv_int) ?_)))
    refine xss_whileE (n := row1.length + row2.length) (Q := fun d1 => ∃ (a b : Int) (row : List Int) (t : Int) (l : List Int), d1 = stW ns (eMach p k ds) (eMach p' k' ds') (eMach (p * p') (k + k') (bDs p k ds p' ds')) (.lst [.lst (row1.map .int), .lst (row2.map .int)]) a b [] [] row t ∧ goneL (bDs p k ds p' ds') 0 row = some l ∧ (0 :: l).getLast? = some (a * p' + b) ∧ costL (bDs p k ds p' ds') row = costL ds row1 + costL ds' row2 ∧ row.length ≤ 10 ∧ (0 ≤ a ∧ a < p) ∧ (0 ≤ b ∧ b < p')) hp ?_ ?_
    · suffices loop : ∀ (n : Nat) (l1 l2 : List Int) (a b : Int) (acc : List Int) (t : Int) (w1 w2 : List Int), n = l1.length + l2.length → goneL ds a l1 = some w1 → goneL ds' b l2 = some w2 → (0 ≤ a ∧ a < p) → (0 ≤ b ∧ b < p') → acc.length + n ≤ 1000 → 0 ≤ t → t + n ≤ 1000 →
          ∃ d1, (∃ (a' b' : Int) (row : List Int) (t' : Int) (l : List Int), d1 = stW ns (eMach p k ds) (eMach p' k' ds') (eMach (p * p') (k + k') (bDs p k ds p' ds')) (.lst [.lst (row1.map .int), .lst (row2.map .int)]) a' b' [] [] (acc ++ row) t' ∧ goneL (bDs p k ds p' ds') (a * p' + b) row = some l ∧ ((a * p' + b) :: l).getLast? = some (a' * p' + b') ∧ costL (bDs p k ds p' ds') row = costL ds l1 + costL ds' l2 ∧ row.length = n ∧ (0 ≤ a' ∧ a' < p) ∧ (0 ≤ b' ∧ b' < p')) ∧
            Wh _ _ _ _ n (stW ns (eMach p k ds) (eMach p' k' ds') (eMach (p * p') (k + k') (bDs p k ds p' ds')) (.lst [.lst (row1.map .int), .lst (row2.map .int)]) a b l1 l2 acc t) (.nx d1) by
        obtain ⟨d1, ⟨a', b', row, t', l, e1, e2, e3, e4, e5, e6, e7⟩, hw⟩ := loop _ row1 row2 0 0 [] 80 q1 q2 rfl r1 r2 (by omega) (by omega) (by simp; omega) (by decide) (by omega)
        rw [show (0 : Int) * p' + 0 = 0 by omega] at e2 e3
        exact ⟨d1, ⟨a', b', row, t', l, e1, e2, e3, e4, by omega, e6, e7⟩, hw⟩
      intro n
      induction n with
      | zero =>
        intro l1 l2 a b acc t w1 w2 hn h1 h2 ha hb hz ht htz
        obtain rfl : l1 = [] := List.length_eq_zero_iff.mp (by omega)
        obtain rfl : l2 = [] := List.length_eq_zero_iff.mp (by omega)
        exact ⟨_, ⟨a, b, [], t, [], by rw [List.append_nil], rfl, rfl, rfl, rfl, ha, hb⟩, .stop (XT.is (xt_neLL (xss := [[], []]) 6 hu ((xl_lst (xa_cons ((xl_lst xa_nil)).v (xa_cons ((xl_lst xa_nil)).v xa_nil)))).br (by rfl) (by rfl)) rfl)⟩
      | succ n ih =>
        intro l1 l2 a b acc t w1 w2 hn h1 h2 ha hb hz ht htz
        have m5 := mul_le (a := a) (b := p') (m := 4) (n := 4) (by omega) (by omega) (by omega) (by omega)
        have okL : okN 2 (.lst ([l1.map D.int, l2.map D.int].map .lst)) := okN_lst (n := 1) fun x hx => by
          simp only [List.map_cons, List.map_nil, List.mem_cons, List.not_mem_nil, or_false] at hx
          rcases hx with rfl | rfl
          · exact okN_ints _
          · exact okN_ints _
        have okE0 : okE (.lst []) = true := rfl
        have eN : ∀ l : List Int, eqD (.lst (l.map .int)) (.lst []) = l.isEmpty := fun l => by cases l <;> rfl
        have hgo : ∀ (m : Int) (r : List Int), (l1 = m :: r ∨ l2 = m :: r) → (!eqD (.lst ([l1.map D.int, l2.map D.int].map .lst)) (.lst [.lst [], .lst []])) = true := fun m r h => by
          rcases h with rfl | rfl
          · rfl
          · cases l1 <;> rfl
        have hcase : ((∃ m r, l1 = m :: r) ∧ (mix ns t % 2 = 0 ∨ mix ns t % 2 = 1 ∧ l2 = [])) ∨ ((∃ m r, l2 = m :: r) ∧ (mix ns t % 2 = 1 ∨ mix ns t % 2 = 0 ∧ l1 = [])) := by
          have : mix ns t % 2 = 0 ∨ mix ns t % 2 = 1 := by omega
          cases l1 with
          | nil =>
            cases l2 with
            | nil => simp at hn
            | cons x y => rcases this with h | h <;> simp [h]
          | cons x y =>
            cases l2 with
            | nil => rcases this with h | h <;> simp [h]
            | cons x2 y2 => rcases this with h | h <;> simp [h]
        rcases hcase with ⟨⟨m, r, hl⟩, hc⟩ | ⟨⟨m, r, hl⟩, hc⟩
        · rw [hl] at h1
          obtain ⟨⟨m0, m1', m2⟩, w1', hg1, rfl⟩ := goneL_cons h1
          have hmem := dAt_mem (ds := ds) m0 m1'
          have hdd := ix_deed m0 m1'
          obtain ⟨_, _, _, gd⟩ := goodM_d g1
          obtain ⟨d1, d2, d3, d4⟩ := gd _ hmem
          generalize hd0 : dAt ds m = d at *
          have hin := bD1_in (p := p) (k := k) (k' := k') (many := p') (ds' := ds') hmem hb.1 hb.2
          obtain ⟨j, j1, j2, j3, j4⟩ := deed_at hin
          have hno : ∀ (m : Nat) (z' : D), m < j → ((bDs p k ds p' ds').map eDeed)[m]? = some z' → eqD z' (eDeed (bD1 p' d b)) = false := idx_no j4
          have m6 := mul_le (a := d.2.2.1) (b := p') (m := 4) (n := 4) (by omega) (by omega) (by omega) (by omega)
          obtain ⟨e0, ⟨a', b', row, t', l, e1, e2, e3, e4, e5, e6, e7⟩, hw⟩ := ih r l2 d.2.2.1 b (acc ++ [(j : Int)]) (t + 1) _ _ (by rw [hl] at hn; simp at hn; omega) hg1 h2 (by omega) hb (by simp; omega) (by omega) (by omega)
          refine ⟨e0, ⟨a', b', (j : Int) :: row, t', (d.2.2.1 * p' + b) :: l, by rw [e1, List.append_assoc]; rfl, ?_, ?_, ?_, by simp [e5], e6, e7⟩, ?_⟩
          · rw [goneL_some (step_at (by omega) (by omega) (by rw [j3]; show d.1 * p' + b = _; rw [m2])), j3]
            show Option.map _ (goneL _ (d.2.2.1 * p' + b) row) = _
            rw [e2]; rfl
          · rw [List.getLast?_cons_cons]; exact e3
          · rw [costL_cons, hl, costL_cons, j3, e4, ← hd0]
            show (dAt ds m).2.2.2 + (costL ds r + costL ds' l2) = (dAt ds m).2.2.2 + costL ds r + costL ds' l2
            omega
          · rw [stW, List.map_append] at hw
            refine .step (o' := .nx (stX ns (eMach p k ds) (eMach p' k' ds') (eMach (p * p') (k + k') (bDs p k ds p' ds')) (.lst [.lst (row1.map .int), .lst (row2.map .int)]) d.2.2.1 b (r.map D.int) (l2.map D.int) (acc.map D.int ++ [D.int (j : Int)]) (t + 1) 0 d (a * p' + b) (bD1 p' d b))) (XT.is (xt_neLL 6 hu ((xl_lst (xa_cons ((xl_lst xa_nil)).v (xa_cons ((xl_lst xa_nil)).v xa_nil)))).br okL.e (by rfl)) (hgo m r (.inl hl))) (xss_cons (xs_set 9 nd (xv_mod ((xv_call D__law_mix (hr.mono (by decide)) tk (xa_cons (xv_var 0) (xa_cons (xv_var 8) xa_nil)) (by exact ⟨_, _, rfl, rfl⟩))).br (xv_int).br (by first | omega | decide | (simp only [List.length_cons]; omega)))) (xss_cons (xs_set 8 nd (xv_add ((xv_var 8)).br (xv_int).br)) (xss_then (o1 := .nx ((stW ns (eMach p k ds) (eMach p' k' ds') (eMach (p * p') (k + k') (bDs p k ds p' ds')) (.lst [.lst (row1.map .int), .lst (row2.map .int)]) a b l1 l2 acc (t + 1)).set 9 (.fz (.int 0)))) ?_ (fun _ h => ?_) (by intro h; cases h)))) rfl (Le.fg [9, 10, 11, 12, 13, 14, 15] rfl) hw
            · rcases hc with hc | ⟨hc, he⟩
              · rw [hc]
                refine xs_if (XT.is (xt_eqLL 6 (j := 0) hu (xv_var 9) rfl rfl ((xl_lst xa_nil)).br (okN_ints _).e okE0) (show eqD (.lst (l1.map .int)) (.lst []) = false by rw [eN, hl]; rfl)) (fun h => by cases h) (fun _ => xss_nil)
              · rw [hc]
                refine xs_if (XT.is (xt_eqLL 6 (j := 1) hu (xv_var 9) rfl rfl ((xl_lst xa_nil)).br (okN_ints _).e okE0) (show eqD (.lst (l2.map .int)) (.lst []) = true by rw [eN, he]; rfl)) (fun _ => xss_one (XS.is (xs_set 9 nd (xv_sub (xv_int).br ((xv_var 9)).br)) rfl)) (fun h => by cases h)
            · cases h
              refine xss_cons (xs_asgPopIx 6 (j := 0) (y := m) (ys := r.map .int) (xss := [l1.map .int, l2.map .int]) (xv_ix ((xv_ix ((xl_lst (xa_cons (xv_var 1) (xa_cons (xv_var 2) xa_nil)))).br ((xv_var 9)).br (rfl))).br (xv_int).br (by rfl)) (xv_var 9) rfl (by rw [hl]; rfl) hdd (xg_tup rfl (xgs_cons (xg_name 10 nd) (xgs_cons (xg_name 11 nd) (xgs_cons (xg_name 12 nd) (xgs_cons (xg_name 13 nd) xgs_nil)))))) ?_
              refine xss_cons (xs_set 14 nd (xv_add ((xv_mul ((xv_ix (xb_own 5) (xv_int).br (rfl))).br ((xv_ix ((xv_var 2)).br (xv_int).br (by rfl))).br (by first | exact Or.inl ⟨by omega, by omega⟩ | exact Or.inr ⟨by omega, by omega⟩))).br ((xv_ix (xb_own 5) (xv_int).br (rfl))).br)) ?_
              refine xss_cons (xs_setix 5 (xv_var 12) (xv_var 9) rfl rfl) ?_
              refine xss_cons (xs_set 15 nd (XV.is (xv_tup (xa_cons (xv_var 14) (xa_cons (xv_add ((xv_var 11)).br ((xv_ix ((xl_lst (xa_cons xv_int (xa_cons (xv_ix ((xv_var 1)).br (xv_int).br (by rfl)) xa_nil)))).br ((xv_var 9)).br (rfl))).br) (xa_cons (xv_add ((xv_mul ((xv_ix (xb_own 5) (xv_int).br (rfl))).br ((xv_ix ((xv_var 2)).br (xv_int).br (by rfl))).br (by first | exact Or.inl ⟨by omega, by omega⟩ | exact Or.inr ⟨by omega, by omega⟩))).br ((xv_ix (xb_own 5) (xv_int).br (rfl))).br) (xa_cons (xv_var 13) xa_nil))))) (show D.tup [.int (a * p' + b), .int (d.2.1 + 0), .int (d.2.2.1 * p' + b), .int d.2.2.2] = eDeed (bD1 p' d b) by rw [Int.add_zero, ← m2]; rfl))) ?_
              exact xss_one (xs_append 7 (xv_indexD (j := j) (z := eDeed (bD1 p' d b)) (hu65) ((xv_ix ((xv_var 3)).br (xv_int).br (by rfl))).br ((xv_var 15)).br (okN_deeds _).e (okN_deed _).e (by rw [List.getElem?_map, j2]; rfl) (eqD_refl (okN_deed _).e) hno) (by rfl) (by rw [List.length_map]; omega))
        · rw [hl] at h2
          obtain ⟨⟨m0, m1', m2⟩, w1', hg1, rfl⟩ := goneL_cons h2
          have hmem := dAt_mem (ds := ds') m0 m1'
          have hdd := ix_deed m0 m1'
          obtain ⟨_, _, _, gd⟩ := goodM_d g2
          obtain ⟨d1, d2, d3, d4⟩ := gd _ hmem
          generalize hd0 : dAt ds' m = d at *
          have hin := bD2_in (p := p) (k := k) (k' := k') (many := p') (ds := ds) hmem ha.1 ha.2
          obtain ⟨j, j1, j2, j3, j4⟩ := deed_at hin
          have hno : ∀ (m : Nat) (z' : D), m < j → ((bDs p k ds p' ds').map eDeed)[m]? = some z' → eqD z' (eDeed (bD2 k p' d a)) = false := idx_no j4
          have m6 := mul_le (a := a) (b := p') (m := 4) (n := 4) (by omega) (by omega) (by omega) (by omega)
          obtain ⟨e0, ⟨a', b', row, t', l, e1, e2, e3, e4, e5, e6, e7⟩, hw⟩ := ih l1 r a d.2.2.1 (acc ++ [(j : Int)]) (t + 1) _ _ (by rw [hl] at hn; simp at hn; omega) h1 hg1 ha (by omega) (by simp; omega) (by omega) (by omega)
          refine ⟨e0, ⟨a', b', (j : Int) :: row, t', (a * p' + d.2.2.1) :: l, by rw [e1, List.append_assoc]; rfl, ?_, ?_, ?_, by simp [e5], e6, e7⟩, ?_⟩
          · rw [goneL_some (step_at (by omega) (by omega) (by rw [j3]; show a * p' + d.1 = _; rw [m2])), j3]
            show Option.map _ (goneL _ (a * p' + d.2.2.1) row) = _
            rw [e2]; rfl
          · rw [List.getLast?_cons_cons]; exact e3
          · rw [costL_cons, hl, costL_cons, j3, e4, ← hd0]
            show (dAt ds' m).2.2.2 + (costL ds l1 + costL ds' r) = costL ds l1 + ((dAt ds' m).2.2.2 + costL ds' r)
            omega
          · rw [stW, List.map_append] at hw
            refine .step (o' := .nx (stX ns (eMach p k ds) (eMach p' k' ds') (eMach (p * p') (k + k') (bDs p k ds p' ds')) (.lst [.lst (row1.map .int), .lst (row2.map .int)]) a d.2.2.1 (l1.map D.int) (r.map D.int) (acc.map D.int ++ [D.int (j : Int)]) (t + 1) 1 d (a * p' + b) (bD2 k p' d a))) (XT.is (xt_neLL 6 hu ((xl_lst (xa_cons ((xl_lst xa_nil)).v (xa_cons ((xl_lst xa_nil)).v xa_nil)))).br okL.e (by rfl)) (hgo m r (.inr hl))) (xss_cons (xs_set 9 nd (xv_mod ((xv_call D__law_mix (hr.mono (by decide)) tk (xa_cons (xv_var 0) (xa_cons (xv_var 8) xa_nil)) (by exact ⟨_, _, rfl, rfl⟩))).br (xv_int).br (by first | omega | decide | (simp only [List.length_cons]; omega)))) (xss_cons (xs_set 8 nd (xv_add ((xv_var 8)).br (xv_int).br)) (xss_then (o1 := .nx ((stW ns (eMach p k ds) (eMach p' k' ds') (eMach (p * p') (k + k') (bDs p k ds p' ds')) (.lst [.lst (row1.map .int), .lst (row2.map .int)]) a b l1 l2 acc (t + 1)).set 9 (.fz (.int 1)))) ?_ (fun _ h => ?_) (by intro h; cases h)))) rfl (Le.fg [9, 10, 11, 12, 13, 14, 15] rfl) hw
            · rcases hc with hc | ⟨hc, he⟩
              · rw [hc]
                refine xs_if (XT.is (xt_eqLL 6 (j := 1) hu (xv_var 9) rfl rfl ((xl_lst xa_nil)).br (okN_ints _).e okE0) (show eqD (.lst (l2.map .int)) (.lst []) = false by rw [eN, hl]; rfl)) (fun h => by cases h) (fun _ => xss_nil)
              · rw [hc]
                refine xs_if (XT.is (xt_eqLL 6 (j := 0) hu (xv_var 9) rfl rfl ((xl_lst xa_nil)).br (okN_ints _).e okE0) (show eqD (.lst (l1.map .int)) (.lst []) = true by rw [eN, he]; rfl)) (fun _ => xss_one (XS.is (xs_set 9 nd (xv_sub (xv_int).br ((xv_var 9)).br)) rfl)) (fun h => by cases h)
            · cases h
              refine xss_cons (xs_asgPopIx 6 (j := 1) (y := m) (ys := r.map .int) (xss := [l1.map .int, l2.map .int]) (xv_ix ((xv_ix ((xl_lst (xa_cons (xv_var 1) (xa_cons (xv_var 2) xa_nil)))).br ((xv_var 9)).br (rfl))).br (xv_int).br (by rfl)) (xv_var 9) rfl (by rw [hl]; rfl) hdd (xg_tup rfl (xgs_cons (xg_name 10 nd) (xgs_cons (xg_name 11 nd) (xgs_cons (xg_name 12 nd) (xgs_cons (xg_name 13 nd) xgs_nil)))))) ?_
              refine xss_cons (xs_set 14 nd (xv_add ((xv_mul ((xv_ix (xb_own 5) (xv_int).br (rfl))).br ((xv_ix ((xv_var 2)).br (xv_int).br (by rfl))).br (by first | exact Or.inl ⟨by omega, by omega⟩ | exact Or.inr ⟨by omega, by omega⟩))).br ((xv_ix (xb_own 5) (xv_int).br (rfl))).br)) ?_
              refine xss_cons (xs_setix 5 (xv_var 12) (xv_var 9) rfl rfl) ?_
              refine xss_cons (xs_set 15 nd (XV.is (xv_tup (xa_cons (xv_var 14) (xa_cons (xv_add ((xv_var 11)).br ((xv_ix ((xl_lst (xa_cons xv_int (xa_cons (xv_ix ((xv_var 1)).br (xv_int).br (by rfl)) xa_nil)))).br ((xv_var 9)).br (rfl))).br) (xa_cons (xv_add ((xv_mul ((xv_ix (xb_own 5) (xv_int).br (rfl))).br ((xv_ix ((xv_var 2)).br (xv_int).br (by rfl))).br (by first | exact Or.inl ⟨by omega, by omega⟩ | exact Or.inr ⟨by omega, by omega⟩))).br ((xv_ix (xb_own 5) (xv_int).br (rfl))).br) (xa_cons (xv_var 13) xa_nil))))) (show D.tup [.int (a * p' + b), .int (d.2.1 + k), .int (a * p' + d.2.2.1), .int d.2.2.2] = eDeed (bD2 k p' d a) by rw [Int.add_comm d.2.1 k, ← m2]; rfl))) ?_
              exact xss_one (xs_append 7 (xv_indexD (j := j) (z := eDeed (bD2 k p' d a)) (hu65) ((xv_ix ((xv_var 3)).br (xv_int).br (by rfl))).br ((xv_var 15)).br (okN_deeds _).e (okN_deed _).e (by rw [List.getElem?_map, j2]; rfl) (eqD_refl (okN_deed _).e) hno) (by rfl) (by rw [List.length_map]; omega))
    · rintro d1 ⟨a, b, row, t, l, rfl, e2, e3, e4, e5, e6, e7⟩
      have hG : F_gone (cls 0) (cls 1) [eMach (p * p') (k + k') (bDs p k ds p' ds'), .lst (row.map .int)] (.ok (.lst ((0 :: l).map .int))) := ⟨_, _, _, row, rfl, by omega, by unfold goneR; rw [gJ, if_pos rfl, e2]⟩
      have hC : F_cost_of (cls 0) (cls 1) [eMach (p * p') (k + k') (bDs p k ds p' ds'), .lst (row.map .int)] (.ok (.int (costL (bDs p k ds p' ds') row))) := ⟨_, _, _, row, rfl, by omega, by unfold costR; rw [gJ, if_pos rfl, e2]⟩
      have hC1 : F_cost_of (cls 0) (cls 1) [eMach p k ds, .lst (row1.map .int)] (.ok (.int (costL ds row1))) := ⟨_, _, _, row1, rfl, by omega, by unfold costR; rw [g1, if_pos rfl, r1]⟩
      have hC2 : F_cost_of (cls 0) (cls 1) [eMach p' k' ds', .lst (row2.map .int)] (.ok (.int (costL ds' row2))) := ⟨_, _, _, row2, rfl, by omega, by unfold costR; rw [g2, if_pos rfl, r2]⟩
      have m5 := mul_le (a := a) (b := p') (m := 4) (n := 4) (by omega) (by omega) (by omega) (by omega)
      have hix := ix_lastM (f := D.int) e3
      refine XSs.freeze 7 ?_
      refine xss_no0 (XT.is (xt_neI ((xv_ix ((xv_call D_gone (hr.mono (by decide)) tk (xa_cons (xv_var 3) (xa_cons (xv_var 7) xa_nil)) (hG))).br ((xv_neg (xv_int).br)).br (hix))).br ((xv_add ((xv_mul ((xv_ix (xb_own 5) (xv_int).br (rfl))).br ((xv_ix ((xv_var 2)).br (xv_int).br (by rfl))).br (by first | exact Or.inl ⟨by omega, by omega⟩ | exact Or.inr ⟨by omega, by omega⟩))).br ((xv_ix (xb_own 5) (xv_int).br (rfl))).br)).br) (by simp)) ?_
      refine xss_no0 (XT.is (xt_neI ((xv_call D_cost_of (hr.mono (by decide)) tk (xa_cons (xv_var 3) (xa_cons (xv_var 7) xa_nil)) (hC))).br ((xv_add ((xv_call D_cost_of (hr.mono (by decide)) tk (xa_cons (xv_var 1) (xa_cons (xv_ix ((xv_var 4)).br (xv_int).br (by rfl)) xa_nil)) (hC1))).br ((xv_call D_cost_of (hr.mono (by decide)) tk (xa_cons (xv_var 2) (xa_cons (xv_ix ((xv_var 4)).br (xv_int).br (by rfl)) xa_nil)) (hC2))).br)).br) (by simp [e4])) ?_
      have hmany : ∃ many : Int, (many = 10 ∨ many = 20 ∨ many = 14 ∨ many = 15) ∧ ixD (.lst [.int 10, .int 20, .int 14, .int 15]) (mix ns 59 % 4) = some (.int many) := by
        have : mix ns 59 % 4 = 0 ∨ mix ns 59 % 4 = 1 ∨ mix ns 59 % 4 = 2 ∨ mix ns 59 % 4 = 3 := by omega
        rcases this with h | h | h | h <;> rw [h]
        · exact ⟨10, by simp, rfl⟩
        · exact ⟨20, by simp, rfl⟩
        · exact ⟨14, by simp, rfl⟩
        · exact ⟨15, by simp, rfl⟩
      obtain ⟨many, hm, hmx⟩ := hmany
      refine xss_cons (xs_set 16 nd (xv_ix ((xl_lst (xa_cons xv_int (xa_cons xv_int (xa_cons xv_int (xa_cons xv_int xa_nil)))))).br ((xv_mod ((xv_call D__law_mix (hr.mono (by decide)) tk (xa_cons (xv_var 0) (xa_cons xv_int xa_nil)) (by exact ⟨_, _, rfl, rfl⟩))).br (xv_int).br (by first | omega | decide | (simp only [List.length_cons]; omega)))).br (hmx))) ?_
      refine xss_cons (xs_set 17 nd (xv_add (xv_int).br ((xv_mod ((xv_call D__law_mix (hr.mono (by decide)) tk (xa_cons (xv_var 0) (xa_cons xv_int xa_nil)) (by exact ⟨_, _, rfl, rfl⟩))).br (xv_int).br (by first | omega | decide | (simp only [List.length_cons]; omega)))).br)) ?_
      have hkk : 1 ≤ 1 + mix ns 58 % 8 ∧ 1 + mix ns 58 % 8 ≤ 8 := by omega
      generalize 1 + mix ns 58 % 8 = kk at *
      refine xss_cons (xs_set (d := eMach (many * 14) (kk + 4) []) 18 nd (xv_tup (xa_cons (xv_mul ((xv_var 16)).br (xv_int).br (by first | exact Or.inl ⟨by omega, by omega⟩ | exact Or.inr ⟨by omega, by omega⟩)) (xa_cons (xv_add ((xv_var 17)).br (xv_int).br) (xa_cons ((xl_lst xa_nil)).v xa_nil))))) ?_
      have gA : goodM many kk [] = true := by
        unfold goodM
        simp only [Bool.and_eq_true, decide_eq_true_eq]
        exact ⟨⟨⟨by omega, by omega⟩, by simp⟩, rfl⟩
      have bA : bDs many kk [] 14 [] = [] := rfl
      by_cases hok : many * 14 ≤ 200 ∧ kk ≤ 4
      · have gB : goodM (many * 14) (kk + 4) [] = true := by
          unfold goodM
          simp only [Bool.and_eq_true, decide_eq_true_eq]
          exact ⟨⟨⟨by omega, by omega⟩, by simp⟩, rfl⟩
        have hT2 : F_law_told cls [eMach many kk [], eMach 14 4 []] (.ok (eMach (many * 14) (kk + 4) [])) := ⟨_, _, _, _, _, _, rfl, by unfold bSmall; simp, by unfold besideM; rw [gA, bA, gB]; rfl⟩
        refine xss_cons (xs_set 19 nd (xv_call D__law_told (hr.mono (by decide)) tk (xa_cons (xv_tup (xa_cons (xv_var 16) (xa_cons (xv_var 17) (xa_cons ((xl_lst xa_nil)).v xa_nil)))) (xa_cons (xv_tup (xa_cons xv_int (xa_cons xv_int (xa_cons ((xl_lst xa_nil)).v xa_nil)))) xa_nil)) (hT2))) ?_
        exact xss_ret (XV.is (xv_eq hu ((xv_var 19)).br (xv_if (XT.is ((xw_or (xt_gt ((xv_mul ((xv_var 16)).br (xv_int).br (by first | exact Or.inl ⟨by omega, by omega⟩ | exact Or.inr ⟨by omega, by omega⟩))).br (xv_int).br) (fun hk => (xw_and1 (xt_gt ((xv_var 17)).br (xv_int).br))))).t ((by simp [cmpI]; omega : _ = false))) (fun h => by cases h) (fun _ => (xv_var 18))).br (okN_mach _ _ _).e (okN_mach _ _ _).e) (by rw [eqD_refl (okN_mach _ _ _).e]))
      · have gB : goodM (many * 14) (kk + 4) [] = false := by
          rw [Bool.eq_false_iff]
          intro z
          obtain ⟨z1, z2, _⟩ := goodM_d z
          omega
        have hT2 : F_law_told cls [eMach many kk [], eMach 14 4 []] (.ok (.str "machine")) := ⟨_, _, _, _, _, _, rfl, by unfold bSmall; simp, by unfold besideM; rw [gA, bA, gB]; rfl⟩
        have okS : okE (.str "machine") = true := by decide +kernel
        refine xss_cons (xs_set 19 nd (xv_call D__law_told (hr.mono (by decide)) tk (xa_cons (xv_tup (xa_cons (xv_var 16) (xa_cons (xv_var 17) (xa_cons ((xl_lst xa_nil)).v xa_nil)))) (xa_cons (xv_tup (xa_cons xv_int (xa_cons xv_int (xa_cons ((xl_lst xa_nil)).v xa_nil)))) xa_nil)) (hT2))) ?_
        exact xss_ret (XV.is (xv_eq hu ((xv_var 19)).br (xv_if (XT.is ((xw_or (xt_gt ((xv_mul ((xv_var 16)).br (xv_int).br (by first | exact Or.inl ⟨by omega, by omega⟩ | exact Or.inr ⟨by omega, by omega⟩))).br (xv_int).br) (fun hk => (xw_and1 (xt_gt ((xv_var 17)).br (xv_int).br))))).t ((by simp [cmpI]; omega : _ = true))) (fun _ => xv_str) (fun h => by cases h)).br okS okS) (by rw [eqD_refl okS]))

theorem all_mk {P : Program} {w : World} {K : Fg} {mg : Str → Option Value} {fa : Addr} {cE : Addr} {cls : Fin 5 → Addr} 
    (TX : Tx K mg ∧ mg "ValueError" = none)
    (c_MOST_PLACES : ∃ t, mg "MOST_PLACES" = some (.int 200 t))
    (c_MOST_DEEDS : ∃ t, mg "MOST_DEEDS" = some (.int 600 t))
    (c_MOST_KINDS : ∃ t, mg "MOST_KINDS" = some (.int 8 t))
    (c_MOST_COST : ∃ t, mg "MOST_COST" = some (.int 1000 t))
    (E5 : E5 K mg cE cls)
    (U_look_machine : Dn K mg "look_machine" s_look_machine P_look_machine)
    (U_gone : Dn K mg "gone" s_gone P_gone)
    (U_cost_of : Dn K mg "cost_of" s_cost_of P_cost_of)
    (U_beside : Dn K mg "beside" s_beside P_beside)
    (U__law_cell : Dn K mg "_law_cell" s_law_cell P_law_cell)
    (U__law_mix : Dn K mg "_law_mix" s_law_mix P_law_mix)
    (U__law_machine : Dn K mg "_law_machine" s_law_machine P_law_machine)
    (U__law_row : Dn K mg "_law_row" s_law_row P_law_row)
    (U__law_refusal : Dn K mg "_law_refusal" s_law_refusal P_law_refusal)
    (U__law_told : Dn K mg "_law_told" s_law_told P_law_told)
    (U__law_due : Dn K mg "_law_due" s_law_due P_law_due)
    (L : Dl K s_law fa) :
    ∃ fd : FuncData, (∀ (s : Shared) (v : Value), BindsTo s fd ⟨[v], []⟩ [("_law_script", v)]) ∧ ∀ base : Heap, K.In base → base.Ns mainGlobals mg → FnOk P w K mg base (L2.CX P w) 9 fa fd P_law (spF K F_law) := by
  obtain ⟨fd, UL, hb⟩ := L.ex
  obtain ⟨T, hVE⟩ := TX
  refine ⟨fd, hb, fun base _ _ => ?_⟩
  have D_look_machine := df_look_machine (P := P) (w := w) (base := base) T U_look_machine (E5.ec 0) c_MOST_PLACES c_MOST_DEEDS c_MOST_KINDS c_MOST_COST
  have D_gone := df_gone T U_gone (E5.ec 1) D_look_machine
  have D_cost_of := df_cost_of T U_cost_of D_gone
  have D__law_cell := df_law_cell (P := P) (w := w) (base := base) T U__law_cell
  have D__law_mix := df_law_mix T U__law_mix D__law_cell
  have D__law_machine := df_law_machine T U__law_machine D__law_mix
  have D__law_row := df_law_row T U__law_row D__law_mix
  have D__law_refusal := df_law_refusal (P := P) (w := w) (base := base) T E5 U__law_refusal
  have D_beside := df_beside T U_beside D_look_machine
  have D__law_told := df_law_told T E5 U__law_told D_beside D__law_refusal
  have D__law_due := df_law_due (P := P) (w := w) (base := base) T U__law_due
  exact ok_law T UL D__law_mix D__law_machine D__law_row D__law_told D__law_due D_gone D_cost_of

end Prog
open PySem PySem.W PyProof.Rows
theorem PySem.Challenge.cw_pursehall_k02_beside_holds : PySem.Challenge.rw_pursehall_k02_beside.Holds := by
  w_on; o_law; k_head; (case hw => w_witness2)
  k_fill
  refine Lay.walk_F (l := PySem.Challenge.rw_pursehall_k02_beside) 9 rfl rfl ⟨rfl, by decide, by decide⟩ (fun w h Y => PySem.W.kIn_of Y) ?F
  case F =>
    intro w mg fa h KX G hmg
    open Lay in
    refine' Prog.all_mk ?TX ?c_MOST_PLACES ?c_MOST_DEEDS ?c_MOST_KINDS ?c_MOST_COST ?E5 ?U_look_machine ?U_gone ?U_cost_of ?U_beside ?U__law_cell ?U__law_mix ?U__law_machine ?U__law_row ?U__law_refusal ?U__law_told ?U__law_due ?L
    open Lay in
    (case TX => refine' tx_mk KX G ?yz0 ?yz1 ?yz2 ?yz3 ?yz4 ?yz5 ?yz6 ?yz7 ?yz8 ?yz9 ?yz10 ?yz11 ?yz12 ?yz13 ?yz14; (case yz0 => k_is); (case yz1 => k_is); (case yz2 => k_is); (case yz3 => k_is); (case yz4 => k_is); (case yz5 => k_is); (case yz6 => k_is); (case yz7 => k_is); (case yz8 => k_is); (case yz9 => k_is); (case yz10 => k_is); (case yz11 => k_is); (case yz12 => k_is); (case yz13 => k_is); (case yz14 => k_is))
    open Lay in
    (case c_MOST_PLACES => refine' c_mk KX G ?ya; (case ya => k_is))
    open Lay in
    (case c_MOST_DEEDS => refine' c_mk KX G ?ya; (case ya => k_is))
    open Lay in
    (case c_MOST_KINDS => refine' c_mk KX G ?ya; (case ya => k_is))
    open Lay in
    (case c_MOST_COST => refine' c_mk KX G ?ya; (case ya => k_is))
    open Lay in
    (case E5 => refine' e5_mk ?yep ?yve ?yec0 ?yec1 ?yec2 ?yec3 ?yec4 ?yei0 ?yei1 ?yei2 ?yei3 ?yei4 ?ys01 ?ys02 ?ys03 ?ys04 ?ys10 ?ys12 ?ys13 ?ys14 ?ys20 ?ys21 ?ys23 ?ys24 ?ys30 ?ys31 ?ys32 ?ys34 ?ys40 ?ys41 ?ys42 ?ys43 ?yp0 ?yp1 ?yp2 ?yp3 ?yp4; (case yep => refine' ep_mk KX G ?ya ?yhd ?yb ?yt; (case ya => k_is); (case yhd => k_is); (case yb => k_is); (case yt => k_is)); (case yve => refine' PySem.W.mg_none_of KX G ?ya; (case ya => k_is)); (case yec0 => refine' ec_mk KX G ?ya ?yq ?ykp ?yb ?yt; (case ya => k_is); (case yq => k_exc); (case ykp => k_is); (case yb => k_is); (case yt => k_is)); (case yec1 => refine' ec_mk KX G ?ya ?yq ?ykp ?yb ?yt; (case ya => k_is); (case yq => k_exc); (case ykp => k_is); (case yb => k_is); (case yt => k_is)); (case yec2 => refine' ec_mk KX G ?ya ?yq ?ykp ?yb ?yt; (case ya => k_is); (case yq => k_exc); (case ykp => k_is); (case yb => k_is); (case yt => k_is)); (case yec3 => refine' ec_mk KX G ?ya ?yq ?ykp ?yb ?yt; (case ya => k_is); (case yq => k_exc); (case ykp => k_is); (case yb => k_is); (case yt => k_is)); (case yec4 => refine' ec_mk KX G ?ya ?yq ?ykp ?yb ?yt; (case ya => k_is); (case yq => k_exc); (case ykp => k_is); (case yb => k_is); (case yt => k_is)); (case yei0 => refine' ei_mk ?yt ?yi ?ys ?yv ?yhg ?yhk ?yhs ?yhd ?yha ?yhn ?yht ?yhm; (case yt => first | k_is | rfl); (case yi => first | k_is | rfl); (case ys => first | k_is | rfl); (case yv => first | k_is | rfl); (case yhg => first | k_is | rfl); (case yhk => first | k_is | rfl); (case yhs => first | k_is | rfl); (case yhd => first | k_is | rfl); (case yha => first | k_is | rfl); (case yhn => first | k_is | rfl); (case yht => first | k_is | rfl); (case yhm => first | k_is | rfl)); (case yei1 => refine' ei_mk ?yt ?yi ?ys ?yv ?yhg ?yhk ?yhs ?yhd ?yha ?yhn ?yht ?yhm; (case yt => first | k_is | rfl); (case yi => first | k_is | rfl); (case ys => first | k_is | rfl); (case yv => first | k_is | rfl); (case yhg => first | k_is | rfl); (case yhk => first | k_is | rfl); (case yhs => first | k_is | rfl); (case yhd => first | k_is | rfl); (case yha => first | k_is | rfl); (case yhn => first | k_is | rfl); (case yht => first | k_is | rfl); (case yhm => first | k_is | rfl)); (case yei2 => refine' ei_mk ?yt ?yi ?ys ?yv ?yhg ?yhk ?yhs ?yhd ?yha ?yhn ?yht ?yhm; (case yt => first | k_is | rfl); (case yi => first | k_is | rfl); (case ys => first | k_is | rfl); (case yv => first | k_is | rfl); (case yhg => first | k_is | rfl); (case yhk => first | k_is | rfl); (case yhs => first | k_is | rfl); (case yhd => first | k_is | rfl); (case yha => first | k_is | rfl); (case yhn => first | k_is | rfl); (case yht => first | k_is | rfl); (case yhm => first | k_is | rfl)); (case yei3 => refine' ei_mk ?yt ?yi ?ys ?yv ?yhg ?yhk ?yhs ?yhd ?yha ?yhn ?yht ?yhm; (case yt => first | k_is | rfl); (case yi => first | k_is | rfl); (case ys => first | k_is | rfl); (case yv => first | k_is | rfl); (case yhg => first | k_is | rfl); (case yhk => first | k_is | rfl); (case yhs => first | k_is | rfl); (case yhd => first | k_is | rfl); (case yha => first | k_is | rfl); (case yhn => first | k_is | rfl); (case yht => first | k_is | rfl); (case yhm => first | k_is | rfl)); (case yei4 => refine' ei_mk ?yt ?yi ?ys ?yv ?yhg ?yhk ?yhs ?yhd ?yha ?yhn ?yht ?yhm; (case yt => first | k_is | rfl); (case yi => first | k_is | rfl); (case ys => first | k_is | rfl); (case yv => first | k_is | rfl); (case yhg => first | k_is | rfl); (case yhk => first | k_is | rfl); (case yhs => first | k_is | rfl); (case yhd => first | k_is | rfl); (case yha => first | k_is | rfl); (case yhn => first | k_is | rfl); (case yht => first | k_is | rfl); (case yhm => first | k_is | rfl)); (case ys01 => first | k_is | rfl); (case ys02 => first | k_is | rfl); (case ys03 => first | k_is | rfl); (case ys04 => first | k_is | rfl); (case ys10 => first | k_is | rfl); (case ys12 => first | k_is | rfl); (case ys13 => first | k_is | rfl); (case ys14 => first | k_is | rfl); (case ys20 => first | k_is | rfl); (case ys21 => first | k_is | rfl); (case ys23 => first | k_is | rfl); (case ys24 => first | k_is | rfl); (case ys30 => first | k_is | rfl); (case ys31 => first | k_is | rfl); (case ys32 => first | k_is | rfl); (case ys34 => first | k_is | rfl); (case ys40 => first | k_is | rfl); (case ys41 => first | k_is | rfl); (case ys42 => first | k_is | rfl); (case ys43 => first | k_is | rfl); (case yp0 => first | k_is | rfl); (case yp1 => first | k_is | rfl); (case yp2 => first | k_is | rfl); (case yp3 => first | k_is | rfl); (case yp4 => first | k_is | rfl))
    open Lay in
    (case U_look_machine => refine' dn_mk KX G ?ya ?yl ?yc ?yk (fun _ _ _ _ _ _ us hl => match us, hl with | [_], _ => rfl); (case ya => k_is); (case yl => k_is); (case yc => k_is); (case yk => k_is))
    open Lay in
    (case U_gone => refine' dn_mk KX G ?ya ?yl ?yc ?yk (fun _ _ _ _ _ _ us hl => match us, hl with | [_, _], _ => rfl); (case ya => k_is); (case yl => k_is); (case yc => k_is); (case yk => k_is))
    open Lay in
    (case U_cost_of => refine' dn_mk KX G ?ya ?yl ?yc ?yk (fun _ _ _ _ _ _ us hl => match us, hl with | [_, _], _ => rfl); (case ya => k_is); (case yl => k_is); (case yc => k_is); (case yk => k_is))
    open Lay in
    (case U_beside => refine' dn_mk KX G ?ya ?yl ?yc ?yk (fun _ _ _ _ _ _ us hl => match us, hl with | [_, _], _ => rfl); (case ya => k_is); (case yl => k_is); (case yc => k_is); (case yk => k_is))
    open Lay in
    (case U__law_cell => refine' dn_mk KX G ?ya ?yl ?yc ?yk (fun _ _ _ _ _ _ us hl => match us, hl with | [_, _], _ => rfl); (case ya => k_is); (case yl => k_is); (case yc => k_is); (case yk => k_is))
    open Lay in
    (case U__law_mix => refine' dn_mk KX G ?ya ?yl ?yc ?yk (fun _ _ _ _ _ _ us hl => match us, hl with | [_, _], _ => rfl); (case ya => k_is); (case yl => k_is); (case yc => k_is); (case yk => k_is))
    open Lay in
    (case U__law_machine => refine' dn_mk KX G ?ya ?yl ?yc ?yk (fun _ _ _ _ _ _ us hl => match us, hl with | [_, _, _], _ => rfl); (case ya => k_is); (case yl => k_is); (case yc => k_is); (case yk => k_is))
    open Lay in
    (case U__law_row => refine' dn_mk KX G ?ya ?yl ?yc ?yk (fun _ _ _ _ _ _ us hl => match us, hl with | [_, _, _, _], _ => rfl); (case ya => k_is); (case yl => k_is); (case yc => k_is); (case yk => k_is))
    open Lay in
    (case U__law_refusal => refine' dn_mk KX G ?ya ?yl ?yc ?yk (fun _ _ _ _ _ _ us hl => match us, hl with | [_], _ => rfl); (case ya => k_is); (case yl => k_is); (case yc => k_is); (case yk => k_is))
    open Lay in
    (case U__law_told => refine' dn_mk KX G ?ya ?yl ?yc ?yk (fun _ _ _ _ _ _ us hl => match us, hl with | [_, _], _ => rfl); (case ya => k_is); (case yl => k_is); (case yc => k_is); (case yk => k_is))
    open Lay in
    (case U__law_due => refine' dn_mk KX G ?ya ?yl ?yc ?yk (fun _ _ _ _ _ _ us hl => match us, hl with | [_, _], _ => rfl); (case ya => k_is); (case yl => k_is); (case yc => k_is); (case yk => k_is))
    open Lay in
    (case L => refine' dl_mk KX G hmg ?ya ?yl ?yc ?yk (fun _ _ _ _ _ _ _ => rfl); (case ya => k_is); (case yl => k_is); (case yc => k_is); (case yk => k_is))
