import PyProof.Rows.All
import Wide.All
import OpenK.AllK
import Wide.FinOn
import HandS.ForMost
import HandS.Zip
import HandS.Conv
import HandS.TupMul
import HandS.TupAny
import HandS.Strs
import HandS.Lambda
import HandS.EndTab
import HandS.IsInst
import KE.SortData
import KE.KTupSum
import PySem.Challenge.RW_faultdue_k29_least_faults
import KE.GoesNew
import KE.GoesMore
import HandS.SetFor
import HandS.Nested
import KE.SortKeyHeap
import PyProof.ReprRoads
set_option Elab.async false
set_option linter.all false
set_option maxRecDepth 100000
set_option maxHeartbeats 4000000
/-! The data layer: states of slots that hold known data, what expressions give, what statements end in. -/
namespace Fd
open PySem PySem.Spec PyProof.Rows L2
/-! ### data in a heap -/
mutual
theorem dp_ext {K : PySem.W.Frag} {H H' : Hp} (e : Same H H') : ∀ (d : PyData) (v : V), Dp K H v d → Dp K H' v d
  | .none, _, h => by cases h; exact .non
  | .bool b, _, h => by cases h; exact .bl b
  | .int i, _, h => by cases h; exact .int i
  | .str x, _, h => by cases h; exact .str x
  | .list ds, _, h => by
    cases h with
    | lst hs ha => exact .lst (e.seq hs) (dpa_ext e ds _ ha)
  | .tuple ds, _, h => by
    cases h with
    | tup hs ha =>
      refine .tup ?_ (dpa_ext e ds _ ha)
      rcases hs with (h | ⟨o, h⟩) | h
      · exact .inl (.inl (e _ _ h))
      · exact .inl (.inr ⟨o, e _ _ h⟩)
      · exact .inr h
  | .dict _, _, h => by cases h
theorem dpa_ext {K : PySem.W.Frag} {H H' : Hp} (e : Same H H') : ∀ (ds : List PyData) (vs : List V), DpAll K H vs ds → DpAll K H' vs ds
  | [], _, h => by cases h; exact .nil
  | d :: ds, _, h => by
    cases h with
    | cons h1 h2 => exact .cons (dp_ext e d _ h1) (dpa_ext e ds _ h2)
end
theorem sqT_ext {K : PySem.W.Frag} {H H' : Hp} {a : Addr} {xs : List V} (e : Same H H') (hs : SqT K H a xs) : SqT K H' a xs := by
  rcases hs with (h | ⟨o, h⟩) | h
  · exact .inl (.inl (e _ _ h))
  · exact .inl (.inr ⟨o, e _ _ h⟩)
  · exact .inr h
section
variable {K : PySem.W.Frag} {H : Hp}
theorem dpa_len : ∀ {vs : List V} {ds : List PyData}, DpAll K H vs ds → vs.length = ds.length
  | _, _, .nil => rfl
  | _, _, .cons _ t => congrArg (· + 1) (dpa_len t)
theorem dpa_get : ∀ {vs : List V} {ds : List PyData} {i : Nat} {d : PyData}, DpAll K H vs ds → ds[i]? = some d → ∃ v, vs[i]? = some v ∧ Dp K H v d
  | _, _, i, _, .nil, e => by simp at e
  | _, _, 0, _, .cons r _, e => by
    have e' := Option.some.inj e
    subst e'
    exact ⟨_, rfl, r⟩
  | _, _, i + 1, _, .cons _ t, e => dpa_get (i := i) t e
theorem dpa_getV : ∀ {vs : List V} {ds : List PyData} {i : Nat} {v : V}, DpAll K H vs ds → vs[i]? = some v → ∃ d, ds[i]? = some d ∧ Dp K H v d
  | _, _, i, _, .nil, e => by simp at e
  | _, _, 0, _, .cons r _, e => by
    have e' := Option.some.inj e
    subst e'
    exact ⟨_, rfl, r⟩
  | _, _, i + 1, _, .cons _ t, e => dpa_getV (i := i) t e
theorem dpa_app : ∀ {vs ws : List V} {ds es : List PyData}, DpAll K H vs ds → DpAll K H ws es → DpAll K H (vs ++ ws) (ds ++ es)
  | _, _, _, _, .nil, h => h
  | _, _, _, _, .cons r t, h => .cons r (dpa_app t h)
theorem dpa_set : ∀ {vs : List V} {ds : List PyData} {v : V} {d : PyData} (i : Nat), DpAll K H vs ds → Dp K H v d → DpAll K H (vs.set i v) (ds.set i d)
  | _, _, _, _, _, .nil, _ => .nil
  | _, _, _, _, 0, .cons _ t, h => .cons h t
  | _, _, _, _, i + 1, .cons r t, h => .cons r (dpa_set i t h)
theorem dpa_take : ∀ {vs : List V} {ds : List PyData} (n : Nat), DpAll K H vs ds → DpAll K H (vs.take n) (ds.take n)
  | _, _, 0, _ => .nil
  | _, _, _ + 1, .nil => .nil
  | _, _, n + 1, .cons r t => .cons r (dpa_take n t)
theorem dpa_drop : ∀ {vs : List V} {ds : List PyData} (n : Nat), DpAll K H vs ds → DpAll K H (vs.drop n) (ds.drop n)
  | _, _, 0, h => h
  | _, _, _ + 1, .nil => .nil
  | _, _, n + 1, .cons _ t => dpa_drop n t
theorem dpa_rep {v : V} {d : PyData} (h : Dp K H v d) : ∀ n : Nat, DpAll K H (List.replicate n v) (List.replicate n d)
  | 0 => .nil
  | n + 1 => .cons h (dpa_rep h n)
theorem dp_int {v : V} {i : Int} (h : Dp K H v (.int i)) : v = .int i := by cases h; rfl
theorem dp_str {v : V} {x : Str} (h : Dp K H v (.str x)) : v = .str x := by cases h; rfl
theorem dp_bool {v : V} {b : Bool} (h : Dp K H v (.bool b)) : v = .bl b := by cases h; rfl
theorem dp_none {v : V} (h : Dp K H v .none) : v = .non := by cases h; rfl
theorem dp_tup {v : V} {ds : List PyData} (h : Dp K H v (.tuple ds)) : ∃ a xs, v = .ref a ∧ SqT K H a xs ∧ DpAll K H xs ds := by
  cases h with
  | tup hs ha => exact ⟨_, _, rfl, hs, ha⟩
theorem dp_list {v : V} {ds : List PyData} (h : Dp K H v (.list ds)) : ∃ a xs, v = .ref a ∧ SqL K H a xs ∧ DpAll K H xs ds := by
  cases h with
  | lst hs ha => exact ⟨_, _, rfl, hs, ha⟩
theorem dpa_ints : ∀ {ns : List Int} {vs : List V}, DpAll K H vs (ns.map .int) → vs = ns.map V.int
  | [], _, h => by cases h; rfl
  | n :: ns, _, h => by
    cases h with
    | cons r t =>
      rw [dp_int r, dpa_ints t]
      rfl
theorem dpa_of_ints : ∀ ns : List Int, DpAll K H (ns.map V.int) (ns.map .int)
  | [] => .nil
  | n :: ns => .cons (.int n) (dpa_of_ints ns)
end
theorem same_upd {H : Hp} {p : Addr} {o : HO} (h : H p = none) : Same H (upd H p o) := fun b x e => by
  rw [upd_ne (ne_of_none e h)]
  exact e
theorem none_of_upd {H : Hp} {p q : Addr} {o : HO} (h : upd H p o q = none) : H q = none := by
  by_cases e : q = p
  · rw [e, upd_same] at h; cases h
  · rw [upd_ne e] at h; exact h
/-! ### what else is kept (the tables of code objects) -/
structure JJ where
  J : Hp → Prop
  ext : ∀ H H', J H → Same H H' → J H'
  wr : ∀ H p xs ys, J H → H p = some (.lst xs) → J (upd H p (.lst ys))
/-! ### slots -/
inductive SV where
  | un
  | kn (d : PyData)
  | ow (p : Addr) (ds : List PyData)
abbrev DS := List SV
/-- lists that others own -/
abbrev FT := Addr → Option (List V)
structure Hd (J : JJ) (F : FT) (B H : Hp) : Prop where
  ex : Same B H
  j : J.J H
  fr : ∀ b xs, F b = some xs → B b = none ∧ H b = some (.lst xs)
  nb : ∀ b ps, B b ≠ some (.tbl ps)
structure Sd (K : PySem.W.Frag) (J : JJ) (F : FT) (B H : Hp) (σ : L2.St) (δ : DS) : Prop where
  hd : Hd J F B H
  len : σ.length = δ.length
  kn : ∀ (i : Nat) (d : PyData), δ[i]? = some (.kn d) → ∃ v, σ[i]? = some (some v) ∧ Dp K B v d
  ow : ∀ (i : Nat) (p : Addr) (ds : List PyData), δ[i]? = some (.ow p ds) → σ[i]? = some (some (.ref p)) ∧ B p = none ∧ F p = none ∧ ∃ xs, H p = some (.lst xs) ∧ DpAll K B xs ds
  ne : ∀ (i j : Nat) (p q : Addr) (ds es : List PyData), i ≠ j → δ[i]? = some (.ow p ds) → δ[j]? = some (.ow q es) → p ≠ q
section
variable {K : PySem.W.Frag} {J : JJ} {F : FT} {B B' H H' : Hp} {σ : L2.St} {δ : DS}
theorem Hd.free (h : Hd J F B H) {p : Addr} (n : H p = none) : B p = none := h.ex.free n
theorem Hd.freeF (h : Hd J F B H) {p : Addr} (n : H p = none) : F p = none := by
  cases q : F p with
  | none => rfl
  | some xs =>
    rw [(h.fr p xs q).2] at n
    cases n
theorem Sd.move (S : Sd K J F B H σ δ) (h : Hd J F B' H') (e : Same B B') (o : ∀ (i : Nat) (p : Addr) (ds : List PyData), δ[i]? = some (.ow p ds) → B' p = none ∧ ∃ xs, H' p = some (.lst xs) ∧ DpAll K B' xs ds) : Sd K J F B' H' σ δ where
  hd := h
  len := S.len
  kn := fun i d q => let ⟨v, a, b⟩ := S.kn i d q; ⟨v, a, dp_ext e d v b⟩
  ow := fun i p ds q => let ⟨a, _, c, _⟩ := S.ow i p ds q; ⟨a, (o i p ds q).1, c, (o i p ds q).2⟩
  ne := S.ne
/-- a new object that is known from now on -/
theorem Hd.alloc {p : Addr} {o : HO} (h : Hd J F B H) (n : H p = none) (ho : ∀ ps, o ≠ .tbl ps := by intro _ h; cases h) : Hd J F (upd B p o) (upd H p o) where
  nb := fun b ps q => by
    by_cases e : b = p
    · subst e
      rw [upd_same] at q
      exact ho ps (Option.some.inj q)
    · rw [upd_ne e] at q
      exact h.nb b ps q
  ex := fun b u q => by
    by_cases e : b = p
    · subst e
      rw [upd_same] at q ⊢
      exact q
    · rw [upd_ne e] at q ⊢
      exact h.ex b u q
  j := J.ext _ _ h.j (same_upd n)
  fr := fun b xs q => by
    obtain ⟨h1, h2⟩ := h.fr b xs q
    have e : b ≠ p := ne_of_none h2 n
    rw [upd_ne e, upd_ne e]
    exact ⟨h1, h2⟩
theorem Sd.alloc {p : Addr} {o : HO} (S : Sd K J F B H σ δ) (n : H p = none) (ho : ∀ ps, o ≠ .tbl ps := by intro _ h; cases h) : Sd K J F (upd B p o) (upd H p o) σ δ :=
  S.move (S.hd.alloc n ho) (same_upd (S.hd.free n)) fun i q ds h => by
    obtain ⟨_, b, _, xs, c, d⟩ := S.ow i q ds h
    have e : q ≠ p := ne_of_none c n
    rw [upd_ne e, upd_ne e]
    exact ⟨b, xs, c, dpa_ext (same_upd (S.hd.free n)) _ _ d⟩
/-- a new object that is not known yet -/
theorem Hd.loose {p : Addr} {o : HO} (h : Hd J F B H) (n : H p = none) : Hd J F B (upd H p o) where
  nb := h.nb
  ex := h.ex.trans (same_upd n)
  j := J.ext _ _ h.j (same_upd n)
  fr := fun b xs q => by
    obtain ⟨h1, h2⟩ := h.fr b xs q
    rw [upd_ne (ne_of_none h2 n)]
    exact ⟨h1, h2⟩
theorem Sd.loose {p : Addr} {o : HO} (S : Sd K J F B H σ δ) (n : H p = none) : Sd K J F B (upd H p o) σ δ :=
  S.move (S.hd.loose n) (Same.refl B) fun i q ds h => by
    obtain ⟨_, b, _, xs, c, d⟩ := S.ow i q ds h
    rw [upd_ne (ne_of_none c n)]
    exact ⟨b, xs, c, d⟩
/-- no slot's list stands at p -/
def NotOw (δ : DS) (p : Addr) : Prop := ∀ (i : Nat) (q : Addr) (ds : List PyData), δ[i]? = some (.ow q ds) → q ≠ p
theorem Sd.notOw (S : Sd K J F B H σ δ) {p : Addr} (n : H p = none) : NotOw δ p := fun i q ds h => by
  obtain ⟨_, _, _, xs, c, _⟩ := S.ow i q ds h
  exact ne_of_none c n
/-- an object that was not known gets known -/
theorem Sd.adopt {p : Addr} {o : HO} (S : Sd K J F B H σ δ) (h : H p = some o) (b : B p = none) (f : F p = none) (n : NotOw δ p) (ho : ∀ ps, o ≠ .tbl ps := by intro _ h; cases h) : Sd K J F (upd B p o) H σ δ :=
  S.move ⟨fun c u q => by
    by_cases e : c = p
    · subst e
      rw [upd_same] at q
      rw [h]; exact q
    · rw [upd_ne e] at q
      exact S.hd.ex c u q, S.hd.j, fun c xs q => by
    have e : c ≠ p := fun z => by rw [z, f] at q; cases q
    rw [upd_ne e]
    exact S.hd.fr c xs q, fun c ps q => by
    by_cases e : c = p
    · subst e
      rw [upd_same] at q
      exact ho ps (Option.some.inj q)
    · rw [upd_ne e] at q
      exact S.hd.nb c ps q⟩ (same_upd b) fun i q ds z => by
    obtain ⟨_, b1, _, xs, c, d⟩ := S.ow i q ds z
    rw [upd_ne (n i q ds z)]
    exact ⟨b1, xs, c, dpa_ext (same_upd b) _ _ d⟩
/-- p joins what others own -/
theorem Sd.hide {p : Addr} {xs : List V} (S : Sd K J F B H σ δ) (h : H p = some (.lst xs)) (b : B p = none) (n : NotOw δ p) : Sd K J (fun c => if c = p then some xs else F c) B H σ δ where
  hd := ⟨S.hd.ex, S.hd.j, fun c ys q => by
    by_cases e : c = p
    · subst e
      simp only [if_true] at q
      cases q
      exact ⟨b, h⟩
    · simp only [e, if_false] at q
      exact S.hd.fr c ys q, S.hd.nb⟩
  len := S.len
  kn := S.kn
  ow := fun i q ds z => by
    obtain ⟨a, b1, c, d⟩ := S.ow i q ds z
    refine ⟨a, b1, ?_, d⟩
    simp only [n i q ds z, if_false]
    exact c
  ne := S.ne
theorem Sd.unhide {p : Addr} {xs : List V} (f : F p = none) (S : Sd K J (fun c => if c = p then some xs else F c) B H σ δ) : Sd K J F B H σ δ where
  hd := ⟨S.hd.ex, S.hd.j, fun c ys q => S.hd.fr c ys (by
    have e : c ≠ p := fun z => by rw [z, f] at q; cases q
    simp only [e, if_false]
    exact q), S.hd.nb⟩
  len := S.len
  kn := S.kn
  ow := fun i q ds z => by
    obtain ⟨a, b1, c, d⟩ := S.ow i q ds z
    refine ⟨a, b1, ?_, d⟩
    have e : q ≠ p := fun z => by rw [z] at c; simp at c
    simp only [e, if_false] at c
    exact c
  ne := S.ne
/-! stores into slots -/
theorem get_set_cases {α : Type} {l : List α} {i j : Nat} {x y : α} (h : (l.set i x)[j]? = some y) : (j = i ∧ y = x ∧ i < l.length) ∨ (j ≠ i ∧ l[j]? = some y) := by
  by_cases e : i = j
  · subst e
    by_cases hl : i < l.length
    · rw [List.getElem?_set_self hl] at h
      exact .inl ⟨rfl, (Option.some.inj h).symm, hl⟩
    · rw [List.getElem?_eq_none (by rw [List.length_set]; omega)] at h
      cases h
  · rw [List.getElem?_set_ne e] at h
    exact .inr ⟨fun z => e z.symm, h⟩
theorem Sd.setk (S : Sd K J F B H σ δ) (i : Nat) {v : V} {d : PyData} (r : Dp K B v d) : Sd K J F B H (σ.set i (some v)) (δ.set i (.kn d)) where
  hd := S.hd
  len := by rw [List.length_set, List.length_set]; exact S.len
  kn := fun j e h => by
    rcases get_set_cases h with ⟨rfl, q, hl⟩ | ⟨hj, h⟩
    · cases q
      exact ⟨v, List.getElem?_set_self (by rw [S.len]; exact hl), r⟩
    · rw [List.getElem?_set_ne (Ne.symm hj)]
      exact S.kn j e h
  ow := fun j p ds h => by
    rcases get_set_cases h with ⟨_, q, _⟩ | ⟨hj, h⟩
    · cases q
    · rw [List.getElem?_set_ne (Ne.symm hj)]
      exact S.ow j p ds h
  ne := fun a b p q ds es hab h1 h2 => by
    rcases get_set_cases h1 with ⟨_, z, _⟩ | ⟨_, h1⟩
    · cases z
    · rcases get_set_cases h2 with ⟨_, z, _⟩ | ⟨_, h2⟩
      · cases z
      · exact S.ne a b p q ds es hab h1 h2
theorem Sd.setu (S : Sd K J F B H σ δ) (i : Nat) (x : Option V) : Sd K J F B H (σ.set i x) (δ.set i .un) where
  hd := S.hd
  len := by rw [List.length_set, List.length_set]; exact S.len
  kn := fun j e h => by
    rcases get_set_cases h with ⟨_, q, _⟩ | ⟨hj, h⟩
    · cases q
    · rw [List.getElem?_set_ne (Ne.symm hj)]
      exact S.kn j e h
  ow := fun j p ds h => by
    rcases get_set_cases h with ⟨_, q, _⟩ | ⟨hj, h⟩
    · cases q
    · rw [List.getElem?_set_ne (Ne.symm hj)]
      exact S.ow j p ds h
  ne := fun a b p q ds es hab h1 h2 => by
    rcases get_set_cases h1 with ⟨_, z, _⟩ | ⟨_, h1⟩
    · cases z
    · rcases get_set_cases h2 with ⟨_, z, _⟩ | ⟨_, h2⟩
      · cases z
      · exact S.ne a b p q ds es hab h1 h2
theorem Sd.seto (S : Sd K J F B H σ δ) (i : Nat) {p : Addr} {xs : List V} {ds : List PyData} (h : H p = some (.lst xs)) (b : B p = none) (f : F p = none) (n : NotOw δ p) (r : DpAll K B xs ds) : Sd K J F B H (σ.set i (some (.ref p))) (δ.set i (.ow p ds)) where
  hd := S.hd
  len := by rw [List.length_set, List.length_set]; exact S.len
  kn := fun j e h => by
    rcases get_set_cases h with ⟨_, q, _⟩ | ⟨hj, h⟩
    · cases q
    · rw [List.getElem?_set_ne (Ne.symm hj)]
      exact S.kn j e h
  ow := fun j q es z => by
    rcases get_set_cases z with ⟨rfl, y, hl⟩ | ⟨hj, z⟩
    · cases y
      exact ⟨List.getElem?_set_self (by rw [S.len]; exact hl), b, f, xs, h, r⟩
    · rw [List.getElem?_set_ne (Ne.symm hj)]
      exact S.ow j q es z
  ne := fun a c q q' es es' hab h1 h2 => by
    rcases get_set_cases h1 with ⟨e1, z, _⟩ | ⟨_, h1⟩
    · cases z
      rcases get_set_cases h2 with ⟨e2, z, _⟩ | ⟨_, h2⟩
      · exact absurd (e1.trans e2.symm) hab
      · exact (n c q' es' h2).symm
    · rcases get_set_cases h2 with ⟨_, z, _⟩ | ⟨_, h2⟩
      · cases z
        exact n a q es h1
      · exact S.ne a c q q' es es' hab h1 h2
/-- the list of slot i is written -/
theorem Sd.write (S : Sd K J F B H σ δ) {i : Nat} {p : Addr} {ds es : List PyData} {ys : List V} (h : δ[i]? = some (.ow p ds)) (r : DpAll K B ys es) : Sd K J F B (upd H p (.lst ys)) σ (δ.set i (.ow p es)) := by
  obtain ⟨h1, h2, h3, xs, h4, h5⟩ := S.ow i p ds h
  have hi : i < δ.length := (List.getElem?_eq_some_iff.mp h).1
  refine ⟨⟨fun b u q => ?_, J.wr _ _ _ _ S.hd.j h4, fun b zs q => ?_, S.hd.nb⟩, by rw [List.length_set]; exact S.len, fun j e z => ?_, fun j q es' z => ?_, fun a c q q' ds' es' hac z1 z2 => ?_⟩
  · have e : b ≠ p := fun z => by rw [z, h2] at q; cases q
    rw [upd_ne e]
    exact S.hd.ex b u q
  · have e : b ≠ p := fun z => by rw [z, h3] at q; cases q
    rw [upd_ne e]
    exact S.hd.fr b zs q
  · rcases get_set_cases z with ⟨_, y, _⟩ | ⟨_, z⟩
    · cases y
    · exact S.kn j e z
  · rcases get_set_cases z with ⟨rfl, y, _⟩ | ⟨hj, z⟩
    · cases y
      exact ⟨h1, h2, h3, ys, upd_same, r⟩
    · obtain ⟨g1, g2, g3, zs, g4, g5⟩ := S.ow j q es' z
      have e : q ≠ p := S.ne j i q p es' ds hj z h
      rw [upd_ne e]
      exact ⟨g1, g2, g3, zs, g4, g5⟩
  · rcases get_set_cases z1 with ⟨e1, y, _⟩ | ⟨_, z1⟩
    · cases y
      rcases get_set_cases z2 with ⟨e2, y, _⟩ | ⟨hc, z2⟩
      · exact absurd (e1.trans e2.symm) hac
      · exact (S.ne c i _ _ _ _ hc z2 h).symm
    · rename_i ha
      rcases get_set_cases z2 with ⟨e2, y, _⟩ | ⟨hc, z2⟩
      · cases y
        exact S.ne a i _ _ _ _ ha z1 h
      · exact S.ne a c q q' ds' es' hac z1 z2
/-! ### a state told less -/
def LeS : SV → SV → Prop
  | _, .un => True
  | .kn d, .kn e => d = e
  | .ow p ds, .ow q es => p = q ∧ ds = es
  | _, _ => False
def Le : DS → DS → Prop
  | [], [] => True
  | a :: r, b :: s => LeS a b ∧ Le r s
  | _, _ => False
theorem LeS.refl : ∀ a : SV, LeS a a
  | .un => trivial
  | .kn _ => rfl
  | .ow _ _ => ⟨rfl, rfl⟩
theorem Le.refl : ∀ δ : DS, Le δ δ
  | [] => trivial
  | a :: r => ⟨LeS.refl a, Le.refl r⟩
theorem Le.len : ∀ {δ δ' : DS}, Le δ δ' → δ.length = δ'.length
  | [], [], _ => rfl
  | _ :: _, _ :: _, h => congrArg (· + 1) (Le.len h.2)
  | [], _ :: _, h => h.elim
  | _ :: _, [], h => h.elim
theorem Le.get : ∀ {δ δ' : DS} {i : Nat} {b : SV}, Le δ δ' → δ'[i]? = some b → ∃ a, δ[i]? = some a ∧ LeS a b
  | [], [], _, _, _, e => by simp at e
  | a :: _, b :: _, 0, _, h, e => by
    have e' := Option.some.inj e
    subst e'
    exact ⟨a, rfl, h.1⟩
  | _ :: _, _ :: _, i + 1, _, h, e => Le.get (i := i) h.2 e
  | [], _ :: _, _, _, h, _ => h.elim
  | _ :: _, [], _, _, h, _ => h.elim
theorem Sd.weak {δ' : DS} (S : Sd K J F B H σ δ) (h : Le δ δ') : Sd K J F B H σ δ' where
  hd := S.hd
  len := S.len.trans h.len
  kn := fun i d q => by
    obtain ⟨a, h1, h2⟩ := h.get q
    cases a with
    | un => exact h2.elim
    | kn e =>
      have e' : e = d := h2
      subst e'
      exact S.kn i _ h1
    | ow p ds => exact h2.elim
  ow := fun i p ds q => by
    obtain ⟨a, h1, h2⟩ := h.get q
    cases a with
    | un => exact h2.elim
    | kn e => exact h2.elim
    | ow p' ds' =>
      obtain ⟨e1, e2⟩ : p' = p ∧ ds' = ds := h2
      subst e1 e2
      exact S.ow i _ _ h1
  ne := fun i j p q ds es hij h1 h2 => by
    obtain ⟨a, k1, l1⟩ := h.get h1
    obtain ⟨b, k2, l2⟩ := h.get h2
    cases a with
    | un => exact l1.elim
    | kn e => exact l1.elim
    | ow p' ds' =>
      cases b with
      | un => exact l2.elim
      | kn e => exact l2.elim
      | ow q' es' =>
        obtain ⟨e1, e2⟩ : p' = p ∧ ds' = ds := l1
        obtain ⟨e3, e4⟩ : q' = q ∧ es' = es := l2
        subst e1 e2 e3 e4
        exact S.ne i j _ _ _ _ hij k1 k2
theorem Sd.var (S : Sd K J F B H σ δ) {i : Nat} {d : PyData} (h : δ[i]? = some (.kn d)) : ∃ v, σ[i]? = some (some v) ∧ Dp K B v d := S.kn i d h
theorem Sd.dp {v : V} {d : PyData} (S : Sd K J F B H σ δ) (h : Dp K B v d) : Dp K H v d := dp_ext S.hd.ex d v h
end
end Fd
/-! The judgements and the rules of expressions. -/
namespace Fd
open PySem PySem.Spec PyProof.Rows L2
/-! ### readings as weak as can be -/
section
variable {X : Cx} {e : Expr} {es : List Expr} {st : Stmt} {sts : List Stmt}
def We (X : Cx) (e : Expr) : TE := fun σ H Q => ∀ (pins : List (Addr × Obj)) (s : Shared), Inv X pins σ H s → wpAny (model X.prog X.w) X.A (eval e X.env) (EP X pins σ Q) X.xe s
theorem pe_we : PE X e (We X e) := ⟨fun pins s σ H Q I h => h pins s I⟩
theorem we_of {t : TE} (h : PE X e t) {σ : L2.St} {H : Hp} {Q : VK} (q : t σ H Q) : We X e σ H Q := fun pins s I => h.run pins s σ H Q I q
def Wt (X : Cx) (e : Expr) : TT := fun σ H Q => ∀ (pins : List (Addr × Obj)) (s : Shared), Inv X pins σ H s → wpAny (model X.prog X.w) X.A (isTrue e X.env (eval e X.env)) (TP X pins σ Q) X.xe s
theorem pt_wt : PT X e (Wt X e) := ⟨fun pins s σ H Q I h => h pins s I⟩
theorem wt_of {t : TT} (h : PT X e t) {σ : L2.St} {H : Hp} {Q : Bool → Hp → Prop} (q : t σ H Q) : Wt X e σ H Q := fun pins s I => h.run pins s σ H Q I q
def Ww (X : Cx) (e : Expr) : TT := fun σ H Q => ∀ (whole : Sem Value) (pins : List (Addr × Obj)) (s : Shared), Inv X pins σ H s → wpAny (model X.prog X.w) X.A (isTrue e X.env whole) (TP X pins σ Q) X.xe s
theorem pw_ww : PW X e (Ww X e) := ⟨fun whole pins s σ H Q I h => h whole pins s I⟩
theorem ww_of {t : TT} (h : PW X e t) {σ : L2.St} {H : Hp} {Q : Bool → Hp → Prop} (q : t σ H Q) : Ww X e σ H Q := fun whole pins s I => h.run whole pins s σ H Q I q
def Wa (X : Cx) (es : List Expr) : TA := fun σ H Q => ∀ (pos : Pos) (pins : List (Addr × Obj)) (s : Shared), Inv X pins σ H s → wpAny (model X.prog X.w) X.A (spliced (backTo pos (starEach es X.env))) (AP X pins σ Q) X.xe s
theorem pa_wa : PA X es (Wa X es) := ⟨fun pos pins s σ H Q I h => h pos pins s I⟩
theorem wa_of {t : TA} (h : PA X es t) {σ : L2.St} {H : Hp} {Q : List V → Hp → Prop} (q : t σ H Q) : Wa X es σ H Q := fun pos pins s I => h.run pos pins s σ H Q I q
def Ws (X : Cx) (st : Stmt) : TS := fun D σ H => ∀ (pins : List (Addr × Obj)) (s : Shared), Inv X pins σ H s → wpAny (model X.prog X.w) X.A (exec st X.env) (SP X pins D) X.xe s
theorem ps_ws : PS X st (Ws X st) := ⟨fun pins s σ H D I h => h pins s I⟩
theorem ws_of {t : TS} (h : PS X st t) {σ : L2.St} {H : Hp} {D : Ends} (q : t D σ H) : Ws X st D σ H := fun pins s I => h.run pins s σ H D I q
def Wss (X : Cx) (sts : List Stmt) : TS := fun D σ H => ∀ (pins : List (Addr × Obj)) (s : Shared), Inv X pins σ H s → wpAny (model X.prog X.w) X.A (execs sts X.env) (SP X pins D) X.xe s
theorem pss_wss : PSs X sts (Wss X sts) := ⟨fun pins s σ H D I h => h pins s I⟩
theorem wss_of {t : TS} (h : PSs X sts t) {σ : L2.St} {H : Hp} {D : Ends} (q : t D σ H) : Wss X sts D σ H := fun pins s I => h.run pins s σ H D I q
def Wg (X : Cx) (tg : Expr) : TG := fun v σ H Q => ∀ (pins : List (Addr × Obj)) (s : Shared) (u : Value), Inv X pins σ H s → RelV v u → wpAny (model X.prog X.w) X.A (assign tg X.env u) (fun _ s' => ∃ σ' H', Inv X pins σ' H' s' ∧ Q σ' H') X.xe s
theorem pg_wg : PG X e (Wg X e) := ⟨fun pins s σ H v u Q I r h => h pins s u I r⟩
theorem wg_of {t : TG} (h : PG X e t) {v : V} {σ : L2.St} {H : Hp} {Q : L2.St → Hp → Prop} (q : t v σ H Q) : Wg X e v σ H Q := fun pins s u I r => h.run pins s σ H v u Q I r q
end
/-! ### the judgements -/
/-- e gives the data d -/
def PED (J : JJ) (X : Cx) (e : Expr) (δ : DS) (d : PyData) (δ' : DS) : Prop :=
  ∀ (F : FT) (B H : Hp) (σ : L2.St), Sd X.K J F B H σ δ → ∀ Q : VK, (∀ (v : V) (B' H' : Hp), Same B B' → Sd X.K J F B' H' σ δ' → Dp X.K B' v d → Q v H') → We X e σ H Q
/-- e gives a new list of the data ds, which nobody has -/
def PEF (J : JJ) (X : Cx) (e : Expr) (δ : DS) (ds : List PyData) (δ' : DS) : Prop :=
  ∀ (F : FT) (B H : Hp) (σ : L2.St), Sd X.K J F B H σ δ → ∀ Q : VK, (∀ (p : Addr) (xs : List V) (B' H' : Hp), Same B B' → Sd X.K J F B' H' σ δ' → H' p = some (.lst xs) → B' p = none → F p = none → NotOw δ' p → DpAll X.K B' xs ds → Q (.ref p) H') → We X e σ H Q
/-- e gives a list that can be read -/
def PLD (J : JJ) (X : Cx) (e : Expr) (δ : DS) (ds : List PyData) (δ' : DS) : Prop :=
  ∀ (F : FT) (B H : Hp) (σ : L2.St), Sd X.K J F B H σ δ → ∀ Q : VK, (∀ (a : Addr) (xs : List V) (B' H' : Hp), Same B B' → Sd X.K J F B' H' σ δ' → SqL X.K H' a xs → DpAll X.K B' xs ds → Q (.ref a) H') → We X e σ H Q
def PTD (J : JJ) (X : Cx) (e : Expr) (δ : DS) (b : Bool) (δ' : DS) : Prop :=
  ∀ (F : FT) (B H : Hp) (σ : L2.St), Sd X.K J F B H σ δ → ∀ Q : Bool → Hp → Prop, (∀ (B' H' : Hp), Same B B' → Sd X.K J F B' H' σ δ' → Q b H') → Wt X e σ H Q
def PWD (J : JJ) (X : Cx) (e : Expr) (δ : DS) (b : Bool) (δ' : DS) : Prop :=
  ∀ (F : FT) (B H : Hp) (σ : L2.St), Sd X.K J F B H σ δ → ∀ Q : Bool → Hp → Prop, (∀ (B' H' : Hp), Same B B' → Sd X.K J F B' H' σ δ' → Q b H') → Ww X e σ H Q
def PAD (J : JJ) (X : Cx) (es : List Expr) (δ : DS) (ds : List PyData) (δ' : DS) : Prop :=
  ∀ (F : FT) (B H : Hp) (σ : L2.St), Sd X.K J F B H σ δ → ∀ Q : List V → Hp → Prop, (∀ (vs : List V) (B' H' : Hp), Same B B' → Sd X.K J F B' H' σ δ' → DpAll X.K B' vs ds → Q vs H') → Wa X es σ H Q
section
variable {J : JJ} {X : Cx} {δ δ1 δ2 δ3 : DS} {pos : Pos} {a b : Expr}
theorem PED.eq {e : Expr} {d d' : PyData} (h : PED J X e δ d δ1) (q : d = d') : PED J X e δ d' δ1 := q ▸ h
theorem PTD.eq {e : Expr} {d d' : Bool} (h : PTD J X e δ d δ1) (q : d = d') : PTD J X e δ d' δ1 := q ▸ h
theorem PEF.eq {e : Expr} {d d' : List PyData} (h : PEF J X e δ d δ1) (q : d = d') : PEF J X e δ d' δ1 := q ▸ h
theorem PED.weak {e : Expr} {d : PyData} (h : PED J X e δ d δ1) (q : Le δ1 δ2) : PED J X e δ d δ2 := fun F B H σ S Q k => h F B H σ S Q fun v B' H' e1 S1 => k v B' H' e1 (S1.weak q)
/-- a new list is known -/
theorem PEF.ped {e : Expr} {ds : List PyData} (h : PEF J X e δ ds δ1) : PED J X e δ (.list ds) δ1 := fun F B H σ S Q k =>
  h F B H σ S Q fun p xs B' H' e1 S1 hp bp fp n r => k _ (upd B' p (.lst xs)) H' (e1.trans (same_upd bp)) (S1.adopt hp bp fp n) (.lst (.of upd_same) (dpa_ext (same_upd bp) _ _ r))
theorem PED.pld {e : Expr} {ds : List PyData} (h : PED J X e δ (.list ds) δ1) : PLD J X e δ ds δ1 := fun F B H σ S Q k =>
  h F B H σ S Q fun v B' H' e1 S1 r => by
    obtain ⟨p, xs, rfl, h1, h2⟩ := dp_list r
    exact k p xs B' H' e1 S1 (S1.hd.ex.seq h1) h2
theorem PEF.pld {e : Expr} {ds : List PyData} (h : PEF J X e δ ds δ1) : PLD J X e δ ds δ1 := h.ped.pld
/-! ### names and constants -/
theorem ped_var {x : Str} {d : PyData} (i : Nat) (hN : X.N[i]? = some x := by rfl) (hv : Vis X.env.scope x := by first | exact Or.inl rfl | exact Or.inr (Or.inl rfl) | exact Or.inr (Or.inr rfl)) (hδ : δ[i]? = some (.kn d) := by rfl)
    (hd : (x == ("__debug__" : Str)) = false := by decide) (hcd : (x == ("__classdict__" : Str)) = false := by decide) : PED J X (.Name x pos) δ d δ := fun F B H σ S Q k => by
  obtain ⟨v, h1, h2⟩ := S.kn i d hδ
  exact we_of (pe_var hN hv hd hcd) ⟨v, h1, k v B H (Same.refl B) S h2⟩
/-- an own list, read -/
theorem pld_own {x : Str} {p : Addr} {ds : List PyData} (i : Nat) (hN : X.N[i]? = some x := by rfl) (hv : Vis X.env.scope x := by first | exact Or.inl rfl | exact Or.inr (Or.inl rfl) | exact Or.inr (Or.inr rfl)) (hδ : δ[i]? = some (.ow p ds) := by rfl)
    (hd : (x == ("__debug__" : Str)) = false := by decide) (hcd : (x == ("__classdict__" : Str)) = false := by decide) : PLD J X (.Name x pos) δ ds δ := fun F B H σ S Q k => by
  obtain ⟨h1, _, _, xs, h2, h3⟩ := S.ow i p ds hδ
  exact we_of (pe_var hN hv hd hcd) ⟨_, h1, k p xs B H (Same.refl B) S (.of h2) h3⟩
theorem ped_int {i : Int} {j : Nat} : PED J X (.Constant (.int i) j pos) δ (.int i) δ := fun F B H σ S Q k => we_of pe_int (k _ B H (Same.refl B) S (.int i))
theorem ped_bool {i : Bool} {j : Nat} : PED J X (.Constant (.bool i) j pos) δ (.bool i) δ := fun F B H σ S Q k => we_of pe_bl (k _ B H (Same.refl B) S (.bl i))
theorem ped_none {j : Nat} : PED J X (.Constant .none j pos) δ .none δ := fun F B H σ S Q k => we_of pe_non (k _ B H (Same.refl B) S .non)
theorem ped_str {x : Str} {j : Nat} : PED J X (.Constant (.str x) j pos) δ (.str x) δ := fun F B H σ S Q k => we_of pe_str (k _ B H (Same.refl B) S (.str x))
/-! ### two-place operations -/
/-- what an operation gives on data -/
def RD (J : JJ) (X : Cx) (δ : DS) (r : R2) (d1 d2 d : PyData) : Prop := ∀ (F : FT) (B H : Hp) (σ : L2.St) (v u : V), Sd X.K J F B H σ δ → Dp X.K B v d1 → Dp X.K B u d2 → ∀ Q : VK,
  (∀ (w : V) (B' H' : Hp), Same B B' → Sd X.K J F B' H' σ δ → Dp X.K B' w d → Q w H') → r v u H Q
theorem op2_run {r : R2} {d1 d2 d : PyData} (ha : PED J X a δ d1 δ1) (hb : PED J X b δ1 d2 δ2) (hr : RD J X δ2 r d1 d2 d) (F : FT) (B H : Hp) (σ : L2.St) (S : Sd X.K J F B H σ δ) (Q : VK)
    (k : ∀ (v : V) (B' H' : Hp), Same B B' → Sd X.K J F B' H' σ δ2 → Dp X.K B' v d → Q v H') : tOp r (We X a) (We X b) σ H Q :=
  ha F B H σ S _ fun v B1 H1 e1 S1 r1 => hb F B1 H1 σ S1 _ fun u B2 H2 e2 S2 r2 => hr F B2 H2 σ v u S2 (dp_ext e2 _ _ r1) r2 Q fun w B3 H3 e3 S3 r3 => k w B3 H3 ((e1.trans e2).trans e3) S3 r3
theorem ped_op2 {op : Operator} {r : R2} {d1 d2 d : PyData} (ho : OpR X (binaryOp op) r) (ha : PED J X a δ d1 δ1) (hb : PED J X b δ1 d2 δ2) (hr : RD J X δ2 r d1 d2 d) : PED J X (.BinOp a op b pos) δ d δ2 :=
  fun F B H σ S Q k => we_of (pe_op ho pe_we pe_we) (op2_run ha hb hr F B H σ S Q k)
theorem ped_cmp2 {op : CmpOp} {r : R2} {d1 d2 d : PyData} (ho : OpR X (compareOp op) r) (hm : behindInMarks op b = false) (ha : PED J X a δ d1 δ1) (hb : PED J X b δ1 d2 δ2) (hr : RD J X δ2 r d1 d2 d) : PED J X (.Compare a [op] [b] pos) δ d δ2 :=
  fun F B H σ S Q k => we_of (pe_cmpR ho pe_we pe_we hm) (op2_run ha hb hr F B H σ S Q k)
theorem ptd_cmp2 {op : CmpOp} {r : R2} {d1 d2 : PyData} {c : Bool} (ho : OpR X (compareOp op) r) (hm : behindInMarks op b = false) (ha : PED J X a δ d1 δ1) (hb : PED J X b δ1 d2 δ2) (hr : RD J X δ2 r d1 d2 (.bool c)) : PTD J X (.Compare a [op] [b] pos) δ c δ2 :=
  fun F B H σ S Q k => wt_of (pt_cmpR ho pe_we pe_we hm) (op2_run ha hb hr F B H σ S _ fun v B' H' e S' r => ⟨c, dp_bool r, k B' H' e S'⟩)
theorem rd_I0 {g : Int → Int → Int} {i j : Int} : RD J X δ (rI0 fun i j => .int (g i j)) (.int i) (.int j) (.int (g i j)) := fun F B H σ v u S h1 h2 Q k => ⟨i, j, dp_int h1, dp_int h2, k _ B H (Same.refl B) S (.int _)⟩
theorem rd_I {C : Int → Int → Prop} {g : Int → Int → Int} {i j : Int} (hc : C i j) : RD J X δ (rI C fun i j => .int (g i j)) (.int i) (.int j) (.int (g i j)) := fun F B H σ v u S h1 h2 Q k => ⟨i, j, dp_int h1, dp_int h2, hc, k _ B H (Same.refl B) S (.int _)⟩
theorem rd_B0 {g : Int → Int → Bool} {i j : Int} : RD J X δ (rI0 fun i j => .bl (g i j)) (.int i) (.int j) (.bool (g i j)) := fun F B H σ v u S h1 h2 Q k => ⟨i, j, dp_int h1, dp_int h2, k _ B H (Same.refl B) S (.bl _)⟩
theorem ped_add {i j : Int} (ha : PED J X a δ (.int i) δ1) (hb : PED J X b δ1 (.int j) δ2) : PED J X (.BinOp a .Add b pos) δ (.int (i + j)) δ2 := ped_op2 op_add ha hb rd_I0
theorem ped_sub {i j : Int} (ha : PED J X a δ (.int i) δ1) (hb : PED J X b δ1 (.int j) δ2) : PED J X (.BinOp a .Sub b pos) δ (.int (i - j)) δ2 := ped_op2 op_sub ha hb rd_I0
theorem ped_mul {i j : Int} (ha : PED J X a δ (.int i) δ1) (hb : PED J X b δ1 (.int j) δ2) (hc : CMul i j) : PED J X (.BinOp a .Mult b pos) δ (.int (i * j)) δ2 := ped_op2 op_mul ha hb (rd_I hc)
theorem ped_fdiv {i j : Int} (ha : PED J X a δ (.int i) δ1) (hb : PED J X b δ1 (.int j) δ2) (hc : 0 < j ∧ j < 1073741824) : PED J X (.BinOp a .FloorDiv b pos) δ (.int (i / j)) δ2 := ped_op2 op_fdiv ha hb (rd_I hc)
theorem ped_mod {i j : Int} (ha : PED J X a δ (.int i) δ1) (hb : PED J X b δ1 (.int j) δ2) (hc : 0 < j) : PED J X (.BinOp a .Mod b pos) δ (.int (i % j)) δ2 := ped_op2 op_mod ha hb (rd_I hc)
theorem ped_pow {i j : Int} (ha : PED J X a δ (.int i) δ1) (hb : PED J X b δ1 (.int j) δ2) (hc : CPow i j) : PED J X (.BinOp a .Pow b pos) δ (.int (i ^ j.toNat)) δ2 := ped_op2 op_pow ha hb (rd_I hc)
theorem ped_neg {i : Int} (ha : PED J X a δ (.int i) δ1) : PED J X (.UnaryOp .USub a pos) δ (.int (-i)) δ1 := fun F B H σ S Q k =>
  we_of (pe_un un_neg pe_we) (ha F B H σ S _ fun v B1 H1 e1 S1 r1 => ⟨i, dp_int r1, k _ B1 H1 e1 S1 (.int _)⟩)
theorem ped_addS {x y : Str} (ha : PED J X a δ (.str x) δ1) (hb : PED J X b δ1 (.str y) δ2) (hz : x.length + y.length ≤ sizeLine) : PED J X (.BinOp a .Add b pos) δ (.str (x ++ y)) δ2 :=
  ped_op2 op_add_str ha hb fun F B H σ v u S h1 h2 Q k => ⟨x, y, dp_str h1, dp_str h2, hz, k _ B H (Same.refl B) S (.str _)⟩
theorem ped_lt {i j : Int} (ha : PED J X a δ (.int i) δ1) (hb : PED J X b δ1 (.int j) δ2) : PED J X (.Compare a [.Lt] [b] pos) δ (.bool (decide (i < j))) δ2 := ped_cmp2 op_lt (nomark _) ha hb rd_B0
theorem ped_le {i j : Int} (ha : PED J X a δ (.int i) δ1) (hb : PED J X b δ1 (.int j) δ2) : PED J X (.Compare a [.LtE] [b] pos) δ (.bool (decide (i ≤ j))) δ2 := ped_cmp2 op_le (nomark _) ha hb rd_B0
theorem ped_gt {i j : Int} (ha : PED J X a δ (.int i) δ1) (hb : PED J X b δ1 (.int j) δ2) : PED J X (.Compare a [.Gt] [b] pos) δ (.bool (decide (j < i))) δ2 := ped_cmp2 op_gt (nomark _) ha hb rd_B0
theorem ped_ge {i j : Int} (ha : PED J X a δ (.int i) δ1) (hb : PED J X b δ1 (.int j) δ2) : PED J X (.Compare a [.GtE] [b] pos) δ (.bool (decide (j ≤ i))) δ2 := ped_cmp2 op_ge (nomark _) ha hb rd_B0
theorem ptd_lt {i j : Int} (ha : PED J X a δ (.int i) δ1) (hb : PED J X b δ1 (.int j) δ2) : PTD J X (.Compare a [.Lt] [b] pos) δ (decide (i < j)) δ2 := ptd_cmp2 op_lt (nomark _) ha hb rd_B0
theorem ptd_le {i j : Int} (ha : PED J X a δ (.int i) δ1) (hb : PED J X b δ1 (.int j) δ2) : PTD J X (.Compare a [.LtE] [b] pos) δ (decide (i ≤ j)) δ2 := ptd_cmp2 op_le (nomark _) ha hb rd_B0
theorem ptd_gt {i j : Int} (ha : PED J X a δ (.int i) δ1) (hb : PED J X b δ1 (.int j) δ2) : PTD J X (.Compare a [.Gt] [b] pos) δ (decide (j < i)) δ2 := ptd_cmp2 op_gt (nomark _) ha hb rd_B0
theorem ptd_ge {i j : Int} (ha : PED J X a δ (.int i) δ1) (hb : PED J X b δ1 (.int j) δ2) : PTD J X (.Compare a [.GtE] [b] pos) δ (decide (j ≤ i)) δ2 := ptd_cmp2 op_ge (nomark _) ha hb rd_B0
theorem rd_eqI {i j : Int} : RD J X δ rEq (.int i) (.int j) (.bool (decide (i = j))) := fun F B H σ v u S h1 h2 Q k => by
  rw [dp_int h1, dp_int h2]
  refine ⟨rfl, ?_⟩
  have e : decide (V.int i = V.int j) = decide (i = j) := by simp
  rw [e]
  exact k _ B H (Same.refl B) S (.bl _)
theorem rd_neI {i j : Int} : RD J X δ rNe (.int i) (.int j) (.bool (!decide (i = j))) := fun F B H σ v u S h1 h2 Q k => by
  rw [dp_int h1, dp_int h2]
  refine ⟨rfl, ?_⟩
  have e : decide (V.int i = V.int j) = decide (i = j) := by simp
  rw [e]
  exact k _ B H (Same.refl B) S (.bl _)
theorem rd_eqS {i j : Str} : RD J X δ rEq (.str i) (.str j) (.bool (decide (i = j))) := fun F B H σ v u S h1 h2 Q k => by
  rw [dp_str h1, dp_str h2]
  refine ⟨rfl, ?_⟩
  have e : decide (V.str i = V.str j) = decide (i = j) := by simp
  rw [e]
  exact k _ B H (Same.refl B) S (.bl _)
theorem ptd_eq {i j : Int} (ha : PED J X a δ (.int i) δ1) (hb : PED J X b δ1 (.int j) δ2) : PTD J X (.Compare a [.Eq] [b] pos) δ (decide (i = j)) δ2 := ptd_cmp2 op_eq (nomark _) ha hb rd_eqI
theorem ptd_ne {i j : Int} (ha : PED J X a δ (.int i) δ1) (hb : PED J X b δ1 (.int j) δ2) : PTD J X (.Compare a [.NotEq] [b] pos) δ (!decide (i = j)) δ2 := ptd_cmp2 op_ne (nomark _) ha hb rd_neI
theorem ped_eq {i j : Int} (ha : PED J X a δ (.int i) δ1) (hb : PED J X b δ1 (.int j) δ2) : PED J X (.Compare a [.Eq] [b] pos) δ (.bool (decide (i = j))) δ2 := ped_cmp2 op_eq (nomark _) ha hb rd_eqI
theorem ped_eqS {i j : Str} (ha : PED J X a δ (.str i) δ1) (hb : PED J X b δ1 (.str j) δ2) : PED J X (.Compare a [.Eq] [b] pos) δ (.bool (decide (i = j))) δ2 := ped_cmp2 op_eq (nomark _) ha hb rd_eqS
theorem ptd_eqS {i j : Str} (ha : PED J X a δ (.str i) δ1) (hb : PED J X b δ1 (.str j) δ2) : PTD J X (.Compare a [.Eq] [b] pos) δ (decide (i = j)) δ2 := ptd_cmp2 op_eq (nomark _) ha hb rd_eqS
/-- == of data -/
theorem ptd_eqD {d e : PyData} (hu : X.A.units + 64 < cLine) (ha : PED J X a δ d δ1) (hb : PED J X b δ1 e δ2) (h1 : SeqAt.shaped d = true) (h2 : SeqAt.shaped e = true) : PTD J X (.Compare a [.Eq] [b] pos) δ (PyData.eqv d e) δ2 :=
  ptd_cmp2 (op_eqD hu) (nomark _) ha hb fun F B H σ v u S r1 r2 Q k => ⟨d, e, S.dp r1, S.dp r2, h1, h2, k _ B H (Same.refl B) S (.bl _)⟩
/-- is None -/
def isNon : PyData → Bool
  | .none => true
  | _ => false
theorem isNon_dp {K : PySem.W.Frag} {H : Hp} {v : V} {d : PyData} (h : Dp K H v d) : decide (v = V.non) = isNon d := by
  cases h <;> first | rfl | simp [isNon]
theorem ptd_isN {d : PyData} {j : Nat} {pos' : Pos} (ha : PED J X a δ d δ1) : PTD J X (.Compare a [.Is] [.Constant .none j pos'] pos) δ (isNon d) δ1 :=
  ptd_cmp2 op_isN (nomark _) ha ped_none fun F B H σ v u S r1 r2 Q k => ⟨dp_none r2, by rw [isNon_dp r1]; exact k _ B H (Same.refl B) S (.bl _)⟩
theorem ptd_notN {d : PyData} {j : Nat} {pos' : Pos} (ha : PED J X a δ d δ1) : PTD J X (.Compare a [.IsNot] [.Constant .none j pos'] pos) δ (!isNon d) δ1 :=
  ptd_cmp2 op_notN (nomark _) ha ped_none fun F B H σ v u S r1 r2 Q k => ⟨dp_none r2, by rw [isNon_dp r1]; exact k _ B H (Same.refl B) S (.bl _)⟩
/-- i in a tuple or list of ints -/
theorem inV_ints (i : Int) : ∀ ns : List Int, inV (.int i) (ns.map V.int) = ns.contains i
  | [] => rfl
  | n :: ns => by
    have ih := inV_ints i ns
    unfold inV at ih ⊢
    rw [List.map_cons, List.any_cons, ih, List.contains_cons]
    congr 1
    show eqV (V.int n) (V.int i) = (i == n)
    simp [eqV]
    exact Bool.beq_comm
theorem flat_ints (ns : List Int) : (ns.map V.int).all flatV = true := by
  rw [List.all_eq_true]
  intro x hx
  obtain ⟨n, _, rfl⟩ := List.mem_map.mp hx
  rfl
theorem ptd_inT {i : Int} {ns : List Int} (hm : behindInMarks .In b = false) (ha : PED J X a δ (.int i) δ1) (hb : PED J X b δ1 (.tuple (ns.map .int)) δ2) : PTD J X (.Compare a [.In] [b] pos) δ (ns.contains i) δ2 :=
  ptd_cmp2 op_in_seq hm ha hb fun F B H σ v u S r1 r2 Q k => by
    obtain ⟨p, xs, rfl, h1, h2⟩ := dp_tup r2
    have e := dpa_ints h2
    subst e
    rw [dp_int r1]
    refine ⟨p, _, rfl, .inr (sqT_ext S.hd.ex h1), rfl, flat_ints ns, ?_⟩
    show Q (.bl (inV (.int i) (ns.map V.int))) H
    rw [inV_ints]
    exact k _ B H (Same.refl B) S (.bl _)
theorem ptd_inL {i : Int} {ns : List Int} (hm : behindInMarks .In b = false) (ha : PED J X a δ (.int i) δ1) (hb : PED J X b δ1 (.list (ns.map .int)) δ2) : PTD J X (.Compare a [.In] [b] pos) δ (ns.contains i) δ2 :=
  ptd_cmp2 op_in_seq hm ha hb fun F B H σ v u S r1 r2 Q k => by
    obtain ⟨p, xs, rfl, h1, h2⟩ := dp_list r2
    have e := dpa_ints h2
    subst e
    rw [dp_int r1]
    refine ⟨p, _, rfl, .inl (S.hd.ex.seq h1), rfl, flat_ints ns, ?_⟩
    show Q (.bl (inV (.int i) (ns.map V.int))) H
    rw [inV_ints]
    exact k _ B H (Same.refl B) S (.bl _)
/-! ### tests -/
theorem ptd_val {e : Expr} {c : Bool} (h : PED J X e δ (.bool c) δ1) (he : ∀ whole, isTrue e X.env whole = (do let v ← whole; standAt e.pos; holding [v] (truthy v)) := by intro _; rfl) : PTD J X e δ c δ1 := fun F B H σ S Q k =>
  wt_of (pt_val pe_we he) (h F B H σ S _ fun v B1 H1 e1 S1 r1 => ⟨c, dp_bool r1, k B1 H1 e1 S1⟩)
theorem ptd_not {e : Expr} {c : Bool} (h : PTD J X e δ c δ1) : PTD J X (.UnaryOp .Not e pos) δ (!c) δ1 := fun F B H σ S Q k =>
  wt_of (pt_not pt_wt) (h F B H σ S _ fun B1 H1 e1 S1 => k B1 H1 e1 S1)
theorem ptd_w {e : Expr} {c : Bool} (h : PWD J X e δ c δ1) : PTD J X e δ c δ1 := fun F B H σ S Q k => wt_of (PW.pt pw_ww) (h F B H σ S Q k)
theorem pwd_and1 {c : Bool} (h : PTD J X a δ c δ1) : PWD J X (.BoolOp .And [a] pos) δ c δ1 := fun F B H σ S Q k => ww_of (pw_and1 pt_wt) (h F B H σ S Q k)
theorem pwd_or1 {c : Bool} (h : PTD J X a δ c δ1) : PWD J X (.BoolOp .Or [a] pos) δ c δ1 := fun F B H σ S Q k => ww_of (pw_or1 pt_wt) (h F B H σ S Q k)
theorem pwd_and {rest : List Expr} {c d : Bool} (h1 : PTD J X a δ c δ) (h2 : c = true → PWD J X (.BoolOp .And (b :: rest) pos) δ d δ) : PWD J X (.BoolOp .And (a :: b :: rest) pos) δ (c && d) δ := fun F B H σ S Q k =>
  ww_of (pw_and pt_wt pw_ww) (h1 F B H σ S _ fun B1 H1 e1 S1 => by
    cases c with
    | true => exact iteT (h2 rfl F B1 H1 σ S1 Q fun B2 H2 e2 S2 => k B2 H2 (e1.trans e2) S2)
    | false => exact iteF (k B1 H1 e1 S1))
theorem pwd_or {rest : List Expr} {c d : Bool} (h1 : PTD J X a δ c δ) (h2 : c = false → PWD J X (.BoolOp .Or (b :: rest) pos) δ d δ) : PWD J X (.BoolOp .Or (a :: b :: rest) pos) δ (c || d) δ := fun F B H σ S Q k =>
  ww_of (pw_or pt_wt pw_ww) (h1 F B H σ S _ fun B1 H1 e1 S1 => by
    cases c with
    | true => exact iteT (k B1 H1 e1 S1)
    | false => exact iteF (h2 rfl F B1 H1 σ S1 Q fun B2 H2 e2 S2 => k B2 H2 (e1.trans e2) S2))
theorem ptd_and {rest : List Expr} {c d : Bool} (h1 : PTD J X a δ c δ) (h2 : c = true → PWD J X (.BoolOp .And (b :: rest) pos) δ d δ) : PTD J X (.BoolOp .And (a :: b :: rest) pos) δ (c && d) δ := ptd_w (pwd_and h1 h2)
theorem ptd_or {rest : List Expr} {c d : Bool} (h1 : PTD J X a δ c δ) (h2 : c = false → PWD J X (.BoolOp .Or (b :: rest) pos) δ d δ) : PTD J X (.BoolOp .Or (a :: b :: rest) pos) δ (c || d) δ := ptd_w (pwd_or h1 h2)
/-- a and b as a value -/
theorem ped_and {c d : Bool} (h1 : PED J X a δ (.bool c) δ) (h2 : c = true → PED J X b δ (.bool d) δ) : PED J X (.BoolOp .And [a, b] pos) δ (.bool (c && d)) δ := fun F B H σ S Q k =>
  we_of (pe_and pe_we (pe_one pe_we)) (h1 F B H σ S _ fun v B1 H1 e1 S1 r1 => ⟨c, dp_bool r1, by
    cases c with
    | true => exact iteT (h2 rfl F B1 H1 σ S1 Q fun w B2 H2 e2 S2 r2 => k w B2 H2 (e1.trans e2) S2 r2)
    | false => exact iteF (k _ B1 H1 e1 S1 (.bl _))⟩)
theorem sz16 {n : Nat} (h : Nat.ble n 16 = true) : n ≤ sizeLine := Nat.le_trans (Nat.le_of_ble_eq_true h) (by decide)
/-! ### arguments, displays -/
theorem pad_nil : PAD J X [] δ [] δ := fun F B H σ S Q k => wa_of pa_nil (k _ B H (Same.refl B) S .nil)
theorem pad_cons {e : Expr} {es : List Expr} {d : PyData} {ds : List PyData} (h1 : PED J X e δ d δ1) (h2 : PAD J X es δ1 ds δ2) (hs : starEach (e :: es) X.env = (false, eval e X.env) :: starEach es X.env := by rfl) : PAD J X (e :: es) δ (d :: ds) δ2 := fun F B H σ S Q k =>
  wa_of (pa_cons pe_we pa_wa hs) (h1 F B H σ S _ fun v B1 H1 e1 S1 r1 => h2 F B1 H1 σ S1 _ fun vs B2 H2 e2 S2 r2 => k _ B2 H2 (e1.trans e2) S2 (.cons (dp_ext e2 _ _ r1) r2))
theorem ped_tup {es : List Expr} {j : Nat} {ds : List PyData} (h : PAD J X es δ ds δ1) (hz : Nat.ble ds.length 16 = true := by rfl) : PED J X (.Tuple es j pos) δ (.tuple ds) δ1 := fun F B H σ S Q k =>
  we_of (pe_tup pa_wa) (h F B H σ S _ fun vs B1 H1 e1 S1 r1 => ⟨by rw [dpa_len r1]; exact sz16 hz, fun p hp =>
    have bp : B1 p = none := S1.hd.free hp
    k _ (upd B1 p (.tup vs)) _ (e1.trans (same_upd bp)) (S1.alloc hp) (.tup (.of upd_same) (dpa_ext (same_upd bp) _ _ r1))⟩)
theorem pef_new {σ : L2.St} {F : FT} {B0 B H : Hp} {vs : List V} {ds : List PyData} {Q : VK} (e1 : Same B0 B) (S1 : Sd X.K J F B H σ δ1) (r1 : DpAll X.K B vs ds)
    (k : ∀ (p : Addr) (xs : List V) (B' H' : Hp), Same B0 B' → Sd X.K J F B' H' σ δ1 → H' p = some (.lst xs) → B' p = none → F p = none → NotOw δ1 p → DpAll X.K B' xs ds → Q (.ref p) H') : ∀ p, H p = none → Q (.ref p) (upd H p (.lst vs)) := fun p hp =>
  k p vs B _ e1 (S1.loose hp) upd_same (S1.hd.free hp) (S1.hd.freeF hp) (S1.notOw hp) r1
theorem pef_lst {es : List Expr} {ds : List PyData} (h : PAD J X es δ ds δ1) (hz : Nat.ble ds.length 16 = true := by rfl) : PEF J X (.List es pos) δ ds δ1 := fun F B H σ S Q k =>
  we_of (pe_lst pa_wa) (h F B H σ S _ fun vs B1 H1 e1 S1 r1 => ⟨by rw [dpa_len r1]; exact sz16 hz, pef_new e1 S1 r1 k⟩)
/-! ### lists and tuples by operators -/
def rCatLL (K : PySem.W.Frag) : R2 := fun x y H Q => ∃ l b xs zs, x = .ref l ∧ y = .ref b ∧ SqL K H l xs ∧ SqL K H b zs ∧ xs.length + zs.length ≤ sizeLine ∧ ∀ p, H p = none → Q (.ref p) (upd H p (.lst (xs ++ zs)))
theorem op_catLL : OpR X (binaryOp .Add) (rCatLL X.K) := by
  intro pins s σ H x y v u Q I rx ry h
  obtain ⟨l, b, xs, zs, rfl, rfl, hH, hB, hz, q⟩ := h
  cases rx
  cases ry
  obtain ⟨its, r, p1, _⟩ := I.list hH
  obtain ⟨its2, r2, p2, _⟩ := I.list hB
  obtain ⟨⟨cls, dd, data, sl⟩, n, ho, hc, _, hd⟩ := p1
  obtain ⟨⟨cls2, dd2, data2, sl2⟩, n2, ho2, hc2, _, hd2⟩ := p2
  simp only at hc hd hc2 hd2
  subst hc hd hc2 hd2
  have e : its.toArray ++ its2.toArray = (its ++ its2).toArray := by simp
  have hz' : its.toArray.size + its2.toArray.size ≤ sizeLine := by
    rw [List.size_toArray, List.size_toArray, ← r.length, ← r2.length]
    exact hz
  refine concat_meets ⟨_, ho, rfl⟩ ⟨_, ho2, rfl⟩ noFill_list_add seq_list_add PySem.F.slot_list_add PySem.F.entry_list_add (PySem.F.args_list_add_2 _ _) (list_addW l b its.toArray its2.toArray n n2 dd dd2 sl sl2 hz') ⟨ho, ho2, ?_⟩
  rw [e]
  exact ⟨.ref _, _, I.lnew (t' := s.toks) (r.append r2) (by rw [List.length_append]; exact hz), rfl, q _ I.fresh⟩
theorem pef_cat {ds es : List PyData} (ha : PED J X a δ (.list ds) δ1) (hb : PED J X b δ1 (.list es) δ2) (hz : ds.length + es.length ≤ sizeLine) : PEF J X (.BinOp a .Add b pos) δ (ds ++ es) δ2 := fun F B H σ S Q k =>
  we_of (pe_op op_catLL pe_we pe_we) (ha F B H σ S _ fun v B1 H1 e1 S1 r1 => hb F B1 H1 σ S1 _ fun u B2 H2 e2 S2 r2 => by
    obtain ⟨l, xs, rfl, h1, h2⟩ := dp_list (dp_ext e2 _ _ r1)
    obtain ⟨l', xs', rfl, h3, h4⟩ := dp_list r2
    exact ⟨l, l', xs, xs', rfl, rfl, S2.hd.ex.seq h1, S2.hd.ex.seq h3, by rw [dpa_len h2, dpa_len h4]; exact hz, pef_new (e1.trans e2) S2 (dpa_app h2 h4) k⟩)
/-- own + .. -/
theorem pef_catO {x : Str} {px : Pos} {p : Addr} {ds es : List PyData} (i : Nat) (hb : PED J X b δ (.list es) δ1) (hδ0 : δ[i]? = some (.ow p ds)) (hδ : δ1[i]? = some (.ow p ds)) (hz : ds.length + es.length ≤ sizeLine) (hN : X.N[i]? = some x := by rfl)
    (hv : Vis X.env.scope x := by first | exact Or.inl rfl | exact Or.inr (Or.inl rfl) | exact Or.inr (Or.inr rfl)) (hd : (x == ("__debug__" : Str)) = false := by decide) (hcd : (x == ("__classdict__" : Str)) = false := by decide) : PEF J X (.BinOp (.Name x px) .Add b pos) δ (ds ++ es) δ1 := fun F B H σ S Q k =>
  we_of (pe_op op_catLL (pe_var hN hv hd hcd) pe_we) ⟨_, (S.ow i p ds hδ0).1, hb F B H σ S _ fun u B2 H2 e2 S2 r2 => by
    obtain ⟨_, _, _, xs, h1, h2⟩ := S2.ow i p ds hδ
    obtain ⟨l', xs', rfl, h3, h4⟩ := dp_list r2
    exact ⟨p, l', xs, xs', rfl, rfl, .of h1, S2.hd.ex.seq h3, by rw [dpa_len h2, dpa_len h4]; exact hz, pef_new e2 S2 (dpa_app h2 h4) k⟩⟩
theorem pef_rep {d : PyData} {n : Int} (ha : PEF J X a δ [d] δ1) (hb : PED J X b δ1 (.int n) δ2) (h0 : 0 ≤ n) (hz : n.toNat ≤ sizeLine) : PEF J X (.BinOp a .Mult b pos) δ (List.replicate n.toNat d) δ2 := fun F B H σ S Q k =>
  we_of (pe_op op_rep pe_we pe_we) (ha F B H σ S _ fun p xs B1 H1 e1 S1 hp bp fp np r1 => hb F (upd B1 p (.lst xs)) H1 σ (S1.adopt hp bp fp np) _ fun u B2 H2 e2 S2 r2 => by
    have hB2 : B2 p = some (.lst xs) := e2 _ _ upd_same
    have r1' := dpa_ext ((same_upd (o := .lst xs) bp).trans e2) _ _ r1
    obtain ⟨x, rfl, rx⟩ : ∃ x, xs = [x] ∧ Dp X.K B2 x d := by
      cases r1' with
      | cons h t =>
        cases t
        exact ⟨_, rfl, h⟩
    have hl : (sizeLine : Nat) < 2 ^ 63 := by decide
    refine ⟨p, n, [x], rfl, dp_int r2, S2.hd.ex _ _ hB2, by omega, by omega, by simpa using hz, pef_new ((e1.trans (same_upd bp)).trans e2) S2 ?_ k⟩
    have e : (List.replicate n.toNat [x]).flatten = List.replicate n.toNat x := by
      generalize n.toNat = m
      induction m with
      | zero => rfl
      | succ m ih => rw [List.replicate_succ, List.flatten_cons, ih]; rfl
    rw [e]
    exact dpa_rep rx _)
theorem ped_catT {ds es : List PyData} (ha : PED J X a δ (.tuple ds) δ1) (hb : PED J X b δ1 (.tuple es) δ2) (hz : ds.length + es.length ≤ sizeLine) : PED J X (.BinOp a .Add b pos) δ (.tuple (ds ++ es)) δ2 :=
  ped_op2 op_catA ha hb fun F B H σ v u S r1 r2 Q k => by
    obtain ⟨l, xs, rfl, h1, h2⟩ := dp_tup r1
    obtain ⟨l', xs', rfl, h3, h4⟩ := dp_tup r2
    refine ⟨l, l', xs, xs', rfl, rfl, sqT_ext S.hd.ex h1, sqT_ext S.hd.ex h3, by rw [dpa_len h2, dpa_len h4]; exact hz, fun z => ?_, fun _ z => ?_, fun _ _ p hp => ?_⟩
    · subst z
      cases h2
      exact k _ B H (Same.refl B) S r2
    · subst z
      cases h4
      rw [List.append_nil] at k
      exact k _ B H (Same.refl B) S r1
    · have bp := S.hd.free hp
      exact k _ (upd B p (.tup (xs ++ xs'))) _ (same_upd bp) (S.alloc hp) (.tup (.of upd_same) (dpa_ext (same_upd bp) _ _ (dpa_app h2 h4)))
/-! ### subscripts -/
theorem ped_ix2 {r : R2} {d1 d2 d : PyData} (ho : IxR X r) (ha : PED J X a δ d1 δ1) (hb : PED J X b δ1 d2 δ2) (hr : RD J X δ2 r d1 d2 d) (hs : PlainIx b := by exact fun _ _ => rfl) : PED J X (.Subscript a b pos) δ d δ2 :=
  fun F B H σ S Q k => we_of (pe_ix ho pe_we pe_we hs) (op2_run ha hb hr F B H σ S Q k)
theorem atI_len {α β : Type} {xs : List α} {ys : List β} {i : Int} {y : β} (hl : xs.length = ys.length) (h : atI ys i = some y) : ∃ j : Nat, ys[j]? = some y ∧ ∀ x, xs[j]? = some x → atI xs i = some x := by
  unfold atI at h ⊢
  cases q : ixN ys.length i with
  | none =>
    rw [q] at h
    cases h
  | some j =>
    rw [q] at h
    refine ⟨j, h, fun x hx => ?_⟩
    rw [hl, q]
    exact hx
theorem dpa_at {K : PySem.W.Frag} {H : Hp} {vs : List V} {ds : List PyData} {i : Int} {d : PyData} (h : DpAll K H vs ds) (e : atI ds i = some d) : ∃ v, atI vs i = some v ∧ Dp K H v d := by
  obtain ⟨j, h1, h2⟩ := atI_len (dpa_len h) e
  obtain ⟨v, h3, h4⟩ := dpa_get h h1
  exact ⟨v, h2 v h3, h4⟩
theorem ped_ixT {ds : List PyData} {i : Int} {d : PyData} (ha : PED J X a δ (.tuple ds) δ1) (hb : PED J X b δ1 (.int i) δ2) (h : atI ds i = some d := by rfl) (hs : PlainIx b := by exact fun _ _ => rfl) : PED J X (.Subscript a b pos) δ d δ2 :=
  ped_ix2 (hs := hs) ix_tup ha hb fun F B H σ v u S r1 r2 Q k => by
    obtain ⟨l, xs, rfl, h1, h2⟩ := dp_tup r1
    obtain ⟨x, h3, h4⟩ := dpa_at h2 h
    exact ⟨l, xs, i, x, rfl, dp_int r2, sqT_ext S.hd.ex h1, h3, k x B H (Same.refl B) S h4⟩
theorem ped_ixL {ds : List PyData} {i : Int} {d : PyData} (ha : PED J X a δ (.list ds) δ1) (hb : PED J X b δ1 (.int i) δ2) (h : atI ds i = some d) (hs : PlainIx b := by exact fun _ _ => rfl) : PED J X (.Subscript a b pos) δ d δ2 :=
  ped_ix2 (hs := hs) ix_list ha hb fun F B H σ v u S r1 r2 Q k => by
    obtain ⟨l, xs, rfl, h1, h2⟩ := dp_list r1
    obtain ⟨x, h3, h4⟩ := dpa_at h2 h
    exact ⟨l, xs, i, x, rfl, dp_int r2, S.hd.ex.seq h1, h3, k x B H (Same.refl B) S h4⟩
theorem ped_ixO {x : Str} {px : Pos} {p : Addr} {ds : List PyData} {j : Int} {d : PyData} (i : Nat) (hb : PED J X b δ (.int j) δ1) (h : atI ds j = some d) (hδ0 : δ[i]? = some (.ow p ds) := by rfl) (hδ : δ1[i]? = some (.ow p ds) := by rfl) (hs : PlainIx b := by exact fun _ _ => rfl)
    (hN : X.N[i]? = some x := by rfl) (hv : Vis X.env.scope x := by first | exact Or.inl rfl | exact Or.inr (Or.inl rfl) | exact Or.inr (Or.inr rfl)) (hd : (x == ("__debug__" : Str)) = false := by decide) (hcd : (x == ("__classdict__" : Str)) = false := by decide) : PED J X (.Subscript (.Name x px) b pos) δ d δ1 := fun F B H σ S Q k =>
  we_of (pe_ix ix_list (pe_var hN hv hd hcd) pe_we hs) ⟨_, (S.ow i p ds hδ0).1, hb F B H σ S _ fun u B2 H2 e2 S2 r2 => by
    obtain ⟨_, _, _, xs, h1, h2⟩ := S2.ow i p ds hδ
    obtain ⟨y, h3, h4⟩ := dpa_at h2 h
    exact ⟨p, xs, j, y, rfl, dp_int r2, .of h1, h3, k y B2 H2 e2 S2 h4⟩⟩
theorem ped_ixS {z : Str} {i : Int} {c : Nat} (ha : PED J X a δ (.str z) δ1) (hb : PED J X b δ1 (.int i) δ2) (hz : z.length ≤ sizeLine) (h : atI z.cps.toList i = some c) (hs : PlainIx b := by exact fun _ _ => rfl) : PED J X (.Subscript a b pos) δ (.str ⟨#[c]⟩) δ2 :=
  ped_ix2 (hs := hs) ix_str ha hb fun F B H σ v u S r1 r2 Q k => ⟨z, i, c, dp_str r1, dp_int r2, hz, h, k _ B H (Same.refl B) S (.str _)⟩
/-- the items of t[lo:hi] -/
def cutD (xs : List PyData) (lo hi : Option Int) : List PyData := (xs.drop (HT.sIx xs.length 0 lo)).take (HT.sIx xs.length xs.length hi - HT.sIx xs.length 0 lo)
theorem dpa_cut {K : PySem.W.Frag} {H : Hp} {vs : List V} {ds : List PyData} (lo hi : Option Int) (h : DpAll K H vs ds) : DpAll K H (cutV vs lo hi) (cutD ds lo hi) := by
  unfold cutV cutD
  rw [dpa_len h]
  exact dpa_take _ (dpa_drop _ h)
theorem rd_sl {σ : L2.St} {F : FT} {B0 B H : Hp} {v : V} {ds : List PyData} {lo hi : Option Int} {Q : VK} (e1 : Same B0 B) (S : Sd X.K J F B H σ δ1) (r1 : Dp X.K B v (.tuple ds))
    (k : ∀ (v : V) (B' H' : Hp), Same B0 B' → Sd X.K J F B' H' σ δ1 → Dp X.K B' v (.tuple (cutD ds lo hi)) → Q v H') : rSlA X.K v lo hi H Q := by
  obtain ⟨l, xs, rfl, h1, h2⟩ := dp_tup r1
  refine ⟨l, xs, rfl, sqT_ext S.hd.ex h1, fun ⟨z1, z2⟩ => ?_, fun _ p hp => ?_⟩
  · have e : cutD ds lo hi = ds := by
      unfold cutD
      rw [← dpa_len h2, z1, z2, List.drop_zero, Nat.sub_zero, dpa_len h2, List.take_length]
    rw [e] at k
    exact k _ B H e1 S r1
  · have bp := S.hd.free hp
    exact k _ (upd B p (.tup (cutV xs lo hi))) _ (e1.trans (same_upd bp)) (S.alloc hp) (.tup (.of upd_same) (dpa_ext (same_upd bp) _ _ (dpa_cut lo hi h2)))
theorem ped_slTo {ds : List PyData} {i : Int} {p2 : Pos} (ha : PED J X a δ (.tuple ds) δ1) (hb : PED J X b δ1 (.int i) δ2) : PED J X (.Subscript a (.Slice none (some b) none p2) pos) δ (.tuple (cutD ds none (some i))) δ2 := fun F B H σ S Q k =>
  we_of (pe_slice sl_tupA pe_we po_none (po_some pe_we)) (ha F B H σ S _ fun v B1 H1 e1 S1 r1 => hb F B1 H1 σ S1 _ fun u B2 H2 e2 S2 r2 => ⟨i, dp_int r2, rd_sl (e1.trans e2) S2 (dp_ext e2 _ _ r1) k⟩)
theorem ped_slFrom {ds : List PyData} {i : Int} {p2 : Pos} (ha : PED J X a δ (.tuple ds) δ1) (hb : PED J X b δ1 (.int i) δ2) : PED J X (.Subscript a (.Slice (some b) none none p2) pos) δ (.tuple (cutD ds (some i) none)) δ2 := fun F B H σ S Q k =>
  we_of (pe_slice sl_tupA pe_we (po_some pe_we) po_none) (ha F B H σ S _ fun v B1 H1 e1 S1 r1 => hb F B1 H1 σ S1 _ fun u B2 H2 e2 S2 r2 => ⟨i, dp_int r2, rd_sl (e1.trans e2) S2 (dp_ext e2 _ _ r1) k⟩)
end
end Fd
/-! Built-in functions. -/
namespace Fd
open PySem PySem.Spec PyProof.Rows L2
/-- no built-in name is hidden by the module -/
structure Bt (mg : Str → Option Value) : Prop where
  len : mg "len" = none
  range : mg "range" = none
  sum : mg "sum" = none
  max : mg "max" = none
  min : mg "min" = none
  int : mg "int" = none
  tuple : mg "tuple" = none
  sorted : mg "sorted" = none
  set : mg "set" = none
  zip : mg "zip" = none
  enumerate : mg "enumerate" = none
  repr : mg "repr" = none
  isinstance : mg "isinstance" = none
  bool : mg "bool" = none
section
variable {J : JJ} {X : Cx} {δ δ1 δ2 δ3 : DS} {pos : Pos} {a b e : Expr} {es : List Expr} {p : Pos} {x : Str} {id : String} {T : String} {r : List V → Hp → VK → Prop}
/-- what a call on data gives -/
def RCD (J : JJ) (X : Cx) (δ : DS) (r : List V → Hp → VK → Prop) (ds : List PyData) (d : PyData) : Prop := ∀ (F : FT) (B H : Hp) (σ : L2.St) (vs : List V), Sd X.K J F B H σ δ → DpAll X.K B vs ds → ∀ Q : VK,
  (∀ (w : V) (B' H' : Hp), Same B B' → Sd X.K J F B' H' σ δ → Dp X.K B' w d → Q w H') → r vs H Q
/-- .. on a list that is read -/
def RLD (J : JJ) (X : Cx) (δ : DS) (r : List V → Hp → VK → Prop) (ds : List PyData) (d : PyData) : Prop := ∀ (F : FT) (B H : Hp) (σ : L2.St) (l : Addr) (xs : List V), Sd X.K J F B H σ δ → SqL X.K H l xs → DpAll X.K B xs ds → ∀ Q : VK,
  (∀ (w : V) (B' H' : Hp), Same B B' → Sd X.K J F B' H' σ δ → Dp X.K B' w d → Q w H') → r [.ref l] H Q
def RLF (J : JJ) (X : Cx) (δ : DS) (r : List V → Hp → VK → Prop) (ds es : List PyData) : Prop := ∀ (F : FT) (B0 B H : Hp) (σ : L2.St) (l : Addr) (xs : List V), Same B0 B → Sd X.K J F B H σ δ → SqL X.K H l xs → DpAll X.K B xs ds → ∀ Q : VK,
  (∀ (q : Addr) (ys : List V) (B' H' : Hp), Same B0 B' → Sd X.K J F B' H' σ δ → H' q = some (.lst ys) → B' q = none → F q = none → NotOw δ q → DpAll X.K B' ys es → Q (.ref q) H') → r [.ref l] H Q
theorem ped_cB {ds : List PyData} {d : PyData} (hc : CallR X (.builtin id) r) (hm : X.mg x = none) (hv : bootBuiltins x = some (.builtin id)) (hg : Gl X x) (ha : PAD J X (e :: es) δ ds δ1) (hr : RCD J X δ1 r ds d) (hn : x ≠ "__name__" := by decide) (hdb : (x == ("__debug__" : Str)) = false := by decide)
    (he : starEach (e :: es) X.env = (false, eval e X.env) :: starEach es X.env := by rfl) (hpl : (backTo pos (starEach es X.env)).any (·.1) = false := by rfl) : PED J X (.Call (.Name x p) (e :: es) [] pos) δ d δ1 := fun F B H σ S Q k =>
  we_of (pe_callB hc hg hm hv pa_wa hn hdb he hpl) (ha F B H σ S _ fun vs B1 H1 e1 S1 r1 => hr F B1 H1 σ vs S1 r1 Q fun w B2 H2 e2 S2 r2 => k w B2 H2 (e1.trans e2) S2 r2)
theorem ped_cT {ds : List PyData} {d : PyData} (hc : CallR X (.type T) r) (hm : X.mg x = none) (hv : bootBuiltins x = some (.type T)) (hg : Gl X x) (ha : PAD J X (e :: es) δ ds δ1) (hr : RCD J X δ1 r ds d) (hn : x ≠ "__name__" := by decide) (hdb : (x == ("__debug__" : Str)) = false := by decide)
    (he : starEach (e :: es) X.env = (false, eval e X.env) :: starEach es X.env := by rfl) (hpl : (backTo pos (starEach es X.env)).any (·.1) = false := by rfl) : PED J X (.Call (.Name x p) (e :: es) [] pos) δ d δ1 := fun F B H σ S Q k =>
  we_of (pe_callTy hc hg hm hv pa_wa hn hdb he hpl) (ha F B H σ S _ fun vs B1 H1 e1 S1 r1 => hr F B1 H1 σ vs S1 r1 Q fun w B2 H2 e2 S2 r2 => k w B2 H2 (e1.trans e2) S2 r2)
theorem ped_lB {ds : List PyData} {d : PyData} (hc : CallR X (.builtin id) r) (hm : X.mg x = none) (hv : bootBuiltins x = some (.builtin id)) (hg : Gl X x) (ha : PLD J X e δ ds δ1) (hr : RLD J X δ1 r ds d) (hn : x ≠ "__name__" := by decide) (hdb : (x == ("__debug__" : Str)) = false := by decide)
    (he : starEach [e] X.env = (false, eval e X.env) :: starEach [] X.env := by rfl) (hpl : (backTo pos (starEach [] X.env)).any (·.1) = false := by rfl) : PED J X (.Call (.Name x p) [e] [] pos) δ d δ1 := fun F B H σ S Q k =>
  we_of (pe_callB hc hg hm hv (pa_cons pe_we pa_nil he) hn hdb he hpl) (ha F B H σ S _ fun l xs B1 H1 e1 S1 h1 r1 => hr F B1 H1 σ l xs S1 h1 r1 Q fun w B2 H2 e2 S2 r2 => k w B2 H2 (e1.trans e2) S2 r2)
theorem ped_lT {ds : List PyData} {d : PyData} (hc : CallR X (.type T) r) (hm : X.mg x = none) (hv : bootBuiltins x = some (.type T)) (hg : Gl X x) (ha : PLD J X e δ ds δ1) (hr : RLD J X δ1 r ds d) (hn : x ≠ "__name__" := by decide) (hdb : (x == ("__debug__" : Str)) = false := by decide)
    (he : starEach [e] X.env = (false, eval e X.env) :: starEach [] X.env := by rfl) (hpl : (backTo pos (starEach [] X.env)).any (·.1) = false := by rfl) : PED J X (.Call (.Name x p) [e] [] pos) δ d δ1 := fun F B H σ S Q k =>
  we_of (pe_callTy hc hg hm hv (pa_cons pe_we pa_nil he) hn hdb he hpl) (ha F B H σ S _ fun l xs B1 H1 e1 S1 h1 r1 => hr F B1 H1 σ l xs S1 h1 r1 Q fun w B2 H2 e2 S2 r2 => k w B2 H2 (e1.trans e2) S2 r2)
theorem pef_lB {ds es : List PyData} (hc : CallR X (.builtin id) r) (hm : X.mg x = none) (hv : bootBuiltins x = some (.builtin id)) (hg : Gl X x) (ha : PLD J X e δ ds δ1) (hr : RLF J X δ1 r ds es) (hn : x ≠ "__name__" := by decide) (hdb : (x == ("__debug__" : Str)) = false := by decide)
    (he : starEach [e] X.env = (false, eval e X.env) :: starEach [] X.env := by rfl) (hpl : (backTo pos (starEach [] X.env)).any (·.1) = false := by rfl) : PEF J X (.Call (.Name x p) [e] [] pos) δ es δ1 := fun F B H σ S Q k =>
  we_of (pe_callB hc hg hm hv (pa_cons pe_we pa_nil he) hn hdb he hpl) (ha F B H σ S _ fun l xs B1 H1 e1 S1 h1 r1 => hr F B B1 H1 σ l xs e1 S1 h1 r1 Q k)
/-! ### len -/
theorem ped_len {ds : List PyData} (hm : X.mg "len" = none) (ha : PLD J X e δ ds δ1) (hg : Gl X "len" := by rfl) (he : starEach [e] X.env = (false, eval e X.env) :: starEach [] X.env := by rfl) : PED J X (.Call (.Name "len" p) [e] [] pos) δ (.int (ds.length : Nat)) δ1 :=
  ped_lB (he := he) call_len_seq hm PySem.boot_len hg ha fun F B H σ l xs S h r Q k => ⟨l, xs, rfl, .inl h, by rw [dpa_len r]; exact k _ B H (Same.refl B) S (.int _)⟩
theorem ped_lenT {ds : List PyData} (hm : X.mg "len" = none) (ha : PED J X e δ (.tuple ds) δ1) (hg : Gl X "len" := by rfl) (he : starEach [e] X.env = (false, eval e X.env) :: starEach [] X.env := by rfl) : PED J X (.Call (.Name "len" p) [e] [] pos) δ (.int (ds.length : Nat)) δ1 :=
  ped_cB (he := he) call_len_seq hm PySem.boot_len hg (pad_cons ha pad_nil he) fun F B H σ vs S r Q k => by
    cases r with
    | cons r1 t =>
      cases t
      obtain ⟨l, xs, rfl, h1, h2⟩ := dp_tup r1
      exact ⟨l, xs, rfl, .inr (sqT_ext S.hd.ex h1), by rw [dpa_len h2]; exact k _ B H (Same.refl B) S (.int _)⟩
/-! ### max, min of two -/
theorem dpa_two {K : PySem.W.Frag} {H : Hp} {vs : List V} {i j : Int} (r : DpAll K H vs [.int i, .int j]) : vs = [.int i, .int j] := dpa_ints (ns := [i, j]) r
theorem ped_max2 {i j : Int} (hc : X.calm = true) (hm : X.mg "max" = none) (ha : PED J X a δ (.int i) δ1) (hb : PED J X b δ1 (.int j) δ2) (hg : Gl X "max" := by rfl) (he : starEach [a, b] X.env = (false, eval a X.env) :: starEach [b] X.env := by rfl) (he2 : starEach [b] X.env = (false, eval b X.env) :: starEach [] X.env := by rfl)
    (hpl : (backTo pos (starEach [b] X.env)).any (·.1) = false := by rfl) : PED J X (.Call (.Name "max" p) [a, b] [] pos) δ (.int (max i j)) δ2 :=
  ped_cB (he := he) (hpl := hpl) (call_max2 hc) hm PyProof.Rows.boot_max hg (pad_cons ha (pad_cons hb pad_nil he2) he) fun F B H σ vs S r Q k => by
    have e : (if j > i then j else i) = max i j := by omega
    exact ⟨i, j, dpa_two r, by rw [e]; exact k _ B H (Same.refl B) S (.int _)⟩
theorem ped_min2 {i j : Int} (hc : X.calm = true) (hm : X.mg "min" = none) (ha : PED J X a δ (.int i) δ1) (hb : PED J X b δ1 (.int j) δ2) (hg : Gl X "min" := by rfl) (he : starEach [a, b] X.env = (false, eval a X.env) :: starEach [b] X.env := by rfl) (he2 : starEach [b] X.env = (false, eval b X.env) :: starEach [] X.env := by rfl)
    (hpl : (backTo pos (starEach [b] X.env)).any (·.1) = false := by rfl) : PED J X (.Call (.Name "min" p) [a, b] [] pos) δ (.int (min i j)) δ2 :=
  ped_cB (he := he) (hpl := hpl) (call_min2 hc) hm PyProof.Rows.boot_min hg (pad_cons ha (pad_cons hb pad_nil he2) he) fun F B H σ vs S r Q k => by
    have e : (if j < i then j else i) = min i j := by omega
    exact ⟨i, j, dpa_two r, by rw [e]; exact k _ B H (Same.refl B) S (.int _)⟩
/-! ### max, min, sum of a list -/
def mxL : List Int → Int
  | [] => 0
  | [a] => a
  | a :: b :: r => max a (mxL (b :: r))
def mnL : List Int → Int
  | [] => 0
  | [a] => a
  | a :: b :: r => min a (mnL (b :: r))
theorem mxL_mem : ∀ {ns : List Int}, ns ≠ [] → mxL ns ∈ ns
  | [], h => absurd rfl h
  | [a], _ => List.mem_singleton.mpr rfl
  | a :: b :: r, _ => by
    have ih := mxL_mem (ns := b :: r) (by simp)
    show max a (mxL (b :: r)) ∈ a :: b :: r
    by_cases h : a ≤ mxL (b :: r)
    · rw [Int.max_eq_right h]; exact List.mem_cons_of_mem _ ih
    · rw [Int.max_eq_left (by omega)]; exact List.mem_cons_self
theorem mxL_le : ∀ {ns : List Int} {y : Int}, y ∈ ns → y ≤ mxL ns
  | [], _, h => by simp at h
  | [a], y, h => by rw [List.mem_singleton.mp h]; exact Int.le_refl _
  | a :: b :: r, y, h => by
    show y ≤ max a (mxL (b :: r))
    rcases List.mem_cons.mp h with e | h
    · rw [e]; exact Int.le_max_left _ _
    · exact Int.le_trans (mxL_le h) (Int.le_max_right _ _)
theorem mnL_mem : ∀ {ns : List Int}, ns ≠ [] → mnL ns ∈ ns
  | [], h => absurd rfl h
  | [a], _ => List.mem_singleton.mpr rfl
  | a :: b :: r, _ => by
    have ih := mnL_mem (ns := b :: r) (by simp)
    show min a (mnL (b :: r)) ∈ a :: b :: r
    by_cases h : a ≤ mnL (b :: r)
    · rw [Int.min_eq_left h]; exact List.mem_cons_self
    · rw [Int.min_eq_right (by omega)]; exact List.mem_cons_of_mem _ ih
theorem mnL_le : ∀ {ns : List Int} {y : Int}, y ∈ ns → mnL ns ≤ y
  | [], _, h => by simp at h
  | [a], y, h => by rw [List.mem_singleton.mp h]; exact Int.le_refl _
  | a :: b :: r, y, h => by
    show min a (mnL (b :: r)) ≤ y
    rcases List.mem_cons.mp h with e | h
    · rw [e]; exact Int.min_le_left _ _
    · exact Int.le_trans (Int.min_le_right _ _) (mnL_le h)
theorem ped_maxL {ns : List Int} (hc : X.calm = true) (hm : X.mg "max" = none) (ha : PLD J X e δ (ns.map .int) δ1) (hne : ns ≠ []) (hg : Gl X "max" := by rfl) (he : starEach [e] X.env = (false, eval e X.env) :: starEach [] X.env := by rfl) : PED J X (.Call (.Name "max" p) [e] [] pos) δ (.int (mxL ns)) δ1 :=
  ped_lB (he := he) (cr_max hc) hm PyProof.Rows.boot_max hg ha fun F B H σ l xs S h r Q k => by
    have ex := dpa_ints r
    subst ex
    refine ⟨l, ns, rfl, h, List.length_pos_iff.mpr hne, fun m h1 h2 => ?_⟩
    have em : m = mxL ns := Int.le_antisymm (mxL_le h1) (h2 _ (mxL_mem hne))
    rw [em]
    exact k _ B H (Same.refl B) S (.int _)
theorem ped_minL {ns : List Int} (hc : X.calm = true) (hm : X.mg "min" = none) (ha : PLD J X e δ (ns.map .int) δ1) (hne : ns ≠ []) (hg : Gl X "min" := by rfl) (he : starEach [e] X.env = (false, eval e X.env) :: starEach [] X.env := by rfl) : PED J X (.Call (.Name "min" p) [e] [] pos) δ (.int (mnL ns)) δ1 :=
  ped_lB (he := he) (cr_min hc) hm PyProof.Rows.boot_min hg ha fun F B H σ l xs S h r Q k => by
    have ex := dpa_ints r
    subst ex
    refine ⟨l, ns, rfl, h, List.length_pos_iff.mpr hne, fun m h1 h2 => ?_⟩
    have em : m = mnL ns := Int.le_antisymm (h2 _ (mnL_mem hne)) (mnL_le h1)
    rw [em]
    exact k _ B H (Same.refl B) S (.int _)
theorem ped_sumL {ns : List Int} (hc : X.calm = true) (hm : X.mg "sum" = none) (ha : PLD J X e δ (ns.map .int) δ1) (hg : Gl X "sum" := by rfl) (he : starEach [e] X.env = (false, eval e X.env) :: starEach [] X.env := by rfl) : PED J X (.Call (.Name "sum" p) [e] [] pos) δ (.int ns.sum) δ1 :=
  ped_lB (he := he) (cr_sum hc) hm PyProof.Rows.boot_sum hg ha fun F B H σ l xs S h r Q k => by
    have ex := dpa_ints r
    subst ex
    exact ⟨l, ns, rfl, h, k _ B H (Same.refl B) S (.int _)⟩
/-- sum of a tuple of ints -/
def rSumT (K : PySem.W.Frag) : List V → Hp → VK → Prop := fun vs H Q => ∃ (l : Addr) (ns : List Int), vs = [.ref l] ∧ SqT K H l (ns.map V.int) ∧ Q (.int ns.sum) H
theorem cr_sumT (hc : X.calm = true) : CallR X (.builtin "sum") (rSumT X.K) := by
  intro pins s σ H vs us Q I r h
  obtain ⟨l, ns, rfl, hs, q⟩ := h
  obtain ⟨its, rv, hl, _⟩ := I.tuple hs
  rw [Vals.ref1 r]
  have hi := rv.ints
  obtain ⟨zs, ez⟩ := hi.allInts.items
  have hn : numsOf (intItems zs).toList = ns := by rw [← ez]; exact hi.numsOf
  rw [nums_intItems] at hn
  have hl' : s.heap.IsTuple l its.toArray := hl
  rw [ez] at hl'
  refine PySem.W.ktm_sumG (I.ok.hd hc) hl' fun h' tk t' hk => ?_
  refine ⟨.int ns.sum, H, I.kept hk, ⟨t', ?_⟩, q⟩
  rw [preSum_eq, List.take_of_length_le (by simp), hn]
theorem ped_sumT {ns : List Int} (hc : X.calm = true) (hm : X.mg "sum" = none) (ha : PED J X e δ (.tuple (ns.map .int)) δ1) (hg : Gl X "sum" := by rfl) (he : starEach [e] X.env = (false, eval e X.env) :: starEach [] X.env := by rfl) : PED J X (.Call (.Name "sum" p) [e] [] pos) δ (.int ns.sum) δ1 :=
  ped_cB (he := he) (cr_sumT hc) hm PyProof.Rows.boot_sum hg (pad_cons ha pad_nil he) fun F B H σ vs S r Q k => by
    cases r with
    | cons r1 t =>
      cases t
      obtain ⟨l, xs, rfl, h1, h2⟩ := dp_tup r1
      have ex := dpa_ints h2
      subst ex
      exact ⟨l, ns, rfl, sqT_ext S.hd.ex h1, k _ B H (Same.refl B) S (.int _)⟩
/-! ### int, tuple -/
theorem ped_intI {i : Int} (hm : X.mg "int" = none) (ha : PED J X e δ (.int i) δ1) (hg : Gl X "int" := by rfl) (he : starEach [e] X.env = (false, eval e X.env) :: starEach [] X.env := by rfl) : PED J X (.Call (.Name "int" p) [e] [] pos) δ (.int i) δ1 :=
  ped_cT (he := he) call_int1 hm PyProof.Rows.boot_int hg (pad_cons ha pad_nil he) fun F B H σ vs S r Q k => by
    cases r with
    | cons r1 t =>
      cases t
      exact .inl ⟨i, by rw [dp_int r1], k _ B H (Same.refl B) S (.int _)⟩
theorem ped_intB {c : Bool} (hm : X.mg "int" = none) (ha : PED J X e δ (.bool c) δ1) (hg : Gl X "int" := by rfl) (he : starEach [e] X.env = (false, eval e X.env) :: starEach [] X.env := by rfl) : PED J X (.Call (.Name "int" p) [e] [] pos) δ (.int (if c then 1 else 0)) δ1 :=
  ped_cT (he := he) call_int1 hm PyProof.Rows.boot_int hg (pad_cons ha pad_nil he) fun F B H σ vs S r Q k => by
    cases r with
    | cons r1 t =>
      cases t
      exact .inr ⟨c, by rw [dp_bool r1], k _ B H (Same.refl B) S (.int _)⟩
theorem ped_tupL {ds : List PyData} (hm : X.mg "tuple" = none) (ha : PLD J X e δ ds δ1) (hg : Gl X "tuple" := by rfl) (he : starEach [e] X.env = (false, eval e X.env) :: starEach [] X.env := by rfl) : PED J X (.Call (.Name "tuple" p) [e] [] pos) δ (.tuple ds) δ1 :=
  ped_lT (he := he) call_tuple_of hm PyProof.Rows.boot_tuple hg ha fun F B H σ l xs S h r Q k => ⟨l, xs, rfl, .inl ⟨h, fun q hq =>
    have bq := S.hd.free hq
    k _ (upd B q (.tup xs)) _ (same_upd bq) (S.alloc hq) (.tup (.of upd_same) (dpa_ext (same_upd bq) _ _ r))⟩⟩
/-- tuple(range(n)) -/
theorem dpa_rg {K : PySem.W.Frag} {H : Hp} (n : Nat) : DpAll K H (rgV 0 (n : Int)) ((List.range n).map fun i => .int (i : Nat)) := by
  have e1 : rgV 0 (n : Int) = ((List.range n).map fun i => ((i : Nat) : Int)).map V.int := by
    unfold rgV
    rw [List.map_map]
    have : ((n : Int) - 0).toNat = n := by omega
    rw [this]
    refine List.map_congr_left fun i _ => ?_
    show V.int (0 + (i : Int)) = V.int (i : Int)
    rw [Int.zero_add]
  have e2 : ((List.range n).map fun i => PyData.int (i : Nat)) = ((List.range n).map fun i => ((i : Nat) : Int)).map PyData.int := by
    rw [List.map_map]
    rfl
  rw [e1, e2]
  exact dpa_of_ints _
theorem ped_tupRg {n : Nat} {p2 pos2 : Pos} (hc : X.calm = true) (hm : X.mg "tuple" = none) (hm2 : X.mg "range" = none) (ha : PED J X e δ (.int n) δ1) (hn : n ≤ 1000) (hg : Gl X "tuple" := by rfl) (hg2 : Gl X "range" := by rfl)
    (he : starEach [e] X.env = (false, eval e X.env) :: starEach [] X.env := by rfl) (he2 : starEach [.Call (.Name "range" p2) [e] [] pos2] X.env = (false, eval (.Call (.Name "range" p2) [e] [] pos2) X.env) :: starEach [] X.env := by rfl) : PED J X (.Call (.Name "tuple" p) [.Call (.Name "range" p2) [e] [] pos2] [] pos) δ (.tuple ((List.range n).map fun i => .int (i : Nat))) δ1 := fun F B H σ S Q k =>
  we_of (pe_tupRg hc hg hm (prg_1 hg2 hm2 pe_we he) he2) (ha F B H σ S _ fun v B1 H1 e1 S1 r1 => ⟨n, dp_int r1, RgOk.of_le (by decide) (by omega) (by decide) (by omega), fun q hq =>
    have bq := S1.hd.free hq
    k _ (upd B1 q (.tup (rgV 0 n))) _ (e1.trans (same_upd bq)) (S1.alloc hq) (.tup (.of upd_same) (dpa_rg n))⟩)
/-! ### isinstance -/
def tyD : PyData → String
  | .none => "NoneType"
  | .bool _ => "bool"
  | .int _ => "int"
  | .str _ => "str"
  | .list _ => "list"
  | .tuple _ => "tuple"
  | .dict _ => "dict"
theorem tyx_dp {K : PySem.W.Frag} {H : Hp} {v : V} {d : PyData} (h : Dp K H v d) : TyX K H v (.type (tyD d)) := by
  cases h with
  | non => exact .base .non
  | bl c => exact .base (.bl c)
  | int i => exact .base (.int i)
  | str y => exact .base (.str y)
  | lst h _ =>
    rcases h with (h | ⟨o, h⟩) | ⟨o, its, n, h, hc, _⟩
    · exact .base (.lst h)
    · exact .base (.frz h)
    · exact .kList h hc
  | tup h _ =>
    rcases h with (h | ⟨o, h⟩) | ⟨o, its, n, h, hc, _⟩
    · exact .base (.tup h)
    · exact .fTuple h
    · exact .kTuple h hc
theorem ped_isi {d : PyData} {y : Str} {py : Pos} {c : Bool} (hm : X.mg "isinstance" = none) (hmy : X.mg y = none) (hvy : bootBuiltins y = some (.type T)) (ha : PED J X a δ d δ1) (hk : kitB (tyD d) T = some c) (hg : Gl X "isinstance" := by rfl) (hgy : Gl X y := by rfl) (hny : y ≠ "__name__" := by decide) (hdy : (y == ("__debug__" : Str)) = false := by decide)
    (he : starEach [a, .Name y py] X.env = (false, eval a X.env) :: starEach [.Name y py] X.env := by rfl) (he2 : starEach [.Name y py] X.env = (false, eval (.Name y py) X.env) :: starEach [] X.env := by rfl)
    (hpl : (backTo pos (starEach [.Name y py] X.env)).any (·.1) = false := by rfl) : PED J X (.Call (.Name "isinstance" p) [a, .Name y py] [] pos) δ (.bool c) δ1 := fun F B H σ S Q k =>
  we_of (pe_callB call_isi hg hm PyProof.Rows.boot_isinstance (pa_cons pe_we (pa_cons (pe_bltn (v := .ty T) hgy hmy hvy rfl hny hdy) pa_nil he2) he) (by decide) (by decide) he hpl)
    (ha F B H σ S _ fun v B1 H1 e1 S1 r1 => ⟨v, .ty T, .type (tyD d), .type T, c, rfl, .ty T, tyx_dp (S1.dp r1), kit_ty hk, k _ B1 H1 e1 S1 (.bl _)⟩)
end
end Fd
/-! Statements, targets, loops, defs. -/
namespace Fd
open PySem PySem.Spec PyProof.Rows L2
/-- how a statement may end -/
inductive Out where
  | nx (δ : DS)
  | rt (d : PyData) (δ : DS)
  | bk (δ : DS)
  | ct (δ : DS)
def Sat (K : PySem.W.Frag) (J : JJ) (F : FT) (B : Hp) (D : Ends) : Out → Prop
  | .nx δ => ∀ (σ : L2.St) (B' H' : Hp), Same B B' → Sd K J F B' H' σ δ → D.nx σ H'
  | .rt d δ => ∀ (v : V) (σ : L2.St) (B' H' : Hp), Same B B' → Sd K J F B' H' σ δ → Dp K B' v d → D.rt v H'
  | .bk δ => ∀ (σ : L2.St) (B' H' : Hp), Same B B' → Sd K J F B' H' σ δ → D.bk σ H'
  | .ct δ => ∀ (σ : L2.St) (B' H' : Hp), Same B B' → Sd K J F B' H' σ δ → D.ct σ H'
theorem Sat.mono {K : PySem.W.Frag} {J : JJ} {F : FT} {B B1 : Hp} {D : Ends} {o : Out} (e : Same B B1) (h : Sat K J F B D o) : Sat K J F B1 D o := by
  cases o with
  | nx δ => exact fun σ B' H' e1 => h σ B' H' (e.trans e1)
  | rt d δ => exact fun v σ B' H' e1 => h v σ B' H' (e.trans e1)
  | bk δ => exact fun σ B' H' e1 => h σ B' H' (e.trans e1)
  | ct δ => exact fun σ B' H' e1 => h σ B' H' (e.trans e1)
abbrev OP := Out → Prop
def PSD (J : JJ) (X : Cx) (st : Stmt) (δ : DS) (Φ : OP) : Prop :=
  ∀ (F : FT) (B H : Hp) (σ : L2.St) (D : Ends), Sd X.K J F B H σ δ → (∀ o, Φ o → Sat X.K J F B D o) → Ws X st D σ H
def PBD (J : JJ) (X : Cx) (sts : List Stmt) (δ : DS) (Φ : OP) : Prop :=
  ∀ (F : FT) (B H : Hp) (σ : L2.St) (D : Ends), Sd X.K J F B H σ δ → (∀ o, Φ o → Sat X.K J F B D o) → Wss X sts D σ H
/-- what follows a statement -/
def thn (P : DS → Prop) (Φ : OP) : OP
  | .nx δ => P δ
  | .rt d δ => Φ (.rt d δ)
  | .bk δ => Φ (.bk δ)
  | .ct δ => Φ (.ct δ)
/-- what a loop's turn may end in -/
def lop (N : DS → Prop) (Φ : OP) : OP
  | .nx δ => N δ
  | .ct δ => N δ
  | .bk δ => Φ (.nx δ)
  | .rt d δ => Φ (.rt d δ)
/-- what a def's body may end in -/
def fin (d : PyData) : OP
  | .rt d' _ => d' = d
  | .nx _ => d = .none
  | _ => False
section
variable {J : JJ} {X : Cx} {δ δ1 δ2 δ3 : DS} {Φ : OP} {pos : Pos} {a b e : Expr} {st : Stmt} {sts : List Stmt}
theorem pbd_nil (k : Φ (.nx δ)) : PBD J X [] δ Φ := fun F B H σ D S h => wss_of pss_nil (h _ k σ B H (Same.refl B) S)
theorem pbd_cons (h : PSD J X st δ (thn (fun δ' => PBD J X sts δ' Φ) Φ)) : PBD J X (st :: sts) δ Φ := fun F B H σ D S k =>
  wss_of (pss_cons ps_ws pss_wss) (h F B H σ { D with nx := Wss X sts D } S fun o ho => by
    cases o with
    | nx δ' => exact fun σ' B' H' e1 S' => (show PBD J X sts δ' Φ from ho) F B' H' σ' D S' fun o' ho' => (k o' ho').mono e1
    | rt d δ' => exact k (.rt d δ') ho
    | bk δ' => exact k (.bk δ') ho
    | ct δ' => exact k (.ct δ') ho)
theorem pbd_one (h : PSD J X st δ Φ) : PBD J X [st] δ Φ := fun F B H σ D S k => wss_of (pss_one ps_ws) (h F B H σ D S k)
theorem psd_pass (k : Φ (.nx δ)) : PSD J X (.Pass pos) δ Φ := fun F B H σ D S h => ws_of ps_pass (h _ k σ B H (Same.refl B) S)
theorem psd_break (k : Φ (.bk δ)) : PSD J X (.Break pos) δ Φ := fun F B H σ D S h => ws_of ps_break (h _ k σ B H (Same.refl B) S)
theorem psd_continue (k : Φ (.ct δ)) : PSD J X (.Continue pos) δ Φ := fun F B H σ D S h => ws_of ps_continue (h _ k σ B H (Same.refl B) S)
theorem psd_ret {d : PyData} (h : PED J X e δ d δ1) (k : Φ (.rt d δ1)) : PSD J X (.Return (some e) pos) δ Φ := fun F B H σ D S hk =>
  ws_of (ps_ret pe_we) (h F B H σ S _ fun v B1 H1 e1 S1 r1 => hk _ k v σ B1 H1 e1 S1 r1)
/-- return an own list -/
theorem psd_retO {x : Str} {px : Pos} {p : Addr} {ds : List PyData} (i : Nat) (k : Φ (.rt (.list ds) (δ.set i .un))) (hδ : δ[i]? = some (.ow p ds) := by rfl) (hN : X.N[i]? = some x := by rfl) (hv : Vis X.env.scope x := by first | exact Or.inl rfl | exact Or.inr (Or.inl rfl) | exact Or.inr (Or.inr rfl))
    (hd : (x == ("__debug__" : Str)) = false := by decide) (hcd : (x == ("__classdict__" : Str)) = false := by decide) : PSD J X (.Return (some (.Name x px)) pos) δ Φ := fun F B H σ D S hk => by
  obtain ⟨h1, h2, h3, xs, h4, h5⟩ := S.ow i p ds hδ
  have S1 : Sd X.K J F B H σ (δ.set i .un) := by
    have hx : i < σ.length := by rw [S.len]; exact (List.getElem?_eq_some_iff.mp hδ).1
    have z := S.setu i (some (.ref p))
    have e : σ.set i (some (.ref p)) = σ := by
      apply List.ext_getElem?
      intro j
      by_cases hj : i = j
      · subst hj
        rw [List.getElem?_set_self hx, h1]
      · rw [List.getElem?_set_ne hj]
    rw [e] at z
    exact z
  have n1 : NotOw (δ.set i .un) p := fun j q es h => by
    rcases get_set_cases h with ⟨_, z, _⟩ | ⟨hj, h⟩
    · cases z
    · exact S.ne j i q p es ds hj h hδ
  exact ws_of (ps_ret (pe_var hN hv hd hcd)) ⟨_, h1, hk _ k _ σ (upd B p (.lst xs)) H (same_upd h2) (S1.adopt h4 h2 h3 n1) (.lst (.of upd_same) (dpa_ext (same_upd h2) _ _ h5))⟩
theorem psd_if {c : Expr} {t u : List Stmt} {q : Bool} (hc : PTD J X c δ q δ1) (h1 : q = true → PBD J X t δ1 Φ) (h2 : q = false → PBD J X u δ1 Φ) : PSD J X (.If c t u pos) δ Φ := fun F B H σ D S k =>
  ws_of (ps_if pt_wt pss_wss pss_wss) (hc F B H σ S _ fun B1 H1 e1 S1 => by
    cases q with
    | true => exact iteT (h1 rfl F B1 H1 σ D S1 fun o ho => (k o ho).mono e1)
    | false => exact iteF (h2 rfl F B1 H1 σ D S1 fun o ho => (k o ho).mono e1))
/-! ### stores -/
theorem psd_set {x : Str} {px : Pos} {d : PyData} (i : Nat) (h : PED J X e δ d δ1) (k : Φ (.nx (δ1.set i (.kn d)))) (hN : X.N.Nodup) (hi : X.N[i]? = some x := by rfl) (hx : Loc X.env.scope x := by first | exact Or.inl rfl | exact Or.inr rfl)
    (hs : swapsWith e (some (.Name x px)) pos.line X.env = pure false := by rfl) (hf : X.fn x = true ∨ X.env.scope.names.lookup x = some .local := by first | exact .inl rfl | exact .inr rfl) : PSD J X (.Assign [.Name x px] e pos) δ Φ := fun F B H σ D S hk =>
  ws_of (ps_set hN hi hx pe_we hs hf) (h F B H σ S _ fun v B1 H1 e1 S1 r1 => hk _ k _ B1 H1 e1 (S1.setk i r1))
theorem psd_setO {x : Str} {px : Pos} {ds : List PyData} (i : Nat) (h : PEF J X e δ ds δ1) (k : ∀ p : Addr, Φ (.nx (δ1.set i (.ow p ds)))) (hN : X.N.Nodup) (hi : X.N[i]? = some x := by rfl) (hx : Loc X.env.scope x := by first | exact Or.inl rfl | exact Or.inr rfl)
    (hs : swapsWith e (some (.Name x px)) pos.line X.env = pure false := by rfl) (hf : X.fn x = true ∨ X.env.scope.names.lookup x = some .local := by first | exact .inl rfl | exact .inr rfl) : PSD J X (.Assign [.Name x px] e pos) δ Φ := fun F B H σ D S hk =>
  ws_of (ps_set hN hi hx pe_we hs hf) (h F B H σ S _ fun p xs B1 H1 e1 S1 hp bp fp np r1 => hk _ (k p) _ B1 H1 e1 (S1.seto i hp bp fp np r1))
/-- own[k] = e -/
theorem psd_setItem {x : Str} {px px' : Pos} {ix : Expr} {p : Addr} {ds : List PyData} {d : PyData} {z : Int} {j : Nat} (i : Nat) (h : PED J X e δ d δ1) (hx : PED J X ix δ1 (.int z) δ2) (hj : ixN ds.length z = some j) (k : Φ (.nx (δ2.set i (.ow p (ds.set j d)))))
    (h1 : ∃ ds', δ1[i]? = some (.ow p ds') := by exact ⟨_, rfl⟩) (h2 : δ2[i]? = some (.ow p ds) := by rfl) (hN : X.N[i]? = some x := by rfl) (hv : Vis X.env.scope x := by first | exact Or.inl rfl | exact Or.inr (Or.inl rfl) | exact Or.inr (Or.inr rfl))
    (hd : (x == ("__debug__" : Str)) = false := by decide) (hcd : (x == ("__classdict__" : Str)) = false := by decide)
    (ha : ∀ v, assign (.Subscript (.Name x px) ix px') X.env v = (do
      let ov ← holding [v] (eval (.Name x px) X.env)
      let iv ← holding [v, ov] (eval ix X.env)
      standAt px'
      holding [v, ov, iv] (setItem ov iv v)
      release [v, ov, iv] []) := by intro _; rfl)
    (hs : swapsWithSole [.Subscript (.Name x px) ix px'] e pos.line X.env = pure false := by rfl) (hw : swappedStores [.Subscript (.Name x px) ix px'] e X.env = pure none := by rfl)
    (hm : (assignEach [.Subscript (.Name x px) ix px'] X.env).map (·.2) = [assign (.Subscript (.Name x px) ix px') X.env] := by rfl) : PSD J X (.Assign [.Subscript (.Name x px) ix px'] e pos) δ Φ := fun F B H σ D S hk =>
  ws_of (ps_asg pe_we (pg_sub (pe_var hN hv hd hcd) pe_we set_list ha) hs hw hm) (h F B H σ S _ fun v B1 H1 e1 S1 r1 => by
    obtain ⟨ds', h1⟩ := h1
    refine ⟨_, (S1.ow i p ds' h1).1, hx F B1 H1 σ S1 _ fun u B2 H2 e2 S2 r2 => ?_⟩
    obtain ⟨_, _, _, xs, g1, g2⟩ := S2.ow i p ds h2
    exact ⟨p, xs, z, j, rfl, dp_int r2, g1, by rw [dpa_len g2]; exact hj, hk _ k _ B2 _ (e1.trans e2) (S2.write h2 (dpa_set j g2 (dp_ext e2 _ _ r1)))⟩)
/-- own.append(e) -/
theorem psd_app {x : Str} {px pa pc : Pos} {p : Addr} {ds : List PyData} {d : PyData} (i : Nat) (h : PED J X e δ d δ1) (hz : ds.length < sizeLine) (k : Φ (.nx (δ1.set i (.ow p (ds ++ [d])))))
    (h1 : ∃ ds', δ[i]? = some (.ow p ds') := by exact ⟨_, rfl⟩) (h2 : δ1[i]? = some (.ow p ds) := by rfl) (hN : X.N[i]? = some x := by rfl) (hv : Vis X.env.scope x := by first | exact Or.inl rfl | exact Or.inr (Or.inl rfl) | exact Or.inr (Or.inr rfl))
    (hd : (x == ("__debug__" : Str)) = false := by decide) (hcd : (x == ("__classdict__" : Str)) = false := by decide)
    (hbase : attributeBase (.Name x px) "append" X.env (eval (.Name x px) X.env) = eval (.Name x px) X.env := by rfl)
    (hfew : ((backTo pc (starEach [e] X.env)).all (fun x => !x.1) && (backToKw pc (keywordEach [] X.env)).all (fun x => x.1.isSome) && decide (([e] : List Expr).length + ([] : List Keyword).length + (if ([] : List Keyword).isEmpty then 0 else 1) < 30)) = true := by rfl)
    (hline : (pa.endLine == pc.line) = true := by rfl) (hs : starEach [e] X.env = (false, eval e X.env) :: starEach [] X.env := by rfl) (hplain : (backTo pc (starEach [] X.env)).any (·.1) = false := by rfl)
    (hsw : swapsWith (.Call (.Attribute (.Name x px) "append" pa) [e] [] pc) none pos.line X.env = pure false := by rfl) : PSD J X (.Expr (.Call (.Attribute (.Name x px) "append" pa) [e] [] pc) pos) δ Φ := fun F B H σ D S hk =>
  ws_of (ps_expr (pe_bm (hbase := hbase) (hfew := hfew) (hline := hline) (hs := hs) (hplain := hplain) PySem.F.plainAttrs_list PySem.F.slot_list_append PySem.F.type_list_append mt_append (pe_var hN hv hd hcd) (pa_cons pe_we pa_nil hs)) hsw) (by
    obtain ⟨ds', h1⟩ := h1
    obtain ⟨g0, _, _, xs0, g00, _⟩ := S.ow i p ds' h1
    refine ⟨_, g0, .inl ⟨rfl, _, .of g00⟩, h F B H σ S _ fun v B1 H1 e1 S1 r1 => ?_⟩
    obtain ⟨_, _, _, xs, g1, g2⟩ := S1.ow i p ds h2
    exact ⟨p, xs, v, rfl, rfl, g1, by rw [dpa_len g2]; exact hz, hk _ k _ B1 _ e1 (S1.write h2 (dpa_app g2 (.cons r1 .nil)))⟩)
/-- a, b = e1, e2 -/
theorem psd_par {x y : Str} {px py pt : Pos} {kt k2 : Nat} {pt2 : Pos} {d1 d2 : PyData} (i j : Nat) (hc : X.calm = true) (hN : X.N.Nodup) (h : PAD J X [a, b] δ [d1, d2] δ1) (k : Φ (.nx ((δ1.set i (.kn d1)).set j (.kn d2)))) (hij : i ≠ j := by decide)
    (hi : X.N[i]? = some x := by rfl) (hj : X.N[j]? = some y := by rfl) (hx : X.env.scope.names.lookup x = some .local := by rfl) (hy : X.env.scope.names.lookup y = some .local := by rfl)
    (hw : swappedStores [.Tuple [.Name x px, .Name y py] kt pt] (.Tuple [a, b] k2 pt2) X.env = pure (some [x, y]) := by rfl)
    (hs : swapsWithSole [.Tuple [.Name x px, .Name y py] kt pt] (.Tuple [a, b] k2 pt2) pos.line X.env = pure false := by rfl) : PSD J X (.Assign [.Tuple [.Name x px, .Name y py] kt pt] (.Tuple [a, b] k2 pt2) pos) δ Φ := fun F B H σ D S hk =>
  ws_of (ps_par hc hN hi hj hij hx hy pa_wa hw hs) (h F B H σ S _ fun vs B1 H1 e1 S1 r1 => by
    cases r1 with
    | cons r1 t =>
      cases t with
      | cons r2 t =>
        cases t
        exact ⟨_, _, rfl, hk _ k _ B1 H1 e1 ((S1.setk i r1).setk j r2)⟩)
/-! ### targets -/
/-- the slots but js are as they were -/
def Agr (js : List Nat) (σ σ' : L2.St) : Prop := σ'.length = σ.length ∧ ∀ i, i ∉ js → σ'[i]? = σ[i]?
def PGD (J : JJ) (X : Cx) (tg : Expr) (d : PyData) (δ : DS) (js : List Nat) (δ' : DS) : Prop :=
  ∀ (F : FT) (B H : Hp) (σ : L2.St) (v : V), Sd X.K J F B H σ δ → Dp X.K B v d → ∀ Q : L2.St → Hp → Prop, (∀ σ' : L2.St, Agr js σ σ' → Sd X.K J F B H σ' δ' → Q σ' H) → Wg X tg v σ H Q
def Wgs (X : Cx) (es : List Expr) : TGs := fun vs σ H Q => ∀ (pins : List (Addr × Obj)) (s : Shared) (us : List Value), Inv X pins σ H s → Vals vs us → wpAny (model X.prog X.w) X.A (assignInOrder ((assignEach es X.env).map (·.2)) us) (fun _ s' => ∃ σ' H', Inv X pins σ' H' s' ∧ Q σ' H') X.xe s
theorem pgs_wgs {es : List Expr} : PGs X es (Wgs X es) := ⟨fun pins s σ H vs us Q I r h => h pins s us I r⟩
theorem wgs_of {es : List Expr} {t : TGs} (h : PGs X es t) {vs : List V} {σ : L2.St} {H : Hp} {Q : L2.St → Hp → Prop} (q : t vs σ H Q) : Wgs X es vs σ H Q := fun pins s us I r => h.run pins s σ H vs us Q I r q
def PGsD (J : JJ) (X : Cx) (es : List Expr) (ds : List PyData) (δ : DS) (js : List Nat) (δ' : DS) : Prop :=
  ∀ (F : FT) (B H : Hp) (σ : L2.St) (vs : List V), Sd X.K J F B H σ δ → DpAll X.K B vs ds → ∀ Q : L2.St → Hp → Prop, (∀ σ' : L2.St, Agr js σ σ' → Sd X.K J F B H σ' δ' → Q σ' H) → Wgs X es vs σ H Q
theorem pgd_name {x : Str} {d : PyData} (i : Nat) (hN : X.N.Nodup) (hi : X.N[i]? = some x := by rfl) (hx : Loc X.env.scope x := by first | exact Or.inl rfl | exact Or.inr rfl) (hf : X.fn x = true ∨ X.env.scope.names.lookup x = some .local := by first | exact .inl rfl | exact .inr rfl) :
    PGD J X (.Name x pos) d δ [i] (δ.set i (.kn d)) := fun F B H σ v S r Q k => wg_of (pg_name hN hi hx hf) (k _ ⟨List.length_set, fun j hj => List.getElem?_set_ne (fun e => hj (by rw [e]; exact List.mem_singleton.mpr rfl))⟩ (S.setk i r))
theorem pgsd_nil : PGsD J X [] [] δ [] δ := fun F B H σ vs S r Q k => by
  cases r
  exact wgs_of pgs_nil ⟨rfl, k σ ⟨rfl, fun _ _ => rfl⟩ S⟩
theorem pgsd_cons {es : List Expr} {d : PyData} {ds : List PyData} {js ks : List Nat} (h1 : PGD J X e d δ js δ1) (h2 : PGsD J X es ds δ1 ks δ2) (hs : (assignEach (e :: es) X.env).map (·.2) = assign e X.env :: (assignEach es X.env).map (·.2) := by rfl) : PGsD J X (e :: es) (d :: ds) δ (js ++ ks) δ2 := fun F B H σ vs S r Q k => by
  cases r with
  | cons r1 r2 =>
    exact wgs_of (pgs_cons pg_wg pgs_wgs hs) ⟨_, _, rfl, h1 F B H σ _ S r1 _ fun σ1 e1 S1 => h2 F B H σ1 _ S1 r2 _ fun σ2 e2 S2 => k σ2 ⟨e2.1.trans e1.1, fun i hi => by
      rw [List.mem_append, not_or] at hi
      rw [e2.2 i hi.2, e1.2 i hi.1]⟩ S2⟩
theorem pgd_tup {es : List Expr} {n : Nat} {ds : List PyData} {js : List Nat} (hc : X.calm = true) (h : PGsD J X es ds δ js δ1) (hn : (assignEach es X.env).length = ds.length := by rfl) (hst : (assignEach es X.env).findIdx? (·.1) = none := by rfl) : PGD J X (.Tuple es n pos) (.tuple ds) δ js δ1 := fun F B H σ v S r Q k => by
  obtain ⟨l, xs, rfl, h1, h2⟩ := dp_tup r
  exact wg_of (pg_tup hc pgs_wgs hn hst) ⟨l, xs, rfl, sqT_ext S.hd.ex h1, dpa_len h2, h F B H σ xs S h2 Q k⟩
theorem psd_asg {tg : Expr} {d : PyData} {js : List Nat} (h : PED J X e δ d δ1) (hg : PGD J X tg d δ1 js δ2) (k : Φ (.nx δ2)) (hs : swapsWithSole [tg] e pos.line X.env = pure false := by rfl) (hw : swappedStores [tg] e X.env = pure none := by rfl)
    (h1 : (assignEach [tg] X.env).map (·.2) = [assign tg X.env] := by rfl) : PSD J X (.Assign [tg] e pos) δ Φ := fun F B H σ D S hk =>
  ws_of (ps_asg pe_we pg_wg hs hw h1) (h F B H σ S _ fun v B1 H1 e1 S1 r1 => hg F B1 H1 σ v S1 r1 _ fun σ' _ S2 => hk _ k σ' B1 H1 e1 S2)
/-! ### what is walked -/
structure ItD (K : PySem.W.Frag) (T : It) (B : Hp) (ds : List PyData) : Prop where
  go : ∀ i H, Same B H → i < ds.length → T.go i H
  stop : ∀ H, Same B H → T.stop ds.length H
  yld : ∀ (i : Nat) (d : PyData) (B1 H : Hp) (x : V) (H' : Hp), ds[i]? = some d → Same B B1 → Same B1 H → T.yld i H x H' → (H' = H ∧ Dp K B1 x d) ∨ ∃ q xs es, H q = none ∧ x = .ref q ∧ H' = upd H q (.tup xs) ∧ d = .tuple es ∧ DpAll K B1 xs es
def PID (J : JJ) (X : Cx) (tg iter : Expr) (δ : DS) (ds : List PyData) (δ' : DS) : Prop :=
  ∃ wi, PI X tg iter wi ∧ ∀ (F : FT) (B H : Hp) (σ : L2.St), Sd X.K J F B H σ δ → ∀ R : It → Hp → Prop, (∀ (T : It) (B' H' : Hp), Same B B' → Sd X.K J F B' H' σ δ' → ItD X.K T B' ds → R T H') → wi σ H R
theorem itd_list {K : PySem.W.Frag} {B : Hp} {l : Addr} {xs : List V} {ds : List PyData} (h : SqL K B l xs) (r : DpAll K B xs ds) : ItD K (Itl K l) B ds where
  go := fun i H e hi => ⟨xs, xs[i]'(by rw [dpa_len r]; exact hi), e.seq h, List.getElem?_eq_getElem _⟩
  stop := fun H e => ⟨xs, e.seq h, by rw [dpa_len r]; exact Nat.le_refl _⟩
  yld := fun i d B1 H x H' hd e1 e2 ⟨y1, y2⟩ => by
    obtain ⟨v, h1, h2⟩ := dpa_get r hd
    have h3 := y2 xs (e2.seq (e1.seq h))
    rw [h1] at h3
    cases h3
    exact .inl ⟨y1, dp_ext e1 _ _ h2⟩
theorem itd_tup {K : PySem.W.Frag} {B : Hp} {l : Addr} {xs : List V} {ds : List PyData} (h : SqT K B l xs) (r : DpAll K B xs ds) : ItD K (Itt K l) B ds where
  go := fun i H e hi => ⟨xs, xs[i]'(by rw [dpa_len r]; exact hi), sqT_ext e h, List.getElem?_eq_getElem _⟩
  stop := fun H e => ⟨xs, sqT_ext e h, by rw [dpa_len r]; exact Nat.le_refl _⟩
  yld := fun i d B1 H x H' hd e1 e2 ⟨y1, y2⟩ => by
    obtain ⟨v, h1, h2⟩ := dpa_get r hd
    have h3 := y2 xs (sqT_ext e2 (sqT_ext e1 h))
    rw [h1] at h3
    cases h3
    exact .inl ⟨y1, dp_ext e1 _ _ h2⟩
theorem pid_list {tg : Expr} {ds : List PyData} (h : PED J X e δ (.list ds) δ1) : PID J X tg e δ ds δ1 :=
  ⟨_, pi_list pe_we, fun F B H σ S R k => h F B H σ S _ fun v B1 H1 e1 S1 r1 => by
    obtain ⟨l, xs, rfl, h1, h2⟩ := dp_list r1
    exact ⟨l, rfl, ⟨xs, S1.hd.ex.seq h1⟩, k _ B1 H1 e1 S1 (itd_list h1 h2)⟩⟩
theorem pid_tup {tg : Expr} {ds : List PyData} (h : PED J X e δ (.tuple ds) δ1) : PID J X tg e δ ds δ1 :=
  ⟨_, pi_tup pe_we, fun F B H σ S R k => h F B H σ S _ fun v B1 H1 e1 S1 r1 => by
    obtain ⟨l, xs, rfl, h1, h2⟩ := dp_tup r1
    exact ⟨l, rfl, ⟨xs, sqT_ext S1.hd.ex h1⟩, k _ B1 H1 e1 S1 (itd_tup h1 h2)⟩⟩
/-- lo, lo + c, .. (n of them) -/
def rgD (lo c : Int) (n : Nat) : List PyData := (List.range n).map fun i => .int (lo + (i : Nat) * c)
theorem rgD_len (lo c : Int) (n : Nat) : (rgD lo c n).length = n := by unfold rgD; rw [List.length_map, List.length_range]
theorem rgD_get {lo c : Int} {n i : Nat} {d : PyData} (h : (rgD lo c n)[i]? = some d) : i < n ∧ d = .int (lo + (i : Nat) * c) := by
  unfold rgD at h
  rw [List.getElem?_map] at h
  cases q : (List.range n)[i]? with
  | none => rw [q] at h; cases h
  | some j =>
    rw [q] at h
    obtain ⟨h1, h2⟩ := List.getElem?_eq_some_iff.mp q
    rw [List.length_range] at h1
    rw [List.getElem_range] at h2
    subst h2
    exact ⟨h1, (Option.some.inj h).symm⟩
theorem itd_rangeC {K : PySem.W.Frag} {B : Hp} {lo c : Int} {n : Nat} : ItD K (Itc lo c n) B (rgD lo c n) where
  go := fun i H e hi => by rw [rgD_len] at hi; exact hi
  stop := fun H e => by rw [rgD_len]; exact Nat.le_refl _
  yld := fun i d B1 H x H' hd e1 e2 ⟨y1, y2⟩ => by
    obtain ⟨h1, rfl⟩ := rgD_get hd
    rw [y2]
    exact .inl ⟨y1, .int _⟩
theorem itd_range {K : PySem.W.Frag} {B : Hp} {lo : Int} {n : Nat} : ItD K (Itr lo n) B (rgD lo 1 n) where
  go := fun i H e hi => by rw [rgD_len] at hi; exact hi
  stop := fun H e => by rw [rgD_len]; exact Nat.le_refl _
  yld := fun i d B1 H x H' hd e1 e2 ⟨y1, y2⟩ => by
    obtain ⟨h1, rfl⟩ := rgD_get hd
    rw [y2, Int.mul_one]
    exact .inl ⟨y1, .int _⟩
theorem pid_range1 {tg : Expr} {p : Pos} {n : Int} (hm : X.mg "range" = none) (h : PED J X e δ (.int n) δ1) (h0 : -(2 ^ 62) ≤ n) (h1 : n < 2 ^ 62) (hg : Gl X "range" := by rfl) (hs : starEach [e] X.env = [(false, eval e X.env)] := by rfl) (hs2 : starEach [e] X.env = (false, eval e X.env) :: starEach [] X.env := by rfl) :
    PID J X tg (.Call (.Name "range" p) [e] [] pos) δ (rgD 0 1 n.toNat) δ1 :=
  ⟨_, pi_range1 hg hm (pa_cons pe_we pa_nil hs2) hs, fun F B H σ S R k => h F B H σ S _ fun v B1 H1 e1 S1 r1 => ⟨n, by rw [dp_int r1], h0, h1, k _ B1 H1 e1 S1 itd_range⟩⟩
theorem pid_range2 {tg : Expr} {p : Pos} {m n : Int} (hm : X.mg "range" = none) (h : PED J X a δ (.int m) δ1) (h' : PED J X b δ1 (.int n) δ2) (hb : -(2 ^ 62) ≤ m ∧ m < 2 ^ 62 ∧ -(2 ^ 62) ≤ n ∧ n < 2 ^ 62) (hg : Gl X "range" := by rfl)
    (hs : starEach [a, b] X.env = [(false, eval a X.env), (false, eval b X.env)] := by rfl) (hs2 : starEach [b] X.env = [(false, eval b X.env)] := by rfl) (hs3 : starEach [a, b] X.env = (false, eval a X.env) :: starEach [b] X.env := by rfl) (hs4 : starEach [b] X.env = (false, eval b X.env) :: starEach [] X.env := by rfl) :
    PID J X tg (.Call (.Name "range" p) [a, b] [] pos) δ (rgD m 1 (n - m).toNat) δ2 :=
  ⟨_, pi_range2 hg hm (pa_cons pe_we (pa_cons pe_we pa_nil hs4) hs3) hs hs2, fun F B H σ S R k => h F B H σ S _ fun v B1 H1 e1 S1 r1 => h' F B1 H1 σ S1 _ fun u B2 H2 e2 S2 r2 => ⟨m, n, by rw [dp_int r1, dp_int r2], hb, k _ B2 H2 (e1.trans e2) S2 itd_range⟩⟩
theorem pid_range3 {tg c : Expr} {p : Pos} {m n z : Int} {q : Nat} (hm : X.mg "range" = none) (h : PED J X a δ (.int m) δ1) (h' : PED J X b δ1 (.int n) δ2) (h'' : PED J X c δ2 (.int z) δ3) (hb : RgC m n z q) (hg : Gl X "range" := by rfl)
    (hs : starEach [a, b, c] X.env = (false, eval a X.env) :: starEach [b, c] X.env := by rfl) (hs2 : starEach [b, c] X.env = (false, eval b X.env) :: starEach [c] X.env := by rfl) (hs3 : starEach [c] X.env = (false, eval c X.env) :: starEach [] X.env := by rfl) (hpl : (backTo pos (starEach [b, c] X.env)).any (·.1) = false := by rfl) :
    PID J X tg (.Call (.Name "range" p) [a, b, c] [] pos) δ (rgD m z q) δ3 :=
  ⟨_, pi_range3 hg hm (pa_cons pe_we (pa_cons pe_we (pa_cons pe_we pa_nil hs3) hs2) hs) hs hpl, fun F B H σ S R k => h F B H σ S _ fun v B1 H1 e1 S1 r1 => h' F B1 H1 σ S1 _ fun u B2 H2 e2 S2 r2 => h'' F B2 H2 σ S2 _ fun w B3 H3 e3 S3 r3 =>
    ⟨m, n, z, q, by rw [dp_int r1, dp_int r2, dp_int r3], hb, k _ B3 H3 ((e1.trans e2).trans e3) S3 itd_rangeC⟩⟩
/-- a turn's item, in the state -/
theorem itd_turn {K : PySem.W.Frag} {F : FT} {T : It} {B0 B H : Hp} {σ : L2.St} {ds : List PyData} {i : Nat} {d : PyData} {x : V} {H' : Hp} (t : ItD K T B0 ds) (hd : ds[i]? = some d) (e : Same B0 B) (S : Sd K J F B H σ δ) (y : T.yld i H x H') : ∃ B', Same B B' ∧ Sd K J F B' H' σ δ ∧ Dp K B' x d := by
  rcases t.yld i d B H x H' hd e S.hd.ex y with ⟨rfl, r⟩ | ⟨q, xs, es, hq, rfl, rfl, rfl, r⟩
  · exact ⟨B, Same.refl B, S, r⟩
  · have bq := S.hd.free hq
    exact ⟨upd B q (.tup xs), same_upd bq, S.alloc hq, .tup (.of upd_same) (dpa_ext (same_upd bq) _ _ r)⟩
/-! ### loops -/
theorem psd_for {tg iter : Expr} {body : List Stmt} {ds : List PyData} (hp : PassesOwn (model X.prog X.w) X.A X.env X.xe) (hc : X.calm = true) (hi : PID J X tg iter δ ds δ1) (I : Nat → DS) (P : Nat → Prop) (h0 : Le δ1 (I 0)) (p0 : P 0)
    (hs : ∀ i d, ds[i]? = some d → P i → ∃ js δ2, PGD J X tg d (I i) js δ2 ∧ PBD J X body δ2 (lop (fun δ' => Le δ' (I (i + 1)) ∧ P (i + 1)) Φ)) (hd : P ds.length → Φ (.nx (I ds.length)))
    (hf : ∀ x, foldedSetIterable iter X.env x = pure x := by intro _; rfl) : PSD J X (.For tg iter body [] pos) δ Φ := fun F B H σ D S hk => by
  obtain ⟨wi, hpi, hw⟩ := hi
  refine ws_of (ps_for hp hc hpi pg_wg pss_wss hf) (hw F B H σ S _ fun T B1 H1 e1 S1 t => ?_)
  refine ⟨fun i m σ' H' => m = ds.length - i ∧ i ≤ ds.length ∧ P i ∧ ∃ B', Same B1 B' ∧ Sd X.K J F B' H' σ' (I i), ⟨_, rfl, Nat.zero_le _, p0, B1, Same.refl _, S1.weak h0⟩, ?_⟩
  rintro i m σ' H' ⟨rfl, hi, pi, B2, e2, S2⟩
  by_cases hlt : i < ds.length
  · have hd1 : ds[i]? = some ds[i] := List.getElem?_eq_getElem hlt
    refine .inr ⟨t.go i H' (e2.trans S2.hd.ex) hlt, fun σ' H' => P (i + 1) ∧ ∃ B', Same B1 B' ∧ Sd X.K J F B' H' σ' (I (i + 1)), ?_, ?_⟩
    · rintro σ3 H3 ⟨p3, B3, e3, S3⟩
      exact ⟨ds.length - (i + 1), by omega, rfl, hlt, p3, B3, e3, S3⟩
    · intro x H3 y
      obtain ⟨B3, e3, S3, r3⟩ := itd_turn t hd1 e2 S2 y
      obtain ⟨js, δ2, hg, hb⟩ := hs i _ hd1 pi
      refine hg F B3 H3 σ' x S3 r3 _ fun σ4 _ S4 => hb F B3 H3 σ4 _ S4 fun o ho => ?_
      cases o with
      | nx δ' => exact fun σ5 B5 H5 e5 S5 => ⟨ho.2, B5, (e2.trans e3).trans e5, S5.weak ho.1⟩
      | ct δ' => exact fun σ5 B5 H5 e5 S5 => ⟨ho.2, B5, (e2.trans e3).trans e5, S5.weak ho.1⟩
      | rt d δ' => exact (hk (.rt d δ') ho).mono (((e1.trans e2).trans e3))
      | bk δ' => exact (hk (.nx δ') ho).mono (((e1.trans e2).trans e3))
  · have e : i = ds.length := by omega
    subst e
    exact .inl ⟨t.stop H' (e2.trans S2.hd.ex), hk _ (hd pi) σ' B2 H' (e1.trans e2) S2⟩
/-- .. the state a function of what a fold has reached -/
theorem psd_fold {α β : Type} {tg iter : Expr} {body : List Stmt} (xs : List α) (enc : α → PyData) (step : β → α → β) (S : β → DS) (P : β → Prop) (b0 : β) (hp : PassesOwn (model X.prog X.w) X.A X.env X.xe) (hc : X.calm = true) (hi : PID J X tg iter δ (xs.map enc) δ1) (h0 : Le δ1 (S b0)) (p0 : P b0)
    (hs : ∀ c x, x ∈ xs → P c → ∃ js δ2, PGD J X tg (enc x) (S c) js δ2 ∧ PBD J X body δ2 (lop (fun δ' => Le δ' (S (step c x)) ∧ P (step c x)) Φ)) (hd : P (xs.foldl step b0) → Φ (.nx (S (xs.foldl step b0))))
    (hf : ∀ x, foldedSetIterable iter X.env x = pure x := by intro _; rfl) : PSD J X (.For tg iter body [] pos) δ Φ := by
  have hl : (xs.map enc).length = xs.length := List.length_map _
  refine psd_for (hf := hf) hp hc hi (fun i => S ((xs.take i).foldl step b0)) (fun i => P ((xs.take i).foldl step b0)) h0 p0 (fun i d hd1 p1 => ?_) (fun p1 => ?_)
  · rw [List.getElem?_map] at hd1
    cases q : xs[i]? with
    | none => rw [q] at hd1; cases hd1
    | some x =>
      rw [q] at hd1
      have e : enc x = d := Option.some.inj hd1
      subst e
      obtain ⟨js, δ2, g1, g2⟩ := hs _ x (List.mem_of_getElem? q) p1
      refine ⟨js, δ2, g1, ?_⟩
      have e2 : (xs.take (i + 1)).foldl step b0 = step ((xs.take i).foldl step b0) x := by
        rw [List.take_add_one, q, List.foldl_append]
        rfl
      rw [e2]
      exact g2
  · rw [hl, List.take_length] at p1 ⊢
    exact hd p1
theorem psd_while {α : Type} {c : Expr} {body : List Stmt} (hp : PassesOwn (model X.prog X.w) X.A X.env X.xe) (I : α → DS) (P : α → Prop) (m : α → Nat) (a0 : α) (h0 : Le δ (I a0)) (p0 : P a0)
    (ht : ∀ z, P z → ∃ q, PTD J X c (I z) q (I z) ∧ (q = true → PBD J X body (I z) (lop (fun δ' => ∃ z', P z' ∧ m z' < m z ∧ Le δ' (I z')) Φ)) ∧ (q = false → Φ (.nx (I z)))) : PSD J X (.While c body [] pos) δ Φ := fun F B H σ D S hk => by
  refine ws_of (ps_while hp pt_wt pss_wss) ⟨fun n σ' H' => ∃ z, n = m z ∧ P z ∧ ∃ B', Same B B' ∧ Sd X.K J F B' H' σ' (I z), ⟨_, a0, rfl, p0, B, Same.refl B, S.weak h0⟩, ?_⟩
  rintro n σ' H' ⟨z, rfl, pz, B1, e1, S1⟩
  obtain ⟨q, g1, g2, g3⟩ := ht z pz
  refine g1 F B1 H' σ' S1 _ fun B2 H2 e2 S2 => ?_
  cases q with
  | false => exact iteF (hk _ (g3 rfl) σ' B2 H2 (e1.trans e2) S2)
  | true =>
    refine iteT ⟨fun σ3 H3 => ∃ z', P z' ∧ m z' < m z ∧ ∃ B', Same B B' ∧ Sd X.K J F B' H3 σ3 (I z'), ?_, g2 rfl F B2 H2 σ' _ S2 fun o ho => ?_⟩
    · rintro σ3 H3 ⟨z', p1, p2, p3⟩
      exact ⟨m z', p2, z', rfl, p1, p3⟩
    · cases o with
      | nx δ' =>
        obtain ⟨z', p1, p2, p3⟩ := ho
        exact fun σ5 B5 H5 e5 S5 => ⟨z', p1, p2, B5, (e1.trans e2).trans e5, S5.weak p3⟩
      | ct δ' =>
        obtain ⟨z', p1, p2, p3⟩ := ho
        exact fun σ5 B5 H5 e5 S5 => ⟨z', p1, p2, B5, (e1.trans e2).trans e5, S5.weak p3⟩
      | rt d δ' => exact (hk (.rt d δ') ho).mono (e1.trans e2)
      | bk δ' => exact (hk (.nx δ') ho).mono (e1.trans e2)
end
/-! ### defs -/
/-- called with data ds it gives the data d, and changes nothing -/
def SpD (K : PySem.W.Frag) (J : JJ) (R : List PyData → PyData → Prop) : Sp := fun vs H Q _ => ∃ (F : FT) (B : Hp) (ds : List PyData) (d : PyData), Hd J F B H ∧ DpAll K B vs ds ∧ R ds d ∧
  ∀ (v : V) (B' H' : Hp), Same B B' → Hd J F B' H' → Dp K B' v d → Q v H'
def FD (P : Program) (w : World) (K : PySem.W.Frag) (mg : Str → Option Value) (base : Heap) (J : JJ) (k : Nat) (x : Str) (ps : List Str) (R : List PyData → PyData → Prop) : Prop :=
  ∃ (f : Addr) (fd : FuncData), FnOk P w K mg base CX0 k f fd ps (SpD K J R) ∧ mg x = some (.ref f) ∧ PySem.W.keepIn K (.ref f) = true ∧ Binds K fd ps []
/-- a def as it stands behind the top -/
def Dfn (K : PySem.W.Frag) (mg : Str → Option Value) (x : Str) (st : Stmt) (ps : List Str) : Prop := ∃ (f : Addr) (fd : FuncData), Fun K x x st f fd ∧ mg x = some (.ref f) ∧ Binds K fd ps []
def startD (N : List Str) (ds : List PyData) : DS := ds.map .kn ++ List.replicate (N.length - ds.length) .un
theorem sd_start {K : PySem.W.Frag} {J : JJ} {F : FT} {B H : Hp} {vs : List V} {ds : List PyData} (N : List Str) (h : Hd J F B H) (r : DpAll K B vs ds) : Sd K J F B H (start N vs) (startD N ds) := by
  have hl := dpa_len r
  have noow : ∀ (i : Nat) (p : Addr) (es : List PyData), (startD N ds)[i]? ≠ some (.ow p es) := fun i p es z => by
    unfold startD at z
    by_cases hi : i < ds.length
    · rw [List.getElem?_append_left (by rw [List.length_map]; exact hi), List.getElem?_map, List.getElem?_eq_getElem hi] at z
      cases z
    · rw [List.getElem?_append_right (by rw [List.length_map]; omega)] at z
      obtain ⟨_, z⟩ := List.getElem?_eq_some_iff.mp z
      rw [List.getElem_replicate] at z
      cases z
  refine ⟨h, ?_, fun i d z => ?_, fun i p es z => absurd z (noow i p es), fun i j p q es es' _ z => absurd z (noow i p es)⟩
  · unfold L2.start startD
    simp [hl]
  · unfold startD at z
    by_cases hi : i < ds.length
    · rw [List.getElem?_append_left (by rw [List.length_map]; exact hi), List.getElem?_map, List.getElem?_eq_getElem hi] at z
      have e : ds[i] = d := by
        have := Option.some.inj z
        cases this
        rfl
      obtain ⟨v, h1, h2⟩ := dpa_get r (List.getElem?_eq_getElem hi)
      rw [e] at h2
      refine ⟨v, ?_, h2⟩
      unfold L2.start
      rw [List.getElem?_append_left (by rw [List.length_map, hl]; exact hi), List.getElem?_map, h1]
      rfl
    · rw [List.getElem?_append_right (by rw [List.length_map]; omega)] at z
      obtain ⟨_, z⟩ := List.getElem?_eq_some_iff.mp z
      rw [List.getElem_replicate] at z
      cases z
/-- the context of a def's body -/
abbrev cb (P : Program) (w : World) (K : PySem.W.Frag) (mg : Str → Option Value) (base : Heap) (N : List Str) (x : Str) (st : Stmt) (f : Addr) (cdv : Value) (A : Around) (outer : List Env) (s : Shared) (H : Hp) (E : XK) : Cx :=
  (cxOf CX0 P w K mg base N x (defScope st) f cdv A outer s H E).nox
theorem fd_ok {P : Program} {w : World} {K : PySem.W.Frag} {mg : Str → Option Value} {base : Heap} {J : JJ} {k : Nat} {x : Str} {st : Stmt} {N ps : List Str} {R : List PyData → PyData → Prop} (D : Dfn K mg x st ps) (S : FnScope N ps (defScope st)) (hlen : ∀ ds d, R ds d → ds.length = ps.length)
    (hb : ∀ (f : Addr) (cdv : Value) (A : Around) (outer : List Env) (s : Shared) (H : Hp) (E : XK), Room k (A.deeper (envOfC x (defScope st) s.heap.objs.size f cdv)) → ∀ ds d, R ds d →
      PBD J (cb P w K mg base N x st f cdv A outer s H E) (defBody st) (startD N ds) (fin d)) : FD P w K mg base J (k + 1) x ps R := by
  obtain ⟨f, fd, F, hm, hbi⟩ := D
  refine ⟨f, fd, F.ok S (fun vs H Q E h => ?_) (fun cdv A outer s H vs Q E hr h => ⟨_, pss_wss, ?_⟩), hm, F.kp, hbi⟩
  · obtain ⟨F, B, ds, d, h1, h2, h3, _⟩ := h
    rw [dpa_len h2]
    exact hlen ds d h3
  · obtain ⟨F, B, ds, d, h1, h2, h3, q⟩ := h
    refine hb f cdv A outer s H E hr ds d h3 F B H _ _ (sd_start N h1 h2) fun o ho => ?_
    cases o with
    | nx δ => exact fun σ B' H' e S' => q _ B' H' e S'.hd (by rw [show d = PyData.none from ho]; exact .non)
    | rt d' δ => exact fun v σ B' H' e S' r => q v B' H' e S'.hd (by rw [← show d' = d from ho]; exact r)
    | bk δ => exact False.elim ho
    | ct δ => exact False.elim ho
/-- what the caller's own lists and those of others are, at a call -/
def calF (B H : Hp) : FT := fun b => match B b with
  | none => (match H b with
    | some (.lst xs) => some xs
    | _ => none)
  | some _ => none
theorem calF_get {B H : Hp} {b : Addr} {xs : List V} (h1 : B b = none) (h2 : H b = some (.lst xs)) : calF B H b = some xs := by
  unfold calF
  rw [h1, h2]
theorem calF_is {B H : Hp} {b : Addr} {xs : List V} (h : calF B H b = some xs) : B b = none ∧ H b = some (.lst xs) := by
  unfold calF at h
  cases q : B b with
  | some o => rw [q] at h; cases h
  | none =>
    rw [q] at h
    refine ⟨rfl, ?_⟩
    cases q2 : H b with
    | none => rw [q2] at h; cases h
    | some o =>
      rw [q2] at h
      cases o <;> first | (cases h; rfl) | cases h
section
variable {J : JJ} {X : Cx} {δ δ1 : DS} {pos p : Pos} {e : Expr} {es : List Expr}
theorem sd_call {F : FT} {B H B' H' : Hp} {σ : L2.St} (S : Sd X.K J F B H σ δ) (e : Same B B') (h : Hd J (calF B H) B' H') : Sd X.K J F B' H' σ δ := by
  refine S.move ⟨h.ex, h.j, fun b xs q => ?_, h.nb⟩ e fun i q ds z => ?_
  · obtain ⟨h1, h2⟩ := S.hd.fr b xs q
    exact h.fr b xs (calF_get h1 h2)
  · obtain ⟨_, h2, _, xs, h4, h5⟩ := S.ow i q ds z
    obtain ⟨g1, g2⟩ := h.fr q xs (calF_get h2 h4)
    exact ⟨g1, xs, g2, dpa_ext e _ _ h5⟩
theorem ped_call {x : Str} {k : Nat} {ps : List Str} {R : List PyData → PyData → Prop} {ds : List PyData} {d : PyData} (G : FD X.prog X.w X.K X.mg X.base J k x ps R) (hr : Room k X.A) (ha : PAD J X (e :: es) δ ds δ1) (hR : R ds d) (hg : Gl X x := by rfl)
    (hdb : (x == ("__debug__" : Str)) = false := by decide) (he : starEach (e :: es) X.env = (false, eval e X.env) :: starEach es X.env := by rfl) (hpl : (backTo pos (starEach es X.env)).any (·.1) = false := by rfl) : PED J X (.Call (.Name x p) (e :: es) [] pos) δ d δ1 := fun F B H σ S Q q => by
  obtain ⟨f, fd, G, hm, hk, hb⟩ := G
  refine we_of (pe_call G hr hg hm hk hb .nil pass0 pa_wa hdb he hpl) (ha F B H σ S _ fun vs B1 H1 e1 S1 r1 => ?_)
  rw [List.append_nil]
  exact ⟨calF B1 H1, B1, ds, d, ⟨S1.hd.ex, S1.hd.j, fun b xs z => calF_is z, S1.hd.nb⟩, r1, hR, fun v B2 H2 e2 h2 r2 => q v B2 H2 (e1.trans e2) (sd_call S1 e2 h2) r2⟩
end
end Fd
/-! List comprehensions. -/
namespace Fd
open PySem PySem.Spec PyProof.Rows L2
abbrev bX (X : Cx) (scope : Scope) (s : Shared) (H : Hp) (C : Addr) (cl : List (Str × Addr)) (fp : List Addr) : Cx := X.blk s H scope (compEnvC scope cl C X.env) fp
/-- in every block of such a comprehension -/
def InB (X : Cx) (scope : Scope) (P : Cx → Prop) : Prop := ∀ (s : Shared) (H : Hp) (C : Addr) (cl : List (Str × Addr)) (fp : List Addr), P (bX X scope s H C cl fp)
section
variable {J : JJ} {X : Cx} {δ δ1 δ2 : DS} {e : Expr} {ifs : List Expr} {scope : Scope}
def Wts (X : Cx) (ifs : List Expr) : TT := fun σ H Q => ∀ (pins : List (Addr × Obj)) (s : Shared), Inv X pins σ H s →
  wpAny (model X.prog X.w) X.A (forIn ifs true fun c r => if r = true then do let ok ← isTrue c X.env (eval c X.env); pure (ForInStep.yield ok) else pure (ForInStep.yield r)) (TP X pins σ Q) X.xe s
theorem pts_wts : PTs X ifs (Wts X ifs) := ⟨fun pins s σ H Q I h => h pins s I⟩
theorem wts_of {t : TT} (h : PTs X ifs t) {σ : L2.St} {H : Hp} {Q : Bool → Hp → Prop} (q : t σ H Q) : Wts X ifs σ H Q := fun pins s I => h.run pins s σ H Q I q
def PTsD (J : JJ) (X : Cx) (ifs : List Expr) (δ : DS) (b : Bool) (δ' : DS) : Prop :=
  ∀ (F : FT) (B H : Hp) (σ : L2.St), Sd X.K J F B H σ δ → ∀ Q : Bool → Hp → Prop, (∀ (B' H' : Hp), Same B B' → Sd X.K J F B' H' σ δ' → Q b H') → Wts X ifs σ H Q
theorem ptsd_nil : PTsD J X [] δ true δ := fun F B H σ S Q k => wts_of pts_nil (k B H (Same.refl B) S)
theorem ptsd_one {b : Bool} (h : PTD J X e δ b δ1) : PTsD J X [e] δ b δ1 := fun F B H σ S Q k => wts_of (pts_one pt_wt) (h F B H σ S Q k)
end
section
variable {X : Cx} {scope : Scope} {e : Expr} {ifs : List Expr}
def WgB (X : Cx) (scope : Scope) (tg : Expr) : TG := fun v σ H Q => ∀ (s : Shared) (H0 : Hp) (C : Addr) (cl : List (Str × Addr)) (fp : List Addr), Wg (bX X scope s H0 C cl fp) tg v σ H Q
def WtB (X : Cx) (scope : Scope) (ifs : List Expr) : TT := fun σ H Q => ∀ (s : Shared) (H0 : Hp) (C : Addr) (cl : List (Str × Addr)) (fp : List Addr), Wts (bX X scope s H0 C cl fp) ifs σ H Q
def WeB (X : Cx) (scope : Scope) (e : Expr) : TE := fun σ H Q => ∀ (s : Shared) (H0 : Hp) (C : Addr) (cl : List (Str × Addr)) (fp : List Addr), We (bX X scope s H0 C cl fp) e σ H Q
theorem pg_wgB (s : Shared) (H : Hp) (C : Addr) (cl : List (Str × Addr)) (fp : List Addr) : PG (bX X scope s H C cl fp) e (WgB X scope e) := ⟨fun pins s' σ H' v u Q I r h => h s H C cl fp pins s' u I r⟩
theorem pts_wtB (s : Shared) (H : Hp) (C : Addr) (cl : List (Str × Addr)) (fp : List Addr) : PTs (bX X scope s H C cl fp) ifs (WtB X scope ifs) := ⟨fun pins s' σ H' Q I h => h s H C cl fp pins s' I⟩
theorem pe_weB (s : Shared) (H : Hp) (C : Addr) (cl : List (Str × Addr)) (fp : List Addr) : PE (bX X scope s H C cl fp) e (WeB X scope e) := ⟨fun pins s' σ H' Q I h => h s H C cl fp pins s' I⟩
end
/-! ### slots forgotten -/
def wipeD (δ : DS) : List Nat → DS
  | [] => δ
  | v :: vs => (wipeD δ vs).set v .un
theorem wipeD_un {δ : DS} : ∀ {vs : List Nat} {v : Nat} {x : SV}, v ∈ vs → (wipeD δ vs)[v]? = some x → x = .un
  | w :: vs, v, x, hm, h => by
    rcases get_set_cases h with ⟨_, e, _⟩ | ⟨hv, h⟩
    · exact e
    · rcases List.mem_cons.mp hm with e | hm
      · exact absurd e hv
      · exact wipeD_un hm h
theorem wipeD_out {δ : DS} : ∀ {vs : List Nat} {v : Nat}, v ∉ vs → (wipeD δ vs)[v]? = δ[v]?
  | [], _, _ => rfl
  | w :: vs, v, h => by
    rw [List.mem_cons, not_or] at h
    show ((wipeD δ vs).set w .un)[v]? = δ[v]?
    rw [List.getElem?_set_ne (Ne.symm h.1)]
    exact wipeD_out h.2
theorem wipe_none {σ : L2.St} : ∀ {vs : List Nat} {v : Nat}, v ∈ vs → v < σ.length → (wipe σ vs)[v]? = some none
  | w :: vs, v, hm, hl => by
    show ((wipe σ vs).set w none)[v]? = some none
    by_cases e : w = v
    · subst e
      exact List.getElem?_set_self (by rw [wipe_length]; exact hl)
    · rw [List.getElem?_set_ne e]
      rcases List.mem_cons.mp hm with z | hm
      · exact absurd z.symm e
      · exact wipe_none hm hl
theorem wipe_agr {σ σ2 : L2.St} {vs : List Nat} (hl : σ2.length = σ.length) (h : ∀ i, i ∉ vs → σ2[i]? = σ[i]?) : wipe σ2 vs = wipe σ vs := by
  apply List.ext_getElem?
  intro i
  by_cases hi : i ∈ vs
  · by_cases hs : i < σ.length
    · rw [wipe_none hi (by rw [hl]; exact hs), wipe_none hi hs]
    · rw [List.getElem?_eq_none (by rw [wipe_length]; omega), List.getElem?_eq_none (by rw [wipe_length]; omega)]
  · rw [wipe_out hi, wipe_out hi, h i hi]
section
variable {K : PySem.W.Frag} {J : JJ} {F : FT} {B H : Hp} {σ σ' : L2.St} {δ : DS}
theorem Sd.wipe (S : Sd K J F B H σ δ) : ∀ vs : List Nat, Sd K J F B H (wipe σ vs) (wipeD δ vs)
  | [] => S
  | v :: vs => (S.wipe vs).setu v none
/-- other slots, but not where something is known -/
theorem Sd.re (S : Sd K J F B H σ δ) (hl : σ'.length = σ.length) (h : ∀ (i : Nat) (s : SV), δ[i]? = some s → s ≠ SV.un → σ'[i]? = σ[i]?) : Sd K J F B H σ' δ where
  hd := S.hd
  len := hl.trans S.len
  kn := fun i d q => by rw [h i _ q (fun z => by cases z)]; exact S.kn i d q
  ow := fun i p ds q => by rw [h i _ q (fun z => by cases z)]; exact S.ow i p ds q
  ne := S.ne
/-- a list that nobody has is written -/
theorem Sd.wrF {D : Addr} {acc ys : List V} (S : Sd K J F B H σ δ) (h : H D = some (.lst acc)) (b : B D = none) (f : F D = none) (n : NotOw δ D) : Sd K J F B (upd H D (.lst ys)) σ δ :=
  S.move ⟨fun c u q => by
    have e : c ≠ D := fun z => by rw [z, b] at q; cases q
    rw [upd_ne e]
    exact S.hd.ex c u q, J.wr _ _ _ _ S.hd.j h, fun c xs q => by
    have e : c ≠ D := fun z => by rw [z, f] at q; cases q
    rw [upd_ne e]
    exact S.hd.fr c xs q, S.hd.nb⟩ (Same.refl B) fun i p ds q => by
    obtain ⟨_, h2, _, xs, h4, h5⟩ := S.ow i p ds q
    rw [upd_ne (n i p ds q)]
    exact ⟨h2, xs, h4, h5⟩
end
section
variable {J : JJ} {X : Cx} {δ δ1 : DS} {pos : Pos} {elt tg iter : Expr} {ifs : List Expr} {scope : Scope}
/-- what one turn of a comprehension does -/
structure LcTurn (J : JJ) (X : Cx) (scope : Scope) (elt tg : Expr) (ifs : List Expr) (vs : List Nat) (d : PyData) (δ : DS) (o : List PyData) (δ' : DS) (o' : List PyData) : Prop where
  ex : ∃ (js : List Nat) (δ2 δ3 : DS) (b : Bool), (∀ j, j ∈ js → j ∈ vs) ∧ InB X scope (fun Y => PGD J Y tg d δ js δ2) ∧ InB X scope (fun Y => PTsD J Y ifs δ2 b δ3) ∧
    (b = true → ∃ (y : PyData) (δ4 : DS), InB X scope (fun Y => PED J Y elt δ3 y δ4) ∧ Le δ4 δ' ∧ o' = o ++ [y] ∧ o.length < sizeLine) ∧ (b = false → Le δ3 δ' ∧ o' = o)
theorem lc_run {own : List (Str × Nat)} {wi : TI} {ds : List PyData} {F : FT} {B H : Hp} {σ : L2.St} {Q : VK} (S : Sd X.K J F B H σ δ)
    (hw : ∀ R : It → Hp → Prop, (∀ (T : It) (B' H' : Hp), Same B B' → Sd X.K J F B' H' σ δ1 → ItD X.K T B' ds → R T H') → wi σ H R)
    (I : Nat → DS) (out : Nat → List PyData) (h0 : Le (wipeD δ1 (own.map (·.2))) (I 0)) (o0 : out 0 = []) (hu : ∀ i v x, v ∈ own.map (·.2) → (I i)[v]? = some x → x = .un)
    (ht : ∀ i d, ds[i]? = some d → LcTurn J X scope elt tg ifs (own.map (·.2)) d (I i) (out i) (I (i + 1)) (out (i + 1)))
    (k : ∀ (p : Addr) (xs : List V) (B' H' : Hp), Same B B' → Sd X.K J F B' H' σ (I ds.length) → H' p = some (.lst xs) → B' p = none → F p = none → NotOw (I ds.length) p → DpAll X.K B' xs (out ds.length) → Q (.ref p) H') :
    tLc wi (WgB X scope tg) (WtB X scope ifs) (WeB X scope elt) (own.map (·.2)) σ H Q := by
  generalize hvs : own.map (·.2) = vs at *
  refine hw _ fun T B1 H1 e1 S1 t => fun D hD => ?_
  have fD : F D = none := S1.hd.freeF hD
  have bD : B1 D = none := S1.hd.free hD
  have Sw : Sd X.K J F B1 H1 (wipe σ vs) (I 0) := (S1.wipe vs).weak h0
  refine ⟨fun i m H' => m = ds.length - i ∧ i ≤ ds.length ∧ ∃ B' acc, Same B1 B' ∧ Sd X.K J F B' H' (wipe σ vs) (I i) ∧ H' D = some (.lst acc) ∧ B' D = none ∧ NotOw (I i) D ∧ DpAll X.K B' acc (out i),
    ⟨_, rfl, Nat.zero_le _, B1, [], Same.refl _, Sw.loose hD, upd_same, bD, Sw.notOw hD, by rw [o0]; exact .nil⟩, ?_⟩
  rintro i m H' ⟨rfl, hi, B2, acc, e2, S2, hD2, bD2, n2, r2⟩
  by_cases hlt : i < ds.length
  · have hd1 : ds[i]? = some ds[i] := List.getElem?_eq_getElem hlt
    obtain ⟨js, δ2, δ3, b, hjs, hg, htt, hy, hn⟩ := (ht i _ hd1).ex
    refine .inr ⟨t.go i H' (e2.trans S2.hd.ex) hlt, fun H5 => ∃ B' acc, Same B1 B' ∧ Sd X.K J F B' H5 (wipe σ vs) (I (i + 1)) ∧ H5 D = some (.lst acc) ∧ B' D = none ∧ NotOw (I (i + 1)) D ∧ DpAll X.K B' acc (out (i + 1)), ?_, ?_⟩
    · rintro H5 ⟨B5, acc5, g⟩
      exact ⟨ds.length - (i + 1), by omega, rfl, hlt, B5, acc5, g⟩
    · intro x H3 y s0 H0 C cl fp
      have Sh := S2.hide hD2 bD2 n2
      obtain ⟨B3, e3, S3, r3⟩ := itd_turn t hd1 e2 Sh y
      refine hg s0 H0 C cl fp _ B3 H3 (wipe σ vs) x S3 r3 _ fun σ2 a2 S4 => ?_
      have agr : ∀ i, i ∉ vs → σ2[i]? = (wipe σ vs)[i]? := fun j hj => a2.2 j fun z => hj (hjs j z)
      have hw2 : wipe σ2 vs = wipe σ vs := wipe_agr (a2.1.trans (wipe_length σ vs)) fun j hj => by rw [agr j hj, wipe_out hj]
      have back : ∀ {B' H' : Hp} {δ' : DS}, Sd X.K J F B' H' σ2 δ' → Le δ' (I (i + 1)) → Sd X.K J F B' H' (wipe σ vs) (I (i + 1)) := fun S' le => (S'.weak le).re a2.1.symm fun j s hj hs => by
        by_cases hv : j ∈ vs
        · exact absurd (hu (i + 1) j s hv hj) hs
        · exact (agr j hv).symm
      refine ⟨hw2, fun s1 H01 C1 cl1 fp1 => htt s1 H01 C1 cl1 fp1 _ B3 H3 σ2 S4 _ fun B4 H4 e4 S5 => ?_⟩
      have q4 := S5.hd.fr D acc (by simp)
      have n4 : ∀ {δ' : DS} {B' H' : Hp}, Sd X.K J (fun c => if c = D then some acc else F c) B' H' σ2 δ' → NotOw δ' D := fun S' j p es z => by
        obtain ⟨_, _, h3, _⟩ := S'.ow j p es z
        intro e
        rw [e] at h3
        simp at h3
      cases b with
      | false =>
        obtain ⟨le, eo⟩ := hn rfl
        refine iteF ⟨B4, acc, (e2.trans e3).trans e4, back (Sd.unhide fD S5) le, q4.2, q4.1, ?_, by rw [eo]; exact dpa_ext (e3.trans e4) _ _ r2⟩
        exact fun j p es z => n4 (S5.weak le) j p es z
      | true =>
        obtain ⟨yv, δ4, he, le, eo, hz⟩ := hy rfl
        refine iteT fun s2 H02 C2 cl2 fp2 => he s2 H02 C2 cl2 fp2 _ B4 H4 σ2 S5 _ fun v B5 H5 e5 S6 r6 => ?_
        have q5 := S6.hd.fr D acc (by simp)
        have r5 := dpa_ext ((e3.trans e4).trans e5) _ _ r2
        refine ⟨acc, q5.2, by rw [dpa_len r5]; exact hz, B5, acc ++ [v], ((e2.trans e3).trans e4).trans e5, back ((Sd.unhide fD S6).wrF q5.2 q5.1 fD (n4 S6)) le, upd_same, q5.1, ?_, by rw [eo]; exact dpa_app r5 (.cons r6 .nil)⟩
        exact fun j p es z => n4 (S6.weak le) j p es z
  · have e : i = ds.length := by omega
    subst e
    refine .inl ⟨t.stop H' (e2.trans S2.hd.ex), k D acc B2 H' (e1.trans e2) (S2.re (wipe_length σ vs).symm fun j s hj hs => ?_) hD2 bD2 fD n2 r2⟩
    by_cases hv : j ∈ vs
    · exact absurd (hu _ j s hv hj) hs
    · rw [wipe_out hv]
theorem pef_lcG {own : List (Str × Nat)} {ds : List PyData} (hc : X.calm = true) (hN : X.N.Nodup) (hi : PID J X tg iter δ ds δ1) (ok : BlkOk X.N X.env.scope scope own)
    (I : Nat → DS) (out : Nat → List PyData) (h0 : Le (wipeD δ1 (own.map (·.2))) (I 0)) (o0 : out 0 = []) (hu : ∀ i v x, v ∈ own.map (·.2) → (I i)[v]? = some x → x = .un)
    (ht : ∀ i d, ds[i]? = some d → LcTurn J X scope elt tg ifs (own.map (·.2)) d (I i) (out i) (I (i + 1)) (out (i + 1))) (hs : ∀ x, foldedSetIterable iter X.env x = pure x := by intro _; rfl) : PEF J X (.ListComp elt [⟨tg, iter, ifs, 0⟩] scope pos) δ (out ds.length) (I ds.length) := fun F B H σ S Q k => by
  obtain ⟨wi, hpi, hw⟩ := hi
  refine we_of (pe_lc hc hN hpi ok pg_wgB pts_wtB pe_weB hs) ?_
  exact lc_run S (fun R => hw F B H σ S R) I out h0 o0 hu ht k
/-- y = [..] -/
theorem psd_setLcG {own : List (Str × Nat)} {ds : List PyData} {Φ : OP} {y : Str} {py spos : Pos} (i : Nat) (hc : X.calm = true) (hN : X.N.Nodup) (hi : PID J X tg iter δ ds δ1) (ok : BlkOk X.N X.env.scope scope own)
    (I : Nat → DS) (out : Nat → List PyData) (h0 : Le (wipeD δ1 (own.map (·.2))) (I 0)) (o0 : out 0 = []) (hu : ∀ i v x, v ∈ own.map (·.2) → (I i)[v]? = some x → x = .un)
    (ht : ∀ i d, ds[i]? = some d → LcTurn J X scope elt tg ifs (own.map (·.2)) d (I i) (out i) (I (i + 1)) (out (i + 1))) (k : Φ (.nx ((I ds.length).set i (.kn (.list (out ds.length))))) ∨ ∀ p : Addr, Φ (.nx ((I ds.length).set i (.ow p (out ds.length)))))
    (hy : X.N[i]? = some y := by rfl) (hyl : X.env.scope.names.lookup y = some .local := by rfl) (hsw : swapsWith (.ListComp elt [⟨tg, iter, ifs, 0⟩] scope pos) (some (.Name y py)) spos.line X.env = pure true := by exact sw_true rfl rfl rfl (by decide +kernel))
    (hs : ∀ x, foldedSetIterable iter X.env x = pure x := by intro _; rfl) : PSD J X (.Assign [.Name y py] (.ListComp elt [⟨tg, iter, ifs, 0⟩] scope pos) spos) δ Φ := fun F B H σ D S hk => by
  obtain ⟨wi, hpi, hw⟩ := hi
  refine ws_of (ps_setLc hc hN hy hyl hsw hpi ok pg_wgB pts_wtB pe_weB hs) ?_
  refine lc_run (Q := fun x H1 => gName i x σ H1 D.nx) S (fun R => hw F B H σ S R) I out h0 o0 hu ht fun p xs B' H' e S' hp bp fp np r => ?_
  rcases k with k | k
  · exact hk _ k _ _ H' (e.trans (same_upd bp)) ((S'.adopt hp bp fp np).setk i (.lst (.of upd_same) (dpa_ext (same_upd bp) _ _ r)))
  · exact hk _ (k p) _ B' H' e (S'.seto i hp bp fp np r)
/-! ### over the items of a list of one's own, changing nothing -/
theorem le_wipe {δ : DS} {j : Nat} {s : SV} : Le (δ.set j s) (δ.set j .un) := by
  induction δ generalizing j with
  | nil => exact trivial
  | cons a r ih =>
    cases j with
    | zero => exact ⟨trivial, Le.refl r⟩
    | succ j => exact ⟨LeS.refl a, ih⟩
/-- the outcome of such a comprehension, by the items taken -/
def lcOut {α : Type} (xs : List α) (p : α → Bool) (g : α → PyData) (i : Nat) : List PyData := ((xs.take i).filter p).map g
theorem lcOut_all {α : Type} (xs : List α) (p : α → Bool) (g : α → PyData) (enc : α → PyData) : lcOut xs p g (xs.map enc).length = (xs.filter p).map g := by
  unfold lcOut
  rw [List.length_map, List.take_length]
theorem lcOut_turn {α : Type} {xs : List α} {p : α → Bool} {g : α → PyData} {i : Nat} {x : α} (h : xs[i]? = some x) : lcOut xs p g (i + 1) = lcOut xs p g i ++ (if p x = true then [g x] else []) := by
  unfold lcOut
  rw [List.take_add_one, h, List.filter_append, List.map_append]
  congr 1
  show ([x].filter p).map g = _
  by_cases q : p x = true
  · rw [if_pos q, List.filter_cons, if_pos q]; rfl
  · rw [if_neg q, List.filter_cons, if_neg q]; rfl
theorem lcOut_len {α : Type} (xs : List α) (p : α → Bool) (g : α → PyData) (i : Nat) : (lcOut xs p g i).length ≤ i := by
  unfold lcOut
  rw [List.length_map]
  refine Nat.le_trans (List.length_filter_le _ _) ?_
  rw [List.length_take]
  exact Nat.min_le_left _ _
/-- the target a name -/
theorem lcN_turns {α : Type} {y : Str} {py : Pos} {j : Nat} (xs : List α) (enc : α → PyData) (p : α → Bool) (g : α → PyData) (hN : X.N.Nodup) (hj : X.N[j]? = some y) (hz : xs.length ≤ sizeLine)
    (hx : InB X scope (fun Y => Loc Y.env.scope y)) (hf : InB X scope (fun Y => Y.fn y = true ∨ Y.env.scope.names.lookup y = some .local))
    (ht : ∀ x, x ∈ xs → InB X scope (fun Y => PTsD J Y ifs (δ1.set j (.kn (enc x))) (p x) (δ1.set j (.kn (enc x)))) ∧ (p x = true → InB X scope (fun Y => PED J Y elt (δ1.set j (.kn (enc x))) (g x) (δ1.set j (.kn (enc x)))))) :
    ∀ i d, (xs.map enc)[i]? = some d → LcTurn J X scope elt (.Name y py) ifs [j] d (δ1.set j .un) (lcOut xs p g i) (δ1.set j .un) (lcOut xs p g (i + 1)) := fun i d hd => by
  rw [List.getElem?_map] at hd
  cases q : xs[i]? with
  | none => rw [q] at hd; cases hd
  | some x =>
    rw [q] at hd
    have e : enc x = d := Option.some.inj hd
    subst e
    obtain ⟨h1, h2⟩ := ht x (List.mem_of_getElem? q)
    refine ⟨[j], δ1.set j (.kn (enc x)), δ1.set j (.kn (enc x)), p x, fun k hk => hk, fun s H C cl fp => ?_, h1, fun hp => ⟨g x, _, h2 hp, le_wipe, ?_, ?_⟩, fun hp => ⟨le_wipe, ?_⟩⟩
    · have z := pgd_name (J := J) (X := bX X scope s H C cl fp) (δ := δ1.set j .un) (pos := py) (d := enc x) j hN hj (hx s H C cl fp) (hf s H C cl fp)
      rw [List.set_set] at z
      exact z
    · rw [lcOut_turn q, if_pos hp]
    · have := lcOut_len xs p g i
      have := (List.getElem?_eq_some_iff.mp q).1
      omega
    · rw [lcOut_turn q, if_neg (by rw [hp]; decide), List.append_nil]
theorem pef_lcN {α : Type} {y : Str} {py : Pos} (j : Nat) (xs : List α) (enc : α → PyData) (p : α → Bool) (g : α → PyData) (hc : X.calm = true) (hN : X.N.Nodup) (hi : PID J X (.Name y py) iter δ (xs.map enc) δ1) (hz : xs.length ≤ sizeLine)
    (ht : ∀ x, x ∈ xs → InB X scope (fun Y => PTsD J Y ifs (δ1.set j (.kn (enc x))) (p x) (δ1.set j (.kn (enc x)))) ∧ (p x = true → InB X scope (fun Y => PED J Y elt (δ1.set j (.kn (enc x))) (g x) (δ1.set j (.kn (enc x))))))
    (ok : BlkOk X.N X.env.scope scope [(y, j)]) (hj : X.N[j]? = some y := by rfl) (hx : InB X scope (fun Y => Loc Y.env.scope y) := by exact fun _ _ _ _ _ => by first | exact Or.inl rfl | exact Or.inr rfl)
    (hf : InB X scope (fun Y => Y.fn y = true ∨ Y.env.scope.names.lookup y = some .local) := by exact fun _ _ _ _ _ => by first | exact Or.inl rfl | exact Or.inr rfl)
    (hs : ∀ x, foldedSetIterable iter X.env x = pure x := by intro _; rfl) : PEF J X (.ListComp elt [⟨.Name y py, iter, ifs, 0⟩] scope pos) δ ((xs.filter p).map g) (δ1.set j .un) := by
  have z := pef_lcG (elt := elt) (ifs := ifs) (pos := pos) (hs := hs) (own := [(y, j)]) hc hN hi ok (fun _ => δ1.set j .un) (lcOut xs p g) (Le.refl _) rfl (fun i v x hv h => wipeD_un (δ := δ1) (vs := [j]) hv h) (lcN_turns xs enc p g hN hj hz hx hf ht)
  rw [lcOut_all] at z
  exact z
end
end Fd
/-! The text by places. -/
namespace Fd
open PySem PySem.Spec PyProof.Rows L2
def topS (i : Nat) : Stmt := PySem.Challenge.pw_faultdue_k29_least_faults.main.body.getD i (.Pass ⟨0, 0, 0, 0⟩)
abbrev s_above : Stmt := topS 1
abbrev N_above : List Str := ["budgets", "k", "found"]
abbrev p_above : List Str := ["budgets", "k"]
theorem sc_above : FnScope N_above p_above (defScope s_above) := ⟨rfl, rfl, rfl, by decide +kernel, rfl, by decide +kernel, by decide +kernel⟩
abbrev s_used : Stmt := topS 2
abbrev N_used : List Str := ["budgets", "faults", "units", "source", "count", "k"]
abbrev p_used : List Str := ["budgets", "faults"]
theorem sc_used : FnScope N_used p_used (defScope s_used) := ⟨rfl, rfl, rfl, by decide +kernel, rfl, by decide +kernel, by decide +kernel⟩
abbrev s_is_within : Stmt := topS 3
abbrev N_is_within : List Str := ["budgets", "faults", "budget", "units"]
abbrev p_is_within : List Str := ["budgets", "faults"]
theorem sc_is_within : FnScope N_is_within p_is_within (defScope s_is_within) := ⟨rfl, rfl, rfl, by decide +kernel, rfl, by decide +kernel, by decide +kernel⟩
abbrev s_parts_most : Stmt := topS 4
abbrev N_parts_most : List Str := ["budgets", "sources", "most", "k", "parent"]
abbrev p_parts_most : List Str := ["budgets", "sources"]
theorem sc_parts_most : FnScope N_parts_most p_parts_most (defScope s_parts_most) := ⟨rfl, rfl, rfl, by decide +kernel, rfl, by decide +kernel, by decide +kernel⟩
abbrev s_most_faults : Stmt := topS 5
abbrev N_most_faults : List Str := ["budgets", "sources", "most", "budget", "count"]
abbrev p_most_faults : List Str := ["budgets", "sources"]
theorem sc_most_faults : FnScope N_most_faults p_most_faults (defScope s_most_faults) := ⟨rfl, rfl, rfl, by decide +kernel, rfl, by decide +kernel, by decide +kernel⟩
abbrev s_worst : Stmt := topS 7
abbrev N_worst : List Str := ["budgets", "penalties", "left", "budget", "faults", "total", "source", "path", "count", "k"]
abbrev p_worst : List Str := ["budgets", "penalties"]
theorem sc_worst : FnScope N_worst p_worst (defScope s_worst) := ⟨rfl, rfl, rfl, by decide +kernel, rfl, by decide +kernel, by decide +kernel⟩
abbrev s_lengths_of : Stmt := topS 9
abbrev N_lengths_of : List Str := ["item", "segment"]
abbrev p_lengths_of : List Str := ["item"]
theorem sc_lengths_of : FnScope N_lengths_of p_lengths_of (defScope s_lengths_of) := ⟨rfl, rfl, rfl, by decide +kernel, rfl, by decide +kernel, by decide +kernel⟩
abbrev s_work_of : Stmt := topS 10
abbrev N_work_of : List Str := ["item"]
abbrev p_work_of : List Str := ["item"]
theorem sc_work_of : FnScope N_work_of p_work_of (defScope s_work_of) := ⟨rfl, rfl, rfl, by decide +kernel, rfl, by decide +kernel, by decide +kernel⟩
abbrev s_divisor : Stmt := topS 11
abbrev N_divisor : List Str := ["a", "b"]
abbrev p_divisor : List Str := ["a", "b"]
theorem sc_divisor : FnScope N_divisor p_divisor (defScope s_divisor) := ⟨rfl, rfl, rfl, by decide +kernel, rfl, by decide +kernel, by decide +kernel⟩
abbrev s_rate_of : Stmt := topS 12
abbrev N_rate_of : List Str := ["system", "top", "bottom", "task", "common"]
abbrev p_rate_of : List Str := ["system"]
theorem sc_rate_of : FnScope N_rate_of p_rate_of (defScope s_rate_of) := ⟨rfl, rfl, rfl, by decide +kernel, rfl, by decide +kernel, by decide +kernel⟩
abbrev s_latest_of : Stmt := topS 13
abbrev N_latest_of : List Str := ["system", "item"]
abbrev p_latest_of : List Str := ["system"]
theorem sc_latest_of : FnScope N_latest_of p_latest_of (defScope s_latest_of) := ⟨rfl, rfl, rfl, by decide +kernel, rfl, by decide +kernel, by decide +kernel⟩
abbrev s_longest : Stmt := topS 14
abbrev N_longest : List Str := ["items", "budgets", "penalties", "item", "length", "source"]
abbrev p_longest : List Str := ["items", "budgets"]
theorem sc_longest : FnScope N_longest p_longest (defScope s_longest) := ⟨rfl, rfl, rfl, by decide +kernel, rfl, by decide +kernel, by decide +kernel⟩
abbrev s_horizon_of : Stmt := topS 15
abbrev N_horizon_of : List Str := ["system", "top", "bottom", "items", "total", "item"]
abbrev p_horizon_of : List Str := ["system"]
theorem sc_horizon_of : FnScope N_horizon_of p_horizon_of (defScope s_horizon_of) := ⟨rfl, rfl, rfl, by decide +kernel, rfl, by decide +kernel, by decide +kernel⟩
abbrev s_bodies : Stmt := topS 17
abbrev N_bodies : List Str := ["task", "s", "e", "start"]
abbrev p_bodies : List Str := ["task", "s", "e"]
theorem sc_bodies : FnScope N_bodies p_bodies (defScope s_bodies) := ⟨rfl, rfl, rfl, by decide +kernel, rfl, by decide +kernel, by decide +kernel⟩
abbrev s_jobs_in : Stmt := topS 18
abbrev N_jobs_in : List Str := ["system", "s", "e", "job"]
abbrev p_jobs_in : List Str := ["system", "s", "e"]
theorem sc_jobs_in : FnScope N_jobs_in p_jobs_in (defScope s_jobs_in) := ⟨rfl, rfl, rfl, by decide +kernel, rfl, by decide +kernel, by decide +kernel⟩
abbrev s_demand : Stmt := topS 19
abbrev N_demand : List Str := ["system", "s", "e", "total", "job", "task"]
abbrev p_demand : List Str := ["system", "s", "e"]
theorem sc_demand : FnScope N_demand p_demand (defScope s_demand) := ⟨rfl, rfl, rfl, by decide +kernel, rfl, by decide +kernel, by decide +kernel⟩
abbrev s_penalties : Stmt := topS 20
abbrev N_penalties : List Str := ["system", "s", "e", "tasks", "task"]
abbrev p_penalties : List Str := ["system", "s", "e"]
theorem sc_penalties : FnScope N_penalties p_penalties (defScope s_penalties) := ⟨rfl, rfl, rfl, by decide +kernel, rfl, by decide +kernel, by decide +kernel⟩
abbrev s_ends_of : Stmt := topS 21
abbrev N_ends_of : List Str := ["system", "s", "most", "ends", "job", "task", "e"]
abbrev p_ends_of : List Str := ["system", "s", "most"]
theorem sc_ends_of : FnScope N_ends_of p_ends_of (defScope s_ends_of) := ⟨rfl, rfl, rfl, by decide +kernel, rfl, by decide +kernel, by decide +kernel⟩
abbrev s_one_more : Stmt := topS 23
abbrev N_one_more : List Str := ["budgets", "told", "faults", "best", "source", "more"]
abbrev p_one_more : List Str := ["budgets", "told", "faults"]
theorem sc_one_more : FnScope N_one_more p_one_more (defScope s_one_more) := ⟨rfl, rfl, rfl, by decide +kernel, rfl, by decide +kernel, by decide +kernel⟩
abbrev s_fewest : Stmt := topS 24
abbrev N_fewest : List Str := ["system", "s", "e", "most", "told", "left", "faults", "more", "penalty", "a", "b"]
abbrev p_fewest : List Str := ["system", "s", "e", "most"]
theorem sc_fewest : FnScope N_fewest p_fewest (defScope s_fewest) := ⟨rfl, rfl, rfl, by decide +kernel, rfl, by decide +kernel, by decide +kernel⟩
abbrev s_least_faults : Stmt := topS 25
abbrev N_least_faults : List Str := ["system", "best", "most", "budget", "horizon", "s", "e", "faults"]
abbrev p_least_faults : List Str := ["system"]
theorem sc_least_faults : FnScope N_least_faults p_least_faults (defScope s_least_faults) := ⟨rfl, rfl, rfl, by decide +kernel, rfl, by decide +kernel, by decide +kernel⟩
abbrev s_bearable : Stmt := topS 26
abbrev N_bearable : List Str := ["system", "found"]
abbrev p_bearable : List Str := ["system"]
theorem sc_bearable : FnScope N_bearable p_bearable (defScope s_bearable) := ⟨rfl, rfl, rfl, by decide +kernel, rfl, by decide +kernel, by decide +kernel⟩
abbrev s_law_cell : Stmt := topS 28
abbrev N_law_cell : List Str := ["_law_script", "_law_k"]
abbrev p_law_cell : List Str := ["_law_script", "_law_k"]
theorem sc_law_cell : FnScope N_law_cell p_law_cell (defScope s_law_cell) := ⟨rfl, rfl, rfl, by decide +kernel, rfl, by decide +kernel, by decide +kernel⟩
abbrev s_law_digits : Stmt := topS 29
abbrev N_law_digits : List Str := ["_law_script", "_law_first", "_law_last", "_law_digits_here", "_law_k", "_law_cell_here", "_law_turn", "_law_seed"]
abbrev p_law_digits : List Str := ["_law_script", "_law_first", "_law_last"]
theorem sc_law_digits : FnScope N_law_digits p_law_digits (defScope s_law_digits) := ⟨rfl, rfl, rfl, by decide +kernel, rfl, by decide +kernel, by decide +kernel⟩
abbrev s_law_draw : Stmt := topS 30
abbrev N_law_draw : List Str := ["_law_box", "_law_many", "_law_at"]
abbrev p_law_draw : List Str := ["_law_box", "_law_many"]
theorem sc_law_draw : FnScope N_law_draw p_law_draw (defScope s_law_draw) := ⟨rfl, rfl, rfl, by decide +kernel, rfl, by decide +kernel, by decide +kernel⟩
abbrev s_law_pick : Stmt := topS 31
abbrev N_law_pick : List Str := ["_law_box", "_law_things"]
abbrev p_law_pick : List Str := ["_law_box", "_law_things"]
theorem sc_law_pick : FnScope N_law_pick p_law_pick (defScope s_law_pick) := ⟨rfl, rfl, rfl, by decide +kernel, rfl, by decide +kernel, by decide +kernel⟩
abbrev s_law_same : Stmt := topS 32
abbrev N_law_same : List Str := ["_law_actual", "_law_due"]
abbrev p_law_same : List Str := ["_law_actual", "_law_due"]
theorem sc_law_same : FnScope N_law_same p_law_same (defScope s_law_same) := ⟨rfl, rfl, rfl, by decide +kernel, rfl, by decide +kernel, by decide +kernel⟩
abbrev s_law_path : Stmt := topS 33
abbrev N_law_path : List Str := ["_law_budgets", "_law_k", "_law_path_here", "_law_turn"]
abbrev p_law_path : List Str := ["_law_budgets", "_law_k"]
theorem sc_law_path : FnScope N_law_path p_law_path (defScope s_law_path) := ⟨rfl, rfl, rfl, by decide +kernel, rfl, by decide +kernel, by decide +kernel⟩
abbrev s_law_used : Stmt := topS 34
abbrev N_law_used : List Str := ["_law_budgets", "_law_faults", "_law_units", "_law_k", "_law_j"]
abbrev p_law_used : List Str := ["_law_budgets", "_law_faults"]
theorem sc_law_used : FnScope N_law_used p_law_used (defScope s_law_used) := ⟨rfl, rfl, rfl, by decide +kernel, rfl, by decide +kernel, by decide +kernel⟩
abbrev s_law_fits : Stmt := topS 35
abbrev N_law_fits : List Str := ["_law_budgets", "_law_faults", "_law_units", "_law_k"]
abbrev p_law_fits : List Str := ["_law_budgets", "_law_faults"]
theorem sc_law_fits : FnScope N_law_fits p_law_fits (defScope s_law_fits) := ⟨rfl, rfl, rfl, by decide +kernel, rfl, by decide +kernel, by decide +kernel⟩
abbrev s_law_segments : Stmt := topS 36
abbrev N_law_segments : List Str := ["_law_box", "_law_budgets", "_law_many", "_law_k"]
abbrev p_law_segments : List Str := ["_law_box", "_law_budgets", "_law_many"]
theorem sc_law_segments : FnScope N_law_segments p_law_segments (defScope s_law_segments) := ⟨rfl, rfl, rfl, by decide +kernel, rfl, by decide +kernel, by decide +kernel⟩
abbrev s_law_lengths : Stmt := topS 37
abbrev N_law_lengths : List Str := ["_law_item", "_law_segment"]
abbrev p_law_lengths : List Str := ["_law_item"]
theorem sc_law_lengths : FnScope N_law_lengths p_law_lengths (defScope s_law_lengths) := ⟨rfl, rfl, rfl, by decide +kernel, rfl, by decide +kernel, by decide +kernel⟩
abbrev s_law_work : Stmt := topS 38
abbrev N_law_work : List Str := ["_law_item"]
abbrev p_law_work : List Str := ["_law_item"]
theorem sc_law_work : FnScope N_law_work p_law_work (defScope s_law_work) := ⟨rfl, rfl, rfl, by decide +kernel, rfl, by decide +kernel, by decide +kernel⟩
abbrev s_law_bodies : Stmt := topS 39
abbrev N_law_bodies : List Str := ["_law_task", "_law_s", "_law_e", "_law_begin"]
abbrev p_law_bodies : List Str := ["_law_task", "_law_s", "_law_e"]
theorem sc_law_bodies : FnScope N_law_bodies p_law_bodies (defScope s_law_bodies) := ⟨rfl, rfl, rfl, by decide +kernel, rfl, by decide +kernel, by decide +kernel⟩
abbrev s_law_in : Stmt := topS 40
abbrev N_law_in : List Str := ["_law_system", "_law_s", "_law_e", "_law_found", "_law_job", "_law_task"]
abbrev p_law_in : List Str := ["_law_system", "_law_s", "_law_e"]
theorem sc_law_in : FnScope N_law_in p_law_in (defScope s_law_in) := ⟨rfl, rfl, rfl, by decide +kernel, rfl, by decide +kernel, by decide +kernel⟩
abbrev s_law_penalties : Stmt := topS 41
abbrev N_law_penalties : List Str := ["_law_system", "_law_s", "_law_e", "_law_found", "_law_pair", "_law_segment"]
abbrev p_law_penalties : List Str := ["_law_system", "_law_s", "_law_e"]
theorem sc_law_penalties : FnScope N_law_penalties p_law_penalties (defScope s_law_penalties) := ⟨rfl, rfl, rfl, by decide +kernel, rfl, by decide +kernel, by decide +kernel⟩
abbrev s_law_demand : Stmt := topS 42
abbrev N_law_demand : List Str := ["_law_system", "_law_s", "_law_e", "_law_pair"]
abbrev p_law_demand : List Str := ["_law_system", "_law_s", "_law_e"]
theorem sc_law_demand : FnScope N_law_demand p_law_demand (defScope s_law_demand) := ⟨rfl, rfl, rfl, by decide +kernel, rfl, by decide +kernel, by decide +kernel⟩
abbrev s_law_recovery : Stmt := topS 43
abbrev N_law_recovery : List Str := ["_law_budgets", "_law_penalties_here", "_law_left", "_law_budget", "_law_total", "_law_height", "_law_k", "_law_path_here", "_law_count"]
abbrev p_law_recovery : List Str := ["_law_budgets", "_law_penalties_here"]
theorem sc_law_recovery : FnScope N_law_recovery p_law_recovery (defScope s_law_recovery) := ⟨rfl, rfl, rfl, by decide +kernel, rfl, by decide +kernel, by decide +kernel⟩
abbrev s_law_ends : Stmt := topS 44
abbrev N_law_ends : List Str := ["_law_system", "_law_s", "_law_most", "_law_ends_here", "_law_job", "_law_task", "_law_end", "_law_turn"]
abbrev p_law_ends : List Str := ["_law_system", "_law_s", "_law_most"]
theorem sc_law_ends : FnScope N_law_ends p_law_ends (defScope s_law_ends) := ⟨rfl, rfl, rfl, by decide +kernel, rfl, by decide +kernel, by decide +kernel⟩
abbrev s_law_little : Stmt := topS 45
abbrev N_law_little : List Str := ["_law_box", "_law_budgets", "_law_k", "_law_jobs", "_law_segments_here", "_law_release", "_law_job", "_law_tasks", "_law_gap"]
abbrev p_law_little : List Str := ["_law_box"]
theorem sc_law_little : FnScope N_law_little p_law_little (defScope s_law_little) := ⟨rfl, rfl, rfl, by decide +kernel, rfl, by decide +kernel, by decide +kernel⟩
abbrev s_law_horizon : Stmt := topS 46
abbrev N_law_horizon : List Str := ["_law_system", "_law_items", "_law_greatest", "_law_item", "_law_segment", "_law_whole", "_law_product", "_law_task", "_law_left"]
abbrev p_law_horizon : List Str := ["_law_system"]
theorem sc_law_horizon : FnScope N_law_horizon p_law_horizon (defScope s_law_horizon) := ⟨rfl, rfl, rfl, by decide +kernel, rfl, by decide +kernel, by decide +kernel⟩
abbrev s_law_latest : Stmt := topS 47
abbrev N_law_latest : List Str := ["_law_system", "_law_item"]
abbrev p_law_latest : List Str := ["_law_system"]
theorem sc_law_latest : FnScope N_law_latest p_law_latest (defScope s_law_latest) := ⟨rfl, rfl, rfl, by decide +kernel, rfl, by decide +kernel, by decide +kernel⟩
abbrev s_law_looks : Stmt := topS 48
abbrev N_law_looks : List Str := ["_law_system", "_law_horizon_here", "_law_found", "_law_s", "_law_e"]
abbrev p_law_looks : List Str := ["_law_system"]
theorem sc_law_looks : FnScope N_law_looks p_law_looks (defScope s_law_looks) := ⟨rfl, rfl, rfl, by decide +kernel, rfl, by decide +kernel, by decide +kernel⟩
abbrev s_law_assignments : Stmt := topS 49
abbrev N_law_assignments : List Str := ["_law_budgets", "_law_found", "_law_budget", "_law_more", "_law_faults", "_law_count"]
abbrev p_law_assignments : List Str := ["_law_budgets"]
theorem sc_law_assignments : FnScope N_law_assignments p_law_assignments (defScope s_law_assignments) := ⟨rfl, rfl, rfl, by decide +kernel, rfl, by decide +kernel, by decide +kernel⟩
abbrev s_law : Stmt := topS 50
abbrev N_law : List Str := ["_law_script", "_law_box", "_law_system", "_law_many", "_law_assignments_here", "_law_faults", "_law_best", "_law_place", "_law_s", "_law_e", "_law_told", "_law_left", "_law_fewest", "_law_count", "_law_k", "_law_penalties_here", "_law_recovery_here"]
abbrev p_law : List Str := ["_law_script"]
theorem sc_law : FnScope N_law p_law (defScope s_law) := ⟨rfl, rfl, rfl, by decide +kernel, rfl, by decide +kernel, by decide +kernel⟩
end Fd
namespace Fd
open PySem PySem.Spec PyProof.Rows L2
section
variable {J : JJ} {X : Cx} {δ δ1 : DS} {pos : Pos} {elt tg iter : Expr} {ifs : List Expr} {scope : Scope}
theorem pef_lcNI {α : Type} {y : Str} {py : Pos} (j : Nat) (xs : List α) (enc : α → PyData) (p : α → Bool) (g : α → Int) (hc : X.calm = true) (hN : X.N.Nodup) (hi : PID J X (.Name y py) iter δ (xs.map enc) δ1) (hz : xs.length ≤ sizeLine)
    (ht : ∀ x, x ∈ xs → InB X scope (fun Y => PTsD J Y ifs (δ1.set j (.kn (enc x))) (p x) (δ1.set j (.kn (enc x)))) ∧ (p x = true → InB X scope (fun Y => PED J Y elt (δ1.set j (.kn (enc x))) (.int (g x)) (δ1.set j (.kn (enc x))))))
    (ok : BlkOk X.N X.env.scope scope [(y, j)]) (hj : X.N[j]? = some y := by rfl) (hx : InB X scope (fun Y => Loc Y.env.scope y) := by exact fun _ _ _ _ _ => by first | exact Or.inl rfl | exact Or.inr rfl)
    (hf : InB X scope (fun Y => Y.fn y = true ∨ Y.env.scope.names.lookup y = some .local) := by exact fun _ _ _ _ _ => by first | exact Or.inl rfl | exact Or.inr rfl)
    (hs : ∀ x, foldedSetIterable iter X.env x = pure x := by intro _; rfl) : PEF J X (.ListComp elt [⟨.Name y py, iter, ifs, 0⟩] scope pos) δ (((xs.filter p).map g).map .int) (δ1.set j .un) :=
  (pef_lcN (hs := hs) (hf := hf) (hx := hx) (hj := hj) j xs enc p (fun x => .int (g x)) hc hN hi hz ht ok).eq (by rw [List.map_map]; rfl)
/-- no test -/
theorem pef_lcA {α : Type} {y : Str} {py : Pos} (j : Nat) (xs : List α) (enc : α → PyData) (g : α → PyData) (hc : X.calm = true) (hN : X.N.Nodup) (hi : PID J X (.Name y py) iter δ (xs.map enc) δ1) (hz : xs.length ≤ sizeLine)
    (ht : ∀ x, x ∈ xs → InB X scope (fun Y => PED J Y elt (δ1.set j (.kn (enc x))) (g x) (δ1.set j (.kn (enc x)))))
    (ok : BlkOk X.N X.env.scope scope [(y, j)]) (hj : X.N[j]? = some y := by rfl) (hx : InB X scope (fun Y => Loc Y.env.scope y) := by exact fun _ _ _ _ _ => by first | exact Or.inl rfl | exact Or.inr rfl)
    (hf : InB X scope (fun Y => Y.fn y = true ∨ Y.env.scope.names.lookup y = some .local) := by exact fun _ _ _ _ _ => by first | exact Or.inl rfl | exact Or.inr rfl)
    (hs : ∀ x, foldedSetIterable iter X.env x = pure x := by intro _; rfl) : PEF J X (.ListComp elt [⟨.Name y py, iter, [], 0⟩] scope pos) δ (xs.map g) (δ1.set j .un) :=
  (pef_lcN (hs := hs) (hf := hf) (hx := hx) (hj := hj) j xs enc (fun _ => true) g hc hN hi hz (fun x hx => ⟨fun _ _ _ _ _ => ptsd_nil, fun _ => ht x hx⟩) ok).eq (by rw [List.filter_eq_self.mpr (fun _ _ => rfl)])
theorem pef_lcAI {α : Type} {y : Str} {py : Pos} (j : Nat) (xs : List α) (enc : α → PyData) (g : α → Int) (hc : X.calm = true) (hN : X.N.Nodup) (hi : PID J X (.Name y py) iter δ (xs.map enc) δ1) (hz : xs.length ≤ sizeLine)
    (ht : ∀ x, x ∈ xs → InB X scope (fun Y => PED J Y elt (δ1.set j (.kn (enc x))) (.int (g x)) (δ1.set j (.kn (enc x)))))
    (ok : BlkOk X.N X.env.scope scope [(y, j)]) (hj : X.N[j]? = some y := by rfl) (hx : InB X scope (fun Y => Loc Y.env.scope y) := by exact fun _ _ _ _ _ => by first | exact Or.inl rfl | exact Or.inr rfl)
    (hf : InB X scope (fun Y => Y.fn y = true ∨ Y.env.scope.names.lookup y = some .local) := by exact fun _ _ _ _ _ => by first | exact Or.inl rfl | exact Or.inr rfl)
    (hs : ∀ x, foldedSetIterable iter X.env x = pure x := by intro _; rfl) : PEF J X (.ListComp elt [⟨.Name y py, iter, [], 0⟩] scope pos) δ ((xs.map g).map .int) (δ1.set j .un) :=
  (pef_lcA (hs := hs) (hf := hf) (hx := hx) (hj := hj) j xs enc (fun x => .int (g x)) hc hN hi hz ht ok).eq (by rw [List.map_map]; rfl)
end
section
variable {J : JJ} {X : Cx} {δ δ1 δ2 δ3 : DS} {Φ : OP} {pos : Pos} {a b e : Expr} {st : Stmt} {sts : List Stmt}
/-- a loop whose state is told by the items taken so far -/
theorem psd_pre {α : Type} {tg iter : Expr} {body : List Stmt} (xs : List α) (enc : α → PyData) (S : List α → DS) (P : List α → Prop) (hp : PassesOwn (model X.prog X.w) X.A X.env X.xe) (hc : X.calm = true) (hi : PID J X tg iter δ (xs.map enc) δ1) (h0 : Le δ1 (S [])) (p0 : P [])
    (hs : ∀ pre x post, xs = pre ++ x :: post → P pre → ∃ js δ2, PGD J X tg (enc x) (S pre) js δ2 ∧ PBD J X body δ2 (lop (fun δ' => Le δ' (S (pre ++ [x])) ∧ P (pre ++ [x])) Φ)) (hd : P xs → Φ (.nx (S xs)))
    (hf : ∀ x, foldedSetIterable iter X.env x = pure x := by intro _; rfl) : PSD J X (.For tg iter body [] pos) δ Φ := by
  have hl : (xs.map enc).length = xs.length := List.length_map _
  refine psd_for (hf := hf) hp hc hi (fun i => S (xs.take i)) (fun i => P (xs.take i)) h0 p0 (fun i d hd1 p1 => ?_) (fun p1 => ?_)
  · rw [List.getElem?_map] at hd1
    cases q : xs[i]? with
    | none => rw [q] at hd1; cases hd1
    | some x =>
      rw [q] at hd1
      have e : enc x = d := Option.some.inj hd1
      subst e
      have e3 : xs = xs.take i ++ x :: xs.drop (i + 1) := by
        obtain ⟨h1, h2⟩ := List.getElem?_eq_some_iff.mp q
        rw [← h2, List.getElem_cons_drop, List.take_append_drop]
      obtain ⟨js, δ2, g1, g2⟩ := hs (xs.take i) x (xs.drop (i + 1)) e3 p1
      refine ⟨js, δ2, g1, ?_⟩
      have e2 : xs.take (i + 1) = xs.take i ++ [x] := by
        rw [List.take_add_one, q]
        rfl
      rw [e2]
      exact g2
  · rw [hl, List.take_length] at p1 ⊢
    exact hd p1
end
section
variable {J : JJ} {X : Cx} {δ δ1 : DS} {pos : Pos} {elt iter : Expr} {ifs : List Expr} {scope : Scope}
/-- z = [e for y in .. if ..], known from now on -/
theorem psd_setLcN {α : Type} {Φ : OP} {z y : Str} {py pz spos : Pos} (i j : Nat) (xs : List α) (enc : α → PyData) (p : α → Bool) (g : α → PyData) (hc : X.calm = true) (hN : X.N.Nodup) (hi : PID J X (.Name y py) iter δ (xs.map enc) δ1) (hz : xs.length ≤ sizeLine)
    (ht : ∀ x, x ∈ xs → InB X scope (fun Y => PTsD J Y ifs (δ1.set j (.kn (enc x))) (p x) (δ1.set j (.kn (enc x)))) ∧ (p x = true → InB X scope (fun Y => PED J Y elt (δ1.set j (.kn (enc x))) (g x) (δ1.set j (.kn (enc x))))))
    (ok : BlkOk X.N X.env.scope scope [(y, j)]) (k : Φ (.nx ((δ1.set j .un).set i (.kn (.list ((xs.filter p).map g)))))) (hj : X.N[j]? = some y := by rfl) (hx : InB X scope (fun Y => Loc Y.env.scope y) := by exact fun _ _ _ _ _ => by first | exact Or.inl rfl | exact Or.inr rfl)
    (hf : InB X scope (fun Y => Y.fn y = true ∨ Y.env.scope.names.lookup y = some .local) := by exact fun _ _ _ _ _ => by first | exact Or.inl rfl | exact Or.inr rfl)
    (hy : X.N[i]? = some z := by rfl) (hyl : X.env.scope.names.lookup z = some .local := by rfl) (hsw : swapsWith (.ListComp elt [⟨.Name y py, iter, ifs, 0⟩] scope pos) (some (.Name z pz)) spos.line X.env = pure true := by exact sw_true rfl rfl rfl (by decide +kernel))
    (hs : ∀ x, foldedSetIterable iter X.env x = pure x := by intro _; rfl) : PSD J X (.Assign [.Name z pz] (.ListComp elt [⟨.Name y py, iter, ifs, 0⟩] scope pos) spos) δ Φ := by
  refine psd_setLcG (hsw := hsw) (hs := hs) (hy := hy) (hyl := hyl) (own := [(y, j)]) i hc hN hi ok (fun _ => δ1.set j .un) (lcOut xs p g) (Le.refl _) rfl (fun i v x hv h => wipeD_un (δ := δ1) (vs := [j]) hv h) (lcN_turns xs enc p g hN hj hz hx hf ht) (.inl ?_)
  rw [lcOut_all]
  exact k
theorem psd_setLcO {α : Type} {Φ : OP} {z y : Str} {py pz spos : Pos} (i j : Nat) (xs : List α) (enc : α → PyData) (p : α → Bool) (g : α → PyData) (hc : X.calm = true) (hN : X.N.Nodup) (hi : PID J X (.Name y py) iter δ (xs.map enc) δ1) (hz : xs.length ≤ sizeLine)
    (ht : ∀ x, x ∈ xs → InB X scope (fun Y => PTsD J Y ifs (δ1.set j (.kn (enc x))) (p x) (δ1.set j (.kn (enc x)))) ∧ (p x = true → InB X scope (fun Y => PED J Y elt (δ1.set j (.kn (enc x))) (g x) (δ1.set j (.kn (enc x))))))
    (ok : BlkOk X.N X.env.scope scope [(y, j)]) (k : ∀ q : Addr, Φ (.nx ((δ1.set j .un).set i (.ow q ((xs.filter p).map g))))) (hj : X.N[j]? = some y := by rfl) (hx : InB X scope (fun Y => Loc Y.env.scope y) := by exact fun _ _ _ _ _ => by first | exact Or.inl rfl | exact Or.inr rfl)
    (hf : InB X scope (fun Y => Y.fn y = true ∨ Y.env.scope.names.lookup y = some .local) := by exact fun _ _ _ _ _ => by first | exact Or.inl rfl | exact Or.inr rfl)
    (hy : X.N[i]? = some z := by rfl) (hyl : X.env.scope.names.lookup z = some .local := by rfl) (hsw : swapsWith (.ListComp elt [⟨.Name y py, iter, ifs, 0⟩] scope pos) (some (.Name z pz)) spos.line X.env = pure true := by exact sw_true rfl rfl rfl (by decide +kernel))
    (hs : ∀ x, foldedSetIterable iter X.env x = pure x := by intro _; rfl) : PSD J X (.Assign [.Name z pz] (.ListComp elt [⟨.Name y py, iter, ifs, 0⟩] scope pos) spos) δ Φ := by
  refine psd_setLcG (hsw := hsw) (hs := hs) (hy := hy) (hyl := hyl) (own := [(y, j)]) i hc hN hi ok (fun _ => δ1.set j .un) (lcOut xs p g) (Le.refl _) rfl (fun i v x hv h => wipeD_un (δ := δ1) (vs := [j]) hv h) (lcN_turns xs enc p g hN hj hz hx hf ht) (.inr ?_)
  rw [lcOut_all]
  exact k
end
/-! ### a state told less, slot by slot -/
theorem le_nil : Le [] [] := trivial
theorem le_un {a : SV} {r s : DS} (h : Le r s) : Le (a :: r) (.un :: s) := ⟨trivial, h⟩
theorem le_eq {a : SV} {r s : DS} (h : Le r s) : Le (a :: r) (a :: s) := ⟨LeS.refl a, h⟩
theorem le_kn {d e : PyData} {r s : DS} (q : d = e) (h : Le r s) : Le (.kn d :: r) (.kn e :: s) := ⟨q, h⟩
theorem le_ow {p : Addr} {d e : List PyData} {r s : DS} (q : d = e) (h : Le r s) : Le (.ow p d :: r) (.ow p e :: s) := ⟨⟨rfl, q⟩, h⟩
/-! ### indices -/
theorem ixN_nat {n k : Nat} (h : k < n) : ixN n (k : Int) = some k := by
  unfold ixN
  rw [if_pos (by omega), if_pos (by omega)]
  rfl
theorem ixN_int {n : Nat} {k : Int} (h0 : 0 ≤ k) (h : k < n) : ixN n k = some k.toNat := by
  unfold ixN
  rw [if_pos h0, if_pos h]
theorem atI_int {α : Type} {xs : List α} {k : Int} {x : α} (h0 : 0 ≤ k) (h : xs[k.toNat]? = some x) : atI xs k = some x := by
  unfold atI
  rw [ixN_int h0 (by have := (List.getElem?_eq_some_iff.mp h).1; omega)]
  exact h
theorem atI_map {α β : Type} {xs : List α} {f : α → β} {k : Int} {x : α} (h0 : 0 ≤ k) (h : xs[k.toNat]? = some x) : atI (xs.map f) k = some (f x) := atI_int h0 (by rw [List.getElem?_map, h]; rfl)
/-- the k-th int, 0 where there is none -/
def gi (ns : List Int) (k : Int) : Int := ns.getD k.toNat 0
theorem gi_at {ns : List Int} {k : Int} (h0 : 0 ≤ k) (h : k < ns.length) : ns[k.toNat]? = some (gi ns k) := by
  unfold gi
  rw [List.getD_eq_getElem?_getD, List.getElem?_eq_getElem (by omega)]
  rfl
theorem atI_gi {ns : List Int} {k : Int} (h0 : 0 ≤ k) (h : k < ns.length) : atI (ns.map PyData.int) k = some (.int (gi ns k)) := atI_map h0 (gi_at h0 h)
end Fd
/-! enumerate and zip over known lists and tuples. -/
namespace Fd
open PySem PySem.Spec PyProof.Rows L2
/-- a list (false) or a tuple (true) -/
def Sc (K : PySem.W.Frag) (t : Bool) (H : Hp) (a : Addr) (xs : List V) : Prop := if t = true then SqT K H a xs else SqL K H a xs
def ScIs (t : Bool) (h : Heap) (a : Addr) (its : Array Value) : Prop := if t = true then h.IsTuple a its else h.IsList a its
def ScIt (t : Bool) (h : Heap) (it a : Addr) (i : Nat) : Prop := if t = true then h.IsTupleIter it a i else h.IsListIter it a i
def scO (t : Bool) (a : Addr) : Obj := if t = true then { cls := .type "tuple_iterator", data := .fields #[.ref a, .int 0 0] } else { cls := .type "list_iterator", data := .fields #[.ref a, .int 0 0] }
theorem Sc.ext {K : PySem.W.Frag} {t : Bool} {H H' : Hp} {a : Addr} {xs : List V} (e : Same H H') (h : Sc K t H a xs) : Sc K t H' a xs := by
  cases t with
  | true => exact sqT_ext (K := K) e h
  | false => exact Same.seq (K := K) e h
theorem sc_inv {X : Cx} {pins : List (Addr × Obj)} {σ : L2.St} {H : Hp} {s : Shared} {t : Bool} {a : Addr} {xs : List V} (I : Inv X pins σ H s) (h : Sc X.K t H a xs) : ∃ its : List Value, Vals xs its ∧ ScIs t s.heap a its.toArray := by
  cases t with
  | true =>
    obtain ⟨its, r, p, _⟩ := I.tuple (show SqT X.K H a xs from h)
    exact ⟨its, r, p⟩
  | false =>
    obtain ⟨its, r, p, _⟩ := I.list (show SqL X.K H a xs from h)
    exact ⟨its, r, p.isList⟩
theorem sc_lt {t : Bool} {h : Heap} {a : Addr} {its : Array Value} (p : ScIs t h a its) : a < h.objs.size := by
  cases t with
  | true =>
    obtain ⟨o, ho, _⟩ := (show h.IsTuple a its from p)
    exact Heap.lt_size ho
  | false =>
    obtain ⟨o, ho, _⟩ := (show h.IsList a its from p)
    exact Heap.lt_size ho
theorem sc_draws {prog : Program} {w : World} {A : Around} (hh : A.handled = none) (t : Bool) (it a : Addr) (hne : a ≠ it) (its : Array Value) : Draws prog w A it [it, a] its.size (fun i v => its[i]? = some v) (fun i h => ScIt t h it a i ∧ ScIs t h a its) := by
  cases t with
  | true => exact Draws.tuple hh it a hne its
  | false => exact Draws.list hh it a hne its
theorem sc_begins (t : Bool) (a : Addr) (its : Array Value) : Begins (.ref a) (scO t a) (fun h => ScIs t h a its) := by
  cases t with
  | true => exact begins_tuple a its
  | false => exact begins_list a its
theorem sc_it0 {t : Bool} {h : Heap} {it a : Addr} (e : h.get? it = some (scO t a)) : ScIt t h it a 0 := by
  cases t with
  | true => exact ⟨_, e, rfl, rfl⟩
  | false => exact ⟨_, e, rfl, rfl⟩
theorem sc_keep {t : Bool} {h h' : Heap} {it a : Addr} {i : Nat} (k : ∀ o, h.get? it = some o → h'.get? it = some o) (p : ScIt t h it a i) : ScIt t h' it a i := by
  cases t with
  | true => exact Heap.IsTupleIter.at (show h.IsTupleIter it a i from p) k
  | false => exact Heap.IsListIter.at (show h.IsListIter it a i from p) k
theorem sc_obj {t : Bool} {h : Heap} {it a : Addr} {i : Nat} (p : ScIt t h it a i) : ∃ o, h.get? it = some o ∧ ∀ v, o.data ≠ .cell v := by
  cases t with
  | true =>
    obtain ⟨o, ho, _, hd⟩ := (show h.IsTupleIter it a i from p)
    exact ⟨o, ho, fun v e => by rw [hd] at e; cases e⟩
  | false =>
    obtain ⟨o, ho, _, hd⟩ := (show h.IsListIter it a i from p)
    exact ⟨o, ho, fun v e => by rw [hd] at e; cases e⟩
/-- new tuples, one by one -/
def Itn (src : Hp → Prop) (row : Nat → List V) (m : Nat) : It :=
  ⟨fun i H => src H ∧ i < m, fun i H v H' => ∃ T, v = .ref T ∧ H T = none ∧ H' = upd H T (.tup (row i)), fun i H => src H ∧ i = m⟩
theorem turn_new {P : Program} {w : World} {K : PySem.W.Frag} {elts : List Expr} {kk : Nat} {tpos : Pos} {src : Hp → Prop} {row : Nat → List V} {m : Nat} {fp : List Addr} {it : Addr} {tn : Nat → Heap → Prop} (hm : it ∈ fp)
    (ho : ∀ i h, tn i h → ∀ b ∈ fp, ∃ o, h.get? b = some o ∧ ∀ v, o.data ≠ .cell v) (hk : ∀ i h h', tn i h → (∀ b ∈ fp, ∀ o, h.get? b = some o → h'.get? b = some o) → tn i h') (hrow : ∀ i, (row i).length ≤ sizeLine)
    (at' : ∀ (X : Cx), X.prog = P → X.w = w → X.K = K → X.calm = true → ∀ (pins : List (Addr × Obj)) (s : Shared) (σ : L2.St) (H : Hp), Inv X pins σ H s → src H → ∃ (fp' wr : List Addr) (Y : Nat → Heap → Value → Heap → Prop) (St : Nat → Heap → Prop),
      GoesN P w X.A (.Tuple elts kk tpos) it fp' wr m Y St ∧ (∀ b, b ∈ wr → b ∈ fp) ∧ (∀ i, tn i s.heap → St i s.heap) ∧ (∀ i h, St i h → tn i h) ∧ ∀ i h0 v h, i < m → Y i h0 v h → ∃ T vals, v = .ref T ∧ h0.objs.size ≤ T ∧ h.IsTuple T vals.toArray ∧ Vals (row i) vals)
    (hself : ∀ (A : Around) (i : Nat) (s : Shared) (Q : Value → Shared → Prop) (E : Value → Shared → Prop), tn i s.heap → Q (.ref it) s → wpAny (model P w) A (pyIter (.ref it)) Q E s) : Turn P w K (.Tuple elts kk tpos) (Itn src row m) fp it tn where
  mem := hm
  obj := ho
  keep := hk
  item := by
    intro X hP hw hK hc i pins s σ H E I hf st hg
    obtain ⟨fp', wr, Y, St, G, hwr, h1, h2, h3⟩ := at' X hP hw hK hc pins s σ H I hg.1
    subst hP hw hK
    refine wpAny_mono (G.goes i s (fun u s2 => ∃ x H', Inv X pins σ H' s2 ∧ RelV x u ∧ (Itn src row m).yld i H x H' ∧ tn (i + 1) s2.heap ∧ ∀ b ∈ fp, H' b = none) E hg.2 (h1 i st) fun v h' tk hY hS hkp htk => ?_) (fun r s1 ⟨v, e, q⟩ => ⟨v, e, q⟩) fun _ _ e => e
    obtain ⟨T, vals, rfl, hT, hv, rv⟩ := h3 i _ _ _ hg.2 hY
    have new : ObjOk X.prog X.w (upd H T (.tup (row i))) h' T (.tup (row i)) := ⟨hrow i, vals, rv, hv⟩
    refine ⟨.ref T, _, I.turnedNew (ch := wr) hkp (fun b hb => hf b (hwr b hb)) hT new, rfl, ⟨T, rfl, I.hok.fresh hT, rfl⟩, h2 _ _ hS, fun b hb => ?_⟩
    obtain ⟨o, hob, _⟩ := ho i _ st b hb
    rw [upd_ne (Nat.ne_of_lt (Nat.lt_of_lt_of_le (Heap.lt_size hob) hT))]
    exact (hf b hb).1
  done := by
    intro X hP hw hK hc i pins s σ H E I hf st hg
    obtain ⟨fp', wr, Y, St, G, hwr, h1, h2, h3⟩ := at' X hP hw hK hc pins s σ H I hg.1
    subst hP hw hK
    have ei : i = m := hg.2
    subst ei
    refine wpAny_mono (G.stops s (fun s2 => Inv X pins σ H s2) E (h1 i st) fun h' tk hkp htk => I.turnedL (ch := wr) hkp (fun b hb => hf b (hwr b hb))) (fun r s1 q => q) fun _ _ e => e
  self := hself
theorem itd_new {K : PySem.W.Frag} {B : Hp} {src : Hp → Prop} {row : Nat → List V} {m : Nat} {ds : List PyData} (hl : ds.length = m) (hs : ∀ H, Same B H → src H) (hr : ∀ (i : Nat) (d : PyData), ds[i]? = some d → ∃ es, d = .tuple es ∧ DpAll K B (row i) es) : ItD K (Itn src row m) B ds where
  go := fun i H e hi => ⟨hs H e, by omega⟩
  stop := fun H e => ⟨hs H e, hl⟩
  yld := fun i d B1 H x H' hd e1 e2 ⟨T, y1, y2, y3⟩ => by
    obtain ⟨es, h1, h2⟩ := hr i d hd
    exact .inr ⟨T, row i, es, y2, y1, y3, h1, dpa_ext e1 _ _ h2⟩
theorem vals_get {xs : List V} {its : List Value} {i : Nat} {v : Value} (r : Vals xs its) (h : its.toArray[i]? = some v) : ∃ x, xs[i]? = some x ∧ RelV x v := by
  rw [List.getElem?_toArray] at h
  have hl := r.length
  have hi := (List.getElem?_eq_some_iff.mp h).1
  have hx : xs[i]? = some (xs[i]'(by omega)) := List.getElem?_eq_getElem _
  obtain ⟨u, hu, ru⟩ := r.get hx
  rw [hu] at h
  cases h
  exact ⟨_, hx, ru⟩
/-! ### two -/
def rowz2 (xs ys : List V) (i : Nat) : List V := [xs.getD i .non, ys.getD i .non]
theorem turn_z2 {P : Program} {w : World} {K : PySem.W.Frag} {elts : List Expr} {kk : Nat} {tpos : Pos} {t1 t2 : Bool} {a b z TI TO i1 i2 : Addr} {xs ys : List V} (D : ZipSep2 z TI TO i1 i2 [i1, a] [i2, b]) (n1 : a ≠ i1) (n2 : b ≠ i2) :
    Turn P w K (.Tuple elts kk tpos) (Itn (fun H => Sc K t1 H a xs ∧ Sc K t2 H b ys) (rowz2 xs ys) (min xs.length ys.length)) [z, TI, TO, i1, i2] z (fun i h => IsZip h z TI TO .none ∧ IsTupOf2 h TI (.ref i1) (.ref i2) ∧ (∃ a1 a2, IsTupOf2 h TO a1 a2) ∧ ScIt t1 h i1 a i ∧ ScIt t2 h i2 b i) := by
  refine turn_new (by simp) (fun i h st c hc => ?_) (fun i h h' st k => ?_) (fun i => by show 2 ≤ sizeLine; decide) (fun X hP hw hK hc pins s σ H I hs => ?_) (fun A i s Q E st h => wpAny_pyIter_zip st.1 h)
  · obtain ⟨hz, hTI, ⟨x, y, hTO⟩, h1, h2⟩ := st
    have e' : c = z ∨ c = TI ∨ c = TO ∨ c = i1 ∨ c = i2 := by simpa using hc
    rcases e' with q | q | q | q | q
    · rw [q]; exact ⟨_, hz, fun v q => nomatch q⟩
    · rw [q]; exact ⟨_, hTI, fun v q => nomatch q⟩
    · rw [q]; exact ⟨_, hTO, fun v q => nomatch q⟩
    · rw [q]; exact sc_obj h1
    · rw [q]; exact sc_obj h2
  · obtain ⟨hz, hTI, ⟨x, y, hTO⟩, h1, h2⟩ := st
    exact ⟨k z (by simp) _ hz, k TI (by simp) _ hTI, ⟨x, y, k TO (by simp) _ hTO⟩, sc_keep (fun o q => k i1 (by simp) o q) h1, sc_keep (fun o q => k i2 (by simp) o q) h2⟩
  · subst hP hw hK
    obtain ⟨its, r1, p1⟩ := sc_inv I hs.1
    obtain ⟨its2, r2, p2⟩ := sc_inv I hs.2
    have d1 := sc_draws (prog := X.prog) (w := X.w) (A := X.A.in1) (I.ok.hd hc) t1 i1 a n1 its.toArray
    have d2 := sc_draws (prog := X.prog) (w := X.w) (A := X.A.in1) (I.ok.hd hc) t2 i2 b n2 its2.toArray
    have l1 : its.toArray.size = xs.length := by rw [List.size_toArray]; exact r1.length.symm
    have l2 : its2.toArray.size = ys.length := by rw [List.size_toArray]; exact r2.length.symm
    refine ⟨_, [z, TO, i1, i2], _, _, by rw [← l1, ← l2]; exact GoesN.zip2 D d1 d2, fun b hb => ?_, fun i st => ?_, fun i h st => ?_, fun i h0 v h hi hY => ?_⟩
    · have e' : b = z ∨ b = TO ∨ b = i1 ∨ b = i2 := by simpa using hb
      rcases e' with q | q | q | q <;> rw [q] <;> simp
    · obtain ⟨hz, hTI, hTO, h1, h2⟩ := st
      exact ⟨hz, hTI, hTO, ⟨h1, p1⟩, ⟨h2, p2⟩⟩
    · obtain ⟨hz, hTI, hTO, h1, h2⟩ := st
      exact ⟨hz, hTI, hTO, h1.1, h2.1⟩
    · obtain ⟨T, x, y, e, hT, hx, hy, ht⟩ := hY
      obtain ⟨x', e1, q1⟩ := vals_get r1 hx
      obtain ⟨y', e2, q2⟩ := vals_get r2 hy
      refine ⟨T, [x, y], e, hT, ht, ?_⟩
      unfold rowz2
      rw [List.getD_eq_getElem?_getD, e1, List.getD_eq_getElem?_getD, e2]
      exact .cons q1 (.cons q2 .nil)
/-! ### three -/
def rowz3 (xs ys zs : List V) (i : Nat) : List V := [xs.getD i .non, ys.getD i .non, zs.getD i .non]
theorem turn_z3 {P : Program} {w : World} {K : PySem.W.Frag} {elts : List Expr} {kk : Nat} {tpos : Pos} {t1 t2 t3 : Bool} {a b c z TI TO i1 i2 i3 : Addr} {xs ys zs : List V} (D : ZipSep3 z TI TO i1 i2 i3 [i1, a] [i2, b] [i3, c]) (n1 : a ≠ i1) (n2 : b ≠ i2) (n3 : c ≠ i3) :
    Turn P w K (.Tuple elts kk tpos) (Itn (fun H => Sc K t1 H a xs ∧ Sc K t2 H b ys ∧ Sc K t3 H c zs) (rowz3 xs ys zs) (min (min xs.length ys.length) zs.length)) [z, TI, TO, i1, i2, i3] z (fun i h => IsZip h z TI TO .none ∧ IsTupOf3 h TI (.ref i1) (.ref i2) (.ref i3) ∧ (∃ a1 a2 a3, IsTupOf3 h TO a1 a2 a3) ∧ ScIt t1 h i1 a i ∧ ScIt t2 h i2 b i ∧ ScIt t3 h i3 c i) := by
  refine turn_new (by simp) (fun i h st c hc => ?_) (fun i h h' st k => ?_) (fun i => by show 3 ≤ sizeLine; decide) (fun X hP hw hK hc pins s σ H I hs => ?_) (fun A i s Q E st h => wpAny_pyIter_zip st.1 h)
  · obtain ⟨hz, hTI, ⟨x, y, u, hTO⟩, h1, h2, h3⟩ := st
    have e' : c = z ∨ c = TI ∨ c = TO ∨ c = i1 ∨ c = i2 ∨ c = i3 := by simpa using hc
    rcases e' with q | q | q | q | q | q
    · rw [q]; exact ⟨_, hz, fun v q => nomatch q⟩
    · rw [q]; exact ⟨_, hTI, fun v q => nomatch q⟩
    · rw [q]; exact ⟨_, hTO, fun v q => nomatch q⟩
    · rw [q]; exact sc_obj h1
    · rw [q]; exact sc_obj h2
    · rw [q]; exact sc_obj h3
  · obtain ⟨hz, hTI, ⟨x, y, u, hTO⟩, h1, h2, h3⟩ := st
    exact ⟨k z (by simp) _ hz, k TI (by simp) _ hTI, ⟨x, y, u, k TO (by simp) _ hTO⟩, sc_keep (fun o q => k i1 (by simp) o q) h1, sc_keep (fun o q => k i2 (by simp) o q) h2, sc_keep (fun o q => k i3 (by simp) o q) h3⟩
  · subst hP hw hK
    obtain ⟨its, r1, p1⟩ := sc_inv I hs.1
    obtain ⟨its2, r2, p2⟩ := sc_inv I hs.2.1
    obtain ⟨its3, r3, p3⟩ := sc_inv I hs.2.2
    have d1 := sc_draws (prog := X.prog) (w := X.w) (A := X.A.in1) (I.ok.hd hc) t1 i1 a n1 its.toArray
    have d2 := sc_draws (prog := X.prog) (w := X.w) (A := X.A.in1) (I.ok.hd hc) t2 i2 b n2 its2.toArray
    have d3 := sc_draws (prog := X.prog) (w := X.w) (A := X.A.in1) (I.ok.hd hc) t3 i3 c n3 its3.toArray
    have l1 : its.toArray.size = xs.length := by rw [List.size_toArray]; exact r1.length.symm
    have l2 : its2.toArray.size = ys.length := by rw [List.size_toArray]; exact r2.length.symm
    have l3 : its3.toArray.size = zs.length := by rw [List.size_toArray]; exact r3.length.symm
    refine ⟨_, [z, TO, i1, i2, i3], _, _, by rw [← l1, ← l2, ← l3]; exact GoesN.zip3 D d1 d2 d3, fun b hb => ?_, fun i st => ?_, fun i h st => ?_, fun i h0 v h hi hY => ?_⟩
    · have e' : b = z ∨ b = TO ∨ b = i1 ∨ b = i2 ∨ b = i3 := by simpa using hb
      rcases e' with q | q | q | q | q <;> rw [q] <;> simp
    · obtain ⟨hz, hTI, hTO, h1, h2, h3⟩ := st
      exact ⟨hz, hTI, hTO, ⟨h1, p1⟩, ⟨h2, p2⟩, ⟨h3, p3⟩⟩
    · obtain ⟨hz, hTI, hTO, h1, h2, h3⟩ := st
      exact ⟨hz, hTI, hTO, h1.1, h2.1, h3.1⟩
    · obtain ⟨T, x, y, u, e, hT, hx, hy, hu, ht⟩ := hY
      obtain ⟨x', e1, q1⟩ := vals_get r1 hx
      obtain ⟨y', e2, q2⟩ := vals_get r2 hy
      obtain ⟨u', e3, q3⟩ := vals_get r3 hu
      refine ⟨T, [x, y, u], e, hT, ht, ?_⟩
      unfold rowz3
      rw [List.getD_eq_getElem?_getD, e1, List.getD_eq_getElem?_getD, e2, List.getD_eq_getElem?_getD, e3]
      exact .cons q1 (.cons q2 (.cons q3 .nil))
/-! ### with numbers -/
def rowe (xs : List V) (i : Nat) : List V := [.int (0 + (i : Int)), xs.getD i .non]
theorem turn_en {P : Program} {w : World} {K : PySem.W.Frag} {elts : List Expr} {kk : Nat} {tpos : Pos} {t : Bool} {a e it : Addr} {xs : List V} (n0 : e ≠ it) (n1 : a ≠ it) (n2 : e ≠ a) :
    Turn P w K (.Tuple elts kk tpos) (Itn (fun H => Sc K t H a xs) (rowe xs) xs.length) [e, it] e (fun i h => (∃ old, IsEnum h e it (0 + (i : Int)) old) ∧ ScIt t h it a i) := by
  refine turn_new (by simp) (fun i h st c hc => ?_) (fun i h h' st k => ?_) (fun i => by show 2 ≤ sizeLine; decide) (fun X hP hw hK hc pins s σ H I hs => ?_) (fun A i s Q E st h => let ⟨⟨_, he⟩, _⟩ := st; wpAny_pyIter_enum he h)
  · obtain ⟨⟨old, he⟩, h1⟩ := st
    have e' : c = e ∨ c = it := by simpa using hc
    rcases e' with q | q
    · rw [q]; exact ⟨_, he, fun v q => nomatch q⟩
    · rw [q]; exact sc_obj h1
  · obtain ⟨⟨old, he⟩, h1⟩ := st
    exact ⟨⟨old, k e (by simp) _ he⟩, sc_keep (fun o q => k it (by simp) o q) h1⟩
  · subst hP hw hK
    obtain ⟨its, r1, p1⟩ := sc_inv I hs
    have d1 := sc_draws (prog := X.prog) (w := X.w) (A := X.A.in1) (I.ok.hd hc) t it a n1 its.toArray
    have l1 : its.toArray.size = xs.length := by rw [List.size_toArray]; exact r1.length.symm
    refine ⟨_, [e, it], _, _, by rw [← l1]; exact GoesN.enumFrom 0 d1 e n0 (by simp [n0, n2]) (by simp), fun b hb => hb, fun i st => ?_, fun i h st => ?_, fun i h0 v h hi hY => ?_⟩
    · exact ⟨st.1, st.2, p1⟩
    · exact ⟨st.1, st.2.1⟩
    · obtain ⟨T, tk, x, ev, hT, hx, ht⟩ := hY
      obtain ⟨x', e1, q1⟩ := vals_get r1 hx
      refine ⟨T, [.int (0 + (i : Int)) tk, x], ev, hT, ht, ?_⟩
      unfold rowe
      rw [List.getD_eq_getElem?_getD, e1]
      exact .cons ⟨_, rfl⟩ (.cons q1 .nil)
set_option maxHeartbeats 1000000 in
theorem meets_en1 {v : Value} {o : Obj} {H : Heap → Prop} (B : Begins v o H) :
    Meets (Builtin.«enumerate.__new__» ⟨[.type "enumerate", v], []⟩) (fun _ R s => H s.heap ∧
      R (.ok (.ret (.ref (s.heap.push o).objs.size))) { s with heap := (s.heap.push o).push { cls := .type "enumerate", data := .fields #[.none, .bool false, .ref s.heap.objs.size, rawInt 0, .none, .none] } }) :=
  .of_wp fun prog w A R s h => by
    obtain ⟨hp, g, d, tk, os⟩ := s; obtain ⟨h1, h⟩ := h
    have hsub := sub_enumerate
    have q1 : ∀ {A' : Around} {E : Value → Shared → Prop} {Q : Value → Shared → Prop}, Q (.ref hp.objs.size) ⟨hp.push o, g, d, tk, os⟩ → wpAny (model prog w) A' (pyIter v) Q E ⟨hp, g, d, tk, os⟩ := fun q => B.iter prog w _ _ ⟨hp, g, d, tk, os⟩ _ h1 q
    wp_walk using q1
    refine wpAny_stack_any fun st => wpAny_pure ?_
    split
    · rename_i c _ _ _ _ _
      cases (c == Value.type "enumerate") <;> (wp_walk using q1; exact ⟨_, rfl, h⟩)
    · wp_walk using q1
      exact ⟨_, rfl, h⟩
section
variable {prog : Program} {w : World} {A : Around} {E : Value → Shared → Prop} {s : Shared}
theorem call_en1 {v : Value} {o : Obj} {H : Heap → Prop} {Q : Value → Shared → Prop} (B : Begins v o H) (h1 : H s.heap)
    (h : ∀ h', IsEnum h' (s.heap.objs.size + 1) s.heap.objs.size 0 .none → h'.get? s.heap.objs.size = some o → (∀ b o, s.heap.get? b = some o → h'.get? b = some o) → Q (.ref (s.heap.objs.size + 1)) { s with heap := h' }) :
    wpAny (model prog w) A (call (.type "enumerate") [v]) Q E s := by
  refine callType_new F.called_enumerate (by decide) (F.typeCall_enumerate_1 _) (F.newCall_enumerate_1 _) (fun obj => F.args_object_init_2 obj _) F.entry_enumerate_new (meets_en1 B) ⟨h1, ?_⟩
  have hz : (s.heap.push o).objs.size = s.heap.objs.size + 1 := Heap.size_push ..
  show _ ∧ _
  rw [hz]
  have he : IsEnum ((s.heap.push o).push { cls := .type "enumerate", data := .fields #[.none, .bool false, .ref s.heap.objs.size, rawInt 0, .none, .none] }) (s.heap.objs.size + 1) s.heap.objs.size 0 .none := by
    have z := Heap.get?_push_size (s.heap.push o) (o := { cls := .type "enumerate", data := .fields #[.none, .bool false, .ref s.heap.objs.size, rawInt 0, .none, .none] }) rfl
    rw [hz] at z; exact z
  exact ⟨⟨_, he, rfl⟩, h _ he (Heap.get?_push_of_some _ (Heap.get?_push_size _ B.free)) fun b o x => Heap.get?_push_of_some _ (Heap.get?_push_of_some _ x)⟩
end
/-! ### as iterables -/
def iZ2 (K : PySem.W.Frag) (t1 t2 : Bool) (ta : TA) : TI := fun σ H R => ta σ H fun vs H1 => ∃ a b xs ys, vs = [.ref a, .ref b] ∧ Sc K t1 H1 a xs ∧ Sc K t2 H1 b ys ∧ R (Itn (fun H => Sc K t1 H a xs ∧ Sc K t2 H b ys) (rowz2 xs ys) (min xs.length ys.length)) H1
def iZ3 (K : PySem.W.Frag) (t1 t2 t3 : Bool) (ta : TA) : TI := fun σ H R => ta σ H fun vs H1 => ∃ a b c xs ys zs, vs = [.ref a, .ref b, .ref c] ∧ Sc K t1 H1 a xs ∧ Sc K t2 H1 b ys ∧ Sc K t3 H1 c zs ∧
  R (Itn (fun H => Sc K t1 H a xs ∧ Sc K t2 H b ys ∧ Sc K t3 H c zs) (rowz3 xs ys zs) (min (min xs.length ys.length) zs.length)) H1
def iEn (K : PySem.W.Frag) (t : Bool) (ta : TA) : TI := fun σ H R => ta σ H fun vs H1 => ∃ a xs, vs = [.ref a] ∧ Sc K t H1 a xs ∧ R (Itn (fun H => Sc K t H a xs) (rowe xs) xs.length) H1
theorem pi_z2 {X : Cx} {e e2 : Expr} {ta : TA} {p pos tpos : Pos} {elts : List Expr} {kk : Nat} {t1 t2 : Bool} (hg : Gl X "zip") (hm : X.mg "zip" = none) (ha : PA X [e, e2] ta)
    (hs : starEach [e, e2] X.env = (false, eval e X.env) :: starEach [e2] X.env := by rfl) (hpl : (backTo pos (starEach [e2] X.env)).any (·.1) = false := by rfl) : PI X (.Tuple elts kk tpos) (.Call (.Name "zip" p) [e, e2] [] pos) (iZ2 X.K t1 t2 ta) := by
  refine ⟨fun pins s σ H R I h => ?_⟩
  refine Call_ (ld_blt I hg hm PyProof.Rows.boot_zip (PyProof.Rows.callWith_type1 (L2.thn (ha.run pos pins s σ H _ I h) fun us s1 ⟨vs, H1, I1, r1, q1⟩ => ?_) hs hpl))
  obtain ⟨a, b, xs, ys, ex, h1, h2, q⟩ := q1
  subst ex
  cases r1 with
  | cons r rr =>
    cases rr with
    | cons r' rr =>
      cases rr
      cases r
      cases r'
      obtain ⟨its, rv, p1⟩ := sc_inv I1 h1
      obtain ⟨its2, rv2, p2⟩ := sc_inv I1 h2
      have la := sc_lt p1
      have lb := sc_lt p2
      refine zip_begins2 (sc_begins t1 a its.toArray) (sc_begins t2 b its2.toArray) p1 p2 fun h' hz hTI hTO g1 g2 hsz hk => wpAny_pyIter_zip hz ?_
      have I2 : Inv X pins σ H1 { s1 with heap := h' } := I1.kept (t' := s1.toks) hk
      have D := zip_sep2 (N := s1.heap.objs.size) (fp1 := [a]) (fp2 := [b]) (fun c hc => by rw [List.mem_singleton.mp hc]; exact la) (fun c hc => by rw [List.mem_singleton.mp hc]; exact lb)
      refine ⟨s1.heap.objs.size + 4, [s1.heap.objs.size + 4, s1.heap.objs.size + 2, s1.heap.objs.size + 3, s1.heap.objs.size, s1.heap.objs.size + 1], _, _, H1, rfl, I2, turn_z2 D (Nat.ne_of_lt la) (Nat.ne_of_lt (Nat.lt_succ_of_lt lb)), ⟨hz, hTI, ⟨_, _, hTO⟩, sc_it0 g1, sc_it0 g2⟩, fun c hc => ?_, q⟩
      have e' : c = s1.heap.objs.size + 4 ∨ c = s1.heap.objs.size + 2 ∨ c = s1.heap.objs.size + 3 ∨ c = s1.heap.objs.size ∨ c = s1.heap.objs.size + 1 := by simpa using hc
      have hle : s1.heap.objs.size ≤ c := by
        rcases e' with z | z | z | z | z <;> rw [z] <;> first | exact Nat.le_refl _ | exact Nat.le_add_right _ _
      exact I1.fpOk hle (I1.hok.fresh hle)
theorem pi_z3 {X : Cx} {e e2 e3 : Expr} {ta : TA} {p pos tpos : Pos} {elts : List Expr} {kk : Nat} {t1 t2 t3 : Bool} (hg : Gl X "zip") (hm : X.mg "zip" = none) (ha : PA X [e, e2, e3] ta)
    (hs : starEach [e, e2, e3] X.env = (false, eval e X.env) :: starEach [e2, e3] X.env := by rfl) (hpl : (backTo pos (starEach [e2, e3] X.env)).any (·.1) = false := by rfl) : PI X (.Tuple elts kk tpos) (.Call (.Name "zip" p) [e, e2, e3] [] pos) (iZ3 X.K t1 t2 t3 ta) := by
  refine ⟨fun pins s σ H R I h => ?_⟩
  refine Call_ (ld_blt I hg hm PyProof.Rows.boot_zip (PyProof.Rows.callWith_type1 (L2.thn (ha.run pos pins s σ H _ I h) fun us s1 ⟨vs, H1, I1, r1, q1⟩ => ?_) hs hpl))
  obtain ⟨a, b, c, xs, ys, zs, ex, h1, h2, h3, q⟩ := q1
  subst ex
  cases r1 with
  | cons r rr =>
    cases rr with
    | cons r' rr =>
      cases rr with
      | cons r'' rr =>
        cases rr
        cases r
        cases r'
        cases r''
        obtain ⟨its, rv, p1⟩ := sc_inv I1 h1
        obtain ⟨its2, rv2, p2⟩ := sc_inv I1 h2
        obtain ⟨its3, rv3, p3⟩ := sc_inv I1 h3
        have la := sc_lt p1
        have lb := sc_lt p2
        have lc := sc_lt p3
        refine zip_begins3 (sc_begins t1 a its.toArray) (sc_begins t2 b its2.toArray) (sc_begins t3 c its3.toArray) p1 p2 p3 fun h' hz hTI hTO g1 g2 g3 hsz hk => wpAny_pyIter_zip hz ?_
        have I2 : Inv X pins σ H1 { s1 with heap := h' } := I1.kept (t' := s1.toks) hk
        have D := zip_sep3 (N := s1.heap.objs.size) (fp1 := [a]) (fp2 := [b]) (fp3 := [c]) (fun d hd => by rw [List.mem_singleton.mp hd]; exact la) (fun d hd => by rw [List.mem_singleton.mp hd]; exact lb) (fun d hd => by rw [List.mem_singleton.mp hd]; exact lc)
        refine ⟨s1.heap.objs.size + 5, [s1.heap.objs.size + 5, s1.heap.objs.size + 3, s1.heap.objs.size + 4, s1.heap.objs.size, s1.heap.objs.size + 1, s1.heap.objs.size + 2], _, _, H1, rfl, I2, turn_z3 D (Nat.ne_of_lt la) (Nat.ne_of_lt (Nat.lt_succ_of_lt lb)) (Nat.ne_of_lt (Nat.lt_of_lt_of_le lc (Nat.le_add_right _ _))), ⟨hz, hTI, ⟨_, _, _, hTO⟩, sc_it0 g1, sc_it0 g2, sc_it0 g3⟩, fun c hc => ?_, q⟩
        have e' : c = s1.heap.objs.size + 5 ∨ c = s1.heap.objs.size + 3 ∨ c = s1.heap.objs.size + 4 ∨ c = s1.heap.objs.size ∨ c = s1.heap.objs.size + 1 ∨ c = s1.heap.objs.size + 2 := by simpa using hc
        have hle : s1.heap.objs.size ≤ c := by
          rcases e' with z | z | z | z | z | z <;> rw [z] <;> first | exact Nat.le_refl _ | exact Nat.le_add_right _ _
        exact I1.fpOk hle (I1.hok.fresh hle)
theorem pi_en {X : Cx} {e : Expr} {ta : TA} {p pos tpos : Pos} {elts : List Expr} {kk : Nat} {t : Bool} (hg : Gl X "enumerate") (hm : X.mg "enumerate" = none) (ha : PA X [e] ta) (hs : starEach [e] X.env = [(false, eval e X.env)] := by rfl) : PI X (.Tuple elts kk tpos) (.Call (.Name "enumerate" p) [e] [] pos) (iEn X.K t ta) := by
  refine ⟨fun pins s σ H R I h => ?_⟩
  refine Call_ (ld_blt I hg hm boot_enumerate (PyProof.Rows.callWith_type1 (L2.thn (ha.run pos pins s σ H _ I h) fun us s1 ⟨vs, H1, I1, r1, q1⟩ => ?_) hs rfl))
  obtain ⟨a, xs, ex, h1, q⟩ := q1
  subst ex
  cases r1 with
  | cons r rr =>
    cases rr
    cases r
    obtain ⟨its, rv, p1⟩ := sc_inv I1 h1
    have la := sc_lt p1
    refine call_en1 (sc_begins t a its.toArray) p1 fun h' he g1 hk => wpAny_pyIter_enum he ?_
    have I2 : Inv X pins σ H1 { s1 with heap := h' } := I1.kept (t' := s1.toks) hk
    refine ⟨s1.heap.objs.size + 1, [s1.heap.objs.size + 1, s1.heap.objs.size], _, _, H1, rfl, I2, turn_en (Nat.succ_ne_self _) (Nat.ne_of_lt la) (Nat.ne_of_gt (Nat.lt_succ_of_lt la)), ⟨⟨.none, he⟩, sc_it0 g1⟩, fun b hb => ?_, q⟩
    have e' : b = s1.heap.objs.size + 1 ∨ b = s1.heap.objs.size := by simpa using hb
    have hle : s1.heap.objs.size ≤ b := by
      rcases e' with z | z <;> rw [z] <;> first | exact Nat.le_refl _ | exact Nat.le_add_right _ _
    exact I1.fpOk hle (I1.hok.fresh hle)
/-! ### on data -/
/-- the data of a list (false) or a tuple (true) -/
def sqD (t : Bool) (ds : List PyData) : PyData := if t = true then .tuple ds else .list ds
theorem dp_sq {K : PySem.W.Frag} {H : Hp} {v : V} {t : Bool} {ds : List PyData} (h : Dp K H v (sqD t ds)) : ∃ a xs, v = .ref a ∧ Sc K t H a xs ∧ DpAll K H xs ds := by
  cases t with
  | true => exact dp_tup h
  | false => exact dp_list h
theorem dpa_getD {K : PySem.W.Frag} {H : Hp} {vs : List V} {ds : List PyData} {i : Nat} (r : DpAll K H vs ds) (hi : i < ds.length) : Dp K H (vs.getD i .non) (ds.getD i .none) := by
  obtain ⟨v, h1, h2⟩ := dpa_get r (List.getElem?_eq_getElem hi)
  rw [List.getD_eq_getElem?_getD, h1, List.getD_eq_getElem?_getD, List.getElem?_eq_getElem hi]
  exact h2
def zip2D (ds es : List PyData) : List PyData := (List.range (min ds.length es.length)).map fun i => .tuple [ds.getD i .none, es.getD i .none]
def zip3D (ds es fs : List PyData) : List PyData := (List.range (min (min ds.length es.length) fs.length)).map fun i => .tuple [ds.getD i .none, es.getD i .none, fs.getD i .none]
def enumD (ds : List PyData) : List PyData := (List.range ds.length).map fun i => .tuple [.int (0 + (i : Nat)), ds.getD i .none]
theorem range_get {α : Type} {n i : Nat} {f : Nat → α} {d : α} (h : ((List.range n).map f)[i]? = some d) : i < n ∧ d = f i := by
  rw [List.getElem?_map] at h
  cases q : (List.range n)[i]? with
  | none => rw [q] at h; cases h
  | some j =>
    rw [q] at h
    obtain ⟨h1, h2⟩ := List.getElem?_eq_some_iff.mp q
    rw [List.length_range] at h1
    rw [List.getElem_range] at h2
    subst h2
    exact ⟨h1, (Option.some.inj h).symm⟩
section
variable {J : JJ} {X : Cx} {δ δ1 : DS} {e e2 e3 : Expr} {p pos tpos : Pos} {elts : List Expr} {kk : Nat}
theorem pid_zip2 {t1 t2 : Bool} {ds es : List PyData} (hm : X.mg "zip" = none) (h : PAD J X [e, e2] δ [sqD t1 ds, sqD t2 es] δ1) (hg : Gl X "zip" := by rfl) (hs : starEach [e, e2] X.env = (false, eval e X.env) :: starEach [e2] X.env := by rfl) (hpl : (backTo pos (starEach [e2] X.env)).any (·.1) = false := by rfl) :
    PID J X (.Tuple elts kk tpos) (.Call (.Name "zip" p) [e, e2] [] pos) δ (zip2D ds es) δ1 :=
  ⟨_, pi_z2 (t1 := t1) (t2 := t2) hg hm pa_wa hs hpl, fun F B H σ S R k => h F B H σ S _ fun vs B1 H1 e1 S1 r => by
    cases r with
    | cons r1 t =>
      cases t with
      | cons r2 t =>
        cases t
        obtain ⟨a, xs, rfl, h1, h2⟩ := dp_sq r1
        obtain ⟨b, ys, rfl, h3, h4⟩ := dp_sq r2
        refine ⟨a, b, xs, ys, rfl, h1.ext S1.hd.ex, h3.ext S1.hd.ex, k _ B1 H1 e1 S1 (itd_new (by unfold zip2D; rw [List.length_map, List.length_range, dpa_len h2, dpa_len h4]) (fun H e => ⟨h1.ext e, h3.ext e⟩) fun i d hd => ?_)⟩
        obtain ⟨hi, rfl⟩ := range_get hd
        exact ⟨_, rfl, .cons (dpa_getD h2 (by omega)) (.cons (dpa_getD h4 (by omega)) .nil)⟩⟩
theorem pid_zip3 {t1 t2 t3 : Bool} {ds es fs : List PyData} (hm : X.mg "zip" = none) (h : PAD J X [e, e2, e3] δ [sqD t1 ds, sqD t2 es, sqD t3 fs] δ1) (hg : Gl X "zip" := by rfl) (hs : starEach [e, e2, e3] X.env = (false, eval e X.env) :: starEach [e2, e3] X.env := by rfl) (hpl : (backTo pos (starEach [e2, e3] X.env)).any (·.1) = false := by rfl) :
    PID J X (.Tuple elts kk tpos) (.Call (.Name "zip" p) [e, e2, e3] [] pos) δ (zip3D ds es fs) δ1 :=
  ⟨_, pi_z3 (t1 := t1) (t2 := t2) (t3 := t3) hg hm pa_wa hs hpl, fun F B H σ S R k => h F B H σ S _ fun vs B1 H1 e1 S1 r => by
    cases r with
    | cons r1 t =>
      cases t with
      | cons r2 t =>
        cases t with
        | cons r3 t =>
          cases t
          obtain ⟨a, xs, rfl, h1, h2⟩ := dp_sq r1
          obtain ⟨b, ys, rfl, h3, h4⟩ := dp_sq r2
          obtain ⟨c, zs, rfl, h5, h6⟩ := dp_sq r3
          refine ⟨a, b, c, xs, ys, zs, rfl, h1.ext S1.hd.ex, h3.ext S1.hd.ex, h5.ext S1.hd.ex, k _ B1 H1 e1 S1 (itd_new (by unfold zip3D; rw [List.length_map, List.length_range, dpa_len h2, dpa_len h4, dpa_len h6]) (fun H e => ⟨h1.ext e, h3.ext e, h5.ext e⟩) fun i d hd => ?_)⟩
          obtain ⟨hi, rfl⟩ := range_get hd
          exact ⟨_, rfl, .cons (dpa_getD h2 (by omega)) (.cons (dpa_getD h4 (by omega)) (.cons (dpa_getD h6 (by omega)) .nil))⟩⟩
theorem pid_enum {t : Bool} {ds : List PyData} (hm : X.mg "enumerate" = none) (h : PED J X e δ (sqD t ds) δ1) (hg : Gl X "enumerate" := by rfl) (hs : starEach [e] X.env = [(false, eval e X.env)] := by rfl) (he : starEach [e] X.env = (false, eval e X.env) :: starEach [] X.env := by rfl) :
    PID J X (.Tuple elts kk tpos) (.Call (.Name "enumerate" p) [e] [] pos) δ (enumD ds) δ1 :=
  ⟨_, pi_en (t := t) hg hm pa_wa hs, fun F B H σ S R k => (pad_cons h pad_nil he) F B H σ S _ fun vs B1 H1 e1 S1 r => by
    cases r with
    | cons r1 t =>
      cases t
      obtain ⟨a, xs, rfl, h1, h2⟩ := dp_sq r1
      refine ⟨a, xs, rfl, h1.ext S1.hd.ex, k _ B1 H1 e1 S1 (itd_new (by unfold enumD; rw [List.length_map, List.length_range, dpa_len h2]) (fun H e => h1.ext e) fun i d hd => ?_)⟩
      obtain ⟨hi, rfl⟩ := range_get hd
      exact ⟨_, rfl, .cons (.int _) (.cons (dpa_getD h2 hi) .nil)⟩⟩
end
end Fd
/-! Comprehensions with any target; ranges of naturals; zips of ints. -/
namespace Fd
open PySem PySem.Spec PyProof.Rows L2
section
variable {J : JJ} {X : Cx} {δ δ1 δu : DS} {pos : Pos} {elt tg iter : Expr} {ifs : List Expr} {scope : Scope}
theorem lcQ_turns {α : Type} {vs js : List Nat} (xs : List α) (enc : α → PyData) (p : α → Bool) (g : α → PyData) (δx : α → DS) (hjs : ∀ j, j ∈ js → j ∈ vs) (hz : xs.length ≤ sizeLine) (le : ∀ x, x ∈ xs → Le (δx x) δu)
    (ht : ∀ x, x ∈ xs → InB X scope (fun Y => PGD J Y tg (enc x) δu js (δx x)) ∧ InB X scope (fun Y => PTsD J Y ifs (δx x) (p x) (δx x)) ∧ (p x = true → InB X scope (fun Y => PED J Y elt (δx x) (g x) (δx x)))) :
    ∀ i d, (xs.map enc)[i]? = some d → LcTurn J X scope elt tg ifs vs d δu (lcOut xs p g i) δu (lcOut xs p g (i + 1)) := fun i d hd => by
  rw [List.getElem?_map] at hd
  cases q : xs[i]? with
  | none => rw [q] at hd; cases hd
  | some x =>
    rw [q] at hd
    have e : enc x = d := Option.some.inj hd
    subst e
    have hm := List.mem_of_getElem? q
    obtain ⟨h0, h1, h2⟩ := ht x hm
    refine ⟨js, δx x, δx x, p x, hjs, h0, h1, fun hp => ⟨g x, _, h2 hp, le x hm, ?_, ?_⟩, fun hp => ⟨le x hm, ?_⟩⟩
    · rw [lcOut_turn q, if_pos hp]
    · have := lcOut_len xs p g i
      have := (List.getElem?_eq_some_iff.mp q).1
      omega
    · rw [lcOut_turn q, if_neg (by rw [hp]; decide), List.append_nil]
/-- any target; own lists the names the comprehension binds -/
theorem pef_lcQ {α : Type} {own : List (Str × Nat)} {js : List Nat} (xs : List α) (enc : α → PyData) (p : α → Bool) (g : α → PyData) (δx : α → DS) (hc : X.calm = true) (hN : X.N.Nodup) (hi : PID J X tg iter δ (xs.map enc) δ1) (h0 : Le (wipeD δ1 (own.map (·.2))) δu) (hu : ∀ v x, v ∈ own.map (·.2) → δu[v]? = some x → x = .un)
    (hjs : ∀ j, j ∈ js → j ∈ own.map (·.2)) (hz : xs.length ≤ sizeLine) (le : ∀ x, x ∈ xs → Le (δx x) δu)
    (ht : ∀ x, x ∈ xs → InB X scope (fun Y => PGD J Y tg (enc x) δu js (δx x)) ∧ InB X scope (fun Y => PTsD J Y ifs (δx x) (p x) (δx x)) ∧ (p x = true → InB X scope (fun Y => PED J Y elt (δx x) (g x) (δx x))))
    (ok : BlkOk X.N X.env.scope scope own) (hs : ∀ x, foldedSetIterable iter X.env x = pure x := by intro _; rfl) : PEF J X (.ListComp elt [⟨tg, iter, ifs, 0⟩] scope pos) δ ((xs.filter p).map g) δu := by
  have z := pef_lcG (elt := elt) (ifs := ifs) (pos := pos) (hs := hs) (own := own) hc hN hi ok (fun _ => δu) (lcOut xs p g) h0 rfl (fun i v x hv h => hu v x hv h) (lcQ_turns xs enc p g δx hjs hz le ht)
  rw [lcOut_all] at z
  exact z
end
/-! ### ranges -/
theorem rgD_nat (n : Nat) : rgD 0 1 n = (List.range n).map fun i => .int ((i : Nat) : Int) := by
  unfold rgD
  exact List.map_congr_left fun i _ => by rw [Int.zero_add, Int.mul_one]
section
variable {J : JJ} {X : Cx} {δ δ1 δ2 : DS} {pos : Pos} {e a b : Expr}
theorem pid_rgN {tg : Expr} {p : Pos} {n : Nat} (hm : X.mg "range" = none) (h : PED J X e δ (.int (n : Nat)) δ1) (hn : n ≤ 1000000) (hg : Gl X "range" := by rfl) (hs : starEach [e] X.env = [(false, eval e X.env)] := by rfl) (hs2 : starEach [e] X.env = (false, eval e X.env) :: starEach [] X.env := by rfl) :
    PID J X tg (.Call (.Name "range" p) [e] [] pos) δ ((List.range n).map fun i => .int ((i : Nat) : Int)) δ1 := by
  have z := pid_range1 (pos := pos) (tg := tg) (p := p) hm h (by omega) (by omega) hg hs hs2
  rw [show ((n : Nat) : Int).toNat = n from rfl, rgD_nat] at z
  exact z
theorem ped_lenM {α : Type} {f : α → PyData} {bs : List α} {p : Pos} (hm : X.mg "len" = none) (ha : PED J X e δ (.tuple (bs.map f)) δ1) (hg : Gl X "len" := by rfl) (he : starEach [e] X.env = (false, eval e X.env) :: starEach [] X.env := by rfl) : PED J X (.Call (.Name "len" p) [e] [] pos) δ (.int (bs.length : Nat)) δ1 :=
  (ped_lenT hm ha hg he).eq (by rw [List.length_map])
end
/-! ### lists of ints -/
theorem gi_nat (ns : List Int) (i : Nat) : gi ns (i : Nat) = ns.getD i 0 := rfl
theorem gi_set {ns : List Int} {j k v : Int} (hj : 0 ≤ j ∧ j < ns.length) (hk : 0 ≤ k) : gi (ns.set j.toNat v) k = if j = k then v else gi ns k := by
  unfold gi
  rw [List.getD_eq_getElem?_getD, List.getD_eq_getElem?_getD]
  by_cases e : j = k
  · subst e
    rw [if_pos rfl, List.getElem?_set_self (by omega)]
    rfl
  · rw [if_neg e, List.getElem?_set_ne (by omega)]
theorem gi_rep {n : Nat} {k : Int} : gi (List.replicate n 0) k = 0 := by
  unfold gi
  rw [List.getD_eq_getElem?_getD]
  by_cases h : k.toNat < n
  · rw [List.getElem?_replicate, if_pos h]; rfl
  · rw [List.getElem?_eq_none (by rw [List.length_replicate]; omega)]; rfl
theorem gi_ext {as bs : List Int} (hl : as.length = bs.length) (h : ∀ k : Int, 0 ≤ k → k < as.length → gi as k = gi bs k) : as = bs := by
  apply List.ext_getElem hl
  intro i h1 h2
  have z := h (i : Nat) (by omega) (by omega)
  rw [gi_nat, gi_nat, List.getD_eq_getElem?_getD, List.getElem?_eq_getElem h1, List.getD_eq_getElem?_getD, List.getElem?_eq_getElem h2] at z
  exact z
theorem gi_range {n : Nat} {f : Nat → Int} {k : Int} (h0 : 0 ≤ k) (h : k < n) : gi ((List.range n).map f) k = f k.toNat := by
  unfold gi
  rw [List.getD_eq_getElem?_getD, List.getElem?_map, List.getElem?_eq_getElem (by rw [List.length_range]; omega), List.getElem_range]
  rfl
theorem gi_over {ns : List Int} {k : Int} (h : (ns.length : Int) ≤ k) : gi ns k = 0 := by
  unfold gi
  rw [List.getD_eq_getElem?_getD, List.getElem?_eq_none (by omega)]
  rfl
theorem getD_map {α : Type} {f : α → PyData} {xs : List α} {d : α} {i : Nat} {z : PyData} (h : i < xs.length) : (xs.map f).getD i z = f (xs.getD i d) := by
  rw [List.getD_eq_getElem?_getD, List.getElem?_map, List.getD_eq_getElem?_getD, List.getElem?_eq_getElem h]
  rfl
theorem enumD_ints (ns : List Int) : enumD (ns.map .int) = (List.range ns.length).map fun i => .tuple [.int ((i : Nat) : Int), .int (gi ns (i : Nat))] := by
  unfold enumD
  rw [List.length_map]
  refine List.map_congr_left fun i hi => ?_
  rw [Int.zero_add, getD_map (d := (0 : Int)) (List.mem_range.mp hi)]
  rfl
theorem zip2D_map {α : Type} {f : α → PyData} {xs : List α} {ns : List Int} (d : α) (hl : ns.length = xs.length) : zip2D (xs.map f) (ns.map .int) = (List.range xs.length).map fun i => .tuple [f (xs.getD i d), .int (gi ns (i : Nat))] := by
  unfold zip2D
  rw [List.length_map, List.length_map, hl, Nat.min_self]
  refine List.map_congr_left fun i hi => ?_
  have hi' := List.mem_range.mp hi
  rw [getD_map (d := d) hi', getD_map (d := (0 : Int)) (by omega)]
  rfl
theorem zip3D_ints {as bs cs : List Int} (h1 : bs.length = as.length) (h2 : cs.length = as.length) : zip3D (as.map .int) (bs.map .int) (cs.map .int) = (List.range as.length).map fun i => .tuple [.int (gi as (i : Nat)), .int (gi bs (i : Nat)), .int (gi cs (i : Nat))] := by
  unfold zip3D
  rw [List.length_map, List.length_map, List.length_map, h1, h2, Nat.min_self, Nat.min_self]
  refine List.map_congr_left fun i hi => ?_
  have hi' := List.mem_range.mp hi
  rw [getD_map (d := (0 : Int)) hi', getD_map (d := (0 : Int)) (by omega), getD_map (d := (0 : Int)) (by omega)]
  rfl
end Fd
/-! sorted(list of data), sorted(set(list of ints)). -/
namespace Fd
open PySem PySem.Spec PyProof.Rows L2
section
variable {P : Program} {w : World} {A : Around} {E : Value → Shared → Prop} {s : Shared}
/-- an empty set, new -/
abbrev emS (w : World) : Obj := { cls := .type "set", dict := none, data := .set #[] 0 (.fresh 0 0 (!w.params.followText "set-order")) }
abbrev emH (w : World) (s : Shared) : Heap := s.heap.push (emS w)
/-- what set(l) leaves -/
def SetLeft (w : World) (s : Shared) (zs : List Int) (r : Value) (t : Shared) : Prop := r = .none ∧ ∃ g n m, t = { s with heap := g, toks := n } ∧ SetR w g s.heap.objs.size (fun j => decide (j ∈ zs)) m ∧ m ≤ zs.length ∧ ∀ b o, s.heap.get? b = some o → g.get? b = some o
theorem set_list_ints {l : Addr} {its : Array Value} (zs : List Int) {Q : Value → Shared → Prop} (nh : A.handled = none) (isl : s.heap.IsList l its) (hints : IntsAre its.toList zs) (few : zs.length + 1 < scanBound)
    (k : ∀ (g : Heap) (n m : Nat), SetR w g s.heap.objs.size (fun j => decide (j ∈ zs)) m → m ≤ zs.length → (∀ b o, s.heap.get? b = some o → g.get? b = some o) → Q (.ref s.heap.objs.size) { s with heap := g, toks := n }) :
    wpAny (model P w) A (call (.type "set") [.ref l]) Q E s := by
  have size : its.size = zs.length := by
    have q := IntsAre.length hints
    rwa [Array.length_toList] at q
  have ⟨cc, ctl, mro⟩ := F.called_set.mro
  have made := F.called_set.made
  have subt := F.called_set.sub
  refine wpAny_call (codeAny_of_tree ?_); show wpAny _ _ (callAny (.type "set") _) _ _ _
  refine wpAny_pure ⟨Code.quiet_builtin _ (by decide +kernel), codeAny_builtin PySem.F.entry_type_call ?_⟩; rw [Around.under_plain (weight_type_call_type "set" [.ref l] []) rfl]
  have n1 := F.called_set.notType
  have n2 := F.called_set.canCreate
  have n3 := F.typeCall_set_1 (.ref l)
  repeat (any_goals (first | assumption | wp_step))
  refine codeAny_mono (code_set_led1 (.ref l) (E := E) (Q₁ := fun x t => x = .ref s.heap.objs.size ∧ t = { s with heap := emH w s }) ⟨rfl, rfl⟩) fun r1 t1 e1 => ?_
  cases r1 with
  | error _ => exact e1
  | ok f1 =>
    cases f1 with
    | ret x =>
      obtain ⟨rfl, rfl⟩ := e1
      have hS : (emH w s).get? s.heap.objs.size = some (emS w) := Heap.get?_push_size _ rfl
      have ty : Shared.TypeIs { s with heap := emH w s } (.ref s.heap.objs.size) "set" := ⟨_, hS, rfl⟩
      have il := F.called_set.init.lookup
      have ib := F.called_set.init.bind (.ref s.heap.objs.size)
      repeat (any_goals (first | assumption | wp_step))
      refine codeAny_mono (codeAny_call_builtin (R := wants (SetLeft w s zs) E) F.called_set.init.plain F.entry_set_init (check_set_init_1 ty ?_)) fun r2 t2 e2 => ?_
      · obtain ⟨⟨oc, od, odt, os⟩, hol, hcl, nl, hdl⟩ := isl
        simp only at hcl hdl
        subst hcl hdl
        have got : (emH w s).get? l = some { cls := .type "list", dict := od, data := .seq its nl, slots := os } := Heap.get?_push_of_some _ hol
        have ls := F.sub_list_set
        have lf := F.sub_list_frozenset
        have nd : (Value.type "list" == Value.type "dict") = false := by decide
        have il1 : (emH w s).IsList l its := ⟨_, got, rfl, nl, rfl⟩
        unfold Builtin.«set.__init__» noKeywords Builtin.Frozenset.updateFrom
        generalize hPI : pyIter = PI
        wp_walk
        subst hPI
        refine wpAny_pyIter_list il1 (wpAny_bind (wpAny_runValue ?_))
        have low : l < s.heap.objs.size := Heap.lt_size hol
        have nh3 : A.in1.in1.in1.handled = none := by simp [nh]
        have sz : (emH w s).objs.size = s.heap.objs.size + 1 := Heap.size_push ..
        have apart : l ≠ (emH w s).objs.size := by rw [sz]; exact Nat.ne_of_lt (Nat.lt_succ_of_lt low)
        have out : s.heap.objs.size ∉ [(emH w s).objs.size, l] := by
          rw [sz]
          simp only [List.mem_cons, List.mem_singleton, List.not_mem_nil, or_false, not_or]
          exact ⟨Nat.ne_of_lt (Nat.lt_succ_self _), Nat.ne_of_gt low⟩
        have val : ∀ (i : Nat) (v : Value), its[i]? = some v → ∃ z t, zs[i]? = some z ∧ v = .int z t := fun i v hv => by
          have hi : i < zs.length := by rw [← size]; exact (Array.getElem?_eq_some_iff.mp hv).1
          obtain ⟨t, e⟩ := IntsAre.int_at hints i v (by rw [Array.getElem?_toList]; exact hv)
          refine ⟨zs[i], t, List.getElem?_eq_getElem hi, e.trans ?_⟩
          rw [List.getD_eq_getElem?_getD, List.getElem?_eq_getElem hi]
          rfl
        refine set_update_ints ((Walks.list nh3 _ l apart its).toS) s.heap.objs.size out zs size few val (its.size - 0) 0 _ (by omega) (Nat.zero_le _) ⟨⟨_, Heap.get?_push_size _ rfl, rfl, rfl⟩, il1.push _⟩ ?stt ?enn
        case stt => exact ⟨0, Nat.le_refl 0, setR_new_at (Heap.get?_push_of_some _ hS)⟩
        case enn =>
          rintro ⟨g, gg, dd, tt, oo⟩ m mv hm hR
          have e1 : gg = s.gens := mv.gens
          have e2 : dd = s.drawn := mv.drawn
          have e3 : oo = s.os := mv.os
          subst e1 e2 e3
          show wpAny _ _ _ _ _ _
          refine wpAny_pure ?_
          show wpAny _ _ (ret Value.none) _ _ _
          rw [size] at hm
          refine wpAny_pure ⟨rfl, g, tt, m, rfl, hR, hm, fun b o e => ?_⟩
          have b0 : b < s.heap.objs.size := Heap.lt_size e
          refine mv.heap b o ?_ (Heap.get?_push_of_some _ (Heap.get?_push_of_some _ e))
          rw [List.mem_cons, List.mem_singleton, sz, not_or]
          exact ⟨Nat.ne_of_lt b0, Nat.ne_of_lt (Nat.lt_succ_of_lt b0)⟩
      · cases r2 with
        | error _ => exact e2
        | ok f2 =>
          cases f2 with
          | ret x =>
            obtain ⟨rfl, g, n, m, rfl, hR, hm, hk⟩ := e2
            repeat (any_goals (first | assumption | wp_step))
            exact k _ _ _ hR hm hk
          | _ => exact e2.elim
    | _ => exact e1.elim
end
section
variable {X : Cx}
def rSetL (K : PySem.W.Frag) (w : World) : List V → Hp → VK → Prop := fun vs H Q => ∃ (a : Addr) (zs : List Int), vs = [.ref a] ∧ SqL K H a (zs.map V.int) ∧ zs.length ≤ 4000 ∧ ∀ (p : Addr) (m : Nat), m ≤ zs.length → H p = none → Q (.ref p) (upd H p (SetO w p (fun j => decide (j ∈ zs)) m))
theorem cr_setL (hc : X.calm = true) : CallR X (.type "set") (rSetL X.K X.w) := by
  intro pins s σ H vs us Q I r h
  obtain ⟨a, zs, rfl, hs, hz, q⟩ := h
  obtain ⟨its, rv, pl, _⟩ := I.list hs
  rw [Vals.ref1 r]
  refine set_list_ints zs (I.ok.hd hc) pl.isList (ints_of_vals rv) (by unfold scanBound; omega) fun g n m hR hm hk => ?_
  exact ⟨.ref _, upd H s.heap.objs.size (SetO X.w s.heap.objs.size (fun j => decide (j ∈ zs)) m), I.laid (t' := n) hk (Nat.le_refl _) (setO_new hR), rfl, q _ m hm (I.hok.fresh (Nat.le_refl _))⟩
end
/-! ### ascending, each once -/
def insU (x : Int) : List Int → List Int
  | [] => [x]
  | y :: l => if x < y then x :: y :: l else if x = y then y :: l else y :: insU x l
def asc (l : List Int) : List Int := l.foldr insU []
theorem mem_insU {x k : Int} : ∀ {l : List Int}, k ∈ insU x l ↔ k = x ∨ k ∈ l
  | [] => by simp [insU]
  | y :: l => by
    unfold insU
    split
    · simp
    · split
      · rename_i h
        subst h
        simp
      · rw [List.mem_cons, mem_insU, List.mem_cons]
        constructor <;> (intro h; rcases h with h | h | h <;> simp [h])
theorem mem_asc {k : Int} : ∀ {l : List Int}, k ∈ asc l ↔ k ∈ l
  | [] => Iff.rfl
  | y :: l => by
    show k ∈ insU y (asc l) ↔ _
    rw [mem_insU, mem_asc, List.mem_cons]
theorem insU_up {x : Int} : ∀ {l : List Int}, l.Pairwise (· < ·) → (insU x l).Pairwise (· < ·)
  | [], _ => by simp [insU]
  | y :: l, h => by
    obtain ⟨h1, h2⟩ := List.pairwise_cons.mp h
    unfold insU
    split
    · rename_i q
      exact List.pairwise_cons.mpr ⟨fun z hz => by
        rcases List.mem_cons.mp hz with e | hz
        · omega
        · have := h1 z hz
          omega, h⟩
    · split
      · exact h
      · refine List.pairwise_cons.mpr ⟨fun z hz => ?_, insU_up h2⟩
        rcases mem_insU.mp hz with e | hz
        · omega
        · exact h1 z hz
theorem asc_up : ∀ l : List Int, (asc l).Pairwise (· < ·)
  | [] => .nil
  | y :: l => insU_up (asc_up l)
theorem up_uniq : ∀ {a b : List Int}, a.Pairwise (· < ·) → b.Pairwise (· < ·) → (∀ k, k ∈ a ↔ k ∈ b) → a = b
  | [], [], _, _, _ => rfl
  | [], y :: b, _, _, h => absurd ((h y).mpr List.mem_cons_self) List.not_mem_nil
  | x :: a, [], _, _, h => absurd ((h x).mp List.mem_cons_self) List.not_mem_nil
  | x :: a, y :: b, h1, h2, h => by
    obtain ⟨a1, a2⟩ := List.pairwise_cons.mp h1
    obtain ⟨b1, b2⟩ := List.pairwise_cons.mp h2
    have e : x = y := by
      rcases List.mem_cons.mp ((h x).mp List.mem_cons_self) with e | hx
      · exact e
      · rcases List.mem_cons.mp ((h y).mpr List.mem_cons_self) with e | hy
        · exact e.symm
        · have := a1 y hy
          have := b1 x hx
          omega
    subst e
    rw [up_uniq a2 b2 fun k => ⟨fun hk => ?_, fun hk => ?_⟩]
    · rcases List.mem_cons.mp ((h k).mp (List.mem_cons_of_mem _ hk)) with e | z
      · have := a1 k hk
        omega
      · exact z
    · rcases List.mem_cons.mp ((h k).mpr (List.mem_cons_of_mem _ hk)) with e | z
      · have := b1 k hk
        omega
      · exact z
section
variable {J : JJ} {X : Cx} {δ δ1 : DS} {pos pos2 p p2 : Pos} {e : Expr}
theorem pef_sortSet {ns : List Int} (hc : X.calm = true) (hm : X.mg "sorted" = none) (hm2 : X.mg "set" = none) (ha : PLD J X e δ (ns.map .int) δ1) (hn : ns.length < 64) (hg : Gl X "sorted" := by rfl) (hg2 : Gl X "set" := by rfl)
    (he : starEach [e] X.env = (false, eval e X.env) :: starEach [] X.env := by rfl) (he2 : starEach [.Call (.Name "set" p2) [e] [] pos2] X.env = (false, eval (.Call (.Name "set" p2) [e] [] pos2) X.env) :: starEach [] X.env := by rfl) : PEF J X (.Call (.Name "sorted" p) [.Call (.Name "set" p2) [e] [] pos2] [] pos) δ ((asc ns).map .int) δ1 := fun F B H σ S Q k =>
  we_of (pe_callB (cr_sortedSet hc) hg hm boot_sorted (pa_cons (pe_callTy (cr_setL hc) hg2 hm2 boot_set (pa_cons pe_we pa_nil he) (by decide) (by decide) he rfl) pa_nil he2) (by decide) (by decide) he2 rfl) (ha F B H σ S _ fun l xs B1 H1 e1 S1 h1 r1 => by
    have ex := dpa_ints r1
    subst ex
    refine ⟨l, ns, rfl, h1, by omega, fun q m hm hq => ?_⟩
    refine ⟨q, _, m, rfl, upd_same, by omega, fun ns' t h2 h3 h4 ht => ?_⟩
    have e2 : ns' = asc ns := up_uniq h2 (asc_up ns) fun k => by rw [mem_asc, h3]; simp
    subst e2
    exact pef_new e1 (S1.loose hq) (dpa_of_ints _) k t ht)
end
/-! ### sorted(list of data) -/
section
variable {X : Cx} {α : Type}
theorem each_of {K : PySem.W.Frag} {B : Hp} {enc : α → PyData} : ∀ {vs : List V} {us : List Value} {bs : List α}, DpAll K B vs (bs.map enc) → Vals vs us → PySem.W.EachIs (fun u b => ∃ v, RelV v u ∧ Dp K B v (enc b)) us bs
  | [], _, [], _, .nil => .nil
  | v :: vs, _, b :: bs, .cons h1 h2, .cons r1 r2 => .cons ⟨v, r1, h1⟩ (each_of h2 r2)
theorem of_each {K : PySem.W.Frag} {B : Hp} {enc : α → PyData} : ∀ {us : List Value} {bs : List α}, PySem.W.EachIs (fun u b => ∃ v, RelV v u ∧ Dp K B v (enc b)) us bs → ∃ vs, Vals vs us ∧ DpAll K B vs (bs.map enc)
  | [], [], .nil => ⟨[], .nil, .nil⟩
  | u :: us, b :: bs, .cons ⟨v, r, h⟩ t => by
    obtain ⟨vs, h1, h2⟩ := of_each t
    exact ⟨v :: vs, .cons r h1, .cons h h2⟩
def rSortD (K : PySem.W.Frag) (enc : α → PyData) (bs : List α) : List V → Hp → VK → Prop := fun vs H Q => ∃ (a : Addr) (xs : List V) (B : Hp), vs = [.ref a] ∧ SqL K H a xs ∧ Same B H ∧ DpAll K B xs (bs.map enc) ∧
  ∀ (ys : List V) (p : Addr), DpAll K B ys ((bs.mergeSort (PySem.W.dataLe false enc)).map enc) → H p = none → Q (.ref p) (upd H p (.lst ys))
theorem cr_sortD {enc : α → PyData} {bs : List α} (hu : X.A.units + 64 < cLine) (hal : ∀ b b', PySem.W.alike (enc b) (enc b') = true) (hk : PySem.W.Sortable (bs.map enc)) (hL : bs.length ≤ sizeLine) (hd : ∀ b, b ∈ bs → (enc b).depth ≤ 50) : CallR X (.builtin "sorted") (rSortD X.K enc bs) := by
  intro pins s σ H vs us Q I r h
  obtain ⟨a, xs, B, rfl, hs, hB, hx, q⟩ := h
  obtain ⟨its, rv, pl, _⟩ := I.list hs
  rw [Vals.ref1 r]
  have e := each_of (enc := enc) hx rv
  refine PySem.W.sorted_data pl.isList e (e.mono fun u b ⟨v, h1, h2⟩ => Dp.reads I _ _ _ (dp_ext hB _ _ h2) h1) (PySem.W.AllAlike.of hal) hk hL (fun b hb => by have := hd b hb; omega) fun out ho eo => ?_
  obtain ⟨ys, y1, y2⟩ := of_each eo
  obtain ⟨ep, he'⟩ := PyProof.Rows.sortedAll_at s.heap its out.toArray
  have hlen : ys.length ≤ sizeLine := by rw [y1.length, ho]; exact hL
  exact ⟨.ref _, upd H (s.heap.objs.size + 1) (.lst ys), I.laid (t' := s.toks) (fun _ _ => PyProof.Rows.sortedAll_old) (Nat.le_succ _) ⟨hlen, out, ep, y1, he'⟩, rfl, q _ _ y2 (I.hok.fresh (Nat.le_succ _))⟩
end
section
variable {J : JJ} {X : Cx} {δ δ1 : DS} {pos p : Pos} {e : Expr} {α : Type}
theorem pef_sortD {enc : α → PyData} {bs : List α} (hu : X.A.units + 64 < cLine) (hm : X.mg "sorted" = none) (ha : PLD J X e δ (bs.map enc) δ1) (hal : ∀ b b', PySem.W.alike (enc b) (enc b') = true) (hk : PySem.W.Sortable (bs.map enc)) (hL : bs.length ≤ sizeLine) (hd : ∀ b, b ∈ bs → (enc b).depth ≤ 50)
    (hg : Gl X "sorted" := by rfl) (he : starEach [e] X.env = (false, eval e X.env) :: starEach [] X.env := by rfl) : PEF J X (.Call (.Name "sorted" p) [e] [] pos) δ ((bs.mergeSort (PySem.W.dataLe false enc)).map enc) δ1 :=
  pef_lB (he := he) (cr_sortD hu hal hk hL hd) hm boot_sorted hg ha fun F B0 B H σ l xs e0 S h r Q k => ⟨l, xs, B, rfl, h, S.hd.ex, r, fun ys q hy hq => pef_new e0 S hy k q hq⟩
end
end Fd
/-! sorted(range(n), key=lambda y: (-z[y], y)). -/
namespace Fd
open PySem PySem.Spec PyProof.Rows L2
section
variable {P : Program} {w : World} {A : Around} {E : Value → Shared → Prop} {s : Shared}
/-- the lambda's body -/
abbrev lamB (y z : Str) (p1 p2 p3 p4 p5 p6 : Pos) : Expr := .Tuple [.UnaryOp .USub (.Subscript (.Name z p1) (.Name y p2) p3) p4, .Name y p5] 0 p6
structure LamK (y z : Str) (scope : Scope) : Prop where
  kind : scope.kind = .function
  co : scope.isCoroutine = false
  gen : scope.isGenerator = false
  nocell : ∀ x ∈ scope.names, x.2 ≠ .cell
  ly : scope.names.lookup y = some .local
  lz : scope.names.lookup z = some .free
  dy : (y == ("__debug__" : Str)) = false
  dz : (z == ("__debug__" : Str)) = false
  cz : (z == ("__classdict__" : Str)) = false
theorem lam_eval {y z : Str} {scope : Scope} {env : Env} {m : Str → Option Value} {c t : Addr} {its : Array Value} {j : Nat} {u v : Int} {tu tv : Tok} {Q : Value → Shared → Prop} {p1 p2 p3 p4 p5 p6 : Pos} (L : LamK y z scope) (he : env.scope = scope) (hn : s.heap.Ns env.locals m) (hm : m y = some (.int u tu)) (hc : env.cells.lookup z = some c)
    (hcell : s.heap.IsCell c (some (.ref t))) (ht : IsTup s.heap t its) (hu : u = (j : Nat)) (hj : its[j]? = some (.int v tv)) (hz : its.size ≤ 1000)
    (h : Q (.ref s.heap.objs.size) { s with heap := s.heap.push { cls := .type "tuple", data := .seq [Value.int (-v) s.toks, .int u tu].toArray }, toks := s.toks + 1 }) : wpAny (model P w) A (eval (lamB y z p1 p2 p3 p4 p5 p6) env) Q E s := by
  have ek : env.scope.kind = .function := by rw [he]; exact L.kind
  have ly : env.kindOf y = some .local := by show env.scope.names.lookup y = _; rw [he]; exact L.ly
  have lz : env.kindOf z = some .free := by show env.scope.names.lookup z = _; rw [he]; exact L.lz
  have hjl : j < its.size := (Array.getElem?_eq_some_iff.mp hj).1
  refine wpAny_Tuple_spliced ?_
  show wpAny _ _ (spliced ((false, eval (.UnaryOp .USub (.Subscript (.Name z p1) (.Name y p2) p3) p4) env) :: (false, eval (.Name y p5) env) :: [])) _ _ s
  refine Calls.spliced_cons (UnaryOp_ (Subscript_ (wpAny_Name (wpAny_loadName_free ek lz hc hcell (wpAny_Name (wpAny_loadName_local ek ly hn hm ?_) L.dy) L.cz) L.dz)))
  refine subscriptTail_builtinR (x := .int v tv) ht.typeIs slot_tuple_getitem.lookup (getItem_tuple (j := j) (Q := fun r s' => r = .int v tv ∧ _) ht (by omega) (by omega) ?_ hj ⟨rfl, ?_⟩) rfl
  · rw [hu]
    unfold seqIndex?
    simp
    omega
  · refine neg_int (Calls.spliced_cons (wpAny_Name (wpAny_loadName_local ek ly hn hm (Calls.spliced_nil ⟨?_, h⟩)) L.dy))
    show 2 ≤ sizeLine
    decide
/-- a call of the lambda gives the key -/
theorem lam_call {y z qual : Str} {scope : Scope} {params : Arguments} {cl : List (Str × Addr)} {f c c' t : Addr} {pm ctv : Value} {its : Array Value} {j : Nat} {u v : Int} {tu tv : Tok} {p1 p2 p3 p4 p5 p6 : Pos} (L : LamK y z scope) (nd : A.depth < recursionLimit) (lim : s.heap.NoLimit)
    (hf : s.heap.get? f = some (PySem.W.kla_obj "<lambda>" qual params (lamB y z p1 p2 p3 p4 p5 p6) scope cl pm c' ctv)) (rec : s.heap.CodeRec (.ref c') qual) (hb : bindArgs (PySem.W.kla_fn "<lambda>" qual params (lamB y z p1 p2 p3 p4 p5 p6) scope cl pm (.ref c') ctv) ⟨[.int u tu], []⟩ = pure [(y, .int u tu)])
    (hc : cl.lookup z = some c) (hcell : s.heap.IsCell c (some (.ref t))) (ht : IsTup s.heap t its) (hu : u = (j : Nat)) (hj : its[j]? = some (.int v tv)) (hz : its.size ≤ 1000) :
    wpAny (model P w) A (call (.ref f) [.int u tu]) (PySem.W.KeyPure (.tuple [.int (-v), .int u]) s) E s := by
  refine wpAny_call (PySem.W.kla_callFunE nd hf rfl L.co L.gen rfl rec ?_)
  rw [hb]
  refine wpAny_pure (wpAny_newFunctionEnv L.nocell (fun x hx => by rw [List.mem_singleton.mp hx]; exact L.ly) (fun h₁ hns hsb => ⟨lim.fresh _ hsb, ?_⟩) L.kind)
  have kp : ∀ b o, s.heap.get? b = some o → h₁.get? b = some o := fun b o e => hsb.extBut b o (Nat.ne_of_lt (Heap.lt_size e)) (Heap.get?_push_of_some _ e)
  show codeAny _ _ (.expr (lamB y z p1 p2 p3 p4 p5 p6) (PySem.W.envX qual scope s.heap.objs.size f (.ref c') cl)) _ _
  have cellK : h₁.IsCell c (some (.ref t)) := let ⟨o, ho, hd⟩ := hcell; ⟨o, kp _ _ ho, hd⟩
  refine PySem.W.kla_codeExpr (lam_eval (tu := tu) L rfl hns (by simp [List.lookup]) hc cellK (ht.keeps kp) hu hj hz ?_)
  refine ⟨_, _, rfl, fun b o e => Heap.get?_push_of_some _ (kp b o e), ?_⟩
  refine .tuple (Heap.get?_push_size _ rfl) rfl rfl ?_
  exact .cons (as := []) (.int _ _) (.cons (as := []) (.int _ _) .nil)
theorem each_rgL {v0 : Nat} : ∀ (l : List Value), (∀ (j : Nat) (v : Value), l[j]? = some v → ∃ t, v = .int ((v0 + j : Nat) : Int) t) → PySem.W.EachIs (fun (v : Value) (i : Int) => ∃ t, v = .int i t) l ((List.range' v0 l.length).map fun i : Nat => (i : Int))
  | [], _ => .nil
  | v :: l, h => by
    rw [List.length_cons, List.range'_succ, List.map_cons]
    refine .cons (h 0 v rfl) (each_rgL (v0 := v0 + 1) l fun j u hu => ?_)
    obtain ⟨t, e⟩ := h (j + 1) u hu
    exact ⟨t, by rw [e]; congr 1; omega⟩
theorem each_rg {acc : Array Value} {m : Nat} (hs : acc.size = m) (h : ∀ (j : Nat) (v : Value), acc[j]? = some v → ∃ t, v = .int ((j : Nat) : Int) t) : PySem.W.EachIs (fun (v : Value) (i : Int) => ∃ t, v = .int i t) acc.toList ((List.range m).map fun i : Nat => (i : Int)) := by
  have z := each_rgL (v0 := 0) acc.toList fun j v hv => by
    rw [Nat.zero_add]
    exact h j v (by rw [← Array.getElem?_toList]; exact hv)
  rw [Array.length_toList, hs, ← List.range_eq_range'] at z
  exact z
theorem ints_each : ∀ {out : List Value} {ns : List Int}, PySem.W.EachIs (fun (v : Value) (i : Int) => ∃ t, v = .int i t) out ns → IntsAre out ns
  | _, _, .nil => .nil
  | _, _, .cons ⟨t, e⟩ h => by
    rw [e]
    exact .cons _ _ (ints_each h)
/-- sorted(range(0, n), key=f) -/
theorem sorted_rg {r f : Addr} {n : Int} {m : Nat} {tt tu tv : Tok} {k : Int → PyData} {Q : Value → Shared → Prop} (nh : A.handled = none) (hr : IsRange s.heap r 0 n 1 tt tu tv) (hn : n = (m : Nat)) (hm : m ≤ 1000) (hal : ∀ a b, PySem.W.alike (k a) (k b) = true) (hk : ∀ a, ∃ x r, k a = .tuple (x :: r)) (hu : ∀ a, A.units + 2 + (k a).depth < cLine)
    (turn : ∀ (i : Nat) (t : Tok), i < m → ∀ (h : Heap) (tk : Nat), (∀ b o, s.heap.get? b = some o → h.get? b = some o) → wpAny (model P w) A.in1.in1 (call (.ref f) [.int (i : Nat) t]) (PySem.W.KeyPure (k (i : Nat)) { s with heap := h, toks := tk }) (fun _ _ => False) { s with heap := h, toks := tk })
    (q : ∀ (out : List Value) (c : Nat) (h1 h' : Heap) (tk : Nat), (∀ b o, s.heap.get? b = some o → h1.get? b = some o) → (∀ b o, h1.get? b = some o → h'.get? b = some o) → h'.get? h1.objs.size = some (PyProof.Rows.seqObj "list" (List.toArray out) c) → IntsAre out (((List.range m).map fun i : Nat => (i : Int)).mergeSort (PySem.W.dataLe false k)) → Q (.ref h1.objs.size) { s with heap := h', toks := tk }) :
    wpAny (model P w) A (call (.builtin "sorted") [.ref r] [(Str.ofString "key", .ref f)]) Q E s := by
  refine PyProof.Rows.call_function_entry_kw kind_sorted plain_sorted entry_sorted (PyProof.Rows.ksk_s1 _ _) ?_
  unfold Builtin.«sorted»
  refine wpAny_bind (m := checkCount "sorted" 1 1 _) (wpAny_pure ?_)
  refine wpAny_bind (collect_range (n := m) (A := A.in1) nh hr (small_one (by decide) (by decide) (by omega) (by omega)) (by rw [rangeSize_nat, hn]; simp) (by omega) fun h1 tk1 acc k1 hi => ?_)
  have hlen : acc.toList.length = m := by rw [Array.length_toList]; exact hi.1
  have hL : m ≤ sizeLine := Nat.le_trans hm (by decide)
  refine wpAny_bind (wpAny_newList ?_ (by rw [hlen]; exact hL))
  have each : PySem.W.EachIs (fun (v : Value) (i : Int) => ∃ t, v = .int i t) acc.toList ((List.range m).map fun i : Nat => (i : Int)) := each_rg hi.1 (fun j v hv => by
    obtain ⟨t, e⟩ := hi.2 j v hv
    exact ⟨t, by rw [e]; congr 1; omega⟩)
  have got : (h1.push (PyProof.Rows.seqObj "list" acc.toList.toArray 0)).get? h1.objs.size = some (PyProof.Rows.seqObj "list" acc.toList.toArray 0) := Heap.get?_push_size _ rfl
  refine wpAny_bind (wpAny_holding (wpAny_call_entry_kw slot_list_sort ⟨_, got, rfl⟩ entry_list_sort ?_ (PyProof.Rows.ksk_l1 _ _)))
  rw [PyProof.Rows.ksk_t1]
  refine PySem.W.keyH_tree (kz := ((List.range m).map fun i : Nat => (i : Int)).map k) (s := { s with heap := h1.push (PyProof.Rows.seqObj "list" acc.toList.toArray 0), toks := tk1 }) got (by rw [List.length_map, List.length_map, List.length_range, hlen]) (by rw [hlen]; exact hL)
    (PySem.W.AllAlike.of hal) (PySem.W.Sortable.tuples hk) (PySem.W.bound_map (A := A.in1.in1) fun b _ => hu b)
    (PySem.W.keyH_turns (s := { s with heap := h1.push (PyProof.Rows.seqObj "list" acc.toList.toArray 0), toks := tk1 }) each fun v x ⟨t, e⟩ hx h tk kp => ?_) fun h' tk out c kp hD ko => ⟨.none, rfl, wpAny_pure ⟨_, rfl, ?_⟩⟩
  · obtain ⟨i, hi2, rfl⟩ := List.mem_map.mp hx
    rw [e]
    exact turn i t (List.mem_range.mp hi2) h tk fun b o g => kp b o (Nat.ne_of_lt (Heap.lt_size (k1 b o g))) (Heap.get?_push_of_some _ (k1 b o g))
  · refine q out c h1 h' tk k1 (fun b o g => kp b o (Nat.ne_of_lt (Heap.lt_size g)) (Heap.get?_push_of_some _ g)) hD ?_
    exact ints_each (PySem.W.keyedOut_each k ko each)
end
section
variable {X : Cx}
/-- sorted(range(e), key=lambda y: (-z[y], y)); z's slot i, its items ps -/
def tSortLam (K : PySem.W.Frag) (T : List (Addr × Str)) (i : Nat) (te : TE) : TE := fun σ H Q => te σ H fun x H1 => ∃ (m : Nat) (t : Addr) (ps : List Int), x = .int ((m : Nat) : Int) ∧ m ≤ 1000 ∧ LamX.Tabs T H1 ∧ σ[i]? = some (some (.ref t)) ∧ SqT K H1 t (ps.map V.int) ∧ ps.length = m ∧
  ∀ (H2 : Hp) (p : Addr), LamX.ExtN H1 H2 → LamX.Tabs T H2 → H2 p = none → Q (.ref p) (upd H2 p (.lst ((((List.range m).map fun i : Nat => (i : Int)).mergeSort (PySem.W.dataLe false fun k => .tuple [.int (-(gi ps k)), .int k])).map V.int)))
theorem pe_sortLam {T : List (Addr × Str)} {e : Expr} {te : TE} {y z : Str} {cc P : Addr} {params : Arguments} {scope : Scope} {i : Nat} {p p2 pos pos2 lpos kpos p1 q2 q3 q4 q5 q6 : Pos} (hu64 : X.A.units + 64 < cLine) (hdp : X.A.depth + 5 < recursionLimit) (hcm : X.calm = true) (hg : Gl X "sorted") (hm : X.mg "sorted" = none) (hg2 : Gl X "range") (hm2 : X.mg "range" = none) (he : PE X e te)
    (TB : LamX.TabB X.base X.mg cc P) (hcode : X.env.code = .ref cc) (hmT : (P, X.env.qual ++ "<lambda>") ∈ T) (hu : ∀ r ∈ T, r.1 = P → r.2 = X.env.qual ++ "<lambda>") (L : LamK y z scope) (hfr : ∀ x ∈ scope.names, x.2 = .free → X.env.scope.names.lookup x.1 = some .cell ∨ X.env.scope.names.lookup x.1 = some .free)
    (hdef : defaultsOf params X.env = ([], [])) (hN : X.N[i]? = some z)
    (hb : ∀ (q : Str) (cl : List (Str × Addr)) (pm cv ctv : Value) (u : Int) (tu : Tok), bindArgs (PySem.W.kla_fn "<lambda>" q params (lamB y z p1 q2 q3 q4 q5 q6) scope cl pm cv ctv) ⟨[.int u tu], []⟩ = pure [(y, .int u tu)])
    (na : starEach [e] X.env = (false, eval e X.env) :: starEach [] X.env := by rfl) (na2 : backTo pos (starEach [.Call (.Name "range" p2) [e] [] pos2] X.env) = (false, eval (.Call (.Name "range" p2) [e] [] pos2) X.env) :: backTo pos (starEach [] X.env) := by rfl)
    (hpl : (backTo pos (starEach [.Call (.Name "range" p2) [e] [] pos2] X.env)).any (·.1) = false := by rfl) : PE X (.Call (.Name "sorted" p) [.Call (.Name "range" p2) [e] [] pos2] [⟨some "key", .Lambda params (lamB y z p1 q2 q3 q4 q5 q6) scope lpos, kpos⟩] pos) (tSortLam X.K T i te) := by
  refine ⟨fun pins s σ H Q I h => ?_⟩
  refine wpAny_Call_Name_kw (ld_blt I hg hm boot_sorted ?_)
  refine PyProof.Rows.callWith_kw ?_ na2 hpl (by rfl) (by rfl)
  show wpAny _ _ (spliced ((false, eval (.Call (.Name "range" p2) [e] [] pos2) X.env) :: backTo pos (starEach [] X.env))) _ _ s
  refine Calls.spliced_cons (Call_ (ld_blt I hg2 hm2 boot_range (PyProof.Rows.callWith_type1 (one_arg he I h (fun v s2 x H2 I2 r q => ?_) na) na)))
  obtain ⟨m, t, ps, rfl, hm0, hT, hz, hq, hl, q⟩ := q
  obtain ⟨tv, rfl⟩ := r
  refine call_range_1 (Calls.spliced_nil ?_)
  generalize hs3 : ({ s2 with heap := s2.heap.push { cls := .type "range", data := .fields #[.int 0 s2.toks, .int ((m : Nat) : Int) tv, .int 1 (s2.toks + 1)] }, toks := s2.toks + 1 + 1 } : Shared) = s3
  have rg : IsRange s3.heap s2.heap.objs.size 0 ((m : Nat) : Int) 1 s2.toks tv (s2.toks + 1) := by rw [← hs3]; exact IsRange.new _ _ _ _ _ _ _
  have I3 : Inv X pins σ H2 s3 := by rw [← hs3]; exact I2.kept fun b u e => Heap.get?_push_of_some _ e
  have fpo : ∀ b ∈ [s2.heap.objs.size], FpOk X pins H2 b := fun b hb => by
    rw [List.mem_singleton.mp hb]
    exact I2.fpOk (Nat.le_refl _) (I2.hok.fresh (Nat.le_refl _))
  have rgo : ∀ b ∈ [s2.heap.objs.size], ∃ o, s3.heap.get? b = some o ∧ ∀ v, o.data ≠ .cell v := fun b hb => by
    rw [List.mem_singleton.mp hb]
    exact ⟨_, rg, fun v z => by cases z⟩
  have I4 := I3.pinned fpo rgo
  show wpAny _ _ (evalAll ((do let v ← eval (.Lambda params (lamB y z p1 q2 q3 q4 q5 q6) scope lpos) X.env; standAt pos; pure v) :: (backToKw pos (keywordEach [] X.env)).map (·.2))) _ _ s3
  have hfree : ∀ x ∈ scope.names, x.2 = .free → ∃ c, X.env.cells.lookup x.1 = some c := fun x hx e => (hfr x hx e).elim (fun z => I4.ok.has _ (.inl z)) fun z => I4.ok.has _ (.inr z)
  refine wpAny_evalAll_cons (wpAny_bind (LamX.lam_make2 I4 TB hcode hmT hu hT hdef hfree fun f c' pm ctv H5 s5 I5 eN T5 hf hfn hfrs hco => wpAny_bind (wpAny_standAt (wpAny_pure (wpAny_evalAll_nil ?_)))))
  have rg5 : IsRange s5.heap s2.heap.objs.size 0 ((m : Nat) : Int) 1 s2.toks tv (s2.toks + 1) := (I5.pin (s2.heap.objs.size, _) (List.mem_append_right _ (List.mem_append_right _ (mem_pinsAt (List.mem_singleton.mpr rfl) rg)))).1
  have I6 : Inv X pins σ H5 s5 := I5.unpinned
  have hq5 : SqT X.K H5 t (ps.map V.int) := by
    rcases hq with (h' | ⟨o, h'⟩) | h'
    · exact .inl (.inl (eN _ _ h' fun ps z => by cases z))
    · exact .inl (.inr ⟨o, eN _ _ h' fun ps z => by cases z⟩)
    · exact .inr h'
  obtain ⟨its, rv, tup, _⟩ := I6.tuple hq5
  have hlen : its.toArray.size = ps.length := by rw [List.size_toArray, ← rv.length, List.length_map]
  have kz := hfr (z, .free) (PySem.mem_of_lookup L.lz) rfl
  have cap : NdefX.CellsAt (cloFrom X.env.cells scope.names []) [z] ([i].map (NdefX.slotAt σ)) s5.heap H5 := NdefX.cells_of I6 (NdefX.Caps.made I6.ok hfr (fun x hx => by rw [List.mem_singleton.mp hx]; exact PySem.mem_of_lookup L.lz) (by simp [hN]))
  obtain ⟨c, hc1, hc2⟩ := cap.has 0 z rfl
  obtain ⟨u, hu1, hcell⟩ := hc2 (.ref t) (by simp [NdefX.slotAt_of hz])
  obtain rfl : u = Value.ref t := hu1
  obtain ⟨⟨oc, vs, tq, hoc, hdc, hvc⟩, _, _⟩ := I6.hok c' _ hco
  refine sorted_rg (I6.ok.hd hcm) rg5 rfl hm0 (k := fun k => .tuple [.int (-(gi ps k)), .int k]) (fun a b => by simp [PySem.W.alike, PySem.W.alikeAll]) (fun a => ⟨_, _, rfl⟩) (fun a => by show X.A.units + 2 + 1 < cLine; omega) (fun j tj hj h tk kp => ?_) fun out cc1 h1 h2 tk k1 k2 hD hI => ?_
  · have lim : s5.heap.NoLimit := I6.nolimit
    have hjv := atI_gi (ns := ps) (k := (j : Nat)) (by omega) (by omega)
    obtain ⟨w, e1, e2⟩ := rv.get (i := j) (x := V.int (gi ps (j : Nat))) (by
      rw [List.getElem?_map]
      have := gi_at (ns := ps) (k := (j : Nat)) (by omega) (by omega)
      rw [show ((j : Nat) : Int).toNat = j from rfl] at this
      rw [this]
      rfl)
    obtain ⟨tw, rfl⟩ := e2
    refine lam_call (s := { s5 with heap := h, toks := tk }) L (Nat.lt_of_le_of_lt (Nat.le_add_right _ 5) hdp) (lim.keeps kp) (kp _ _ hf) ⟨c', oc, vs, tq, rfl, kp _ _ hoc, hdc, hvc⟩ (hb _ _ _ _ _ _ _) hc1 (let ⟨o, ho, hd⟩ := hcell; ⟨o, kp _ _ ho, hd⟩) (tup.keeps kp) rfl (by simpa using e1) (by omega)
  · have I7 : Inv X pins σ H5 { s5 with heap := h1, toks := tk } := I6.kept k1
    have hn : H5 h1.objs.size = none := I7.hok.fresh (Nat.le_refl _)
    have hlz : ((((List.range m).map fun i : Nat => (i : Int)).mergeSort (PySem.W.dataLe false fun k => PyData.tuple [.int (-(gi ps k)), .int k])).map V.int).length ≤ sizeLine := by
      rw [List.length_map, List.length_mergeSort, List.length_map, List.length_range]
      exact Nat.le_trans hm0 (by decide)
    exact ⟨.ref h1.objs.size, upd H5 h1.objs.size (.lst ((((List.range m).map fun i : Nat => (i : Int)).mergeSort (PySem.W.dataLe false fun k => PyData.tuple [.int (-(gi ps k)), .int k])).map V.int)), I7.laid (t' := tk) (fun b o e => k2 b o e) (Nat.le_refl _) ⟨hlz, out, cc1, vals_of_ints hI, hD⟩, rfl, q _ _ eN T5 hn⟩
end
end Fd
/-! The data and what the defs give, in plain Lean. -/
namespace Fd
open PySem PySem.Spec PyProof.Rows L2
/-- a budget -/
structure Bud where
  nm : Str
  cap : Int
  par : Int
/-- a job or a task: its numbers by place -/
structure Itm where
  kd : Str
  nm : Str
  a : Int
  b : Int
  c : Int
  segs : List (Int × Int)
structure Sys where
  buds : List Bud
  jobs : List Itm
  tasks : List Itm
def encS (g : Int × Int) : PyData := .tuple [.int g.1, .int g.2]
def encB (b : Bud) : PyData := .tuple [.str b.nm, .int b.cap, .int b.par]
def encI (i : Itm) : PyData := .tuple [.str i.kd, .str i.nm, .int i.a, .int i.b, .int i.c, .tuple (i.segs.map encS)]
def encY (y : Sys) : PyData := .tuple [.str "system", .tuple (y.buds.map encB), .tuple (y.jobs.map encI), .tuple (y.tasks.map encI)]
/-! ### budgets -/
/-- each has a capacity and a parent ahead of it, or none -/
structure WfB (bs : List Bud) : Prop where
  pos : 1 ≤ bs.length
  few : bs.length ≤ 3
  cap : ∀ b, b ∈ bs → 0 ≤ b.cap ∧ b.cap ≤ 3
  par : ∀ (i : Nat) (b : Bud), bs[i]? = some b → -1 ≤ b.par ∧ b.par < i
structure WfI (n : Nat) (i : Itm) : Prop where
  some : 1 ≤ i.segs.length
  few : i.segs.length ≤ 3
  seg : ∀ g, g ∈ i.segs → 1 ≤ g.1 ∧ g.1 ≤ 4 ∧ 0 ≤ g.2 ∧ g.2 < n
  a0 : 0 ≤ i.a
  a1 : i.a ≤ 7
def lens (segs : List (Int × Int)) : Int := (segs.map (·.1)).sum
structure WfJ (n : Nat) (i : Itm) : Prop extends WfI n i where
  kd : i.kd = ("job" : Str)
  due : i.a ≤ i.b ∧ i.b ≤ 50
  c0 : 0 ≤ i.c
  c1 : i.c ≤ 4
  c2 : i.c ≤ lens i.segs
structure WfK (n : Nat) (i : Itm) : Prop extends WfI n i where
  kd : i.kd = ("task" : Str)
  gap : 3 * lens i.segs < i.b ∧ i.b ≤ 100
  due : 4 ≤ i.c ∧ i.c ≤ 50
structure WfY (y : Sys) : Prop where
  buds : WfB y.buds
  jfew : y.jobs.length ≤ 3
  tfew : y.tasks.length ≤ 2
  jobs : ∀ i, i ∈ y.jobs → WfJ y.buds.length i
  tasks : ∀ i, i ∈ y.tasks → WfK y.buds.length i
/-! ### items -/
def workI (i : Itm) : Int := if i.kd = ("job" : Str) then lens i.segs - i.c else lens i.segs
def bodiesI (t : Itm) (s e : Int) : Int := if e - max s t.a < t.c then 0 else 1 + (e - max s t.a - t.c) / t.b
/-- the longest segments so far, with one more -/
def pen1 (ps : List Int) (g : Int × Int) : List Int := ps.set g.2.toNat (max (gi ps g.2) g.1)
def penI (ps : List Int) (i : Itm) : List Int := i.segs.foldl pen1 ps
def pens (n : Nat) (items : List Itm) : List Int := items.foldl penI (List.replicate n 0)
theorem pen1_len (ps : List Int) (g : Int × Int) : (pen1 ps g).length = ps.length := List.length_set
theorem penF_len : ∀ (gs : List (Int × Int)) (ps : List Int), (gs.foldl pen1 ps).length = ps.length
  | [], _ => rfl
  | g :: gs, ps => by rw [List.foldl_cons, penF_len gs, pen1_len]
theorem penI_len (ps : List Int) (i : Itm) : (penI ps i).length = ps.length := penF_len _ _
theorem pensF_len : ∀ (is : List Itm) (ps : List Int), (is.foldl penI ps).length = ps.length
  | [], _ => rfl
  | g :: gs, ps => by rw [List.foldl_cons, pensF_len gs, penI_len]
theorem pens_len (n : Nat) (is : List Itm) : (pens n is).length = n := by unfold pens; rw [pensF_len, List.length_replicate]
/-- the jobs, the tasks in (s, e) -/
def jobsIn (y : Sys) (s e : Int) : List Itm := y.jobs.filter fun j => decide (s ≤ j.a) && decide (j.b ≤ e)
def tasksIn (y : Sys) (s e : Int) : List Itm := y.tasks.filter fun t => decide (0 < bodiesI t s e)
def demandY (y : Sys) (s e : Int) : Int := ((jobsIn y s e).map workI).sum + (y.tasks.map fun t => bodiesI t s e * workI t).sum
def penY (y : Sys) (s e : Int) : List Int := pens y.buds.length (jobsIn y s e ++ tasksIn y s e)
def latestY (y : Sys) : Int := mxL (0 :: (y.jobs ++ y.tasks).map (·.a))
theorem lens_bound : ∀ (segs : List (Int × Int)), (∀ g, g ∈ segs → 1 ≤ g.1 ∧ g.1 ≤ 4) → (segs.length : Int) ≤ lens segs ∧ lens segs ≤ 4 * segs.length
  | [], _ => by constructor <;> decide
  | g :: gs, h => by
    have h1 := h g List.mem_cons_self
    have ih := lens_bound gs fun x hx => h x (List.mem_cons_of_mem _ hx)
    have e : lens (g :: gs) = g.1 + lens gs := by unfold lens; rw [List.map_cons, List.sum_cons]
    rw [e, List.length_cons]
    omega
theorem WfI.lens {n : Nat} {i : Itm} (h : WfI n i) : 1 ≤ lens i.segs ∧ lens i.segs ≤ 12 := by
  have := lens_bound i.segs fun g hg => ⟨(h.seg g hg).1, (h.seg g hg).2.1⟩
  have := h.some
  have := h.few
  omega
theorem WfJ.work {n : Nat} {i : Itm} (h : WfJ n i) : 0 ≤ workI i ∧ workI i ≤ 12 := by
  unfold workI
  rw [if_pos h.kd]
  have := h.toWfI.lens
  have := h.c0
  have := h.c2
  omega
theorem WfK.work {n : Nat} {i : Itm} (h : WfK n i) : 1 ≤ workI i ∧ workI i ≤ 12 ∧ 3 * workI i < i.b := by
  unfold workI
  have e : ¬ i.kd = ("job" : Str) := by rw [h.kd]; decide +kernel
  rw [if_neg e]
  have := h.toWfI.lens
  have := h.gap
  omega
theorem WfK.gap0 {n : Nat} {i : Itm} (h : WfK n i) : 0 < i.b ∧ i.b ≤ 100 := by
  have := h.toWfI.lens
  have := h.gap
  omega
end Fd
/-! Budgets: paths, uses. -/
namespace Fd
open PySem PySem.Spec PyProof.Rows L2
def bud0 : Bud := ⟨"", 0, -1⟩
def gb (bs : List Bud) (k : Int) : Bud := bs.getD k.toNat bud0
def gp (bs : List Bud) (k : Int) : Int := (gb bs k).par
def gc (bs : List Bud) (k : Int) : Int := (gb bs k).cap
theorem gb_at {bs : List Bud} {k : Int} (h0 : 0 ≤ k) (h : k < bs.length) : bs[k.toNat]? = some (gb bs k) := by
  unfold gb
  rw [List.getD_eq_getElem?_getD, List.getElem?_eq_getElem (by omega)]
  rfl
theorem gb_mem {bs : List Bud} {k : Int} (h0 : 0 ≤ k) (h : k < bs.length) : gb bs k ∈ bs := List.mem_of_getElem? (gb_at h0 h)
theorem atI_gb {bs : List Bud} {k : Int} (h0 : 0 ≤ k) (h : k < bs.length) : atI (bs.map encB) k = some (encB (gb bs k)) := atI_map h0 (gb_at h0 h)
theorem gp_bd {bs : List Bud} (W : WfB bs) {k : Int} (h0 : 0 ≤ k) (h : k < bs.length) : -1 ≤ gp bs k ∧ gp bs k < k := by
  have z := W.par k.toNat _ (gb_at h0 h)
  unfold gp
  omega
theorem gc_bd {bs : List Bud} (W : WfB bs) {k : Int} (h0 : 0 ≤ k) (h : k < bs.length) : 0 ≤ gc bs k ∧ gc bs k ≤ 3 := W.cap _ (gb_mem h0 h)
/-- k and what lies above it -/
def pathF (bs : List Bud) : Nat → Int → List Int
  | 0, _ => []
  | f + 1, k => if 0 ≤ k then k :: pathF bs f (gp bs k) else []
theorem pathF_neg {bs : List Bud} {f : Nat} {k : Int} (h : k < 0) : pathF bs f k = [] := by
  cases f with
  | zero => rfl
  | succ f => unfold pathF; rw [if_neg (by omega)]
theorem pathF_len {bs : List Bud} : ∀ (f : Nat) (k : Int), (pathF bs f k).length ≤ f
  | 0, _ => Nat.le_refl _
  | f + 1, k => by
    unfold pathF
    split
    · rw [List.length_cons]
      have := pathF_len f (gp bs k) (bs := bs)
      omega
    · exact Nat.zero_le _
theorem pathF_mem {bs : List Bud} (W : WfB bs) : ∀ (f : Nat) (k x : Int), k < bs.length → x ∈ pathF bs f k → 0 ≤ x ∧ x ≤ k
  | 0, _, _, _, h => by simp [pathF] at h
  | f + 1, k, x, hk, h => by
    unfold pathF at h
    split at h
    · rename_i h0
      rcases List.mem_cons.mp h with e | h
      · omega
      · have b := gp_bd W h0 hk
        have := pathF_mem W f (gp bs k) x (by omega) h
        omega
    · simp at h
theorem pathF_stab {bs : List Bud} (W : WfB bs) : ∀ (f f' : Nat) (k : Int), k < f → k < f' → k < bs.length → pathF bs f k = pathF bs f' k
  | 0, f', k, h, _, _ => by
    rw [pathF_neg (by omega), pathF_neg (by omega)]
  | f + 1, 0, k, _, h, _ => by
    rw [pathF_neg (by omega), pathF_neg (by omega)]
  | f + 1, f' + 1, k, h1, h2, h3 => by
    unfold pathF
    split
    · rename_i h0
      have b := gp_bd W h0 h3
      rw [pathF_stab W f f' (gp bs k) (by omega) (by omega) (by omega)]
    · rfl
theorem pathF_step {bs : List Bud} (W : WfB bs) {k : Int} (h0 : 0 ≤ k) (h : k < bs.length) : pathF bs bs.length k = k :: pathF bs bs.length (gp bs k) := by
  have b := gp_bd W h0 h
  have e : bs.length = (bs.length - 1) + 1 := by have := W.pos; omega
  rw [pathF_stab W bs.length ((bs.length - 1) + 1) k h (by omega) h, pathF_stab W bs.length (bs.length - 1) (gp bs k) (by omega) (by omega) (by omega)]
  show (if 0 ≤ k then k :: pathF bs (bs.length - 1) (gp bs k) else []) = _
  rw [if_pos h0]
theorem pathF_nodup {bs : List Bud} (W : WfB bs) : ∀ (f : Nat) (k : Int), k < bs.length → (pathF bs f k).Nodup
  | 0, _, _ => List.nodup_nil
  | f + 1, k, hk => by
    unfold pathF
    split
    · rename_i h0
      have b := gp_bd W h0 hk
      refine List.nodup_cons.mpr ⟨fun hm => ?_, pathF_nodup W f _ (by omega)⟩
      have := pathF_mem W f _ _ (by omega) hm
      omega
    · exact List.nodup_nil
/-- a turn of the law's path -/
def pathS (bs : List Bud) (z : List Int × Int) (_ : Nat) : List Int × Int := if 0 ≤ z.2 then (z.1 ++ [z.2], gp bs z.2) else z
theorem pathS_fold {bs : List Bud} : ∀ (l : List Nat) (acc : List Int) (k : Int), (l.foldl (pathS bs) (acc, k)).1 = acc ++ pathF bs l.length k
  | [], acc, k => (List.append_nil _).symm
  | x :: l, acc, k => by
    rw [List.foldl_cons]
    by_cases h : 0 ≤ k
    · have e : pathS bs (acc, k) x = (acc ++ [k], gp bs k) := if_pos h
      rw [e, pathS_fold l]
      show acc ++ [k] ++ _ = acc ++ pathF bs (l.length + 1) k
      rw [show pathF bs (l.length + 1) k = k :: pathF bs l.length (gp bs k) from if_pos h, List.append_assoc]
      rfl
    · have e : pathS bs (acc, k) x = (acc, k) := if_neg h
      rw [e, pathS_fold l, pathF_neg (by omega), pathF_neg (by omega)]
/-! ### uses -/
def addA (c : Int) (us : List Int) (k : Int) : List Int := us.set k.toNat (gi us k + c)
theorem addA_len (c : Int) : ∀ (l us : List Int), (l.foldl (addA c) us).length = us.length
  | [], _ => rfl
  | k :: l, us => by rw [List.foldl_cons, addA_len c l]; exact List.length_set
theorem addA_fold (c : Int) : ∀ (l us : List Int), (∀ x, x ∈ l → 0 ≤ x ∧ x < us.length) → l.Nodup → ∀ k : Int, 0 ≤ k → gi (l.foldl (addA c) us) k = gi us k + if l.contains k then c else 0
  | [], us, _, _, k, _ => by simp
  | x :: l, us, hb, hn, k, hk => by
    obtain ⟨n1, n2⟩ := List.nodup_cons.mp hn
    have bx := hb x List.mem_cons_self
    rw [List.foldl_cons, addA_fold c l (addA c us x) (fun y hy => by unfold addA; rw [List.length_set]; exact hb y (List.mem_cons_of_mem _ hy)) n2 k hk]
    unfold addA
    rw [gi_set bx hk, List.contains_cons]
    by_cases e : x = k
    · subst e
      have nl : l.contains x = false := by
        rw [← Bool.not_eq_true]
        intro z
        exact n1 (by simpa using z)
      rw [if_pos rfl, nl]
      simp
    · have e2 : (k == x) = false := by simp; omega
      rw [if_neg e, e2, Bool.false_or]
def usedY (bs : List Bud) (fs : List Int) : List Int := (List.range bs.length).map fun k => (((List.range bs.length).filter fun j => (pathF bs bs.length (j : Nat)).contains ((k : Nat) : Int)).map fun j => gi fs (j : Nat)).sum
theorem usedY_len (bs : List Bud) (fs : List Int) : (usedY bs fs).length = bs.length := by unfold usedY; rw [List.length_map, List.length_range]
def useS (bs : List Bud) (fs us : List Int) (i : Nat) : List Int := (pathF bs bs.length (i : Nat)).foldl (addA (gi fs (i : Nat))) us
theorem useS_len (bs : List Bud) (fs us : List Int) (i : Nat) : (useS bs fs us i).length = us.length := addA_len _ _ _
theorem useF_len (bs : List Bud) (fs : List Int) : ∀ (l : List Nat) (us : List Int), (l.foldl (useS bs fs) us).length = us.length
  | [], _ => rfl
  | i :: l, us => by rw [List.foldl_cons, useF_len bs fs l, useS_len]
theorem useF_gi {bs : List Bud} (W : WfB bs) (fs : List Int) {us : List Int} (hu : us.length = bs.length) : ∀ (m : Nat), m ≤ bs.length → ∀ k : Int, 0 ≤ k → k < bs.length →
    gi ((List.range m).foldl (useS bs fs) us) k = gi us k + (((List.range m).filter fun j => (pathF bs bs.length (j : Nat)).contains k).map fun j => gi fs (j : Nat)).sum
  | 0, _, k, _, _ => by simp
  | m + 1, hm, k, h0, h1 => by
    rw [List.range_succ, List.foldl_append, List.filter_append, List.map_append, List.sum_append]
    show gi (useS bs fs ((List.range m).foldl (useS bs fs) us) m) k = _
    unfold useS
    rw [addA_fold _ _ _ (fun x hx => ?_) (pathF_nodup W _ _ (by omega)) k h0]
    · have ih := useF_gi W fs hu m (by omega) k h0 h1
      unfold useS at ih
      rw [ih]
      by_cases q : (pathF bs bs.length (m : Nat)).contains k = true
      · rw [if_pos q, List.filter_cons, if_pos q]
        simp only [List.filter_nil, List.map_cons, List.map_nil, List.sum_cons, List.sum_nil]
        omega
      · rw [if_neg q, List.filter_cons, if_neg q]
        simp only [List.filter_nil, List.map_nil, List.sum_nil]
        omega
    · have z := pathF_mem W _ _ x (show ((m : Nat) : Int) < bs.length by omega) hx
      have e := useF_len bs fs (List.range m) us
      unfold useS at e
      rw [e]
      omega
theorem useF_eq {bs : List Bud} (W : WfB bs) (fs : List Int) : (List.range bs.length).foldl (useS bs fs) (List.replicate bs.length 0) = usedY bs fs := by
  refine gi_ext (by rw [useF_len, usedY_len, List.length_replicate]) fun k h0 h1 => ?_
  rw [useF_len, List.length_replicate] at h1
  rw [useF_gi W fs List.length_replicate _ (Nat.le_refl _) k h0 h1, gi_rep, Int.zero_add]
  unfold usedY
  rw [gi_range h0 h1]
  have e : ((k.toNat : Nat) : Int) = k := by omega
  rw [e]
/-- no budget is over -/
def fitsY (bs : List Bud) (fs : List Int) : Bool := decide (∀ k : Nat, k < bs.length → gi (usedY bs fs) (k : Nat) ≤ gc bs (k : Nat))
/-! ### the most faults -/
def pmS (bs : List Bud) (ms : List Int) (i : Nat) : List Int :=
  let k : Int := ((bs.length : Nat) : Int) - 1 + (i : Nat) * -1
  let m2 := (ms.set k.toNat (min (gc bs k) (gi ms k))).set k.toNat (gc bs k)
  if 0 ≤ gp bs k then m2.set (gp bs k).toNat (gi m2 (gp bs k) + gi m2 k) else m2
theorem pmS_len (bs : List Bud) (ms : List Int) (i : Nat) : (pmS bs ms i).length = ms.length := by
  unfold pmS
  dsimp only
  split
  · rw [List.length_set, List.length_set, List.length_set]
  · rw [List.length_set, List.length_set]
theorem pmF_len (bs : List Bud) : ∀ (l : List Nat) (us : List Int), (l.foldl (pmS bs) us).length = us.length
  | [], _ => rfl
  | i :: l, us => by rw [List.foldl_cons, pmF_len bs l, pmS_len]
theorem pmF_gi {bs : List Bud} (W : WfB bs) {us : List Int} (hu : us.length = bs.length) : ∀ (m : Nat), m ≤ bs.length → ∀ k : Int, (bs.length : Int) - m ≤ k → k < bs.length → gi ((List.range m).foldl (pmS bs) us) k = gc bs k
  | 0, _, k, h1, h2 => by omega
  | m + 1, hm, k, h1, h2 => by
    have ih := pmF_gi W hu m (by omega)
    have hl : ((List.range m).foldl (pmS bs) us).length = bs.length := (pmF_len bs _ _).trans hu
    rw [List.range_succ, List.foldl_append]
    show gi (pmS bs ((List.range m).foldl (pmS bs) us) m) k = gc bs k
    generalize (List.range m).foldl (pmS bs) us = ms at ih hl
    unfold pmS
    dsimp only
    generalize hj : ((bs.length : Nat) : Int) - 1 + (m : Nat) * -1 = j
    have bj : 0 ≤ j ∧ j < bs.length := by omega
    have bp := gp_bd W bj.1 bj.2
    have base : ∀ x : Int, 0 ≤ x → gi ((ms.set j.toNat (min (gc bs j) (gi ms j))).set j.toNat (gc bs j)) x = if j = x then gc bs j else gi ms x := fun x hx => by
      rw [gi_set (by rw [List.length_set]; omega) hx]
      by_cases e : j = x
      · rw [if_pos e, if_pos e]
      · rw [if_neg e, if_neg e, gi_set (by omega) hx, if_neg e]
    have main : (if j = k then gc bs j else gi ms k) = gc bs k := by
      by_cases e : j = k
      · rw [if_pos e, e]
      · rw [if_neg e]
        exact ih k (by omega) h2
    split
    · rename_i hp
      rw [gi_set (by rw [List.length_set, List.length_set]; omega) (by omega), if_neg (by omega), base k (by omega)]
      exact main
    · rw [base k (by omega)]
      exact main
theorem pmF_eq {bs : List Bud} (W : WfB bs) : (List.range bs.length).foldl (pmS bs) (List.replicate bs.length 0) = bs.map (·.cap) := by
  refine gi_ext (by rw [pmF_len, List.length_replicate, List.length_map]) fun k h0 h1 => ?_
  rw [pmF_len, List.length_replicate] at h1
  rw [pmF_gi W List.length_replicate _ (Nat.le_refl _) k (by omega) h1]
  unfold gi gc
  rw [List.getD_eq_getElem?_getD, List.getElem?_map, gb_at h0 h1]
  rfl
/-- what the roots bear -/
def mostY (bs : List Bud) : Int := (((List.range bs.length).filter fun k => decide (gp bs (k : Nat) < 0)).map fun k => gc bs (k : Nat)).sum
theorem gi_cap {bs : List Bud} {k : Int} (h0 : 0 ≤ k) (h : k < bs.length) : gi (bs.map (·.cap)) k = gc bs k := by
  unfold gi gc
  rw [List.getD_eq_getElem?_getD, List.getElem?_map, gb_at h0 h]
  rfl
end Fd
namespace Fd
open PySem PySem.Spec PyProof.Rows L2
theorem sl {n : Nat} (h : n ≤ 16777216) : n ≤ sizeLine := by rw [sizeLine_eq]; exact h
section
variable {P : Program} {w : World} {K : PySem.W.Frag} {mg : Str → Option Value} {base : Heap} {J : JJ}
/-! ### lengths, work -/
def R_len (ds : List PyData) (d : PyData) : Prop := ∃ (d0 d1 d2 d3 d4 : PyData) (segs : List (Int × Int)), ds = [.tuple [d0, d1, d2, d3, d4, .tuple (segs.map encS)]] ∧ segs.length ≤ 3 ∧ d = .int (lens segs)
theorem fd_lengths_of (D : Dfn K mg "lengths_of" s_lengths_of p_lengths_of) (T : Bt mg) : FD P w K mg base J 1 "lengths_of" p_lengths_of R_len := by
  refine fd_ok D sc_lengths_of (fun ds d h => ?_) (fun f cdv A outer s H E hr ds d h => ?_)
  · obtain ⟨_, _, _, _, _, _, rfl, _⟩ := h
    rfl
  · obtain ⟨d0, d1, d2, d3, d4, segs, rfl, hz, rfl⟩ := h
    exact pbd_one (psd_ret (ped_sumL rfl T.sum (PEF.pld (pef_lcAI 1 segs encS (·.1) rfl sc_lengths_of.nd (pid_tup (ped_ixT (ped_var 0) ped_int)) (sl (by omega)) (fun x hx _ _ _ _ _ => ped_ixT (ped_var 1) ped_int) (blkOk_by (N := N_lengths_of) (sc := defScope s_lengths_of) (by decide +kernel))))) rfl)
theorem fd_law_lengths (D : Dfn K mg "_law_lengths" s_law_lengths p_law_lengths) (T : Bt mg) : FD P w K mg base J 1 "_law_lengths" p_law_lengths R_len := by
  refine fd_ok D sc_law_lengths (fun ds d h => ?_) (fun f cdv A outer s H E hr ds d h => ?_)
  · obtain ⟨_, _, _, _, _, _, rfl, _⟩ := h
    rfl
  · obtain ⟨d0, d1, d2, d3, d4, segs, rfl, hz, rfl⟩ := h
    exact pbd_one (psd_ret (ped_sumL rfl T.sum (PEF.pld (pef_lcAI 1 segs encS (·.1) rfl sc_law_lengths.nd (pid_tup (ped_ixT (ped_var 0) ped_int)) (sl (by omega)) (fun x hx _ _ _ _ _ => ped_ixT (ped_var 1) ped_int) (blkOk_by (N := N_law_lengths) (sc := defScope s_law_lengths) (by decide +kernel))))) rfl)
theorem r_len {i : Itm} (h : i.segs.length ≤ 3) : R_len [encI i] (.int (lens i.segs)) := ⟨_, _, _, _, _, i.segs, rfl, h, rfl⟩
def R_work (ds : List PyData) (d : PyData) : Prop := ∃ i : Itm, ds = [encI i] ∧ i.segs.length ≤ 3 ∧ -100 ≤ i.c ∧ i.c ≤ 100 ∧ d = .int (workI i)
theorem fd_work_of (D : Dfn K mg "work_of" s_work_of p_work_of) (L : FD P w K mg base J 1 "lengths_of" p_lengths_of R_len) : FD P w K mg base J 2 "work_of" p_work_of R_work := by
  refine fd_ok D sc_work_of (fun ds d h => ?_) (fun f cdv A outer s H E hr ds d h => ?_)
  · obtain ⟨_, rfl, _⟩ := h
    rfl
  · obtain ⟨i, rfl, hz, _, _, rfl⟩ := h
    refine pbd_cons (psd_if (ptd_eqS (ped_ixT (ped_var 0) ped_int) ped_str) (fun q => ?_) (fun q => ?_))
    · refine pbd_one (psd_ret (ped_sub (ped_call L hr (pad_cons (ped_var 0) pad_nil) (r_len hz)) (ped_ixT (ped_var 0) ped_int)) ?_)
      show PyData.int (lens i.segs - i.c) = .int (workI i)
      unfold workI
      rw [if_pos (of_decide_eq_true q)]
    · refine pbd_nil (pbd_one (psd_ret (ped_call L hr (pad_cons (ped_var 0) pad_nil) (r_len hz)) ?_))
      show PyData.int (lens i.segs) = .int (workI i)
      unfold workI
      rw [if_neg (of_decide_eq_false q)]
theorem fd_law_work (D : Dfn K mg "_law_work" s_law_work p_law_work) (T : Bt mg) (L : FD P w K mg base J 1 "_law_lengths" p_law_lengths R_len) : FD P w K mg base J 2 "_law_work" p_law_work R_work := by
  refine fd_ok D sc_law_work (fun ds d h => ?_) (fun f cdv A outer s H E hr ds d h => ?_)
  · obtain ⟨_, rfl, _⟩ := h
    rfl
  · obtain ⟨i, rfl, hz, h1, h2, rfl⟩ := h
    refine pbd_one (psd_ret (ped_sub (ped_call L hr (pad_cons (ped_var 0) pad_nil) (r_len hz)) (ped_mul (ped_ixT (ped_var 0) ped_int) (ped_intB T.int (ped_eqS (ped_ixT (ped_var 0) ped_int) ped_str)) (.inl ⟨by omega, by omega⟩))) ?_)
    show PyData.int (lens i.segs - i.c * (if decide (i.kd = ("job" : Str)) = true then 1 else 0)) = .int (workI i)
    unfold workI
    by_cases q : i.kd = ("job" : Str)
    · rw [decide_eq_true q, if_pos rfl, if_pos q, Int.mul_one]
    · rw [decide_eq_false q, if_neg (by decide), if_neg q, Int.mul_zero, Int.sub_zero]
/-! ### bodies -/
def R_bod (ds : List PyData) (d : PyData) : Prop := ∃ (t : Itm) (s e : Int), ds = [encI t, .int s, .int e] ∧ 0 < t.b ∧ t.b ≤ 100 ∧ d = .int (bodiesI t s e)
theorem fd_bodies (D : Dfn K mg "bodies" s_bodies p_bodies) (T : Bt mg) : FD P w K mg base J 1 "bodies" p_bodies R_bod := by
  refine fd_ok D sc_bodies (fun ds d h => ?_) (fun f cdv A outer s H E hr ds d h => ?_)
  · obtain ⟨_, _, _, rfl, _⟩ := h
    rfl
  · obtain ⟨t, s, e, rfl, h1, h2, rfl⟩ := h
    refine pbd_cons (psd_set 3 (ped_max2 rfl T.max (ped_var 1) (ped_ixT (ped_var 0) ped_int)) ?_ sc_bodies.nd)
    refine pbd_cons (psd_if (ptd_lt (ped_sub (ped_var 2) (ped_var 3)) (ped_ixT (ped_var 0) ped_int)) (fun q => ?_) (fun q => ?_))
    · refine pbd_one (psd_ret ped_int ?_)
      show PyData.int 0 = .int (bodiesI t s e)
      unfold bodiesI
      rw [if_pos (of_decide_eq_true q)]
    · refine pbd_nil (pbd_one (psd_ret (ped_add ped_int (ped_fdiv (ped_sub (ped_sub (ped_var 2) (ped_var 3)) (ped_ixT (ped_var 0) ped_int)) (ped_ixT (ped_var 0) ped_int) ⟨h1, by omega⟩)) ?_))
      show PyData.int (1 + (e - max s t.a - t.c) / t.b) = .int (bodiesI t s e)
      unfold bodiesI
      rw [if_neg (of_decide_eq_false q)]
theorem fd_law_bodies (D : Dfn K mg "_law_bodies" s_law_bodies p_law_bodies) (T : Bt mg) : FD P w K mg base J 1 "_law_bodies" p_law_bodies R_bod := by
  refine fd_ok D sc_law_bodies (fun ds d h => ?_) (fun f cdv A outer s H E hr ds d h => ?_)
  · obtain ⟨_, _, _, rfl, _⟩ := h
    rfl
  · obtain ⟨t, s, e, rfl, h1, h2, rfl⟩ := h
    refine pbd_cons (psd_set 3 (ped_max2 rfl T.max (ped_var 1) (ped_ixT (ped_var 0) ped_int)) ?_ sc_law_bodies.nd)
    refine pbd_cons (psd_if (ptd_lt (ped_sub (ped_var 2) (ped_var 3)) (ped_ixT (ped_var 0) ped_int)) (fun q => ?_) (fun q => ?_))
    · refine pbd_one (psd_ret ped_int ?_)
      show PyData.int 0 = .int (bodiesI t s e)
      unfold bodiesI
      rw [if_pos (of_decide_eq_true q)]
    · refine pbd_nil (pbd_one (psd_ret (ped_add ped_int (ped_fdiv (ped_sub (ped_sub (ped_var 2) (ped_var 3)) (ped_ixT (ped_var 0) ped_int)) (ped_ixT (ped_var 0) ped_int) ⟨h1, by omega⟩)) ?_))
      show PyData.int (1 + (e - max s t.a - t.c) / t.b) = .int (bodiesI t s e)
      unfold bodiesI
      rw [if_neg (of_decide_eq_false q)]
/-! ### the latest -/
def R_sys (f : Sys → PyData) (ds : List PyData) (d : PyData) : Prop := ∃ y : Sys, ds = [encY y] ∧ WfY y ∧ d = f y
theorem latest_eq (y : Sys) : [PyData.int 0] ++ ((y.jobs ++ y.tasks).map fun i => i.a).map .int = (0 :: (y.jobs ++ y.tasks).map (·.a)).map PyData.int := rfl
theorem cat_items (y : Sys) : y.jobs.map encI ++ y.tasks.map encI = (y.jobs ++ y.tasks).map encI := (List.map_append).symm
theorem WfY.items {y : Sys} (h : WfY y) : (y.jobs ++ y.tasks).length ≤ 5 := by
  have := h.jfew
  have := h.tfew
  rw [List.length_append]
  omega
section
variable {X : Cx} {δ δ1 δ2 : DS} {pos : Pos} {a b : Expr}
/-- system[2] + system[3] -/
theorem ped_items {y : Sys} (h : WfY y) (ha : PED J X a δ (.tuple (y.jobs.map encI)) δ1) (hb : PED J X b δ1 (.tuple (y.tasks.map encI)) δ2) : PED J X (.BinOp a .Add b pos) δ (.tuple ((y.jobs ++ y.tasks).map encI)) δ2 :=
  (ped_catT ha hb (sl (by rw [List.length_map, List.length_map]; have := h.jfew; have := h.tfew; omega))).eq (by rw [cat_items])
end
theorem fd_latest_of (D : Dfn K mg "latest_of" s_latest_of p_latest_of) (T : Bt mg) : FD P w K mg base J 1 "latest_of" p_latest_of (R_sys fun y => .int (latestY y)) := by
  refine fd_ok D sc_latest_of (fun ds d h => ?_) (fun f cdv A outer s H E hr ds d h => ?_)
  · obtain ⟨_, rfl, _⟩ := h
    rfl
  · obtain ⟨y, rfl, h1, rfl⟩ := h
    refine pbd_one (psd_ret (ped_maxL (ns := 0 :: (y.jobs ++ y.tasks).map (·.a)) rfl T.max (PEF.pld ((pef_cat (PEF.ped (pef_lst (pad_cons ped_int pad_nil))) (PEF.ped (pef_lcAI 1 (y.jobs ++ y.tasks) encI (·.a) rfl sc_latest_of.nd
      (pid_tup (ped_items h1 (ped_ixT (ped_var 0) ped_int) (ped_ixT (ped_var 0) ped_int))) (sl (by have := h1.items; omega)) (fun x hx _ _ _ _ _ => ped_ixT (ped_var 1) ped_int) (blkOk_by (N := N_latest_of) (sc := defScope s_latest_of) (by decide +kernel)))) ?_).eq (latest_eq y))) (by simp)) rfl)
    rw [List.length_map, List.length_map]
    exact sl (by have := h1.items; show 1 + _ ≤ _; omega)
theorem fd_law_latest (D : Dfn K mg "_law_latest" s_law_latest p_law_latest) (T : Bt mg) : FD P w K mg base J 1 "_law_latest" p_law_latest (R_sys fun y => .int (latestY y)) := by
  refine fd_ok D sc_law_latest (fun ds d h => ?_) (fun f cdv A outer s H E hr ds d h => ?_)
  · obtain ⟨_, rfl, _⟩ := h
    rfl
  · obtain ⟨y, rfl, h1, rfl⟩ := h
    refine pbd_one (psd_ret (ped_maxL (ns := 0 :: (y.jobs ++ y.tasks).map (·.a)) rfl T.max (PEF.pld ((pef_cat (PEF.ped (pef_lst (pad_cons ped_int pad_nil))) (PEF.ped (pef_lcAI 1 (y.jobs ++ y.tasks) encI (·.a) rfl sc_law_latest.nd
      (pid_tup (ped_items h1 (ped_ixT (ped_var 0) ped_int) (ped_ixT (ped_var 0) ped_int))) (sl (by have := h1.items; omega)) (fun x hx _ _ _ _ _ => ped_ixT (ped_var 1) ped_int) (blkOk_by (N := N_law_latest) (sc := defScope s_law_latest) (by decide +kernel)))) ?_).eq (latest_eq y))) (by simp)) rfl)
    rw [List.length_map, List.length_map]
    exact sl (by have := h1.items; show 1 + _ ≤ _; omega)
end
end Fd
namespace Fd
open PySem PySem.Spec PyProof.Rows L2
local macro_rules | `(tactic| trivial) => `(tactic| exact le_nil)
local macro_rules | `(tactic| trivial) => `(tactic| (refine le_eq ?_; trivial))
local macro_rules | `(tactic| trivial) => `(tactic| (refine le_un ?_; trivial))
section
variable {P : Program} {w : World} {K : PySem.W.Frag} {mg : Str → Option Value} {base : Heap} {J : JJ}
/-! ### the longest segments -/
def R_longest (ds : List PyData) (d : PyData) : Prop := ∃ (items : List Itm) (bs : List Bud) (D : PyData), ds = [D, .tuple (bs.map encB)] ∧ (D = .list (items.map encI) ∨ D = .tuple (items.map encI)) ∧ bs.length ≤ 3 ∧ (∀ i, i ∈ items → WfI bs.length i) ∧ d = .tuple ((pens bs.length items).map .int)
theorem rep_int (n : Nat) (z : Int) : List.replicate n (PyData.int z) = (List.replicate n z).map PyData.int := by rw [List.map_replicate]
theorem fd_longest (D : Dfn K mg "longest" s_longest p_longest) (T : Bt mg) : FD P w K mg base J 1 "longest" p_longest R_longest := by
  refine fd_ok D sc_longest (fun ds d h => ?_) (fun f cdv A outer s H E hr ds d h => ?_)
  · obtain ⟨_, _, _, rfl, _⟩ := h
    rfl
  · obtain ⟨items, bs, Dt, rfl, hD, hb, hW, rfl⟩ := h
    refine pbd_cons (psd_setO 2 (pef_rep (pef_lst (pad_cons ped_int pad_nil)) (ped_lenT T.len (ped_var 1)) (by omega) (sl (by rw [List.length_map]; omega))) (fun p => ?_) sc_longest.nd)
    have hi : ∀ {tg : Expr} {p2 : Pos} (δ : DS), δ[0]? = some (.kn Dt) → PID J (cb P w K mg base N_longest "longest" s_longest f cdv A outer s H E) tg (.Name "items" p2) δ (items.map encI) δ := fun δ hδ => by
      rcases hD with rfl | rfl
      · exact pid_list (ped_var 0 rfl (.inl rfl) hδ)
      · exact pid_tup (ped_var 0 rfl (.inl rfl) hδ)
    refine pbd_cons (psd_fold items encI penI (fun ps => [.kn Dt, .kn (.tuple (bs.map encB)), .ow p (ps.map .int), .un, .un, .un]) (fun ps => ps.length = bs.length) (List.replicate bs.length 0) PassesOwn.never rfl (hi _ rfl) ?_ ?_ (fun ps i hm hp => ?_) (fun hp => ?_))
    · refine le_eq (le_eq (le_ow ?_ (by trivial)))
      rw [List.length_map]
      exact rep_int _ _
    · exact List.length_replicate
    · refine ⟨_, _, pgd_name 3 sc_longest.nd, pbd_one (psd_fold i.segs encS pen1 (fun qs => [.kn Dt, .kn (.tuple (bs.map encB)), .ow p (qs.map .int), .kn (encI i), .un, .un]) (fun qs => qs.length = bs.length) ps PassesOwn.never rfl (pid_tup (ped_ixT (ped_var 3) ped_int)) (by trivial) hp (fun qs g hg hq => ?_) (fun hq => ?_))⟩
      · have wg := (hW i hm).seg g hg
        refine ⟨_, _, pgd_tup rfl (pgsd_cons (pgd_name 4 sc_longest.nd) (pgsd_cons (pgd_name 5 sc_longest.nd) pgsd_nil)), pbd_one (psd_setItem 2 (ped_max2 rfl T.max (ped_ixO 2 (ped_var 5) (atI_gi (ns := qs) wg.2.2.1 (by omega))) (ped_var 4)) (ped_var 5) (j := g.2.toNat) ?_ (And.intro (le_eq (le_eq (le_ow ?_ (by trivial)))) ?_))⟩
        · rw [List.length_map]
          exact ixN_int wg.2.2.1 (by omega)
        · unfold pen1
          rw [List.map_set]
        · show (pen1 qs g).length = bs.length
          rw [pen1_len]
          exact hq
      · exact And.intro (by trivial) hq
    · exact pbd_one (psd_ret (ped_tupL T.tuple (pld_own 2)) rfl)
end
end Fd
namespace Fd
open PySem PySem.Spec PyProof.Rows L2
local macro_rules | `(tactic| trivial) => `(tactic| exact le_nil)
local macro_rules | `(tactic| trivial) => `(tactic| (refine le_eq ?_; trivial))
local macro_rules | `(tactic| trivial) => `(tactic| (refine le_un ?_; trivial))
/-! ### what lies in an interval -/
theorem bodiesI_nn {t : Itm} {s e : Int} (h : 0 < t.b) : 0 ≤ bodiesI t s e := by
  unfold bodiesI
  split
  · decide
  · have : 0 ≤ (e - max s t.a - t.c) / t.b := Int.ediv_nonneg (by omega) (by omega)
    omega
def R_iv (f : Sys → Int → Int → PyData) (ds : List PyData) (d : PyData) : Prop := ∃ (y : Sys) (s e : Int), ds = [encY y, .int s, .int e] ∧ WfY y ∧ d = f y s e
def encP (q : Itm × Int) : PyData := .tuple [encI q.1, .int q.2]
/-- the law's pairs -/
def pairsIn (y : Sys) (s e : Int) : List (Itm × Int) := (jobsIn y s e).map (fun j => (j, 1)) ++ (tasksIn y s e).map (fun t => (t, bodiesI t s e))
theorem pairsIn_items (y : Sys) (s e : Int) : (pairsIn y s e).map (·.1) = jobsIn y s e ++ tasksIn y s e := by
  unfold pairsIn
  rw [List.map_append, List.map_map, List.map_map]
  congr 1
  · exact (List.map_congr_left fun _ _ => rfl).trans (List.map_id _)
  · exact (List.map_congr_left fun _ _ => rfl).trans (List.map_id _)
theorem pairsIn_mem {y : Sys} (h : WfY y) {s e : Int} {q : Itm × Int} (hq : q ∈ pairsIn y s e) : WfI y.buds.length q.1 ∧ q.1.segs.length ≤ 3 ∧ 0 ≤ q.1.c ∧ q.1.c ≤ 50 ∧ 0 ≤ workI q.1 ∧ workI q.1 ≤ 12 := by
  unfold pairsIn at hq
  rcases List.mem_append.mp hq with hq | hq
  · obtain ⟨j, hj, rfl⟩ := List.mem_map.mp hq
    have w := h.jobs j (List.mem_filter.mp hj).1
    exact ⟨w.toWfI, w.few, w.c0, by have := w.c1; show j.c ≤ 50; omega, w.work.1, w.work.2⟩
  · obtain ⟨j, hj, rfl⟩ := List.mem_map.mp hq
    have w := h.tasks j (List.mem_filter.mp hj).1
    exact ⟨w.toWfI, w.few, by have := w.due; show 0 ≤ j.c; omega, w.due.2, by have := w.work; show 0 ≤ workI j; omega, w.work.2.1⟩
theorem pairsIn_len {y : Sys} (h : WfY y) (s e : Int) : (pairsIn y s e).length ≤ 5 := by
  unfold pairsIn jobsIn tasksIn
  rw [List.length_append, List.length_map, List.length_map]
  have := List.length_filter_le (fun j : Itm => decide (s ≤ j.a) && decide (j.b ≤ e)) y.jobs
  have := List.length_filter_le (fun t => decide (0 < bodiesI t s e)) y.tasks
  have := h.jfew
  have := h.tfew
  omega
theorem sum_filter_pos (f g : Itm → Int) : ∀ l : List Itm, (∀ t, t ∈ l → 0 ≤ f t) → ((l.filter fun t => decide (0 < f t)).map fun t => f t * g t).sum = (l.map fun t => f t * g t).sum
  | [], _ => rfl
  | t :: l, h => by
    have ih := sum_filter_pos f g l fun x hx => h x (List.mem_cons_of_mem _ hx)
    have h0 := h t List.mem_cons_self
    rw [List.filter_cons]
    by_cases q : 0 < f t
    · rw [if_pos (decide_eq_true q), List.map_cons, List.sum_cons, ih, List.map_cons, List.sum_cons]
    · have e : f t = 0 := by omega
      rw [if_neg (by rw [decide_eq_false q]; decide), ih, List.map_cons, List.sum_cons, e, Int.zero_mul, Int.zero_add]
theorem pairsIn_sum {y : Sys} (h : WfY y) (s e : Int) : ((pairsIn y s e).map fun q => q.2 * workI q.1).sum = demandY y s e := by
  unfold pairsIn demandY
  rw [List.map_append, List.sum_append, List.map_map, List.map_map]
  congr 1
  · congr 1
    exact List.map_congr_left fun j _ => by show 1 * workI j = workI j; rw [Int.one_mul]
  · exact sum_filter_pos (fun t => bodiesI t s e) workI y.tasks fun t ht => bodiesI_nn (h.tasks t ht).gap0.1
section
variable {P : Program} {w : World} {K : PySem.W.Frag} {mg : Str → Option Value} {base : Heap} {J : JJ}
theorem r_bod {y : Sys} (h : WfY y) {t : Itm} (ht : t ∈ y.tasks) (s e : Int) : R_bod [encI t, .int s, .int e] (.int (bodiesI t s e)) := ⟨t, s, e, rfl, (h.tasks t ht).gap0.1, (h.tasks t ht).gap0.2, rfl⟩
theorem r_workJ {y : Sys} (h : WfY y) {t : Itm} (ht : t ∈ y.jobs) : R_work [encI t] (.int (workI t)) := ⟨t, rfl, (h.jobs t ht).few, by have := (h.jobs t ht).c0; omega, by have := (h.jobs t ht).c1; omega, rfl⟩
theorem r_workK {y : Sys} (h : WfY y) {t : Itm} (ht : t ∈ y.tasks) : R_work [encI t] (.int (workI t)) := ⟨t, rfl, (h.tasks t ht).few, by have := (h.tasks t ht).due; omega, by have := (h.tasks t ht).due; omega, rfl⟩
theorem fd_jobs_in (D : Dfn K mg "jobs_in" s_jobs_in p_jobs_in) : FD P w K mg base J 1 "jobs_in" p_jobs_in (R_iv fun y s e => .list ((jobsIn y s e).map encI)) := by
  refine fd_ok D sc_jobs_in (fun ds d h => ?_) (fun f cdv A outer s H E hr ds d h => ?_)
  · obtain ⟨_, _, _, rfl, _⟩ := h
    rfl
  · obtain ⟨y, s, e, rfl, hy, rfl⟩ := h
    exact pbd_one (psd_ret (PEF.ped (pef_lcN 3 y.jobs encI (fun j => decide (s ≤ j.a) && decide (j.b ≤ e)) encI rfl sc_jobs_in.nd (pid_tup (ped_ixT (ped_var 0) ped_int)) (sl (by have := hy.jfew; omega))
      (fun j hj => ⟨fun _ _ _ _ _ => ptsd_one (ptd_and (ptd_ge (ped_ixT (ped_var 3) ped_int) (ped_var 1)) (fun _ => pwd_and1 (ptd_le (ped_ixT (ped_var 3) ped_int) (ped_var 2)))), fun _ _ _ _ _ _ => ped_var 3⟩)
      (blkOk_by (N := N_jobs_in) (sc := defScope s_jobs_in) (by decide +kernel)))) rfl)
theorem fd_demand (D : Dfn K mg "demand" s_demand p_demand) (T : Bt mg) (GJ : FD P w K mg base J 1 "jobs_in" p_jobs_in (R_iv fun y s e => .list ((jobsIn y s e).map encI))) (GB : FD P w K mg base J 1 "bodies" p_bodies R_bod) (GW : FD P w K mg base J 2 "work_of" p_work_of R_work) :
    FD P w K mg base J 3 "demand" p_demand (R_iv fun y s e => .int (demandY y s e)) := by
  refine fd_ok D sc_demand (fun ds d h => ?_) (fun f cdv A outer s H E hr ds d h => ?_)
  · obtain ⟨_, _, _, rfl, _⟩ := h
    rfl
  · obtain ⟨y, s, e, rfl, hy, rfl⟩ := h
    have lj : (jobsIn y s e).length ≤ 3 := Nat.le_trans (List.length_filter_le _ _) hy.jfew
    refine pbd_cons (psd_set 3 (ped_sumL rfl T.sum (PEF.pld (pef_lcAI 4 (jobsIn y s e) encI workI rfl sc_demand.nd (pid_list (ped_call GJ (hr.mono (by decide)) (pad_cons (ped_var 0) (pad_cons (ped_var 1) (pad_cons (ped_var 2) pad_nil))) ⟨y, s, e, rfl, hy, rfl⟩)) (sl (by omega))
      (fun j hj _ _ _ _ _ => ped_call GW hr (pad_cons (ped_var 4) pad_nil) (r_workJ hy (List.mem_filter.mp hj).1)) (blkOk_by (N := N_demand) (sc := defScope s_demand) (by decide +kernel))))) ?_ sc_demand.nd)
    refine pbd_one (psd_ret (ped_add (ped_var 3) (ped_sumL rfl T.sum (PEF.pld (pef_lcAI 5 y.tasks encI (fun t => bodiesI t s e * workI t) rfl sc_demand.nd (pid_tup (ped_ixT (ped_var 0) ped_int)) (sl (by have := hy.tfew; omega))
      (fun t ht _ _ _ _ _ => ped_mul (ped_call GB (hr.mono (by decide)) (pad_cons (ped_var 5) (pad_cons (ped_var 1) (pad_cons (ped_var 2) pad_nil))) (r_bod hy ht s e)) (ped_call GW hr (pad_cons (ped_var 5) pad_nil) (r_workK hy ht)) (.inr (by have := (hy.tasks t ht).work; omega)))
      (blkOk_by (N := N_demand) (sc := defScope s_demand) (by decide +kernel)))))) rfl)
theorem fd_penalties (D : Dfn K mg "penalties" s_penalties p_penalties) (T : Bt mg) (GJ : FD P w K mg base J 1 "jobs_in" p_jobs_in (R_iv fun y s e => .list ((jobsIn y s e).map encI))) (GB : FD P w K mg base J 1 "bodies" p_bodies R_bod) (GL : FD P w K mg base J 1 "longest" p_longest R_longest) :
    FD P w K mg base J 2 "penalties" p_penalties (R_iv fun y s e => .tuple ((penY y s e).map .int)) := by
  refine fd_ok D sc_penalties (fun ds d h => ?_) (fun f cdv A outer s H E hr ds d h => ?_)
  · obtain ⟨_, _, _, rfl, _⟩ := h
    rfl
  · obtain ⟨y, s, e, rfl, hy, rfl⟩ := h
    have lj : (jobsIn y s e).length ≤ 3 := Nat.le_trans (List.length_filter_le _ _) hy.jfew
    have lt : (tasksIn y s e).length ≤ 2 := Nat.le_trans (List.length_filter_le _ _) hy.tfew
    refine pbd_cons (psd_setLcN 3 4 y.tasks encI (fun t => decide (0 < bodiesI t s e)) encI rfl sc_penalties.nd (pid_tup (ped_ixT (ped_var 0) ped_int)) (sl (by have := hy.tfew; omega))
      (fun t ht => ⟨fun _ _ _ _ _ => ptsd_one (ptd_gt (ped_call GB hr (pad_cons (ped_var 4) (pad_cons (ped_var 1) (pad_cons (ped_var 2) pad_nil))) (r_bod hy ht s e)) ped_int), fun _ _ _ _ _ _ => ped_var 4⟩)
      (blkOk_by (N := N_penalties) (sc := defScope s_penalties) (by decide +kernel)) ?_)
    have hR : R_longest [.list ((jobsIn y s e).map encI ++ (tasksIn y s e).map encI), .tuple (y.buds.map encB)] (.tuple ((penY y s e).map .int)) := ⟨jobsIn y s e ++ tasksIn y s e, y.buds, _, rfl, .inl (by rw [List.map_append]), hy.buds.few, fun i hi => by
      rcases List.mem_append.mp hi with hi | hi
      · exact (hy.jobs i (List.mem_filter.mp hi).1).toWfI
      · exact (hy.tasks i (List.mem_filter.mp hi).1).toWfI, rfl⟩
    refine pbd_one (psd_ret (ped_call GL hr (pad_cons (PEF.ped (pef_cat (ped_call GJ hr (pad_cons (ped_var 0) (pad_cons (ped_var 1) (pad_cons (ped_var 2) pad_nil))) ⟨y, s, e, rfl, hy, rfl⟩) (ped_var 3) ?_)) (pad_cons (ped_ixT (ped_var 0) ped_int) pad_nil)) hR) rfl)
    rw [List.length_map]
    exact sl (by show _ + ((tasksIn y s e).map encI).length ≤ _; rw [List.length_map]; omega)
/-! ### the law's -/
theorem fd_law_in (D : Dfn K mg "_law_in" s_law_in p_law_in) (GB : FD P w K mg base J 1 "_law_bodies" p_law_bodies R_bod) : FD P w K mg base J 2 "_law_in" p_law_in (R_iv fun y s e => .list ((pairsIn y s e).map encP)) := by
  refine fd_ok D sc_law_in (fun ds d h => ?_) (fun f cdv A outer s H E hr ds d h => ?_)
  · obtain ⟨_, _, _, rfl, _⟩ := h
    rfl
  · obtain ⟨y, s, e, rfl, hy, rfl⟩ := h
    have lj : (jobsIn y s e).length ≤ 3 := Nat.le_trans (List.length_filter_le _ _) hy.jfew
    have lt : (tasksIn y s e).length ≤ 2 := Nat.le_trans (List.length_filter_le _ _) hy.tfew
    refine pbd_cons (psd_setLcN 3 4 y.jobs encI (fun j => decide (s ≤ j.a) && decide (j.b ≤ e)) (fun j => .tuple [encI j, .int 1]) rfl sc_law_in.nd (pid_tup (ped_ixT (ped_var 0) ped_int)) (sl (by have := hy.jfew; omega))
      (fun j hj => ⟨fun _ _ _ _ _ => ptsd_one (ptd_and (ptd_ge (ped_ixT (ped_var 4) ped_int) (ped_var 1)) (fun _ => pwd_and1 (ptd_le (ped_ixT (ped_var 4) ped_int) (ped_var 2)))), fun _ _ _ _ _ _ => ped_tup (pad_cons (ped_var 4) (pad_cons ped_int pad_nil))⟩)
      (blkOk_by (N := N_law_in) (sc := defScope s_law_in) (by decide +kernel)) ?_)
    refine pbd_one (psd_ret (PEF.ped (pef_cat (ped_var 3) (PEF.ped (pef_lcN 5 y.tasks encI (fun t => decide (0 < bodiesI t s e)) (fun t => .tuple [encI t, .int (bodiesI t s e)]) rfl sc_law_in.nd (pid_tup (ped_ixT (ped_var 0) ped_int)) (sl (by have := hy.tfew; omega))
      (fun t ht => ⟨fun _ _ _ _ _ => ptsd_one (ptd_gt (ped_call GB hr (pad_cons (ped_var 5) (pad_cons (ped_var 1) (pad_cons (ped_var 2) pad_nil))) (r_bod hy ht s e)) ped_int), fun _ _ _ _ _ _ => ped_tup (pad_cons (ped_var 5) (pad_cons (ped_call GB hr (pad_cons (ped_var 5) (pad_cons (ped_var 1) (pad_cons (ped_var 2) pad_nil))) (r_bod hy ht s e)) pad_nil))⟩)
      (blkOk_by (N := N_law_in) (sc := defScope s_law_in) (by decide +kernel)))) ?_)) ?_)
    · rw [List.length_map, List.length_map]
      exact sl (by show (jobsIn y s e).length + (tasksIn y s e).length ≤ _; omega)
    · show PyData.list ((jobsIn y s e).map (fun j => .tuple [encI j, .int 1]) ++ (tasksIn y s e).map (fun t => .tuple [encI t, .int (bodiesI t s e)])) = .list ((pairsIn y s e).map encP)
      unfold pairsIn
      rw [List.map_append, List.map_map, List.map_map]
      rfl
theorem fd_law_demand (D : Dfn K mg "_law_demand" s_law_demand p_law_demand) (T : Bt mg) (GI : FD P w K mg base J 2 "_law_in" p_law_in (R_iv fun y s e => .list ((pairsIn y s e).map encP))) (GW : FD P w K mg base J 2 "_law_work" p_law_work R_work) :
    FD P w K mg base J 3 "_law_demand" p_law_demand (R_iv fun y s e => .int (demandY y s e)) := by
  refine fd_ok D sc_law_demand (fun ds d h => ?_) (fun f cdv A outer s H E hr ds d h => ?_)
  · obtain ⟨_, _, _, rfl, _⟩ := h
    rfl
  · obtain ⟨y, s, e, rfl, hy, rfl⟩ := h
    refine pbd_one (psd_ret (ped_sumL rfl T.sum (PEF.pld (pef_lcAI 3 (pairsIn y s e) encP (fun q => q.2 * workI q.1) rfl sc_law_demand.nd (pid_list (ped_call GI hr (pad_cons (ped_var 0) (pad_cons (ped_var 1) (pad_cons (ped_var 2) pad_nil))) ⟨y, s, e, rfl, hy, rfl⟩)) (sl (by have := pairsIn_len hy s e; omega))
      (fun q hq _ _ _ _ _ => ped_mul (ped_ixT (ped_var 3) ped_int) (ped_call GW hr (pad_cons (ped_ixT (ped_var 3) ped_int) pad_nil) ⟨q.1, rfl, (pairsIn_mem hy hq).2.1, by have := pairsIn_mem hy hq; omega, by have := pairsIn_mem hy hq; omega, rfl⟩) (.inr (by have := pairsIn_mem hy hq; omega)))
      (blkOk_by (N := N_law_demand) (sc := defScope s_law_demand) (by decide +kernel))))) ?_)
    show PyData.int _ = .int _
    rw [pairsIn_sum hy]
end
end Fd
namespace Fd
open PySem PySem.Spec PyProof.Rows L2
local macro_rules | `(tactic| trivial) => `(tactic| exact le_nil)
local macro_rules | `(tactic| trivial) => `(tactic| (refine le_eq ?_; trivial))
local macro_rules | `(tactic| trivial) => `(tactic| (refine le_un ?_; trivial))
section
variable {P : Program} {w : World} {K : PySem.W.Frag} {mg : Str → Option Value} {base : Heap} {J : JJ}
/-! ### paths -/
def R_path (f : List Bud → Int → List Int) (ds : List PyData) (d : PyData) : Prop := ∃ (bs : List Bud) (k : Int), ds = [.tuple (bs.map encB), .int k] ∧ WfB bs ∧ 0 ≤ k ∧ k < bs.length ∧ d = .list ((f bs k).map .int)
theorem fd_law_path (D : Dfn K mg "_law_path" s_law_path p_law_path) (T : Bt mg) : FD P w K mg base J 1 "_law_path" p_law_path (R_path fun bs k => pathF bs bs.length k) := by
  refine fd_ok D sc_law_path (fun ds d h => ?_) (fun f cdv A outer s H E hr ds d h => ?_)
  · obtain ⟨_, _, rfl, _⟩ := h
    rfl
  · obtain ⟨bs, k, rfl, W, h0, h1, rfl⟩ := h
    have hf := W.few
    refine pbd_cons (psd_setO 2 (pef_lst pad_nil) (fun p => ?_) sc_law_path.nd)
    refine pbd_cons (psd_pre (List.range bs.length) (fun i => .int ((i : Nat) : Int)) (fun pre => [.kn (.tuple (bs.map encB)), .kn (.int (pre.foldl (pathS bs) ([], k)).2), .ow p ((pre.foldl (pathS bs) ([], k)).1.map .int), .un]) (fun pre => (pre.foldl (pathS bs) ([], k)).2 < bs.length) PassesOwn.never rfl (pid_rgN T.range (ped_lenM T.len (ped_var 0)) (by omega)) ?_ h1 (fun pre x post he hp => ?_) (fun hp => ?_))
    · exact le_eq (le_eq (le_ow rfl (by trivial)))
    · have hl : pre.length < 3 := by
        have := congrArg List.length he
        rw [List.length_range, List.length_append, List.length_cons] at this
        omega
      have hfo : (pre ++ [x]).foldl (pathS bs) ([], k) = pathS bs (pre.foldl (pathS bs) ([], k)) x := by rw [List.foldl_append]; rfl
      have hle : (pre.foldl (pathS bs) ([], k)).1.length ≤ 3 := by
        rw [pathS_fold, List.nil_append]
        exact Nat.le_trans (pathF_len _ _) (by omega)
      rw [hfo]
      generalize pre.foldl (pathS bs) ([], k) = z at hp hle ⊢
      obtain ⟨acc, k'⟩ := z
      have hle : acc.length ≤ 3 := hle
      refine ⟨_, _, pgd_name 3 sc_law_path.nd, pbd_one (psd_if (ptd_ge (ped_var 1) ped_int) (fun q => ?_) (fun q => ?_))⟩
      · have q' : 0 ≤ k' := of_decide_eq_true q
        have e : pathS bs (acc, k') x = (acc ++ [k'], gp bs k') := if_pos q'
        have b := gp_bd W q' hp
        rw [e]
        refine pbd_cons (psd_app (ds := acc.map .int) 2 (ped_var 1) (sl (by rw [List.length_map]; omega)) ?_)
        refine pbd_one (psd_set 1 (ped_ixT (ped_ixT (ped_var 0) (ped_var 1) (atI_gb q' hp)) ped_int) ?_ sc_law_path.nd)
        refine And.intro (le_eq (le_kn rfl (le_ow ?_ (by trivial)))) ?_
        · rw [List.map_append]; rfl
        · show gp bs k' < bs.length
          omega
      · have e : pathS bs (acc, k') x = (acc, k') := if_neg (by have := of_decide_eq_false q; omega)
        rw [e]
        exact pbd_nil (And.intro (by trivial) hp)
    · refine pbd_one (psd_retO 2 ?_)
      show PyData.list _ = .list _
      rw [pathS_fold, List.nil_append, List.length_range]
theorem fd_above (D : Dfn K mg "above" s_above p_above) : FD P w K mg base J 1 "above" p_above (R_path fun bs k => pathF bs bs.length (gp bs k)) := by
  refine fd_ok D sc_above (fun ds d h => ?_) (fun f cdv A outer s H E hr ds d h => ?_)
  · obtain ⟨_, _, rfl, _⟩ := h
    rfl
  · obtain ⟨bs, k, rfl, W, h0, h1, rfl⟩ := h
    have hf := W.few
    have b0 := gp_bd W h0 h1
    refine pbd_cons (psd_setO 2 (pef_lst pad_nil) (fun p => ?_) sc_above.nd)
    refine pbd_cons (psd_set 1 (ped_ixT (ped_ixT (ped_var 0) (ped_var 1) (atI_gb h0 h1)) ped_int) ?_ sc_above.nd)
    refine pbd_cons (psd_while PassesOwn.never (fun z : List Int × Int => [.kn (.tuple (bs.map encB)), .kn (.int z.2), .ow p (z.1.map .int)]) (fun z => z.2 < bs.length ∧ z.1 ++ pathF bs bs.length z.2 = pathF bs bs.length (gp bs k)) (fun z => (z.2 + 1).toNat) ([], gp bs k) ?_ ⟨by show gp bs k < _; omega, rfl⟩ (fun z hz => ?_))
    · exact le_eq (le_kn rfl (le_ow rfl (by trivial)))
    · obtain ⟨acc, k'⟩ := z
      obtain ⟨z1, z2⟩ := hz
      have z2 : acc ++ pathF bs bs.length k' = pathF bs bs.length (gp bs k) := z2
      refine ⟨_, ptd_ge (ped_var 1) ped_int, fun q => ?_, fun q => ?_⟩
      · have q' : 0 ≤ k' := of_decide_eq_true q
        have b := gp_bd W q' z1
        rw [pathF_step W q' z1] at z2
        refine pbd_cons (psd_app 2 (ped_var 1) (sl ?_) ?_)
        · have := congrArg List.length z2
          rw [List.length_append] at this
          have := pathF_len (bs := bs) bs.length (gp bs k)
          show (acc.map PyData.int).length < _
          rw [List.length_map]
          omega
        refine pbd_one (psd_set 1 (ped_ixT (ped_ixT (ped_var 0) (ped_var 1) (atI_gb q' z1)) ped_int) ?_ sc_above.nd)
        refine ⟨(acc ++ [k'], gp bs k'), ⟨by show gp bs k' < _; omega, ?_⟩, ?_, le_eq (le_kn rfl (le_ow ?_ (by trivial)))⟩
        · show acc ++ [k'] ++ pathF bs bs.length (gp bs k') = _
          rw [List.append_assoc]
          exact z2
        · show (gp bs k' + 1).toNat < (k' + 1).toNat
          omega
        · rw [List.map_append]; rfl
      · refine pbd_one (psd_retO 2 ?_)
        show PyData.list _ = .list _
        show PyData.list (acc.map .int) = .list ((pathF bs bs.length (gp bs k)).map .int)
        rw [← z2, pathF_neg (by have := of_decide_eq_false q; show k' < 0; omega), List.append_nil]
end
end Fd
namespace Fd
open PySem PySem.Spec PyProof.Rows L2
local macro_rules | `(tactic| trivial) => `(tactic| exact le_nil)
local macro_rules | `(tactic| trivial) => `(tactic| (refine le_eq ?_; trivial))
local macro_rules | `(tactic| trivial) => `(tactic| (refine le_un ?_; trivial))
section
variable {P : Program} {w : World} {K : PySem.W.Frag} {mg : Str → Option Value} {base : Heap} {J : JJ}
def R_bf (f : List Bud → List Int → PyData) (ds : List PyData) (d : PyData) : Prop := ∃ (bs : List Bud) (fs : List Int), ds = [.tuple (bs.map encB), .tuple (fs.map .int)] ∧ WfB bs ∧ fs.length = bs.length ∧ d = f bs fs
/-! ### uses -/
theorem fd_used (D : Dfn K mg "used" s_used p_used) (T : Bt mg) (G : FD P w K mg base J 1 "above" p_above (R_path fun bs k => pathF bs bs.length (gp bs k))) : FD P w K mg base J 2 "used" p_used (R_bf fun bs fs => .tuple ((usedY bs fs).map .int)) := by
  refine fd_ok D sc_used (fun ds d h => ?_) (fun f cdv A outer s H E hr ds d h => ?_)
  · obtain ⟨_, _, rfl, _⟩ := h
    rfl
  · obtain ⟨bs, fs, rfl, W, hl, rfl⟩ := h
    have hf := W.few
    refine pbd_cons (psd_setO 2 (pef_rep (pef_lst (pad_cons ped_int pad_nil)) (ped_lenM T.len (ped_var 0)) (by omega) (sl (by omega))) (fun p => ?_) sc_used.nd)
    refine pbd_cons (psd_fold (List.range bs.length) (fun i => .tuple [.int ((i : Nat) : Int), .int (gi fs (i : Nat))]) (useS bs fs) (fun us => [.kn (.tuple (bs.map encB)), .kn (.tuple (fs.map .int)), .ow p (us.map .int), .un, .un, .un]) (fun us => us.length = bs.length) (List.replicate bs.length 0) PassesOwn.never rfl
      (by
        have z : enumD (fs.map .int) = _ := enumD_ints fs
        rw [hl] at z
        rw [← z]
        exact pid_enum (t := true) T.enumerate (ped_var 1)) ?_ ?_ (fun us i hm hp => ?_) (fun hp => ?_))
    · refine le_eq (le_eq (le_ow ?_ (by trivial)))
      exact rep_int _ _
    · exact List.length_replicate
    · have hi := List.mem_range.mp hm
      refine ⟨_, _, pgd_tup rfl (pgsd_cons (pgd_name 3 sc_used.nd) (pgsd_cons (pgd_name 4 sc_used.nd) pgsd_nil)), pbd_one (psd_fold (pathF bs bs.length (i : Nat)) .int (addA (gi fs (i : Nat))) (fun qs => [.kn (.tuple (bs.map encB)), .kn (.tuple (fs.map .int)), .ow p (qs.map .int), .kn (.int ((i : Nat) : Int)), .kn (.int (gi fs (i : Nat))), .un]) (fun qs => qs.length = bs.length) us PassesOwn.never rfl
        (by
          have e : (pathF bs bs.length (i : Nat)).map PyData.int = [.int ((i : Nat) : Int)] ++ (pathF bs bs.length (gp bs (i : Nat))).map .int := by
            rw [pathF_step W (by omega) (by omega)]
            rfl
          rw [e]
          exact pid_list (PEF.ped (pef_cat (PEF.ped (pef_lst (pad_cons (ped_var 3) pad_nil))) (ped_call G hr (pad_cons (ped_var 0) (pad_cons (ped_var 3) pad_nil)) ⟨bs, (i : Nat), rfl, W, by omega, by omega, rfl⟩) (sl (by
            have := pathF_len (bs := bs) bs.length (gp bs (i : Nat))
            show 1 + ((pathF bs bs.length (gp bs (i : Nat))).map PyData.int).length ≤ _
            rw [List.length_map]
            omega))))) (by trivial) hp (fun qs x hx hq => ?_) (fun hq => ?_))⟩
      · have bx := pathF_mem W _ _ x (by omega) hx
        refine ⟨_, _, pgd_name 5 sc_used.nd, pbd_one (psd_setItem 2 (ped_add (ped_ixO 2 (ped_var 5) (atI_gi (ns := qs) bx.1 (by omega))) (ped_var 4)) (ped_var 5) (j := x.toNat) ?_ (And.intro (le_eq (le_eq (le_ow ?_ (by trivial)))) ?_))⟩
        · rw [List.length_map]
          exact ixN_int bx.1 (by omega)
        · unfold addA
          rw [List.map_set]
        · show (addA _ qs x).length = bs.length
          unfold addA
          rw [List.length_set]
          exact hq
      · exact And.intro (by trivial) hq
    · refine pbd_one (psd_ret (ped_tupL T.tuple (pld_own 2)) ?_)
      show PyData.tuple _ = .tuple _
      rw [useF_eq W]
def useK (bs : List Bud) (fs : List Int) (k : Nat) : Int := (((List.range bs.length).filter fun j => (pathF bs bs.length (j : Nat)).contains ((k : Nat) : Int)).map fun j => gi fs (j : Nat)).sum
theorem fd_law_used (D : Dfn K mg "_law_used" s_law_used p_law_used) (T : Bt mg) (G : FD P w K mg base J 1 "_law_path" p_law_path (R_path fun bs k => pathF bs bs.length k)) : FD P w K mg base J 2 "_law_used" p_law_used (R_bf fun bs fs => .tuple ((usedY bs fs).map .int)) := by
  refine fd_ok D sc_law_used (fun ds d h => ?_) (fun f cdv A outer s H E hr ds d h => ?_)
  · obtain ⟨_, _, rfl, _⟩ := h
    rfl
  · obtain ⟨bs, fs, rfl, W, hl, rfl⟩ := h
    have hf := W.few
    refine pbd_cons (psd_setO 2 (pef_lst pad_nil) (fun p => ?_) sc_law_used.nd)
    refine pbd_cons (psd_pre (List.range bs.length) (fun i => .int ((i : Nat) : Int)) (fun pre => [.kn (.tuple (bs.map encB)), .kn (.tuple (fs.map .int)), .ow p ((pre.map (useK bs fs)).map .int), .un, .un]) (fun _ => True) PassesOwn.never rfl (pid_rgN T.range (ped_lenM T.len (ped_var 0)) (by omega)) ?_ True.intro (fun pre x post he _ => ?_) (fun _ => ?_))
    · exact le_eq (le_eq (le_ow rfl (by trivial)))
    · have hpl : pre.length < 3 := by
        have := congrArg List.length he
        rw [List.length_range, List.length_append, List.length_cons] at this
        omega
      refine ⟨_, _, pgd_name 3 sc_law_used.nd, pbd_one (psd_app (ds := (pre.map (useK bs fs)).map .int) 2 (ped_sumL rfl T.sum (PEF.pld (pef_lcNI 4 (List.range bs.length) (fun j => .int ((j : Nat) : Int)) (fun j => (pathF bs bs.length (j : Nat)).contains ((x : Nat) : Int)) (fun j => gi fs (j : Nat)) rfl sc_law_used.nd (pid_rgN T.range (ped_lenM T.len (ped_var 0)) (by omega)) (sl (by rw [List.length_range]; omega))
        (fun j hj => ⟨fun _ _ _ _ _ => ptsd_one (ptd_inL (by rfl) (ped_var 3) (ped_call G hr (pad_cons (ped_var 0) (pad_cons (ped_var 4) pad_nil)) ⟨bs, (j : Nat), rfl, W, by omega, by have := List.mem_range.mp hj; omega, rfl⟩)), fun _ _ _ _ _ _ => ped_ixT (ped_var 1) (ped_var 4) (atI_gi (by omega) (by have := List.mem_range.mp hj; omega))⟩)
        (blkOk_by (N := N_law_used) (sc := defScope s_law_used) (by decide +kernel))))) (sl (by rw [List.length_map, List.length_map]; omega)) (And.intro (le_eq (le_eq (le_ow ?_ (by trivial)))) True.intro))⟩
      rw [List.map_append, List.map_append]
      rfl
    · exact pbd_one (psd_ret (ped_tupL T.tuple (pld_own 2)) rfl)
/-! ### within -/
theorem fitsY_false {bs : List Bud} {fs : List Int} {i : Nat} (hi : i < bs.length) (h : gc bs (i : Nat) < gi (usedY bs fs) (i : Nat)) : fitsY bs fs = false := by
  unfold fitsY
  exact decide_eq_false fun z => by have := z i hi; omega
theorem fd_is_within (D : Dfn K mg "is_within" s_is_within p_is_within) (T : Bt mg) (G : FD P w K mg base J 2 "used" p_used (R_bf fun bs fs => .tuple ((usedY bs fs).map .int))) : FD P w K mg base J 3 "is_within" p_is_within (R_bf fun bs fs => .bool (fitsY bs fs)) := by
  refine fd_ok D sc_is_within (fun ds d h => ?_) (fun f cdv A outer s H E hr ds d h => ?_)
  · obtain ⟨_, _, rfl, _⟩ := h
    rfl
  · obtain ⟨bs, fs, rfl, W, hl, rfl⟩ := h
    refine pbd_cons (psd_pre (List.range bs.length) (fun i => .tuple [encB (bs.getD i bud0), .int (gi (usedY bs fs) (i : Nat))]) (fun pre => [.kn (.tuple (bs.map encB)), .kn (.tuple (fs.map .int)), .un, .un]) (fun pre => ∀ i, i ∈ pre → gi (usedY bs fs) (i : Nat) ≤ gc bs (i : Nat)) PassesOwn.never rfl
      (by
        rw [← zip2D_map (f := encB) bud0 (usedY_len bs fs)]
        exact pid_zip2 (t1 := true) (t2 := true) T.zip (pad_cons (ped_var 0) (pad_cons (ped_call G hr (pad_cons (ped_var 0) (pad_cons (ped_var 1) pad_nil)) ⟨bs, fs, rfl, W, hl, rfl⟩) pad_nil))) ?_ (fun i hi => absurd hi List.not_mem_nil) (fun pre x post he hp => ?_) (fun hp => ?_))
    · exact le_eq (le_eq (by trivial))
    · have hx : x < bs.length := List.mem_range.mp (by rw [he]; exact List.mem_append_right _ List.mem_cons_self)
      refine ⟨_, _, pgd_tup rfl (pgsd_cons (pgd_name 2 sc_is_within.nd) (pgsd_cons (pgd_name 3 sc_is_within.nd) pgsd_nil)), pbd_one (psd_if (ptd_gt (ped_var 3) (ped_ixT (ped_var 2) ped_int)) (fun q => ?_) (fun q => ?_))⟩
      · refine pbd_one (psd_ret ped_bool ?_)
        show PyData.bool false = .bool (fitsY bs fs)
        rw [fitsY_false hx (of_decide_eq_true q)]
      · refine pbd_nil (And.intro (le_eq (le_eq (by trivial))) fun i hi => ?_)
        rcases List.mem_append.mp hi with hi | hi
        · exact hp i hi
        · have q' := of_decide_eq_false q
          rw [List.mem_singleton.mp hi]
          exact Int.not_lt.mp q'
    · refine pbd_one (psd_ret ped_bool ?_)
      show PyData.bool true = .bool (fitsY bs fs)
      have e : fitsY bs fs = true := decide_eq_true fun k hk => hp k (List.mem_range.mpr hk)
      rw [e]
theorem fits_filter (bs : List Bud) (fs : List Int) : decide (((((List.range bs.length).filter fun k => decide (gc bs ((k : Nat) : Int) < gi (usedY bs fs) (k : Nat))).map fun k => PyData.int ((k : Nat) : Int)).length : Nat) = (0 : Int)) = fitsY bs fs := by
  rw [List.length_map]
  cases q : fitsY bs fs with
  | true =>
    unfold fitsY at q
    have q' := of_decide_eq_true q
    refine decide_eq_true ?_
    rw [List.filter_eq_nil_iff.mpr fun k hk => ?_]
    · rfl
    · have := q' k (List.mem_range.mp hk)
      intro z
      have := of_decide_eq_true z
      omega
  | false =>
    unfold fitsY at q
    have q' := of_decide_eq_false q
    refine decide_eq_false fun z => q' fun k hk => ?_
    have z2 : ((List.range bs.length).filter fun k => decide (gc bs ((k : Nat) : Int) < gi (usedY bs fs) (k : Nat))) = [] := List.length_eq_zero_iff.mp (by omega)
    have := List.filter_eq_nil_iff.mp z2 k (List.mem_range.mpr hk)
    simp at this
    exact this
theorem fd_law_fits (D : Dfn K mg "_law_fits" s_law_fits p_law_fits) (T : Bt mg) (G : FD P w K mg base J 2 "_law_used" p_law_used (R_bf fun bs fs => .tuple ((usedY bs fs).map .int))) : FD P w K mg base J 3 "_law_fits" p_law_fits (R_bf fun bs fs => .bool (fitsY bs fs)) := by
  refine fd_ok D sc_law_fits (fun ds d h => ?_) (fun f cdv A outer s H E hr ds d h => ?_)
  · obtain ⟨_, _, rfl, _⟩ := h
    rfl
  · obtain ⟨bs, fs, rfl, W, hl, rfl⟩ := h
    have hf := W.few
    refine pbd_cons (psd_set 2 (ped_call G hr (pad_cons (ped_var 0) (pad_cons (ped_var 1) pad_nil)) ⟨bs, fs, rfl, W, hl, rfl⟩) ?_ sc_law_fits.nd)
    refine pbd_one (psd_ret (ped_eq (ped_len T.len (PEF.pld (pef_lcN 3 (List.range bs.length) (fun k => .int ((k : Nat) : Int)) (fun k => decide (gc bs ((k : Nat) : Int) < gi (usedY bs fs) (k : Nat))) (fun k => .int ((k : Nat) : Int)) rfl sc_law_fits.nd (pid_rgN T.range (ped_lenM T.len (ped_var 0)) (by omega)) (sl (by rw [List.length_range]; omega))
      (fun k hk => ⟨fun _ _ _ _ _ => ptsd_one (ptd_gt (ped_ixT (ped_var 2) (ped_var 3) (atI_gi (by omega) (by have := List.mem_range.mp hk; rw [usedY_len]; omega))) (ped_ixT (ped_ixT (ped_var 0) (ped_var 3) (atI_gb (by omega) (by have := List.mem_range.mp hk; omega))) ped_int)), fun _ _ _ _ _ _ => ped_var 3⟩)
      (blkOk_by (N := N_law_fits) (sc := defScope s_law_fits) (by decide +kernel))))) ped_int) ?_)
    show PyData.bool _ = .bool (fitsY bs fs)
    rw [← fits_filter]
end
end Fd
namespace Fd
open PySem PySem.Spec PyProof.Rows L2
local macro_rules | `(tactic| trivial) => `(tactic| exact le_nil)
local macro_rules | `(tactic| trivial) => `(tactic| (refine le_eq ?_; trivial))
local macro_rules | `(tactic| trivial) => `(tactic| (refine le_un ?_; trivial))
section
variable {J : JJ} {X : Cx} {δ δ1 δ2 : DS} {Φ : OP} {pos : Pos} {e : Expr}
/-- own[k] = e, of ints -/
theorem psd_setItemI {x : Str} {px px' : Pos} {ix : Expr} {p : Addr} {ns : List Int} {v z : Int} (i : Nat) (h : PED J X e δ (.int v) δ1) (hx : PED J X ix δ1 (.int z) δ2) (hz : 0 ≤ z ∧ z < ns.length) (k : Φ (.nx (δ2.set i (.ow p ((ns.set z.toNat v).map .int)))))
    (h1 : ∃ ds', δ1[i]? = some (.ow p ds') := by exact ⟨_, rfl⟩) (h2 : δ2[i]? = some (.ow p (ns.map .int)) := by rfl) (hN : X.N[i]? = some x := by rfl) (hv : Vis X.env.scope x := by first | exact Or.inl rfl | exact Or.inr (Or.inl rfl) | exact Or.inr (Or.inr rfl))
    (hd : (x == ("__debug__" : Str)) = false := by decide) (hcd : (x == ("__classdict__" : Str)) = false := by decide)
    (ha : ∀ v, assign (.Subscript (.Name x px) ix px') X.env v = (do
      let ov ← holding [v] (eval (.Name x px) X.env)
      let iv ← holding [v, ov] (eval ix X.env)
      standAt px'
      holding [v, ov, iv] (setItem ov iv v)
      release [v, ov, iv] []) := by intro _; rfl)
    (hs : swapsWithSole [.Subscript (.Name x px) ix px'] e pos.line X.env = pure false := by rfl) (hw : swappedStores [.Subscript (.Name x px) ix px'] e X.env = pure none := by rfl)
    (hm : (assignEach [.Subscript (.Name x px) ix px'] X.env).map (·.2) = [assign (.Subscript (.Name x px) ix px') X.env] := by rfl) : PSD J X (.Assign [.Subscript (.Name x px) ix px'] e pos) δ Φ :=
  psd_setItem (h1 := h1) (h2 := h2) (hN := hN) (hv := hv) (hd := hd) (hcd := hcd) (ha := ha) (hs := hs) (hw := hw) (hm := hm) i h hx (by rw [List.length_map]; exact ixN_int hz.1 hz.2) (by rw [List.map_set] at k; exact k)
/-- own[j], of ints -/
theorem ped_ixOI {b : Expr} {x : Str} {px : Pos} {p : Addr} {ns : List Int} {j : Int} (i : Nat) (hb : PED J X b δ (.int j) δ1) (hz : 0 ≤ j ∧ j < ns.length) (hδ0 : δ[i]? = some (.ow p (ns.map .int)) := by rfl) (hδ : δ1[i]? = some (.ow p (ns.map .int)) := by rfl) (hs : PlainIx b := by exact fun _ _ => rfl)
    (hN : X.N[i]? = some x := by rfl) (hv : Vis X.env.scope x := by first | exact Or.inl rfl | exact Or.inr (Or.inl rfl) | exact Or.inr (Or.inr rfl)) (hd : (x == ("__debug__" : Str)) = false := by decide) (hcd : (x == ("__classdict__" : Str)) = false := by decide) : PED J X (.Subscript (.Name x px) b pos) δ (.int (gi ns j)) δ1 :=
  ped_ixO (hδ0 := hδ0) (hδ := hδ) (hs := hs) (hN := hN) (hv := hv) (hd := hd) (hcd := hcd) i hb (atI_gi hz.1 hz.2)
end
theorem contains_range {n : Nat} {k : Int} (h0 : 0 ≤ k) (h : k < n) : ((List.range n).map fun i : Nat => (i : Int)).contains k = true := by
  rw [List.contains_iff_mem, List.mem_map]
  exact ⟨k.toNat, List.mem_range.mpr (by omega), by omega⟩
section
variable {P : Program} {w : World} {K : PySem.W.Frag} {mg : Str → Option Value} {base : Heap} {J : JJ}
/-! ### the most faults -/
def R_src (f : List Bud → PyData) (ds : List PyData) (d : PyData) : Prop := ∃ (bs : List Bud), ds = [.tuple (bs.map encB), .tuple (((List.range bs.length).map fun i : Nat => (i : Int)).map .int)] ∧ WfB bs ∧ d = f bs
theorem fd_parts_most (D : Dfn K mg "parts_most" s_parts_most p_parts_most) (T : Bt mg) : FD P w K mg base J 1 "parts_most" p_parts_most (R_src fun bs => .list ((bs.map (·.cap)).map .int)) := by
  refine fd_ok D sc_parts_most (fun ds d h => ?_) (fun f cdv A outer s H E hr ds d h => ?_)
  · obtain ⟨_, rfl, _⟩ := h
    rfl
  · obtain ⟨bs, rfl, W, rfl⟩ := h
    have hf := W.few
    have hp := W.pos
    refine pbd_cons (psd_setO 2 (pef_rep (pef_lst (pad_cons ped_int pad_nil)) (ped_lenM T.len (ped_var 0)) (by omega) (sl (by omega))) (fun p => ?_) sc_parts_most.nd)
    refine pbd_cons (psd_fold (List.range bs.length) (fun i => .int (((bs.length : Nat) : Int) - 1 + (i : Nat) * -1)) (pmS bs) (fun ms => [.kn (.tuple (bs.map encB)), .kn (.tuple (((List.range bs.length).map fun i : Nat => (i : Int)).map .int)), .ow p (ms.map .int), .un, .un]) (fun ms => ms.length = bs.length) (List.replicate bs.length 0) PassesOwn.never rfl
      (pid_range3 T.range (ped_sub (ped_lenM T.len (ped_var 0)) ped_int) (ped_neg ped_int) (ped_neg ped_int) (by
        have z := RgC.neg (i := ((bs.length : Nat) : Int) - 1) (j := -1) (by omega) (by omega) (by omega) (by omega)
        rw [show (((bs.length : Nat) : Int) - 1 - -1).toNat = bs.length by omega] at z
        exact z)) ?_ ?_ (fun ms i hm hq => ?_) (fun hq => ?_))
    · refine le_eq (le_eq (le_ow ?_ (by trivial)))
      exact rep_int _ _
    · exact List.length_replicate
    · have hi := List.mem_range.mp hm
      have hlen : (pmS bs ms i).length = bs.length := (pmS_len bs ms i).trans hq
      unfold pmS at hlen ⊢
      dsimp only at hlen ⊢
      generalize hj : ((bs.length : Nat) : Int) - 1 + (i : Nat) * -1 = k at hlen ⊢
      have bk : 0 ≤ k ∧ k < bs.length := by omega
      have bp := gp_bd W bk.1 bk.2
      have hb := atI_gb bk.1 bk.2
      refine ⟨_, _, pgd_name 3 sc_parts_most.nd, pbd_cons (psd_setItemI (ns := ms) 2 (ped_min2 rfl T.min (ped_ixT (ped_ixT (ped_var 0) (ped_var 3) hb) ped_int) (ped_ixOI (ns := ms) 2 (ped_var 3) (by omega))) (ped_var 3) (by omega) ?_)⟩
      refine pbd_cons (psd_if (ptd_inT (by rfl) (ped_var 3) (ped_var 1)) (fun _ => ?_) (fun q => absurd (q.symm.trans (contains_range bk.1 bk.2)) (by decide)))
      refine pbd_one (psd_setItemI (ns := ms.set k.toNat (min (gc bs k) (gi ms k))) 2 (ped_ixT (ped_ixT (ped_var 0) (ped_var 3) hb) ped_int) (ped_var 3) (by rw [List.length_set]; omega) ?_)
      refine pbd_cons (psd_set 4 (ped_ixT (ped_ixT (ped_var 0) (ped_var 3) hb) ped_int) ?_ sc_parts_most.nd)
      have e : (gb bs k).par = gp bs k := rfl
      refine pbd_one (psd_if (ptd_ge (ped_var 4) ped_int) (fun q => ?_) (fun q => ?_))
      · have q' : 0 ≤ gp bs k := of_decide_eq_true q
        rw [if_pos q'] at hlen ⊢
        refine pbd_one (psd_setItemI (ns := (ms.set k.toNat (min (gc bs k) (gi ms k))).set k.toNat (gc bs k)) 2 (ped_add (ped_ixOI (ns := (ms.set k.toNat (min (gc bs k) (gi ms k))).set k.toNat (gc bs k)) 2 (ped_var 4) ?_) (ped_ixOI (ns := (ms.set k.toNat (min (gc bs k) (gi ms k))).set k.toNat (gc bs k)) 2 (ped_var 3) ?_)) (ped_var 4) ?_ (And.intro (le_eq (le_eq (le_ow rfl (by trivial)))) hlen))
        · rw [List.length_set, List.length_set]; omega
        · rw [List.length_set, List.length_set]; omega
        · rw [List.length_set, List.length_set]; omega
      · have q' : ¬ 0 ≤ gp bs k := of_decide_eq_false q
        rw [if_neg q'] at hlen ⊢
        exact pbd_nil (And.intro (le_eq (le_eq (le_ow rfl (by trivial)))) hlen)
    · refine pbd_one (psd_retO 2 ?_)
      show PyData.list _ = .list _
      rw [pmF_eq W]
theorem fd_most_faults (D : Dfn K mg "most_faults" s_most_faults p_most_faults) (T : Bt mg) (G : FD P w K mg base J 1 "parts_most" p_parts_most (R_src fun bs => .list ((bs.map (·.cap)).map .int))) : FD P w K mg base J 2 "most_faults" p_most_faults (R_src fun bs => .int (mostY bs)) := by
  refine fd_ok D sc_most_faults (fun ds d h => ?_) (fun f cdv A outer s H E hr ds d h => ?_)
  · obtain ⟨_, rfl, _⟩ := h
    rfl
  · obtain ⟨bs, rfl, W, rfl⟩ := h
    have hf := W.few
    refine pbd_cons (psd_set 2 (ped_call G hr (pad_cons (ped_var 0) (pad_cons (ped_var 1) pad_nil)) ⟨bs, rfl, W, rfl⟩) ?_ sc_most_faults.nd)
    refine pbd_one (psd_ret (ped_sumL (ns := ((List.range bs.length).filter fun k => decide (gp bs (k : Nat) < 0)).map fun k => gi (bs.map (·.cap)) (k : Nat)) rfl T.sum (PEF.pld ((pef_lcQ (own := [("budget", 3), ("count", 4)]) (js := [3, 4]) (List.range bs.length) (fun i => .tuple [encB (bs.getD i bud0), .int (gi (bs.map (·.cap)) (i : Nat))]) (fun k => decide (gp bs (k : Nat) < 0)) (fun k => .int (gi (bs.map (·.cap)) (k : Nat)))
      (fun i => [.kn (.tuple (bs.map encB)), .kn (.tuple (((List.range bs.length).map fun i : Nat => (i : Int)).map .int)), .kn (.list ((bs.map (·.cap)).map .int)), .kn (encB (bs.getD i bud0)), .kn (.int (gi (bs.map (·.cap)) (i : Nat)))])
      (δu := [.kn (.tuple (bs.map encB)), .kn (.tuple (((List.range bs.length).map fun i : Nat => (i : Int)).map .int)), .kn (.list ((bs.map (·.cap)).map .int)), .un, .un]) rfl sc_most_faults.nd
      (by
        rw [← zip2D_map (f := encB) bud0 (List.length_map _)]
        exact pid_zip2 (t1 := true) (t2 := false) T.zip (pad_cons (ped_var 0) (pad_cons (ped_var 2) pad_nil))) (by trivial) (fun v x hv hx => ?_) (fun j hj => hj) (sl (by rw [List.length_range]; omega)) (fun i _ => le_eq (le_eq (le_eq (by trivial)))) (fun i hi => ⟨fun _ _ _ _ _ => pgd_tup rfl (pgsd_cons (pgd_name 3 sc_most_faults.nd) (pgsd_cons (pgd_name 4 sc_most_faults.nd) pgsd_nil)), fun _ _ _ _ _ => ptsd_one (ptd_lt (ped_ixT (ped_var 3) ped_int) ped_int), fun _ _ _ _ _ _ => ped_var 4⟩)
      (blkOk_by (N := N_most_faults) (sc := defScope s_most_faults) (by decide +kernel))).eq (by rw [List.map_map]; rfl)))) ?_)
    · have hv' : v = 3 ∨ v = 4 := by simpa using hv
      rcases hv' with e | e <;> subst e <;> exact (Option.some.inj hx).symm
    · show PyData.int _ = .int (mostY bs)
      unfold mostY
      congr 2
      exact List.map_congr_left fun k hk => gi_cap (by omega) (by have := List.mem_range.mp (List.mem_filter.mp hk).1; omega)
end
end Fd
namespace Fd
open PySem PySem.Spec PyProof.Rows L2
local macro_rules | `(tactic| trivial) => `(tactic| exact le_nil)
local macro_rules | `(tactic| trivial) => `(tactic| (refine le_eq ?_; trivial))
local macro_rules | `(tactic| trivial) => `(tactic| (refine le_un ?_; trivial))
theorem pens_map (n : Nat) (qs : List (Itm × Int)) : pens n (qs.map (·.1)) = qs.foldl (fun ps q => penI ps q.1) (List.replicate n 0) := by
  unfold pens
  rw [List.foldl_map]
/-! ### the rate -/
def rateS (z : Int × Int) (t : Itm) : Int × Int := (z.1 * t.b + workI t * z.2, z.2 * t.b)
def rateZ (y : Sys) : Int × Int := y.tasks.foldl rateS (0, 1)
def rateY (y : Sys) : Int × Int := ((rateZ y).1 / (Int.gcd (rateZ y).1 (rateZ y).2 : Nat), (rateZ y).2 / (Int.gcd (rateZ y).1 (rateZ y).2 : Nat))
/-- bounds by the tasks so far -/
def rateB (n : Nat) (z : Int × Int) : Prop := 0 ≤ z.1 ∧ 1 ≤ z.2 ∧ (n = 0 → z = (0, 1)) ∧ (n = 1 → z.1 ≤ 12 ∧ z.2 ≤ 100 ∧ 3 * z.1 < z.2) ∧ (n = 2 → z.1 ≤ 2400 ∧ z.2 ≤ 10000 ∧ 3 * z.1 < 2 * z.2)
theorem mul_bd {a b m n : Int} (ha : 0 ≤ a) (hb : 0 ≤ b) (h1 : a ≤ m) (h2 : b ≤ n) : 0 ≤ a * b ∧ a * b ≤ m * n :=
  ⟨Int.mul_nonneg ha hb, Int.mul_le_mul h1 h2 hb (by omega)⟩
theorem rateB_step {n m : Nat} {z : Int × Int} {t : Itm} (h : rateB n z) (hn : n ≤ 1) (w : WfK m t) : rateB (n + 1) (rateS z t) := by
  obtain ⟨h0, h1, h2, h3, h4⟩ := h
  obtain ⟨w1, w2, w3⟩ := w.work
  have wb := w.gap0
  unfold rateS
  have e0 : n = 0 ∨ n = 1 := by omega
  rcases e0 with rfl | rfl
  · have e := h2 rfl
    subst e
    refine ⟨?_, ?_, fun z => absurd z (by decide), fun _ => ?_, fun z => absurd z (by decide)⟩ <;> dsimp only <;> first | rw [Int.one_mul] | skip
    all_goals first | rw [Int.zero_mul, Int.mul_one, Int.zero_add] | skip
    all_goals omega
  · obtain ⟨a1, a2, a3⟩ := h3 rfl
    obtain ⟨u, v⟩ := z
    dsimp only at *
    have m1 := mul_bd h0 (show 0 ≤ t.b by omega) a1 wb.2
    have m2 := mul_bd (show 0 ≤ workI t by omega) (show 0 ≤ v by omega) w2 a2
    have m3 := mul_bd (show 0 ≤ v by omega) (show 0 ≤ t.b by omega) a2 wb.2
    have p1 : 3 * u * t.b < v * t.b := Int.mul_lt_mul_of_pos_right a3 wb.1
    have p2 : v * (3 * workI t) < v * t.b := Int.mul_lt_mul_of_pos_left w3 (by omega)
    have p3 : 1 ≤ v * t.b := by
      have := Int.mul_le_mul (show 1 ≤ v by omega) (show 1 ≤ t.b by omega) (by omega) (by omega)
      omega
    have e1 : 3 * u * t.b = 3 * (u * t.b) := Int.mul_assoc _ _ _
    have e2 : v * (3 * workI t) = 3 * (workI t * v) := by rw [Int.mul_comm (workI t) v, ← Int.mul_assoc, ← Int.mul_assoc, Int.mul_comm v 3]
    refine ⟨?_, ?_, fun z => absurd z (by decide), fun z => absurd z (by decide), fun _ => ?_⟩ <;> dsimp only
    all_goals omega
theorem rateB_fold {m : Nat} : ∀ (l : List Itm) (n : Nat) (z : Int × Int), rateB n z → n + l.length ≤ 2 → (∀ t, t ∈ l → WfK m t) → rateB (n + l.length) (l.foldl rateS z)
  | [], n, z, h, _, _ => h
  | t :: l, n, z, h, hl, ht => by
    rw [List.length_cons] at hl ⊢
    rw [List.foldl_cons, show n + (l.length + 1) = n + 1 + l.length by omega]
    exact rateB_fold l (n + 1) _ (rateB_step h (by omega) (ht t List.mem_cons_self)) (by omega) fun x hx => ht x (List.mem_cons_of_mem _ hx)
theorem rateB_0 : rateB 0 (0, 1) := ⟨by decide, by decide, fun _ => rfl, fun z => absurd z (by decide), fun z => absurd z (by decide)⟩
theorem rateB_bd {n : Nat} {z : Int × Int} (h : rateB n z) (hn : n ≤ 2) : 0 ≤ z.1 ∧ 1 ≤ z.2 ∧ z.1 ≤ 2400 ∧ z.2 ≤ 10000 ∧ z.1 < z.2 := by
  obtain ⟨h0, h1, h2, h3, h4⟩ := h
  have e0 : n = 0 ∨ n = 1 ∨ n = 2 := by omega
  rcases e0 with rfl | rfl | rfl
  · have e := h2 rfl
    subst e
    decide
  · have := h3 rfl
    omega
  · have := h4 rfl
    omega
theorem rateZ_bd {y : Sys} (h : WfY y) : 0 ≤ (rateZ y).1 ∧ 1 ≤ (rateZ y).2 ∧ (rateZ y).1 ≤ 2400 ∧ (rateZ y).2 ≤ 10000 ∧ (rateZ y).1 < (rateZ y).2 := by
  have hf := h.tfew
  exact rateB_bd (n := 0 + y.tasks.length) (rateB_fold y.tasks 0 (0, 1) rateB_0 (by omega) h.tasks) (by omega)
theorem gcd_step {a b : Int} (ha : 0 ≤ a) (hb : 0 < b) : Int.gcd b (a - a / b * b) = Int.gcd a b := by
  have e : a - a / b * b = a % b := by
    have := Int.mul_ediv_add_emod a b
    rw [Int.mul_comm] at this
    omega
  rw [e]
  obtain ⟨m, rfl⟩ := Int.eq_ofNat_of_zero_le ha
  obtain ⟨n, rfl⟩ := Int.eq_ofNat_of_zero_le (Int.le_of_lt hb)
  rw [← Int.natCast_emod, Int.gcd_natCast_natCast, Int.gcd_natCast_natCast, Nat.gcd_comm n, ← Nat.gcd_rec, Nat.gcd_comm]
section
variable {P : Program} {w : World} {K : PySem.W.Frag} {mg : Str → Option Value} {base : Heap} {J : JJ}
def R_div (ds : List PyData) (d : PyData) : Prop := ∃ a b : Int, ds = [.int a, .int b] ∧ 0 ≤ a ∧ 0 ≤ b ∧ a < 1000000 ∧ b < 1000000 ∧ d = .int ((Int.gcd a b : Nat) : Int)
theorem fd_divisor (D : Dfn K mg "divisor" s_divisor p_divisor) : FD P w K mg base J 1 "divisor" p_divisor R_div := by
  refine fd_ok D sc_divisor (fun ds d h => ?_) (fun f cdv A outer s H E hr ds d h => ?_)
  · obtain ⟨_, _, rfl, _⟩ := h
    rfl
  · obtain ⟨a, b, rfl, ha, hb, ha1, hb1, rfl⟩ := h
    refine pbd_cons (psd_while PassesOwn.never (fun z : Int × Int => [.kn (.int z.1), .kn (.int z.2)]) (fun z => 0 ≤ z.1 ∧ 0 ≤ z.2 ∧ z.1 < 1000000 ∧ z.2 < 1000000 ∧ Int.gcd z.1 z.2 = Int.gcd a b) (fun z => z.2.toNat) (a, b) (Le.refl _) ⟨ha, hb, ha1, hb1, rfl⟩ (fun z hz => ?_))
    obtain ⟨u, v⟩ := z
    obtain ⟨h1, h2, h3, h4, h5⟩ := hz
    dsimp only at h1 h2 h3 h4 h5
    refine ⟨_, ptd_gt (ped_var 1) ped_int, fun q => ?_, fun q => ?_⟩
    · have q' : 0 < v := of_decide_eq_true q
      refine pbd_one (psd_par 0 1 rfl sc_divisor.nd (pad_cons (ped_var 1) (pad_cons (ped_sub (ped_var 0) (ped_mul (ped_fdiv (ped_var 0) (ped_var 1) ⟨q', by omega⟩) (ped_var 1) (.inr (by omega)))) pad_nil)) ?_)
      have e : u - u / v * v = u % v := by
        have := Int.mul_ediv_add_emod u v
        rw [Int.mul_comm] at this
        omega
      have m1 := Int.emod_nonneg u (show v ≠ 0 by omega)
      have m2 := Int.emod_lt_of_pos u q'
      refine ⟨(v, u - u / v * v), ⟨h2, by show 0 ≤ u - u / v * v; omega, h4, by show u - u / v * v < _; omega, (gcd_step h1 q').trans h5⟩, ?_, Le.refl _⟩
      show (u - u / v * v).toNat < v.toNat
      omega
    · have q' : ¬ 0 < v := of_decide_eq_false q
      refine pbd_one (psd_ret (ped_var 0) ?_)
      have e : v = 0 := by omega
      subst e
      show PyData.int u = .int _
      rw [← h5, Int.gcd_zero_right]
      congr 1
      omega
theorem fd_rate_of (D : Dfn K mg "rate_of" s_rate_of p_rate_of) (GW : FD P w K mg base J 2 "work_of" p_work_of R_work) (GD : FD P w K mg base J 1 "divisor" p_divisor R_div) : FD P w K mg base J 3 "rate_of" p_rate_of (R_sys fun y => .tuple [.int (rateY y).1, .int (rateY y).2]) := by
  refine fd_ok D sc_rate_of (fun ds d h => ?_) (fun f cdv A outer s H E hr ds d h => ?_)
  · obtain ⟨_, rfl, _⟩ := h
    rfl
  · obtain ⟨y, rfl, hy, rfl⟩ := h
    refine pbd_cons (psd_set 1 ped_int ?_ sc_rate_of.nd)
    refine pbd_cons (psd_set 2 ped_int ?_ sc_rate_of.nd)
    have hf := hy.tfew
    refine pbd_cons (psd_pre y.tasks encI (fun pre => [.kn (encY y), .kn (.int (pre.foldl rateS (0, 1)).1), .kn (.int (pre.foldl rateS (0, 1)).2), .un, .un]) (fun _ => True) PassesOwn.never rfl (pid_tup (ped_ixT (ped_var 0) ped_int)) (le_eq (le_kn rfl (le_kn rfl (by trivial)))) True.intro (fun pre t post he _ => ?_) (fun _ => ?_))
    · have hl : pre.length ≤ 1 := by
        have := congrArg List.length he
        rw [List.length_append, List.length_cons] at this
        omega
      have hm : ∀ x, x ∈ pre → x ∈ y.tasks := fun x hx => by rw [he]; exact List.mem_append_left _ hx
      have ht : t ∈ y.tasks := by rw [he]; exact List.mem_append_right _ List.mem_cons_self
      have bd := rateB_bd (n := 0 + pre.length) (rateB_fold pre 0 (0, 1) rateB_0 (by omega) fun x hx => hy.tasks x (hm x hx)) (by omega)
      have hfo : (pre ++ [t]).foldl rateS (0, 1) = rateS (pre.foldl rateS (0, 1)) t := by rw [List.foldl_append]; rfl
      rw [hfo]
      generalize pre.foldl rateS (0, 1) = z at bd ⊢
      have wb := (hy.tasks t ht).gap0
      have ww := (hy.tasks t ht).work
      refine ⟨_, _, pgd_name 3 sc_rate_of.nd, pbd_cons (psd_set 1 (ped_add (ped_mul (ped_var 1) (ped_ixT (ped_var 3) ped_int) (.inl (by omega))) (ped_mul (ped_call GW hr (pad_cons (ped_var 3) pad_nil) (r_workK hy ht)) (ped_var 2) (.inl (by omega)))) ?_ sc_rate_of.nd)⟩
      refine pbd_one (psd_set 2 (ped_mul (ped_var 2) (ped_ixT (ped_var 3) ped_int) (.inl (by omega))) ?_ sc_rate_of.nd)
      exact And.intro (le_eq (le_kn rfl (le_kn rfl (by trivial)))) True.intro
    · have bd := rateZ_bd hy
      show PBD J _ _ [.kn (encY y), .kn (.int (rateZ y).1), .kn (.int (rateZ y).2), .un, .un] _
      refine pbd_cons (psd_set 4 (ped_call GD (hr.mono (by decide)) (pad_cons (ped_var 1) (pad_cons (ped_var 2) pad_nil)) ⟨(rateZ y).1, (rateZ y).2, rfl, bd.1, by omega, by omega, by omega, rfl⟩) ?_ sc_rate_of.nd)
      have g1 : 0 < Int.gcd (rateZ y).1 (rateZ y).2 := Int.gcd_pos_of_ne_zero_right _ (by omega)
      have g2 : Int.gcd (rateZ y).1 (rateZ y).2 ≤ (rateZ y).2.natAbs := Int.gcd_le_natAbs_right _ (by omega)
      exact pbd_one (psd_ret (ped_tup (pad_cons (ped_fdiv (ped_var 1) (ped_var 4) ⟨by omega, by omega⟩) (pad_cons (ped_fdiv (ped_var 2) (ped_var 4) ⟨by omega, by omega⟩) pad_nil))) rfl)
theorem fd_law_penalties (D : Dfn K mg "_law_penalties" s_law_penalties p_law_penalties) (T : Bt mg) (GI : FD P w K mg base J 2 "_law_in" p_law_in (R_iv fun y s e => .list ((pairsIn y s e).map encP))) : FD P w K mg base J 3 "_law_penalties" p_law_penalties (R_iv fun y s e => .tuple ((penY y s e).map .int)) := by
  refine fd_ok D sc_law_penalties (fun ds d h => ?_) (fun f cdv A outer s H E hr ds d h => ?_)
  · obtain ⟨_, _, _, rfl, _⟩ := h
    rfl
  · obtain ⟨y, s, e, rfl, hy, rfl⟩ := h
    have hb := hy.buds.few
    refine pbd_cons (psd_setO 3 (pef_rep (pef_lst (pad_cons ped_int pad_nil)) (ped_lenM T.len (ped_ixT (ped_var 0) ped_int)) (by omega) (sl (by omega))) (fun p => ?_) sc_law_penalties.nd)
    refine pbd_cons (psd_fold (pairsIn y s e) encP (fun ps q => penI ps q.1) (fun ps => [.kn (encY y), .kn (.int s), .kn (.int e), .ow p (ps.map .int), .un, .un]) (fun ps => ps.length = y.buds.length) (List.replicate y.buds.length 0) PassesOwn.never rfl (pid_list (ped_call GI hr (pad_cons (ped_var 0) (pad_cons (ped_var 1) (pad_cons (ped_var 2) pad_nil))) ⟨y, s, e, rfl, hy, rfl⟩)) ?_ ?_ (fun ps q hm hp => ?_) (fun hp => ?_))
    · refine le_eq (le_eq (le_eq (le_ow ?_ (by trivial))))
      exact rep_int _ _
    · exact List.length_replicate
    · refine ⟨_, _, pgd_name 4 sc_law_penalties.nd, pbd_one (psd_fold q.1.segs encS pen1 (fun qs => [.kn (encY y), .kn (.int s), .kn (.int e), .ow p (qs.map .int), .kn (encP q), .un]) (fun qs => qs.length = y.buds.length) ps PassesOwn.never rfl (pid_tup (ped_ixT (ped_ixT (ped_var 4) ped_int) ped_int)) (by trivial) hp (fun qs g hg hq => ?_) (fun hq => ?_))⟩
      · have wg := (pairsIn_mem hy hm).1.seg g hg
        refine ⟨_, _, pgd_name 5 sc_law_penalties.nd, pbd_one (psd_setItemI (ns := qs) 3 (ped_max2 rfl T.max (ped_ixOI (ns := qs) 3 (ped_ixT (ped_var 5) ped_int) (by omega)) (ped_ixT (ped_var 5) ped_int)) (ped_ixT (ped_var 5) ped_int) (by omega) (And.intro (le_eq (le_eq (le_eq (le_ow rfl (by trivial))))) ?_))⟩
        show (pen1 qs g).length = y.buds.length
        rw [pen1_len]
        exact hq
      · refine And.intro (by trivial) ?_
        show (penI ps q.1).length = _
        rw [penI_len]
        exact hp
    · refine pbd_one (psd_ret (ped_tupL T.tuple (pld_own 3)) ?_)
      show PyData.tuple _ = .tuple ((penY y s e).map .int)
      unfold penY
      rw [← pairsIn_items, pens_map]
end
end Fd
namespace Fd
open PySem PySem.Spec PyProof.Rows L2
local macro_rules | `(tactic| trivial) => `(tactic| exact le_nil)
local macro_rules | `(tactic| trivial) => `(tactic| (refine le_eq ?_; trivial))
local macro_rules | `(tactic| trivial) => `(tactic| (refine le_un ?_; trivial))
/-! ### ends -/
def endsJ (y : Sys) (s m : Int) : List Int := (y.jobs.filter fun j => decide (s ≤ j.a) && decide (j.b ≤ m)).map (·.b)
def startT (t : Itm) (s : Int) : Int := max s t.a + t.c
def cntT (t : Itm) (s m : Int) : Nat := (max (m - startT t s) (-1) / t.b + 1).toNat
def endT (t : Itm) (s : Int) (i : Nat) : Int := startT t s + (i : Nat) * t.b
def endsT (s m : Int) (t : Itm) : List Int := (List.range (cntT t s m)).map (endT t s)
def endsL (y : Sys) (s m : Int) : List Int := endsJ y s m ++ y.tasks.flatMap (endsT s m)
theorem cntT_le {n : Nat} {t : Itm} (h : WfK n t) {s m : Int} (hm : m ≤ s + 120) : cntT t s m ≤ 30 ∧ (max (m - startT t s) (-1) / t.b + 1) = (cntT t s m : Int) := by
  have hl := h.toWfI.lens
  have hg := h.gap
  have hd := h.due
  have e1 : m - startT t s ≤ 116 := by unfold startT; omega
  unfold cntT
  have b1 : max (m - startT t s) (-1) / t.b ≤ 29 := by
    have : max (m - startT t s) (-1) / t.b < 30 := Int.ediv_lt_of_lt_mul (by omega) (by omega)
    omega
  have b0 : -1 ≤ max (m - startT t s) (-1) / t.b := by
    have : -1 ≤ max (m - startT t s) (-1) / t.b := Int.le_ediv_of_mul_le (by omega) (by omega)
    exact this
  omega
theorem cntT_rg {n : Nat} {t : Itm} (h : WfK n t) {s m : Int} (h0 : 0 ≤ s) (h1 : s ≤ 1000) (hm0 : -1000 ≤ m) (hm : m ≤ s + 120) : RgC (startT t s) (m + 1) t.b (cntT t s m) := by
  have hl := h.toWfI.lens
  have hg := h.gap
  have hd := h.due
  have ha := h.a1
  have ha0 := h.a0
  obtain ⟨c1, c2⟩ := cntT_le h (s := s) (m := m) hm
  have e : Builtin.Range.rangeSize (startT t s) (m + 1) t.b = (cntT t s m : Int) := by
    unfold Builtin.Range.rangeSize
    rw [if_pos (by omega), ← c2]
    split
    · rw [show m + 1 - startT t s - 1 = m - startT t s by omega, Int.max_eq_left (by omega)]
    · rw [Int.max_eq_right (by omega), show (-1 : Int) / t.b = -1 from Int.ediv_eq_iff_of_pos (by omega) |>.mpr (by omega)]
      rfl
  refine ⟨by omega, by omega, ?_, e⟩
  unfold Builtin.Range.small
  rw [e, if_pos (by omega)]
  have : 0 ≤ startT t s ∧ startT t s ≤ 2000 := by unfold startT; omega
  simp only [Builtin.Range.rangeFitsLong, Bool.and_eq_true, Bool.or_eq_true, decide_eq_true_eq, beq_iff_eq]
  omega
theorem endsT_len {n : Nat} {t : Itm} (h : WfK n t) {s m : Int} (hm : m ≤ s + 120) : (endsT s m t).length ≤ 30 := by
  unfold endsT
  rw [List.length_map, List.length_range]
  exact (cntT_le h hm).1
theorem endsJ_len {y : Sys} (h : WfY y) (s m : Int) : (endsJ y s m).length ≤ 3 := by
  unfold endsJ
  rw [List.length_map]
  exact Nat.le_trans (List.length_filter_le _ _) h.jfew
theorem endsF_len {n : Nat} {s m : Int} (hm : m ≤ s + 120) : ∀ (l : List Itm), (∀ t, t ∈ l → WfK n t) → (l.flatMap (endsT s m)).length ≤ 30 * l.length
  | [], _ => Nat.le_refl _
  | t :: l, h => by
    rw [List.flatMap_cons, List.length_append, List.length_cons]
    have := endsF_len hm l fun x hx => h x (List.mem_cons_of_mem _ hx)
    have := endsT_len (h t List.mem_cons_self) hm
    omega
theorem endsL_len {y : Sys} (h : WfY y) {s m : Int} (hm : m ≤ s + 120) : (endsL y s m).length < 64 := by
  unfold endsL
  rw [List.length_append]
  have := endsJ_len h s m
  have := endsF_len hm y.tasks h.tasks
  have := h.tfew
  omega
section
variable {P : Program} {w : World} {K : PySem.W.Frag} {mg : Str → Option Value} {base : Heap} {J : JJ}
def R_ends (ds : List PyData) (d : PyData) : Prop := ∃ (y : Sys) (s m : Int), ds = [encY y, .int s, .int m] ∧ WfY y ∧ 0 ≤ s ∧ s ≤ 1000 ∧ -1000 ≤ m ∧ m ≤ s + 120 ∧ d = .list ((asc (endsL y s m)).map .int)
theorem fd_ends_of (D : Dfn K mg "ends_of" s_ends_of p_ends_of) (T : Bt mg) : FD P w K mg base J 1 "ends_of" p_ends_of R_ends := by
  refine fd_ok D sc_ends_of (fun ds d h => ?_) (fun f cdv A outer s H E hr ds d h => ?_)
  · obtain ⟨_, _, _, rfl, _⟩ := h
    rfl
  · obtain ⟨y, s0, m, rfl, hy, h0, h1, h2, h3, rfl⟩ := h
    have hjl := endsJ_len hy s0 m
    refine pbd_cons (psd_setLcO 3 4 y.jobs encI (fun j => decide (s0 ≤ j.a) && decide (j.b ≤ m)) (fun j => .int j.b) rfl sc_ends_of.nd (pid_tup (ped_ixT (ped_var 0) ped_int)) (sl (by have := hy.jfew; omega))
      (fun j hj => ⟨fun _ _ _ _ _ => ptsd_one (ptd_and (ptd_ge (ped_ixT (ped_var 4) ped_int) (ped_var 1)) (fun _ => pwd_and1 (ptd_le (ped_ixT (ped_var 4) ped_int) (ped_var 2)))), fun _ _ _ _ _ _ => ped_ixT (ped_var 4) ped_int⟩)
      (blkOk_by (N := N_ends_of) (sc := defScope s_ends_of) (by decide +kernel)) (fun p => ?_))
    refine pbd_cons (psd_pre y.tasks encI (fun pre => [.kn (encY y), .kn (.int s0), .kn (.int m), .ow p ((endsJ y s0 m ++ pre.flatMap (endsT s0 m)).map .int), .un, .un, .un]) (fun _ => True) PassesOwn.never rfl (pid_tup (ped_ixT (ped_var 0) ped_int)) ?_ True.intro (fun pre t post he _ => ?_) (fun _ => ?_))
    · refine le_eq (le_eq (le_eq (le_ow ?_ (by trivial))))
      unfold endsJ
      rw [List.flatMap_nil, List.append_nil, List.map_map]
      rfl
    · have ht : t ∈ y.tasks := by rw [he]; exact List.mem_append_right _ List.mem_cons_self
      have wt := hy.tasks t ht
      have hpl : (endsJ y s0 m ++ pre.flatMap (endsT s0 m)).length ≤ 63 := by
        rw [List.length_append]
        have := endsF_len h3 pre fun x hx => hy.tasks x (by rw [he]; exact List.mem_append_left _ hx)
        have := congrArg List.length he
        rw [List.length_append, List.length_cons] at this
        have := hy.tfew
        omega
      refine ⟨_, _, pgd_name 5 sc_ends_of.nd, pbd_one (psd_pre (List.range (cntT t s0 m)) (fun i => .int (startT t s0 + (i : Nat) * t.b)) (fun pre2 => [.kn (encY y), .kn (.int s0), .kn (.int m), .ow p ((endsJ y s0 m ++ pre.flatMap (endsT s0 m) ++ pre2.map (endT t s0)).map .int), .un, .kn (encI t), .un]) (fun _ => True) PassesOwn.never rfl
        (pid_range3 T.range (ped_add (ped_max2 rfl T.max (ped_var 1) (ped_ixT (ped_var 5) ped_int)) (ped_ixT (ped_var 5) ped_int)) (ped_add (ped_var 2) ped_int) (ped_ixT (ped_var 5) ped_int) (cntT_rg wt h0 h1 h2 h3)) ?_ True.intro (fun pre2 i post2 he2 _ => ?_) (fun _ => ?_))⟩
      · refine le_eq (le_eq (le_eq (le_ow ?_ (by trivial))))
        rw [List.map_nil, List.append_nil]
      · have hl2 : pre2.length ≤ 30 := by
          have := congrArg List.length he2
          rw [List.length_range, List.length_append] at this
          have := (cntT_le wt h3).1
          omega
        refine ⟨_, _, pgd_name 6 sc_ends_of.nd, pbd_one (psd_app (ds := (endsJ y s0 m ++ pre.flatMap (endsT s0 m) ++ pre2.map (endT t s0)).map .int) 3 (ped_var 6) (sl (by rw [List.length_map, List.length_append, List.length_map]; omega)) (And.intro (le_eq (le_eq (le_eq (le_ow ?_ (by trivial))))) True.intro))⟩
        rw [List.map_append (l₁ := pre2), ← List.append_assoc, List.map_append (f := PyData.int) (l₁ := endsJ y s0 m ++ pre.flatMap (endsT s0 m) ++ pre2.map (endT t s0))]
        rfl
      · refine And.intro (le_eq (le_eq (le_eq (le_ow ?_ (by trivial))))) True.intro
        rw [List.flatMap_append, List.flatMap_singleton, ← List.append_assoc]
        rfl
    · refine pbd_one (psd_ret (PEF.ped (pef_sortSet (ns := endsL y s0 m) rfl T.sorted T.set (pld_own 3) (endsL_len hy h3))) rfl)
theorem fd_law_ends (D : Dfn K mg "_law_ends" s_law_ends p_law_ends) (T : Bt mg) : FD P w K mg base J 1 "_law_ends" p_law_ends R_ends := by
  refine fd_ok D sc_law_ends (fun ds d h => ?_) (fun f cdv A outer s H E hr ds d h => ?_)
  · obtain ⟨_, _, _, rfl, _⟩ := h
    rfl
  · obtain ⟨y, s0, m, rfl, hy, h0, h1, h2, h3, rfl⟩ := h
    have hjl := endsJ_len hy s0 m
    refine pbd_cons (psd_setLcO 3 4 y.jobs encI (fun j => decide (s0 ≤ j.a) && decide (j.b ≤ m)) (fun j => .int j.b) rfl sc_law_ends.nd (pid_tup (ped_ixT (ped_var 0) ped_int)) (sl (by have := hy.jfew; omega))
      (fun j hj => ⟨fun _ _ _ _ _ => ptsd_one (ptd_and (ptd_ge (ped_ixT (ped_var 4) ped_int) (ped_var 1)) (fun _ => pwd_and1 (ptd_le (ped_ixT (ped_var 4) ped_int) (ped_var 2)))), fun _ _ _ _ _ _ => ped_ixT (ped_var 4) ped_int⟩)
      (blkOk_by (N := N_law_ends) (sc := defScope s_law_ends) (by decide +kernel)) (fun p => ?_))
    refine pbd_cons (psd_pre y.tasks encI (fun pre => [.kn (encY y), .kn (.int s0), .kn (.int m), .ow p ((endsJ y s0 m ++ pre.flatMap (endsT s0 m)).map .int), .un, .un, .un, .un]) (fun _ => True) PassesOwn.never rfl (pid_tup (ped_ixT (ped_var 0) ped_int)) ?_ True.intro (fun pre t post he _ => ?_) (fun _ => ?_))
    · refine le_eq (le_eq (le_eq (le_ow ?_ (by trivial))))
      unfold endsJ
      rw [List.flatMap_nil, List.append_nil, List.map_map]
      rfl
    · have ht : t ∈ y.tasks := by rw [he]; exact List.mem_append_right _ List.mem_cons_self
      have wt := hy.tasks t ht
      have hg := wt.gap0
      obtain ⟨c1, c2⟩ := cntT_le wt (s := s0) (m := m) h3
      have hpl : (endsJ y s0 m ++ pre.flatMap (endsT s0 m)).length ≤ 63 := by
        rw [List.length_append]
        have := endsF_len h3 pre fun x hx => hy.tasks x (by rw [he]; exact List.mem_append_left _ hx)
        have := congrArg List.length he
        rw [List.length_append, List.length_cons] at this
        have := hy.tfew
        omega
      refine ⟨_, _, pgd_name 5 sc_law_ends.nd, pbd_cons (psd_set (d := .int (startT t s0)) 6 (ped_add (ped_max2 rfl T.max (ped_var 1) (ped_ixT (ped_var 5) ped_int)) (ped_ixT (ped_var 5) ped_int)) ?_ sc_law_ends.nd)⟩
      refine pbd_one (psd_pre (List.range (cntT t s0 m)) (fun i => .int ((i : Nat) : Int)) (fun pre2 => [.kn (encY y), .kn (.int s0), .kn (.int m), .ow p ((endsJ y s0 m ++ pre.flatMap (endsT s0 m) ++ (List.range pre2.length).map (endT t s0)).map .int), .un, .kn (encI t), .kn (.int (endT t s0 pre2.length)), .un]) (fun _ => True) PassesOwn.never rfl
        (pid_rgN T.range ((ped_add (ped_fdiv (ped_max2 rfl T.max (ped_sub (ped_var 2) (ped_var 6)) (ped_sub ped_int ped_int)) (ped_ixT (ped_var 5) ped_int) ⟨hg.1, by omega⟩) ped_int).eq (by
          show PyData.int (max (m - startT t s0) (0 - 1) / t.b + 1) = _
          rw [← c2]
          rfl)) (by omega)) ?_ True.intro (fun pre2 i post2 he2 _ => ?_) (fun _ => ?_))
      · refine le_eq (le_eq (le_eq (le_ow ?_ (le_eq (le_eq (le_kn ?_ (by trivial)))))))
        · rw [List.length_nil, List.range_zero, List.map_nil, List.append_nil]
        · unfold endT
          rw [List.length_nil]
          congr 1
          omega
      · have hl2 : pre2.length ≤ 30 := by
          have := congrArg List.length he2
          rw [List.length_range, List.length_append] at this
          omega
        refine ⟨_, _, pgd_name 7 sc_law_ends.nd, pbd_cons (psd_app (ds := (endsJ y s0 m ++ pre.flatMap (endsT s0 m) ++ (List.range pre2.length).map (endT t s0)).map .int) 3 (ped_var 6) (sl (by rw [List.length_map, List.length_append, List.length_map, List.length_range]; omega)) ?_)⟩
        refine pbd_one (psd_set 6 (ped_add (ped_var 6) (ped_ixT (ped_var 5) ped_int)) ?_ sc_law_ends.nd)
        refine And.intro (le_eq (le_eq (le_eq (le_ow ?_ (le_eq (le_eq (le_kn ?_ (by trivial)))))))) True.intro
        · rw [List.length_append, List.length_singleton, List.range_succ, List.map_append (l₁ := List.range pre2.length), ← List.append_assoc, List.map_append (f := PyData.int) (l₁ := endsJ y s0 m ++ pre.flatMap (endsT s0 m) ++ (List.range pre2.length).map (endT t s0))]
          rfl
        · rw [List.length_append, List.length_singleton]
          unfold endT
          congr 1
          have : ((pre2.length + 1 : Nat) : Int) * t.b = (pre2.length : Int) * t.b + t.b := by rw [Int.natCast_succ, Int.add_mul, Int.one_mul]
          omega
      · refine And.intro (le_eq (le_eq (le_eq (le_ow ?_ (by trivial))))) True.intro
        rw [List.flatMap_append, List.flatMap_singleton, ← List.append_assoc, List.length_range]
        rfl
    · refine pbd_one (psd_ret (PEF.ped (pef_sortSet (ns := endsL y s0 m) rfl T.sorted T.set (pld_own 3) (endsL_len hy h3))) rfl)
end
end Fd
namespace Fd
open PySem PySem.Spec PyProof.Rows L2
local macro_rules | `(tactic| trivial) => `(tactic| exact le_nil)
local macro_rules | `(tactic| trivial) => `(tactic| (refine le_eq ?_; trivial))
local macro_rules | `(tactic| trivial) => `(tactic| (refine le_un ?_; trivial))
section
variable {J : JJ} {X : Cx} {δ δ1 δ2 : DS} {Φ : OP} {pos : Pos} {e : Expr}
/-- an own list, given away: known from now on -/
theorem ped_give {x : Str} {p : Addr} {ds : List PyData} (i : Nat) (hδ : δ[i]? = some (.ow p ds) := by rfl) (hN : X.N[i]? = some x := by rfl) (hv : Vis X.env.scope x := by first | exact Or.inl rfl | exact Or.inr (Or.inl rfl) | exact Or.inr (Or.inr rfl))
    (hd : (x == ("__debug__" : Str)) = false := by decide) (hcd : (x == ("__classdict__" : Str)) = false := by decide) : PED J X (.Name x pos) δ (.list ds) (δ.set i (.kn (.list ds))) := fun F B H σ S Q k => by
  obtain ⟨h1, h2, h3, xs, h4, h5⟩ := S.ow i p ds hδ
  have hx : i < σ.length := by rw [S.len]; exact (List.getElem?_eq_some_iff.mp hδ).1
  have e : ∀ y, y = some (.ref p) → σ.set i y = σ := fun y hy => by
    apply List.ext_getElem?
    intro j
    by_cases hj : i = j
    · subst hj
      rw [List.getElem?_set_self hx, hy, h1]
    · rw [List.getElem?_set_ne hj]
  have S1 : Sd X.K J F B H σ (δ.set i .un) := by
    have z := S.setu i (some (.ref p))
    rw [e _ rfl] at z
    exact z
  have n1 : NotOw (δ.set i .un) p := fun j q es h => by
    rcases get_set_cases h with ⟨_, z, _⟩ | ⟨hj, h⟩
    · cases z
    · exact S.ne j i q p es ds hj h hδ
  have r : Dp X.K (upd B p (.lst xs)) (.ref p) (.list ds) := .lst (.of upd_same) (dpa_ext (same_upd h2) _ _ h5)
  have S2 := (S1.adopt h4 h2 h3 n1).setk i r
  rw [e _ rfl, List.set_set] at S2
  exact we_of (pe_var hN hv hd hcd) ⟨_, h1, k _ _ H (same_upd h2) S2 r⟩
end
/-! ### the recovery -/
def subA (c : Int) (us : List Int) (k : Int) : List Int := us.set k.toNat (gi us k - c)
theorem subA_len (c : Int) : ∀ (l us : List Int), (l.foldl (subA c) us).length = us.length
  | [], _ => rfl
  | k :: l, us => by rw [List.foldl_cons, subA_len c l]; exact List.length_set
def heights (ps : List Int) (n : Nat) : List (Int × Int) := (List.range n).map fun k => (0 - gi ps (k : Nat), ((k : Nat) : Int))
def order (ps : List Int) (n : Nat) : List (Int × Int) := (heights ps n).mergeSort (PySem.W.dataLe false encS)
def cntP (bs : List Bud) (left : List Int) (k : Int) : Int := mnL ((pathF bs bs.length k).map (gi left))
def recS (bs : List Bud) (z : List Int × Int) (h : Int × Int) : List Int × Int := ((pathF bs bs.length h.2).foldl (subA (cntP bs z.1 h.2)) z.1, z.2 - h.1 * cntP bs z.1 h.2)
def recY (bs : List Bud) (ps : List Int) : Int := ((order ps bs.length).foldl (recS bs) (bs.map (·.cap), 0)).2
theorem order_mem {ps : List Int} {n : Nat} {h : Int × Int} (hm : h ∈ order ps n) : ∃ k : Nat, k < n ∧ h = (0 - gi ps (k : Nat), ((k : Nat) : Int)) := by
  unfold order at hm
  rw [List.mem_mergeSort] at hm
  obtain ⟨k, hk, e⟩ := List.mem_map.mp hm
  exact ⟨k, List.mem_range.mp hk, e.symm⟩
theorem pens_bd {n : Nat} {items : List Itm} (h : ∀ i, i ∈ items → WfI n i) : ∀ k : Int, 0 ≤ k → 0 ≤ gi (pens n items) k ∧ gi (pens n items) k ≤ 4 := by
  have aux : ∀ (gs : List (Int × Int)) (ps : List Int), (∀ g, g ∈ gs → 1 ≤ g.1 ∧ g.1 ≤ 4 ∧ 0 ≤ g.2 ∧ g.2 < ps.length) → (∀ k : Int, 0 ≤ k → 0 ≤ gi ps k ∧ gi ps k ≤ 4) → ∀ k : Int, 0 ≤ k → 0 ≤ gi (gs.foldl pen1 ps) k ∧ gi (gs.foldl pen1 ps) k ≤ 4 := by
    intro gs
    induction gs with
    | nil => exact fun ps _ h => h
    | cons g gs ih =>
      intro ps hg hp
      have b := hg g List.mem_cons_self
      refine ih (pen1 ps g) (fun x hx => by rw [pen1_len]; exact hg x (List.mem_cons_of_mem _ hx)) fun k hk => ?_
      unfold pen1
      rw [gi_set (by omega) hk]
      have q := hp g.2 b.2.2.1
      split
      · omega
      · exact hp k hk
  have aux2 : ∀ (l : List Itm) (ps : List Int), (∀ i, i ∈ l → WfI ps.length i) → (∀ k : Int, 0 ≤ k → 0 ≤ gi ps k ∧ gi ps k ≤ 4) → ∀ k : Int, 0 ≤ k → 0 ≤ gi (l.foldl penI ps) k ∧ gi (l.foldl penI ps) k ≤ 4 := by
    intro l
    induction l with
    | nil => exact fun ps _ h => h
    | cons i l ih =>
      intro ps hw hp
      refine ih (penI ps i) (fun x hx => by rw [penI_len]; exact hw x (List.mem_cons_of_mem _ hx)) ?_
      exact aux i.segs ps (fun g hg => (hw i List.mem_cons_self).seg g hg) hp
  refine aux2 items (List.replicate n 0) (fun i hi => by rw [List.length_replicate]; exact h i hi) fun k hk => ?_
  rw [gi_rep]
  decide
theorem lcI_path {left : List Int} {ks : List Int} : (ks.map fun k => PyData.int (gi left k)) = (ks.map (gi left)).map .int := by rw [List.map_map]; rfl
section
variable {P : Program} {w : World} {K : PySem.W.Frag} {mg : Str → Option Value} {base : Heap} {J : JJ}
/-- budgets and penalties, a list or a tuple -/
def R_rec (f : List Bud → List Int → PyData) (ds : List PyData) (d : PyData) : Prop := ∃ (bs : List Bud) (ps : List Int) (D : PyData), ds = [.tuple (bs.map encB), D] ∧ (D = .list (ps.map .int) ∨ D = .tuple (ps.map .int)) ∧ WfB bs ∧ ps.length = bs.length ∧ (∀ k : Int, 0 ≤ k → 0 ≤ gi ps k ∧ gi ps k ≤ 4) ∧ d = f bs ps
theorem fd_law_recovery (D : Dfn K mg "_law_recovery" s_law_recovery p_law_recovery) (T : Bt mg) (G : FD P w K mg base J 1 "_law_path" p_law_path (R_path fun bs k => pathF bs bs.length k)) : FD P w K mg base J 2 "_law_recovery" p_law_recovery (R_rec fun bs ps => .int (recY bs ps)) := by
  refine fd_ok D sc_law_recovery (fun ds d h => ?_) (fun f cdv A outer s H E hr ds d h => ?_)
  · obtain ⟨_, _, _, rfl, _⟩ := h
    rfl
  · obtain ⟨bs, ps, Dt, rfl, hD, W, hl, hp, rfl⟩ := h
    have hf := W.few
    have hu : (cb P w K mg base N_law_recovery "_law_recovery" s_law_recovery f cdv A outer s H E).A.units + 64 < cLine := by have := hr.un; show (A.deeper _).units + 64 < cLine; omega
    refine pbd_cons (psd_setO 2 (pef_lcAI 3 bs encB (·.cap) rfl sc_law_recovery.nd (pid_tup (ped_var 0)) (sl (by omega)) (fun b _ _ _ _ _ _ => ped_ixT (ped_var 3) ped_int) (blkOk_by (N := N_law_recovery) (sc := defScope s_law_recovery) (by decide +kernel))) (fun p => ?_) sc_law_recovery.nd)
    refine pbd_cons (psd_set 4 ped_int ?_ sc_law_recovery.nd)
    refine pbd_cons (psd_fold (order ps bs.length) encS (recS bs) (fun z => [.kn (.tuple (bs.map encB)), .kn Dt, .ow p (z.1.map .int), .un, .kn (.int z.2), .un, .un, .un, .un]) (fun z => z.1.length = bs.length) (bs.map (·.cap), 0) PassesOwn.never rfl
      (pid_list (PEF.ped (pef_sortD (enc := encS) (bs := heights ps bs.length) hu T.sorted (PEF.pld ((pef_lcA 6 (List.range bs.length) (fun k => .int ((k : Nat) : Int)) (fun k => encS (0 - gi ps (k : Nat), ((k : Nat) : Int))) rfl sc_law_recovery.nd (pid_rgN T.range (ped_lenM T.len (ped_var 0)) (by omega)) (sl (by rw [List.length_range]; omega))
        (fun k hk _ _ _ _ _ => ped_tup (pad_cons (ped_sub ped_int (by
          rcases hD with rfl | rfl
          · exact ped_ixL (ped_var 1) (ped_var 6) (atI_gi (ns := ps) (by omega) (by have := List.mem_range.mp hk; omega))
          · exact ped_ixT (ped_var 1) (ped_var 6) (atI_gi (ns := ps) (by omega) (by have := List.mem_range.mp hk; omega)))) (pad_cons (ped_var 6) pad_nil)))
        (blkOk_by (N := N_law_recovery) (sc := defScope s_law_recovery) (by decide +kernel))).eq (by unfold heights; rw [List.map_map]; rfl))) (fun b b' => by simp [encS, PySem.W.alike, PySem.W.alikeAll]) (PySem.W.Sortable.tuples fun b => ⟨_, _, rfl⟩) (sl (by unfold heights; rw [List.length_map, List.length_range]; omega)) (fun b _ => by show 1 ≤ 50; decide)))) ?_ (List.length_map _) (fun z h hm hz => ?_) (fun hz => ?_))
    · exact le_eq (le_eq (le_ow rfl (by trivial)))
    · obtain ⟨k, hk, rfl⟩ := order_mem hm
      obtain ⟨left, tot⟩ := z
      have hz : left.length = bs.length := hz
      have hpl := pathF_len (bs := bs) bs.length (k : Nat)
      have hkp := hp (k : Nat) (by omega)
      have hne : (pathF bs bs.length (k : Nat)).map (gi left) ≠ [] := by
        rw [pathF_step W (by omega) (by omega)]
        simp
      refine ⟨_, _, pgd_name 5 sc_law_recovery.nd, pbd_cons (psd_set (d := .list ((pathF bs bs.length (k : Nat)).map .int)) 7 (ped_call G hr (pad_cons (ped_var 0) (pad_cons (ped_ixT (ped_var 5) ped_int) pad_nil)) ⟨bs, (k : Nat), rfl, W, by omega, by omega, rfl⟩) ?_ sc_law_recovery.nd)⟩
      refine pbd_cons (psd_set (d := .int (cntP bs left (k : Nat))) 8 (ped_minL (ns := (pathF bs bs.length (k : Nat)).map (gi left)) rfl T.min (PEF.pld (pef_lcAI 6 (pathF bs bs.length (k : Nat)) .int (gi left) rfl sc_law_recovery.nd (pid_list (ped_var 7)) (sl (by omega))
        (fun x hx _ _ _ _ _ => ped_ixOI (ns := left) 2 (ped_var 6) (by have := pathF_mem W _ _ x (by omega) hx; omega)) (blkOk_by (N := N_law_recovery) (sc := defScope s_law_recovery) (by decide +kernel)))) hne) ?_ sc_law_recovery.nd)
      refine pbd_cons (psd_set 4 (ped_sub (ped_var 4) (ped_mul (ped_ixT (ped_var 5) ped_int) (ped_var 8) (.inl (by omega)))) ?_ sc_law_recovery.nd)
      refine pbd_one (psd_fold (pathF bs bs.length (k : Nat)) .int (subA (cntP bs left (k : Nat))) (fun qs => [.kn (.tuple (bs.map encB)), .kn Dt, .ow p (qs.map .int), .un, .kn (.int (tot - (0 - gi ps (k : Nat)) * cntP bs left (k : Nat))), .un, .un, .un, .kn (.int (cntP bs left (k : Nat)))]) (fun qs => qs.length = bs.length) left PassesOwn.never rfl (pid_list (ped_var 7)) ?_ hz (fun qs x hx hq => ?_) (fun hq => ?_))
      · exact le_eq (le_eq (le_eq (by trivial)))
      · have bx := pathF_mem W _ _ x (by omega) hx
        refine ⟨_, _, pgd_name 6 sc_law_recovery.nd, pbd_one (psd_setItemI (ns := qs) 2 (ped_sub (ped_ixOI (ns := qs) 2 (ped_var 6) (by omega)) (ped_var 8)) (ped_var 6) (by omega) (And.intro (le_eq (le_eq (le_ow rfl (by trivial)))) ?_))⟩
        show (subA _ qs x).length = bs.length
        unfold subA
        rw [List.length_set]
        exact hq
      · refine And.intro (le_eq (le_eq (le_ow rfl (by trivial)))) ?_
        show (recS bs (left, tot) _).1.length = _
        unfold recS
        rw [subA_len]
        exact hz
    · exact pbd_one (psd_ret (ped_var 4) rfl)
end
end Fd
namespace Fd
open PySem PySem.Spec PyProof.Rows L2
local macro_rules | `(tactic| trivial) => `(tactic| exact le_nil)
local macro_rules | `(tactic| trivial) => `(tactic| (refine le_eq ?_; trivial))
local macro_rules | `(tactic| trivial) => `(tactic| (refine le_un ?_; trivial))
/-! ### the horizon -/
def itemsY (y : Sys) : List Itm := y.jobs ++ y.tasks
def totY (y : Sys) : Int := ((itemsY y).map workI).sum + recY y.buds (pens y.buds.length (itemsY y))
def prodS (z : Int) (t : Itm) : Int := z * t.b
def prodY (y : Sys) : Int := y.tasks.foldl prodS 1
def leftY (y : Sys) : Int := prodY y - (y.tasks.map fun t => workI t * (prodY y / t.b)).sum
def horY (y : Sys) : Int := 0 - (0 - totY y * prodY y) / leftY y
theorem rate_prod {y : Sys} (h : WfY y) : (rateZ y).2 = prodY y ∧ (rateZ y).2 - (rateZ y).1 = leftY y := by
  have hf := h.tfew
  have ht := h.tasks
  unfold leftY prodY rateZ
  generalize y.tasks = l at hf ht
  match l, hf with
  | [], _ => exact ⟨rfl, rfl⟩
  | [t], _ =>
    have b := (ht t List.mem_cons_self).gap0.1
    refine ⟨rfl, ?_⟩
    simp only [List.foldl_cons, List.foldl_nil, rateS, prodS, List.map_cons, List.map_nil, List.sum_cons, List.sum_nil, Int.one_mul, Int.zero_mul, Int.mul_one]
    rw [Int.ediv_self (by omega), Int.mul_one]
    omega
  | [t, u], _ =>
    have b := (ht t List.mem_cons_self).gap0.1
    have c := (ht u (List.mem_cons_of_mem _ List.mem_cons_self)).gap0.1
    refine ⟨rfl, ?_⟩
    simp only [List.foldl_cons, List.foldl_nil, rateS, prodS, List.map_cons, List.map_nil, List.sum_cons, List.sum_nil, Int.one_mul, Int.zero_mul, Int.mul_one]
    rw [Int.mul_ediv_cancel_left _ (by omega), Int.mul_ediv_cancel _ (by omega)]
    rw [Int.zero_add]
    omega
  | _ :: _ :: _ :: _, hf => exact absurd hf (by simp)
theorem prodY_bd {y : Sys} (h : WfY y) : 1 ≤ prodY y ∧ prodY y ≤ 10000 ∧ 0 < leftY y ∧ leftY y ≤ 10000 := by
  have := rateZ_bd h
  have := rate_prod h
  omega
theorem hor_prog {y : Sys} (h : WfY y) : -((-(totY y) * (rateY y).2) / ((rateY y).2 - (rateY y).1)) = horY y := by
  have bd := rateZ_bd h
  obtain ⟨r1, r2⟩ := rate_prod h
  have g1 : 0 < Int.gcd (rateZ y).1 (rateZ y).2 := Int.gcd_pos_of_ne_zero_right _ (by omega)
  unfold horY rateY
  dsimp only
  rw [← r1, ← r2]
  generalize hg : ((Int.gcd (rateZ y).1 (rateZ y).2 : Nat) : Int) = g
  have g0 : 0 < g := by omega
  obtain ⟨p, hp⟩ : g ∣ (rateZ y).1 := hg ▸ Int.gcd_dvd_left ..
  obtain ⟨q, hq⟩ : g ∣ (rateZ y).2 := hg ▸ Int.gcd_dvd_right ..
  rw [hp, hq, Int.mul_ediv_cancel_left _ (by omega), Int.mul_ediv_cancel_left _ (by omega)]
  have e1 : g * q - g * p = g * (q - p) := by rw [Int.mul_sub]
  have e2 : 0 - totY y * (g * q) = g * (-(totY y) * q) := by
    rw [Int.neg_mul, Int.mul_neg, Int.mul_left_comm]
    omega
  rw [e1, e2, Int.mul_ediv_mul_of_pos _ _ g0]
  omega
section
variable {P : Program} {w : World} {K : PySem.W.Frag} {mg : Str → Option Value} {base : Heap} {J : JJ}
theorem WfY.itemI {y : Sys} (h : WfY y) {i : Itm} (hi : i ∈ itemsY y) : WfI y.buds.length i ∧ i.segs.length ≤ 3 ∧ 0 ≤ i.c ∧ i.c ≤ 50 ∧ 0 ≤ workI i ∧ workI i ≤ 12 := by
  rcases List.mem_append.mp hi with hj | hj
  · have w := h.jobs i hj
    exact ⟨w.toWfI, w.few, w.c0, by have := w.c1; omega, w.work.1, w.work.2⟩
  · have w := h.tasks i hj
    exact ⟨w.toWfI, w.few, by have := w.due; omega, w.due.2, by have := w.work; omega, w.work.2.1⟩
theorem r_workI {y : Sys} (h : WfY y) {i : Itm} (hi : i ∈ itemsY y) : R_work [encI i] (.int (workI i)) := ⟨i, rfl, (h.itemI hi).2.1, by have := h.itemI hi; omega, by have := h.itemI hi; omega, rfl⟩
theorem fd_law_horizon (D : Dfn K mg "_law_horizon" s_law_horizon p_law_horizon) (T : Bt mg) (GW : FD P w K mg base J 2 "_law_work" p_law_work R_work) (GR : FD P w K mg base J 2 "_law_recovery" p_law_recovery (R_rec fun bs ps => .int (recY bs ps))) :
    FD P w K mg base J 3 "_law_horizon" p_law_horizon (R_sys fun y => .int (horY y)) := by
  refine fd_ok D sc_law_horizon (fun ds d h => ?_) (fun f cdv A outer s H E hr ds d h => ?_)
  · obtain ⟨_, rfl, _⟩ := h
    rfl
  · obtain ⟨y, rfl, hy, rfl⟩ := h
    have hb := hy.buds.few
    have hi5 := hy.items
    obtain ⟨pb1, pb2, pb3, pb4⟩ := prodY_bd hy
    refine pbd_cons (psd_set 1 (ped_items hy (ped_ixT (ped_var 0) ped_int) (ped_ixT (ped_var 0) ped_int)) ?_ sc_law_horizon.nd)
    refine pbd_cons (psd_setO 2 (pef_rep (pef_lst (pad_cons ped_int pad_nil)) (ped_lenM T.len (ped_ixT (ped_var 0) ped_int)) (by omega) (sl (by omega))) (fun p => ?_) sc_law_horizon.nd)
    refine pbd_cons (psd_fold (itemsY y) encI penI (fun ps => [.kn (encY y), .kn (.tuple ((itemsY y).map encI)), .ow p (ps.map .int), .un, .un, .un, .un, .un, .un]) (fun ps => ps.length = y.buds.length) (List.replicate y.buds.length 0) PassesOwn.never rfl (pid_tup (ped_var 1)) ?_ ?_ (fun ps i hm hp => ?_) (fun hp => ?_))
    · refine le_eq (le_eq (le_ow ?_ (by trivial)))
      exact rep_int _ _
    · exact List.length_replicate
    · refine ⟨_, _, pgd_name 3 sc_law_horizon.nd, pbd_one (psd_fold i.segs encS pen1 (fun qs => [.kn (encY y), .kn (.tuple ((itemsY y).map encI)), .ow p (qs.map .int), .kn (encI i), .un, .un, .un, .un, .un]) (fun qs => qs.length = y.buds.length) ps PassesOwn.never rfl (pid_tup (ped_ixT (ped_var 3) ped_int)) (by trivial) hp (fun qs g hg hq => ?_) (fun hq => ?_))⟩
      · have wg := (hy.itemI hm).1.seg g hg
        refine ⟨_, _, pgd_name 4 sc_law_horizon.nd, pbd_one (psd_setItemI (ns := qs) 2 (ped_max2 rfl T.max (ped_ixOI (ns := qs) 2 (ped_ixT (ped_var 4) ped_int) (by omega)) (ped_ixT (ped_var 4) ped_int)) (ped_ixT (ped_var 4) ped_int) (by omega) (And.intro (le_eq (le_eq (le_ow rfl (by trivial)))) ?_))⟩
        show (pen1 qs g).length = y.buds.length
        rw [pen1_len]
        exact hq
      · exact And.intro (by trivial) ((penI_len ps i).trans hp)
    · have hpl := pens_len y.buds.length (itemsY y)
      refine pbd_cons (psd_set (d := .int (totY y)) 5 (ped_add (ped_sumL (ns := (itemsY y).map workI) rfl T.sum (PEF.pld (pef_lcAI 3 (itemsY y) encI workI rfl sc_law_horizon.nd (pid_tup (ped_var 1)) (sl (by show (y.jobs ++ y.tasks).length ≤ _; omega))
        (fun i hi _ _ _ _ _ => ped_call GW hr (pad_cons (ped_var 3) pad_nil) (r_workI hy hi)) (blkOk_by (N := N_law_horizon) (sc := defScope s_law_horizon) (by decide +kernel)))))
        (ped_call GR hr (pad_cons (ped_ixT (ped_var 0) ped_int) (pad_cons (ped_give 2) pad_nil)) (d := .int (recY y.buds (pens y.buds.length (itemsY y)))) ⟨y.buds, pens y.buds.length (itemsY y), _, rfl, .inl rfl, hy.buds, hpl, pens_bd fun i hi => (hy.itemI hi).1, rfl⟩)) ?_ sc_law_horizon.nd)
      refine pbd_cons (psd_set 6 ped_int ?_ sc_law_horizon.nd)
      refine pbd_cons (psd_fold y.tasks encI prodS (fun z => [.kn (encY y), .kn (.tuple ((itemsY y).map encI)), .un, .un, .un, .kn (.int (totY y)), .kn (.int z), .un, .un]) (fun _ => True) 1 PassesOwn.never rfl (pid_tup (ped_ixT (ped_var 0) ped_int)) (by trivial) True.intro (fun z t ht _ => ?_) (fun _ => ?_))
      · have wb := (hy.tasks t ht).gap0
        refine ⟨_, _, pgd_name 7 sc_law_horizon.nd, pbd_one (psd_set 6 (ped_mul (ped_var 6) (ped_ixT (ped_var 7) ped_int) (.inr (by omega))) (And.intro (by trivial) True.intro) sc_law_horizon.nd)⟩
      · show PBD J _ _ [.kn (encY y), .kn (.tuple ((itemsY y).map encI)), .un, .un, .un, .kn (.int (totY y)), .kn (.int (prodY y)), .un, .un] _
        refine pbd_cons (psd_set (d := .int (leftY y)) 8 (ped_sub (ped_var 6) (ped_sumL (ns := y.tasks.map fun t => workI t * (prodY y / t.b)) rfl T.sum (PEF.pld (pef_lcAI 7 y.tasks encI (fun t => workI t * (prodY y / t.b)) rfl sc_law_horizon.nd (pid_tup (ped_ixT (ped_var 0) ped_int)) (sl (by have := hy.tfew; omega))
          (fun t ht _ _ _ _ _ => ped_mul (ped_call GW hr (pad_cons (ped_var 7) pad_nil) (r_workK hy ht)) (ped_fdiv (ped_var 6) (ped_ixT (ped_var 7) ped_int) ⟨(hy.tasks t ht).gap0.1, by have := (hy.tasks t ht).gap0; omega⟩) (.inl (by have := (hy.tasks t ht).work; omega)))
          (blkOk_by (N := N_law_horizon) (sc := defScope s_law_horizon) (by decide +kernel)))))) ?_ sc_law_horizon.nd)
        exact pbd_one (psd_ret (ped_sub ped_int (ped_fdiv (ped_sub ped_int (ped_mul (ped_var 5) (ped_var 6) (.inr (by omega)))) (ped_var 8) ⟨pb3, by omega⟩)) rfl)
end
end Fd
namespace Fd
open PySem PySem.Spec PyProof.Rows L2
local macro_rules | `(tactic| trivial) => `(tactic| exact le_nil)
local macro_rules | `(tactic| trivial) => `(tactic| (refine le_eq ?_; trivial))
local macro_rules | `(tactic| trivial) => `(tactic| (refine le_un ?_; trivial))
/-- the kept property: tables of code objects -/
def tabJ (T : List (Addr × Str)) : JJ where
  J := LamX.Tabs T
  ext := fun H H' h e => h.ext e
  wr := fun H p xs ys h hp r hr => by
    obtain ⟨ps, h1, h2, h3⟩ := h r hr
    refine ⟨ps, ?_, h2, fun pos cv hc => ?_⟩
    · rw [upd_ne (fun z => by rw [z, hp] at h1; cases h1)]
      exact h1
    · obtain ⟨c, e1, e2⟩ := h3 pos cv hc
      refine ⟨c, e1, ?_⟩
      rw [upd_ne (fun z => by rw [z, hp] at e2; cases e2)]
      exact e2
def sortK (ps : List Int) (m : Nat) : List Int := ((List.range m).map fun i : Nat => (i : Int)).mergeSort (PySem.W.dataLe false fun k => .tuple [.int (-(gi ps k)), .int k])
theorem sd_tab {K : PySem.W.Frag} {T : List (Addr × Str)} {F : FT} {B H H' : Hp} {σ : L2.St} {δ : DS} (S : Sd K (tabJ T) F B H σ δ) (e : LamX.ExtN H H') (t : LamX.Tabs T H') : Sd K (tabJ T) F B H' σ δ :=
  S.move ⟨fun b u q => e b u (S.hd.ex b u q) fun ps z => S.hd.nb b ps (by rw [q, z]), t, fun b xs q => ⟨(S.hd.fr b xs q).1, e b _ (S.hd.fr b xs q).2 (fun ps z => by cases z)⟩, S.hd.nb⟩ (Same.refl B) fun i p ds h => by
    obtain ⟨_, h2, _, xs, h4, h5⟩ := S.ow i p ds h
    exact ⟨h2, xs, e _ _ h4 (fun ps z => by cases z), h5⟩
section
variable {T : List (Addr × Str)} {X : Cx} {δ δ1 : DS}
theorem pef_sortLam {e : Expr} {y z : Str} {cc P : Addr} {params : Arguments} {scope : Scope} {m : Nat} {ps : List Int} {p p2 pos pos2 lpos kpos p1 q2 q3 q4 q5 q6 : Pos} (i : Nat) (hu64 : X.A.units + 64 < cLine) (hdp : X.A.depth + 5 < recursionLimit) (hcm : X.calm = true) (hm : X.mg "sorted" = none) (hm2 : X.mg "range" = none) (he : PED (tabJ T) X e δ (.int ((m : Nat) : Int)) δ1) (hδ : δ1[i]? = some (.kn (.tuple (ps.map .int)))) (hm1 : m ≤ 1000) (hl : ps.length = m)
    (TB : LamX.TabB X.base X.mg cc P) (hcode : X.env.code = .ref cc) (hmT : (P, X.env.qual ++ "<lambda>") ∈ T) (hu : ∀ r ∈ T, r.1 = P → r.2 = X.env.qual ++ "<lambda>") (L : LamK y z scope) (hfr : ∀ x ∈ scope.names, x.2 = .free → X.env.scope.names.lookup x.1 = some .cell ∨ X.env.scope.names.lookup x.1 = some .free)
    (hb : ∀ (q : Str) (cl : List (Str × Addr)) (pm cv ctv : Value) (u : Int) (tu : Tok), bindArgs (PySem.W.kla_fn "<lambda>" q params (lamB y z p1 q2 q3 q4 q5 q6) scope cl pm cv ctv) ⟨[.int u tu], []⟩ = pure [(y, .int u tu)])
    (hg : Gl X "sorted" := by rfl) (hg2 : Gl X "range" := by rfl) (hdef : defaultsOf params X.env = ([], []) := by rfl) (hN : X.N[i]? = some z := by rfl)
    (na : starEach [e] X.env = (false, eval e X.env) :: starEach [] X.env := by rfl) (na2 : backTo pos (starEach [.Call (.Name "range" p2) [e] [] pos2] X.env) = (false, eval (.Call (.Name "range" p2) [e] [] pos2) X.env) :: backTo pos (starEach [] X.env) := by rfl)
    (hpl : (backTo pos (starEach [.Call (.Name "range" p2) [e] [] pos2] X.env)).any (·.1) = false := by rfl) : PEF (tabJ T) X (.Call (.Name "sorted" p) [.Call (.Name "range" p2) [e] [] pos2] [⟨some "key", .Lambda params (lamB y z p1 q2 q3 q4 q5 q6) scope lpos, kpos⟩] pos) δ ((sortK ps m).map .int) δ1 := fun F B H σ S Q k =>
  we_of (pe_sortLam hu64 hdp hcm hg hm hg2 hm2 pe_we TB hcode hmT hu L hfr hdef hN hb na na2 hpl) (he F B H σ S _ fun v B1 H1 e1 S1 r1 => by
    obtain ⟨w, h1, h2⟩ := S1.kn i _ hδ
    obtain ⟨t, xs, rfl, h3, h4⟩ := dp_tup h2
    have ex := dpa_ints h4
    subst ex
    refine ⟨m, t, ps, dp_int r1, hm1, S1.hd.j, h1, sqT_ext S1.hd.ex h3, hl, fun H2 q eN t2 hq => ?_⟩
    exact pef_new e1 (sd_tab S1 eN t2) (dpa_of_ints _) k q hq)
end
/-- a def whose code object is known -/
def DfnC (K : PySem.W.Frag) (mg : Str → Option Value) (x : Str) (st : Stmt) (ps : List Str) (cc : Addr) : Prop := ∃ (f : Addr) (oc : Value) (od : Option Addr) (kV doc pm : Value) (an : Option Addr) (ct : Value) (osl : Array (Option Value)),
  K.lookup f = some ⟨oc, od, .func (PySem.W.fnOf x x (defArgs st) (defBody st) (defScope st) .none kV doc pm an (.ref cc) ct), osl⟩ ∧ PySem.W.codeIn K (.ref cc) x = true ∧ mg x = some (.ref f) ∧ PySem.W.keepIn K (.ref f) = true ∧ Binds K (PySem.W.fnOf x x (defArgs st) (defBody st) (defScope st) .none kV doc pm an (.ref cc) ct) ps []
theorem fd_okC {P : Program} {w : World} {K : PySem.W.Frag} {mg : Str → Option Value} {base : Heap} {J : JJ} {k : Nat} {x : Str} {st : Stmt} {cc : Addr} {N ps : List Str} {R : List PyData → PyData → Prop} (D : DfnC K mg x st ps cc) (S : FnScope N ps (defScope st)) (hlen : ∀ ds d, R ds d → ds.length = ps.length)
    (hb : ∀ (f : Addr) (A : Around) (outer : List Env) (s : Shared) (H : Hp) (E : XK), Room k (A.deeper (envOfC x (defScope st) s.heap.objs.size f (.ref cc))) → ∀ ds d, R ds d →
      PBD J (cb P w K mg base N x st f (.ref cc) A outer s H E) (defBody st) (startD N ds) (fin d)) : FD P w K mg base J (k + 1) x ps R := by
  obtain ⟨f, oc, od, kV, doc, pm, an, ct, osl, lk, hcd, hm, hk, hbi⟩ := D
  refine ⟨f, _, fn_of lk hcd S (fun vs H Q E h => ?_) (fun A outer s H vs Q E hr h => ⟨_, PSs.nox pss_wss, ?_⟩), hm, hk, hbi⟩
  · obtain ⟨F, B, ds, d, h1, h2, h3, _⟩ := h
    rw [dpa_len h2]
    exact hlen ds d h3
  · obtain ⟨F, B, ds, d, h1, h2, h3, q⟩ := h
    refine hb f A outer s H E hr ds d h3 F B H _ _ (sd_start N h1 h2) fun o ho => ?_
    cases o with
    | nx δ => exact fun σ B' H' e S' => q _ B' H' e S'.hd (by rw [show d = PyData.none from ho]; exact .non)
    | rt d' δ => exact fun v σ B' H' e S' r => q v B' H' e S'.hd (by rw [← show d' = d from ho]; exact r)
    | bk δ => exact False.elim ho
    | ct δ => exact False.elim ho
end Fd
namespace Fd
open PySem PySem.Spec PyProof.Rows L2
local macro_rules | `(tactic| trivial) => `(tactic| exact le_nil)
local macro_rules | `(tactic| trivial) => `(tactic| (refine le_eq ?_; trivial))
local macro_rules | `(tactic| trivial) => `(tactic| (refine le_un ?_; trivial))
/-! ### the worst recovery -/
def worS (bs : List Bud) (ps : List Int) (z : List Int × List Int × Int) (k : Int) : List Int × List Int × Int :=
  if 0 < gi ps k then ((pathF bs bs.length k).foldl (subA (cntP bs z.1 k)) z.1, z.2.1.set k.toNat (cntP bs z.1 k), z.2.2 + gi ps k * cntP bs z.1 k) else z
def worZ (bs : List Bud) (ps : List Int) : List Int × List Int × Int := (sortK ps bs.length).foldl (worS bs ps) (bs.map (·.cap), List.replicate bs.length 0, 0)
def hgt (ps : List Int) (k : Int) : Int × Int := (0 - gi ps k, k)
theorem sortK_mem {ps : List Int} {n : Nat} {k : Int} (h : k ∈ sortK ps n) : 0 ≤ k ∧ k < n := by
  unfold sortK at h
  rw [List.mem_mergeSort] at h
  obtain ⟨i, hi, rfl⟩ := List.mem_map.mp h
  have := List.mem_range.mp hi
  omega
theorem hgt_le (ps : List Int) (a b : Int) : PySem.W.dataLe false (fun k => PyData.tuple [.int (-(gi ps k)), .int k]) a b = PySem.W.dataLe false encS (hgt ps a) (hgt ps b) := by
  have e : ∀ k, encS (hgt ps k) = .tuple [.int (-(gi ps k)), .int k] := fun k => by
    unfold encS hgt
    dsimp only
    rw [Int.zero_sub]
  rw [PySem.W.dataLe_eq, PySem.W.dataLe_eq]
  show cond false _ _ = cond false _ _
  simp only [cond_false, e]
theorem order_sortK (ps : List Int) (n : Nat) : order ps n = (sortK ps n).map (hgt ps) := by
  unfold order sortK heights
  rw [List.map_mergeSort (s := PySem.W.dataLe false encS) fun a _ b _ => (hgt_le ps a b)]
  rw [List.map_map]
  rfl
theorem sortK_down (ps : List Int) (n : Nat) : (sortK ps n).Pairwise fun a b => gi ps b ≤ gi ps a := by
  have h := List.pairwise_mergeSort (le := PySem.W.dataLe false fun k => PyData.tuple [.int (-(gi ps k)), .int k]) (fun a b c h1 h2 => ?_) (fun a b => ?_) ((List.range n).map fun i : Nat => (i : Int))
  · refine h.imp fun {a b} hab => ?_
    rw [PySem.W.dataLe_ii (fun k => -(gi ps k)) (fun k => k)] at hab
    have := of_decide_eq_true hab
    omega
  · rw [PySem.W.dataLe_ii (fun k => -(gi ps k)) (fun k => k)] at h1 h2 ⊢
    have := of_decide_eq_true h1
    have := of_decide_eq_true h2
    refine decide_eq_true ?_
    omega
  · rw [PySem.W.dataLe_ii (fun k => -(gi ps k)) (fun k => k)]
    simp only [Bool.or_eq_true, decide_eq_true_eq]
    omega
theorem rec_zero (bs : List Bud) (ps : List Int) : ∀ (l : List Int) (z : List Int × Int), (∀ k, k ∈ l → gi ps k = 0) → ((l.map (hgt ps)).foldl (recS bs) z).2 = z.2
  | [], _, _ => rfl
  | k :: l, z, h => by
    rw [List.map_cons, List.foldl_cons, rec_zero bs ps l _ fun x hx => h x (List.mem_cons_of_mem _ hx)]
    show z.2 - (0 - gi ps k) * _ = z.2
    rw [h k List.mem_cons_self]
    simp
theorem wor_zero (bs : List Bud) (ps : List Int) : ∀ (l : List Int) (z : List Int × List Int × Int), (∀ k, k ∈ l → gi ps k = 0) → l.foldl (worS bs ps) z = z
  | [], _, _ => rfl
  | k :: l, z, h => by
    have e : worS bs ps z k = z := if_neg (by rw [h k List.mem_cons_self]; decide)
    rw [List.foldl_cons, e, wor_zero bs ps l z fun x hx => h x (List.mem_cons_of_mem _ hx)]
theorem wor_rec (bs : List Bud) (ps : List Int) : ∀ (l : List Int) (left fs : List Int) (tot : Int), (l.Pairwise fun a b => gi ps b ≤ gi ps a) → (∀ k, k ∈ l → 0 ≤ gi ps k) → (l.foldl (worS bs ps) (left, fs, tot)).2.2 = ((l.map (hgt ps)).foldl (recS bs) (left, tot)).2
  | [], _, _, _, _, _ => rfl
  | k :: l, left, fs, tot, hp, h0 => by
    obtain ⟨p1, p2⟩ := List.pairwise_cons.mp hp
    have k0 := h0 k List.mem_cons_self
    by_cases q : 0 < gi ps k
    · have e : worS bs ps (left, fs, tot) k = ((pathF bs bs.length k).foldl (subA (cntP bs left k)) left, fs.set k.toNat (cntP bs left k), tot + gi ps k * cntP bs left k) := if_pos q
      have e2 : recS bs (left, tot) (hgt ps k) = ((pathF bs bs.length k).foldl (subA (cntP bs left k)) left, tot + gi ps k * cntP bs left k) := by
        unfold recS hgt
        dsimp only
        rw [Int.zero_sub, Int.neg_mul]
        congr 1
        omega
      rw [List.map_cons, List.foldl_cons, List.foldl_cons, e, e2]
      exact wor_rec bs ps l _ _ _ p2 fun x hx => h0 x (List.mem_cons_of_mem _ hx)
    · have z : ∀ x, x ∈ k :: l → gi ps x = 0 := fun x hx => by
        rcases List.mem_cons.mp hx with e | hx'
        · rw [e]; omega
        · have := p1 x hx'
          have := h0 x hx
          omega
      rw [rec_zero bs ps (k :: l) _ z, wor_zero bs ps (k :: l) _ z]
theorem worZ_tot {bs : List Bud} {ps : List Int} (hp : ∀ k : Int, 0 ≤ k → 0 ≤ gi ps k ∧ gi ps k ≤ 4) : (worZ bs ps).2.2 = recY bs ps := by
  unfold worZ recY
  rw [order_sortK]
  exact wor_rec bs ps _ _ _ _ (sortK_down ps _) fun k hk => (hp k (sortK_mem hk).1).1
section
variable {P : Program} {w : World} {K : PySem.W.Frag} {mg : Str → Option Value} {base : Heap}
def lamQ : Str := (envOfC "worst" (defScope s_worst) 0 0 .none).qual ++ "<lambda>"
def R_wor (ds : List PyData) (d : PyData) : Prop := ∃ (bs : List Bud) (ps : List Int), ds = [.tuple (bs.map encB), .tuple (ps.map .int)] ∧ WfB bs ∧ ps.length = bs.length ∧ (∀ k : Int, 0 ≤ k → 0 ≤ gi ps k ∧ gi ps k ≤ 4) ∧ d = .tuple [.int (worZ bs ps).2.2, .tuple ((worZ bs ps).2.1.map .int)]
theorem fd_worst {cc PT : Addr} (D : DfnC K mg "worst" s_worst p_worst cc) (TB : LamX.TabB base mg cc PT) (T : Bt mg) (G : FD P w K mg base (tabJ [(PT, lamQ)]) 1 "above" p_above (R_path fun bs k => pathF bs bs.length (gp bs k))) : FD P w K mg base (tabJ [(PT, lamQ)]) 2 "worst" p_worst R_wor := by
  refine fd_okC D sc_worst (fun ds d h => ?_) (fun f A outer s H E hr ds d h => ?_)
  · obtain ⟨_, _, rfl, _⟩ := h
    rfl
  · obtain ⟨bs, ps, rfl, W, hl, hp, rfl⟩ := h
    have hf := W.few
    have hu : (cb P w K mg base N_worst "worst" s_worst f (.ref cc) A outer s H E).A.units + 64 < cLine := by have := hr.un; show (A.deeper _).units + 64 < cLine; omega
    have hdp : (cb P w K mg base N_worst "worst" s_worst f (.ref cc) A outer s H E).A.depth + 5 < recursionLimit := by have := hr.dp; show (A.deeper _).depth + 5 < recursionLimit; omega
    refine pbd_cons (psd_setO 2 (pef_lcAI 3 bs encB (·.cap) rfl sc_worst.nd (pid_tup (ped_var 0)) (sl (by omega)) (fun b _ _ _ _ _ _ => ped_ixT (ped_var 3) ped_int) (blkOk_by (N := N_worst) (sc := defScope s_worst) (by decide +kernel))) (fun p => ?_) sc_worst.nd)
    refine pbd_cons (psd_setO 4 (pef_rep (pef_lst (pad_cons ped_int pad_nil)) (ped_lenM T.len (ped_var 0)) (by omega) (sl (by omega))) (fun p2 => ?_) sc_worst.nd)
    refine pbd_cons (psd_set 5 ped_int ?_ sc_worst.nd)
    refine pbd_cons (psd_fold (sortK ps bs.length) .int (worS bs ps) (fun z => [.kn (.tuple (bs.map encB)), .kn (.tuple (ps.map .int)), .ow p (z.1.map .int), .un, .ow p2 (z.2.1.map .int), .kn (.int z.2.2), .un, .un, .un, .un]) (fun z => z.1.length = bs.length ∧ z.2.1.length = bs.length) (bs.map (·.cap), List.replicate bs.length 0, 0) PassesOwn.never rfl
      (pid_list (PEF.ped (pef_sortLam (m := bs.length) 1 hu hdp rfl T.sorted T.range (ped_lenM T.len (ped_var 0)) rfl (by omega) hl TB rfl (List.mem_singleton.mpr rfl) (fun r hr _ => by rw [List.mem_singleton.mp hr]; rfl)
        ⟨rfl, rfl, rfl, by decide +kernel, rfl, rfl, by decide, by decide, by decide⟩ (by show ∀ x : Str × NameKind, x ∈ _ → x.2 = NameKind.free → (defScope s_worst).names.lookup x.1 = some .cell ∨ (defScope s_worst).names.lookup x.1 = some .free; decide +kernel) (fun _ _ _ _ _ _ _ => rfl)))) ?_ ⟨List.length_map _, List.length_replicate⟩ (fun z k hm hz => ?_) (fun hz => ?_))
    · refine le_eq (le_eq (le_ow rfl (le_un (le_ow ?_ (by trivial)))))
      exact rep_int _ _
    · obtain ⟨left, fs, tot⟩ := z
      obtain ⟨z1, z2⟩ := hz
      have z1 : left.length = bs.length := z1
      have z2 : fs.length = bs.length := z2
      have hk := sortK_mem hm
      have hkp := hp k hk.1
      have hpl := pathF_len (bs := bs) bs.length k
      have hne : (pathF bs bs.length k).map (gi left) ≠ [] := by
        rw [pathF_step W hk.1 hk.2]
        simp
      refine ⟨_, _, pgd_name 6 sc_worst.nd, pbd_cons (psd_set (d := .list ((pathF bs bs.length k).map .int)) 7 (PED.eq (PEF.ped (pef_cat (PEF.ped (pef_lst (pad_cons (ped_var 6) pad_nil))) (ped_call G hr (pad_cons (ped_var 0) (pad_cons (ped_var 6) pad_nil)) ⟨bs, k, rfl, W, hk.1, hk.2, rfl⟩) (sl (by
        have := pathF_len (bs := bs) bs.length (gp bs k)
        show 1 + ((pathF bs bs.length (gp bs k)).map PyData.int).length ≤ _
        rw [List.length_map]
        omega)))) (by rw [pathF_step W hk.1 hk.2]; rfl)) ?_ sc_worst.nd)⟩
      refine pbd_cons (psd_set (d := .int (cntP bs left k)) 8 (ped_minL (ns := (pathF bs bs.length k).map (gi left)) rfl T.min (PEF.pld (pef_lcAI 9 (pathF bs bs.length k) .int (gi left) rfl sc_worst.nd (pid_list (ped_var 7)) (sl (by omega))
        (fun x hx _ _ _ _ _ => ped_ixOI (ns := left) 2 (ped_var 9) (by have := pathF_mem W _ _ x hk.2 hx; omega)) (blkOk_by (N := N_worst) (sc := defScope s_worst) (by decide +kernel)))) hne) ?_ sc_worst.nd)
      refine pbd_one (psd_if (ptd_gt (ped_ixT (ped_var 1) (ped_var 6) (atI_gi (ns := ps) hk.1 (by omega))) ped_int) (fun q => ?_) (fun q => ?_))
      · have e : worS bs ps (left, fs, tot) k = ((pathF bs bs.length k).foldl (subA (cntP bs left k)) left, fs.set k.toNat (cntP bs left k), tot + gi ps k * cntP bs left k) := if_pos (of_decide_eq_true q)
        rw [e]
        refine pbd_cons (psd_setItemI (ns := fs) 4 (ped_var 8) (ped_var 6) (by omega) ?_)
        refine pbd_cons (psd_set 5 (ped_add (ped_var 5) (ped_mul (ped_ixT (ped_var 1) (ped_var 6) (atI_gi (ns := ps) hk.1 (by omega))) (ped_var 8) (.inl (by omega)))) ?_ sc_worst.nd)
        refine pbd_one (psd_fold (pathF bs bs.length k) .int (subA (cntP bs left k)) (fun qs => [.kn (.tuple (bs.map encB)), .kn (.tuple (ps.map .int)), .ow p (qs.map .int), .un, .ow p2 ((fs.set k.toNat (cntP bs left k)).map .int), .kn (.int (tot + gi ps k * cntP bs left k)), .un, .un, .kn (.int (cntP bs left k)), .un]) (fun qs => qs.length = bs.length) left PassesOwn.never rfl (pid_list (ped_var 7)) ?_ z1 (fun qs x hx hq => ?_) (fun hq => ?_))
        · exact le_eq (le_eq (le_eq (by trivial)))
        · have bx := pathF_mem W _ _ x hk.2 hx
          refine ⟨_, _, pgd_name 9 sc_worst.nd, pbd_one (psd_setItemI (ns := qs) 2 (ped_sub (ped_ixOI (ns := qs) 2 (ped_var 9) (by omega)) (ped_var 8)) (ped_var 9) (by omega) (And.intro (le_eq (le_eq (le_ow rfl (by trivial)))) ?_))⟩
          show (subA _ qs x).length = bs.length
          unfold subA
          rw [List.length_set]
          exact hq
        · refine And.intro (le_eq (le_eq (le_ow rfl (by trivial)))) ⟨hq, ?_⟩
          show (fs.set _ _).length = _
          rw [List.length_set]
          exact z2
      · have e : worS bs ps (left, fs, tot) k = (left, fs, tot) := if_neg (of_decide_eq_false q)
        rw [e]
        exact pbd_nil (And.intro (le_eq (le_eq (le_ow rfl (by trivial)))) ⟨z1, z2⟩)
    · exact pbd_one (psd_ret (ped_tup (pad_cons (ped_var 5) (pad_cons (ped_tupL T.tuple (pld_own 4)) pad_nil))) rfl)
end
end Fd
/-! (x,) * n. -/
namespace Fd
open PySem PySem.Spec PyProof.Rows L2
theorem tup_mul1 (l : Addr) (its : Array Value) (n : Nat) (dd : Option Addr) (sl : Array (Option Value)) (u : Tok) :
    Meets (Builtin.«tuple.__mul__» ⟨[.ref l, .int 1 u], []⟩) (fun _ R s => s.heap.get? l = some { cls := .type "tuple", dict := dd, data := .seq its n, slots := sl } ∧ R (.ok (.ret (Value.ref l))) s) :=
  .of_wp fun prog w A R s h => by
    obtain ⟨hp, g, d, tk, os⟩ := s
    obtain ⟨hl, h⟩ := h
    have f1 := AutoSeq1.idx_int
    wp_walk using wpAny_loadPart' hl
    exact ⟨_, rfl, h⟩
section
variable {J : JJ} {X : Cx} {δ δ1 δ2 : DS} {pos : Pos} {a b : Expr}
def rRep1 (K : PySem.W.Frag) : R2 := fun x y H Q => (∃ l xs, x = .ref l ∧ y = .int 1 ∧ SqT K H l xs ∧ Q (.ref l) H) ∨ rRepT K x y H Q
theorem op_rep1 : OpR X (binaryOp .Mult) (rRep1 X.K) := by
  intro pins s σ H x y v u Q I rx ry h
  rcases h with ⟨l, xs, rfl, rfl, hT, q⟩ | h
  · cases rx
    obtain ⟨t, rfl⟩ := ry
    obtain ⟨its, r, ⟨⟨cls, dd, data, sl⟩, ho, hc, n, hd⟩, hs⟩ := I.tuple hT
    simp only at hc hd
    subst hc hd
    exact wpAny_binaryOp_repeat_ref (T := "tuple") (U := "int") (by decide) ⟨_, ho, rfl⟩ (fun s' => typeIs_int s' 1 t) noFill_tuple_mul F.fills_int_mul F.slot_int_rmul repeat_tuple F.slot_int_index.lookup
      (call_meets F.slot_int_rmul (typeIs_int s 1 t) F.entry_int_rmul (F.args_int_rmul_2 _ _) (int_rmul_tuple 1 t l its.toArray n dd sl)
        ⟨ho, rfl, ⟨_, ho, rfl⟩, call_meets F.slot_tuple_mul ⟨_, ho, rfl⟩ F.entry_tuple_mul (F.args_tuple_mul_2 _ _) (tup_mul1 l its.toArray n dd sl t) ⟨ho, .ref l, H, I, rfl, q⟩⟩)
  · exact op_repT pins s σ H x y v u Q I rx ry h
theorem rep_flat {α : Type} (x : α) : ∀ n : Nat, (List.replicate n [x]).flatten = List.replicate n x
  | 0 => rfl
  | n + 1 => by rw [List.replicate_succ, List.flatten_cons, rep_flat x n]; rfl
theorem ped_repT {d : PyData} {n : Nat} (ha : PED J X a δ (.tuple [d]) δ1) (hb : PED J X b δ1 (.int (n : Nat)) δ2) (h1 : 1 ≤ n) (h2 : n ≤ 1000) : PED J X (.BinOp a .Mult b pos) δ (.tuple (List.replicate n d)) δ2 :=
  ped_op2 op_rep1 ha hb fun F B H σ v u S r1 r2 Q k => by
    obtain ⟨l, xs, rfl, h3, h4⟩ := dp_tup r1
    obtain ⟨x, rfl, rx⟩ : ∃ x, xs = [x] ∧ Dp X.K B x d := by
      cases h4 with
      | cons h t =>
        cases t
        exact ⟨_, rfl, h⟩
    by_cases e : n = 1
    · subst e
      exact .inl ⟨l, [x], rfl, dp_int r2, sqT_ext S.hd.ex h3, k _ B H (Same.refl B) S r1⟩
    · refine .inr ⟨l, (n : Nat), [x], rfl, dp_int r2, sqT_ext S.hd.ex h3, by simp, by omega, by omega, by simp, fun p hp => ?_⟩
      have e2 : (List.replicate ((n : Nat) : Int).toNat [x]).flatten = List.replicate n x := rep_flat x n
      rw [e2]
      have bp := S.hd.free hp
      exact k _ (upd B p (.tup (List.replicate n x))) _ (same_upd bp) (S.alloc hp) (.tup (.of upd_same) (dpa_ext (same_upd bp) _ _ (dpa_rep rx n)))
end
/-! ### an item of a tuple raised -/
theorem cut_set (ns : List Int) (v : Int) (k : Nat) (h : k < ns.length) : cutD (ns.map .int) none (some (k : Nat)) ++ [.int v] ++ cutD (ns.map .int) (some (((k : Nat) : Int) + 1)) none = (ns.set k v).map .int := by
  unfold cutD
  rw [HT.sIx_none, HT.sIx_none, HT.sIx_nat, show ((k : Nat) : Int) + 1 = ((k + 1 : Nat) : Int) by omega, HT.sIx_nat, List.drop_zero, Nat.sub_zero, List.length_map]
  rw [Nat.min_eq_left (by omega), Nat.min_eq_left (by omega), List.take_of_length_le (l := (ns.map PyData.int).drop (k + 1)) (by rw [List.length_drop, List.length_map]; omega)]
  rw [← List.map_take, ← List.map_drop]
  rw [show [PyData.int v] = [v].map PyData.int from rfl, ← List.map_append, ← List.map_append, List.set_eq_take_append_cons_drop, if_pos h, List.append_assoc]
  rfl
theorem cut_len (ns : List Int) (lo hi : Option Int) : (cutD (ns.map .int) lo hi).length ≤ ns.length := by
  unfold cutD
  rw [List.length_take, List.length_drop, List.length_map]
  omega
end Fd
/-! The greedy: one more fault, the fewest. -/
namespace Fd
open PySem PySem.Spec PyProof.Rows L2
def incF (fs : List Int) (k : Int) : List Int := fs.set k.toNat (gi fs k + 1)
def omS (bs : List Bud) (ps fs : List Int) (best : Int) (k : Nat) : Int := if 0 < gi ps (k : Nat) ∧ fitsY bs (incF fs (k : Nat)) = true ∧ (best < 0 ∨ gi ps best < gi ps (k : Nat)) then ((k : Nat) : Int) else best
def omY (bs : List Bud) (ps fs : List Int) : Int := (List.range bs.length).foldl (omS bs ps fs) (-1)
theorem incF_len (fs : List Int) (k : Int) : (incF fs k).length = fs.length := List.length_set
theorem omF_bd (bs : List Bud) (ps fs : List Int) {n : Nat} : ∀ (l : List Nat) (b : Int), (∀ k, k ∈ l → k < n) → -1 ≤ b ∧ b < n → -1 ≤ l.foldl (omS bs ps fs) b ∧ l.foldl (omS bs ps fs) b < n
  | [], _, _, h => h
  | k :: l, b, hl, h => by
    rw [List.foldl_cons]
    refine omF_bd bs ps fs l _ (fun x hx => hl x (List.mem_cons_of_mem _ hx)) ?_
    have hk := hl k List.mem_cons_self
    unfold omS
    split <;> omega
theorem omY_bd (bs : List Bud) (ps fs : List Int) : -1 ≤ omY bs ps fs ∧ omY bs ps fs < bs.length := omF_bd bs ps fs _ _ (fun k hk => List.mem_range.mp hk) (by omega)
theorem sum_set : ∀ (fs : List Int) (k : Nat) (v : Int), k < fs.length → (fs.set k v).sum = fs.sum - fs.getD k 0 + v
  | [], k, v, h => absurd h (Nat.not_lt_zero _)
  | a :: fs, 0, v, h => by
    rw [List.set_cons_zero, List.sum_cons, List.sum_cons, List.getD_cons_zero]
    omega
  | a :: fs, k + 1, v, h => by
    rw [List.set_cons_succ, List.sum_cons, List.sum_cons, List.getD_cons_succ, sum_set fs k v (by simpa using h)]
    omega
theorem incF_sum {fs : List Int} {k : Int} (h0 : 0 ≤ k) (h : k < fs.length) : (incF fs k).sum = fs.sum + 1 := by
  unfold incF
  rw [sum_set fs _ _ (by omega)]
  unfold gi
  omega
/-- the sum over what the two differ by -/
theorem zsum {ps fs : List Int} {k : Int} {n : Nat} (h0 : 0 ≤ k) (h : k < n) (hl : fs.length = n) : ((List.range n).map fun i => gi ps (i : Nat) * (gi (incF fs k) (i : Nat) - gi fs (i : Nat))).sum = gi ps k := by
  have e : ∀ i : Nat, gi (incF fs k) (i : Nat) - gi fs (i : Nat) = if k = (i : Nat) then 1 else 0 := fun i => by
    unfold incF
    rw [gi_set (by omega) (by omega)]
    split
    · rename_i q
      rw [← q]
      omega
    · omega
  have z : ∀ m : Nat, ((List.range m).map fun i => gi ps (i : Nat) * (gi (incF fs k) (i : Nat) - gi fs (i : Nat))).sum = if k < m then gi ps k else 0 := fun m => by
    induction m with
    | zero => rw [if_neg (by omega)]; rfl
    | succ m ih =>
      rw [List.range_succ, List.map_append, List.sum_append, ih, List.map_cons, List.map_nil, List.sum_cons, List.sum_nil, e m]
      by_cases q : k = (m : Nat)
      · rw [if_neg (by omega), if_pos q, if_pos (by omega), q]
        omega
      · rw [if_neg q]
        by_cases q2 : k < m
        · rw [if_pos q2, if_pos (by omega)]
          omega
        · rw [if_neg q2, if_neg (by omega)]
          omega
  rw [z n, if_pos h]
def fewF (bs : List Bud) (ps : List Int) (most : Int) : Nat → Int → List Int → Option (List Int)
  | 0, _, _ => none
  | f + 1, left, fs => if 0 ≤ left ∧ fs.sum < most then (if omY bs ps fs < 0 then none else fewF bs ps most f (left - gi ps (omY bs ps fs)) (incF fs (omY bs ps fs))) else if 0 ≤ left then none else some fs
def fewY (y : Sys) (s e most : Int) : Option (List Int) := fewF y.buds (penY y s e) most (most.toNat + 1) (e - s - demandY y s e) (List.replicate y.buds.length 0)
def optT : Option (List Int) → PyData
  | none => .none
  | some fs => .tuple (fs.map .int)
theorem fewF_len {bs : List Bud} {ps : List Int} {most : Int} : ∀ (f : Nat) (left : Int) (fs r : List Int), fewF bs ps most f left fs = some r → r.length = fs.length
  | 0, _, _, _, h => by cases h
  | f + 1, left, fs, r, h => by
    unfold fewF at h
    split at h
    · split at h
      · cases h
      · exact (fewF_len f _ _ r h).trans (incF_len _ _)
    · split at h
      · cases h
      · cases h
        rfl
theorem rep_sum (n : Nat) : (List.replicate n (0 : Int)).sum = 0 := by
  induction n with
  | zero => rfl
  | succ n ih => rw [List.replicate_succ, List.sum_cons, ih]; rfl
end Fd
namespace Fd
open PySem PySem.Spec PyProof.Rows L2
local macro_rules | `(tactic| trivial) => `(tactic| exact le_nil)
local macro_rules | `(tactic| trivial) => `(tactic| (refine le_eq ?_; trivial))
local macro_rules | `(tactic| trivial) => `(tactic| (refine le_un ?_; trivial))
theorem rateY_bd {y : Sys} (h : WfY y) : 0 ≤ (rateY y).1 ∧ (rateY y).1 < (rateY y).2 ∧ (rateY y).2 ≤ 10000 := by
  have bd := rateZ_bd h
  have g1 : 0 < Int.gcd (rateZ y).1 (rateZ y).2 := Int.gcd_pos_of_ne_zero_right _ (by omega)
  unfold rateY
  dsimp only
  generalize hg : ((Int.gcd (rateZ y).1 (rateZ y).2 : Nat) : Int) = g
  have g0 : 0 < g := by omega
  obtain ⟨p, hp⟩ : g ∣ (rateZ y).1 := hg ▸ Int.gcd_dvd_left ..
  obtain ⟨q, hq⟩ : g ∣ (rateZ y).2 := hg ▸ Int.gcd_dvd_right ..
  rw [hp, hq] at bd
  rw [hp, hq, Int.mul_ediv_cancel_left _ (by omega), Int.mul_ediv_cancel_left _ (by omega)]
  obtain ⟨b1, b2, b3, b4, b5⟩ := bd
  have c1 : p < q := Int.lt_of_mul_lt_mul_left b5 (by omega)
  have c2 : 0 ≤ p := Int.nonneg_of_mul_nonneg_right b1 (by omega)
  have c3 : q ≤ g * q := by
    have := Int.mul_le_mul_of_nonneg_right (show 1 ≤ g by omega) (show 0 ≤ q by omega)
    omega
  omega
section
variable {P : Program} {w : World} {K : PySem.W.Frag} {mg : Str → Option Value} {base : Heap} {J : JJ}
theorem fd_horizon_of (D : Dfn K mg "horizon_of" s_horizon_of p_horizon_of) (T : Bt mg) (GT : FD P w K mg base J 3 "rate_of" p_rate_of (R_sys fun y => .tuple [.int (rateY y).1, .int (rateY y).2])) (GW : FD P w K mg base J 2 "work_of" p_work_of R_work) (GL : FD P w K mg base J 1 "longest" p_longest R_longest)
    (GR : FD P w K mg base J 2 "worst" p_worst R_wor) : FD P w K mg base J 4 "horizon_of" p_horizon_of (R_sys fun y => .int (horY y)) := by
  refine fd_ok D sc_horizon_of (fun ds d h => ?_) (fun f cdv A outer s H E hr ds d h => ?_)
  · obtain ⟨_, rfl, _⟩ := h
    rfl
  · obtain ⟨y, rfl, hy, rfl⟩ := h
    have hi5 := hy.items
    have hpl := pens_len y.buds.length (itemsY y)
    have hpb := pens_bd (n := y.buds.length) (items := itemsY y) fun i hi => (hy.itemI hi).1
    have rb := rateY_bd hy
    refine pbd_cons (psd_asg (ped_call GT hr (pad_cons (ped_var 0) pad_nil) ⟨y, rfl, hy, rfl⟩) (pgd_tup rfl (pgsd_cons (pgd_name 1 sc_horizon_of.nd) (pgsd_cons (pgd_name 2 sc_horizon_of.nd) pgsd_nil))) ?_)
    refine pbd_cons (psd_set 3 (ped_items hy (ped_ixT (ped_var 0) ped_int) (ped_ixT (ped_var 0) ped_int)) ?_ sc_horizon_of.nd)
    refine pbd_cons (psd_set (d := .int (totY y)) 4 (PED.eq (ped_add (ped_sumL (ns := (itemsY y).map workI) rfl T.sum (PEF.pld (pef_lcAI 5 (itemsY y) encI workI rfl sc_horizon_of.nd (pid_tup (ped_var 3)) (sl (by show (y.jobs ++ y.tasks).length ≤ _; omega))
        (fun i hi _ _ _ _ _ => ped_call GW (hr.mono (by decide)) (pad_cons (ped_var 5) pad_nil) (r_workI hy hi)) (blkOk_by (N := N_horizon_of) (sc := defScope s_horizon_of) (by decide +kernel)))))
        (ped_ixT (ped_call GR (hr.mono (by decide)) (pad_cons (ped_ixT (ped_var 0) ped_int) (pad_cons (ped_call GL (hr.mono (by decide)) (pad_cons (ped_var 3) (pad_cons (ped_ixT (ped_var 0) ped_int) pad_nil)) ⟨itemsY y, y.buds, _, rfl, .inr rfl, hy.buds.few, fun i hi => (hy.itemI hi).1, rfl⟩) pad_nil)) ⟨y.buds, pens y.buds.length (itemsY y), rfl, hy.buds, hpl, hpb, rfl⟩) ped_int)) ?_) ?_ sc_horizon_of.nd)
    · show PyData.int (((itemsY y).map workI).sum + (worZ y.buds (pens y.buds.length (itemsY y))).2.2) = .int (totY y)
      unfold totY
      rw [worZ_tot hpb]
    · refine pbd_one (psd_ret (ped_neg (ped_fdiv (ped_mul (ped_neg (ped_var 4)) (ped_var 2) (.inr (by omega))) (ped_sub (ped_var 2) (ped_var 1)) ⟨by omega, by omega⟩)) ?_)
      show PyData.int _ = .int (horY y)
      rw [← hor_prog hy]
/-! ### one more -/
def R_one (ds : List PyData) (d : PyData) : Prop := ∃ (bs : List Bud) (ps fs : List Int), ds = [.tuple (bs.map encB), .tuple (ps.map .int), .tuple (fs.map .int)] ∧ WfB bs ∧ ps.length = bs.length ∧ fs.length = bs.length ∧ d = if omY bs ps fs < 0 then .none else .tuple ((incF fs (omY bs ps fs)).map .int)
theorem fd_one_more (D : Dfn K mg "one_more" s_one_more p_one_more) (T : Bt mg) (G : FD P w K mg base J 3 "is_within" p_is_within (R_bf fun bs fs => .bool (fitsY bs fs))) : FD P w K mg base J 4 "one_more" p_one_more R_one := by
  refine fd_ok D sc_one_more (fun ds d h => ?_) (fun f cdv A outer s H E hr ds d h => ?_)
  · obtain ⟨_, _, _, rfl, _⟩ := h
    rfl
  · obtain ⟨bs, ps, fs, rfl, W, hp, hf, rfl⟩ := h
    have hn := W.few
    refine pbd_cons (psd_set 3 (ped_neg ped_int) ?_ sc_one_more.nd)
    refine pbd_cons (psd_fold (List.range bs.length) (fun i => .int ((i : Nat) : Int)) (omS bs ps fs) (fun b => [.kn (.tuple (bs.map encB)), .kn (.tuple (ps.map .int)), .kn (.tuple (fs.map .int)), .kn (.int b), .un, .un]) (fun b => -1 ≤ b ∧ b < bs.length) (-1) PassesOwn.never rfl (pid_rgN T.range (PED.eq (ped_lenM T.len (ped_var 1)) (by rw [hp])) (by omega)) (le_eq (le_eq (le_eq (le_kn rfl (by trivial))))) (by omega) (fun b k hm hb => ?_) (fun hb => ?_))
    · have hk := List.mem_range.mp hm
      refine ⟨_, _, pgd_name 4 sc_one_more.nd, pbd_cons (psd_set (d := .tuple ((incF fs (k : Nat)).map .int)) 5 (PED.eq (ped_catT (ped_catT (ped_slTo (ped_var 2) (ped_var 4)) (ped_tup (pad_cons (ped_add (ped_ixT (ped_var 2) (ped_var 4) (atI_gi (ns := fs) (by omega) (by omega))) ped_int) pad_nil)) (sl ?_)) (ped_slFrom (ped_var 2) (ped_add (ped_var 4) ped_int)) (sl ?_)) ?_) ?_ sc_one_more.nd)⟩
      · have := cut_len fs none (some ((k : Nat) : Int))
        show _ + 1 ≤ _
        omega
      · have h1 := cut_len fs none (some ((k : Nat) : Int))
        have h2 := cut_len fs (some (((k : Nat) : Int) + 1)) none
        rw [List.length_append]
        show _ + 1 + _ ≤ _
        omega
      · rw [cut_set fs _ k (by omega)]
        rfl
      · have hlt : (omS bs ps fs b k) = if (decide (0 < gi ps (k : Nat)) && (fitsY bs (incF fs (k : Nat)) && (decide (b < 0) || decide (gi ps b < gi ps (k : Nat))))) = true then ((k : Nat) : Int) else b := by
          unfold omS
          simp only [Bool.and_eq_true, Bool.or_eq_true, decide_eq_true_eq]
        have hbd : -1 ≤ omS bs ps fs b k ∧ omS bs ps fs b k < bs.length := by
          unfold omS
          split <;> omega
        refine pbd_one (psd_if (q := decide (0 < gi ps (k : Nat)) && (fitsY bs (incF fs (k : Nat)) && (decide (b < 0) || decide (gi ps b < gi ps (k : Nat))))) (ptd_and (ptd_gt (ped_ixT (ped_var 1) (ped_var 4) (atI_gi (ns := ps) (by omega) (by omega))) ped_int) (fun _ => pwd_and (ptd_val (ped_call G hr (pad_cons (ped_var 0) (pad_cons (ped_var 5) pad_nil)) ⟨bs, incF fs (k : Nat), rfl, W, (incF_len _ _).trans hf, rfl⟩)) (fun _ => pwd_and1 (ptd_or (ptd_lt (ped_var 3) ped_int) (fun q => pwd_or1 (ptd_gt (ped_ixT (ped_var 1) (ped_var 4) (atI_gi (ns := ps) (by omega) (by omega))) (ped_ixT (ped_var 1) (ped_var 3) (atI_gi (ns := ps) (by have := of_decide_eq_false q; omega) (by omega))))))))) (fun q => ?_) (fun q => ?_))
        · rw [if_pos q] at hlt
          refine pbd_one (psd_set 3 (ped_var 4) (And.intro (le_eq (le_eq (le_eq (le_kn ?_ (by trivial))))) hbd) sc_one_more.nd)
          rw [hlt]
        · rw [if_neg (by rw [q]; decide)] at hlt
          refine pbd_nil (And.intro (le_eq (le_eq (le_eq (le_kn ?_ (by trivial))))) hbd)
          rw [hlt]
    · show PBD J _ _ [.kn (.tuple (bs.map encB)), .kn (.tuple (ps.map .int)), .kn (.tuple (fs.map .int)), .kn (.int (omY bs ps fs)), .un, .un] _
      have hb : -1 ≤ omY bs ps fs ∧ omY bs ps fs < bs.length := hb
      refine pbd_cons (psd_if (ptd_lt (ped_var 3) ped_int) (fun q => ?_) (fun q => ?_))
      · refine pbd_one (psd_ret ped_none ?_)
        show PyData.none = _
        rw [if_pos (of_decide_eq_true q)]
      · have q' : ¬ omY bs ps fs < 0 := of_decide_eq_false q
        obtain ⟨k, hk⟩ := Int.eq_ofNat_of_zero_le (show 0 ≤ omY bs ps fs by omega)
        rw [hk] at hb q' ⊢
        refine pbd_nil (pbd_one (psd_ret (ped_catT (ped_catT (ped_slTo (ped_var 2) (ped_var 3)) (ped_tup (pad_cons (ped_add (ped_ixT (ped_var 2) (ped_var 3) (atI_gi (ns := fs) (by omega) (by omega))) ped_int) pad_nil)) (sl ?_)) (ped_slFrom (ped_var 2) (ped_add (ped_var 3) ped_int)) (sl ?_)) ?_))
        · have := cut_len fs none (some ((k : Nat) : Int))
          show _ + 1 ≤ _
          omega
        · have h1 := cut_len fs none (some ((k : Nat) : Int))
          have h2 := cut_len fs (some (((k : Nat) : Int) + 1)) none
          rw [List.length_append]
          show _ + 1 + _ ≤ _
          omega
        · show PyData.tuple _ = _
          rw [if_neg q', cut_set fs _ k (by omega)]
          rfl
end
end Fd
namespace Fd
open PySem PySem.Spec PyProof.Rows L2
local macro_rules | `(tactic| trivial) => `(tactic| exact le_nil)
local macro_rules | `(tactic| trivial) => `(tactic| (refine le_eq ?_; trivial))
local macro_rules | `(tactic| trivial) => `(tactic| (refine le_un ?_; trivial))
theorem penY_len (y : Sys) (s e : Int) : (penY y s e).length = y.buds.length := pens_len _ _
theorem penY_bd {y : Sys} (h : WfY y) (s e : Int) : ∀ k : Int, 0 ≤ k → 0 ≤ gi (penY y s e) k ∧ gi (penY y s e) k ≤ 4 := pens_bd fun i hi => by
  rcases List.mem_append.mp hi with hi | hi
  · exact (h.jobs i (List.mem_filter.mp hi).1).toWfI
  · exact (h.tasks i (List.mem_filter.mp hi).1).toWfI
/-! ### the recovery is not negative -/
theorem subA_gi (c : Int) : ∀ (l us : List Int), (∀ x, x ∈ l → 0 ≤ x ∧ x < us.length) → l.Nodup → ∀ k : Int, 0 ≤ k → gi (l.foldl (subA c) us) k = gi us k - if l.contains k then c else 0
  | [], us, _, _, k, _ => by simp
  | x :: l, us, hb, hn, k, hk => by
    obtain ⟨n1, n2⟩ := List.nodup_cons.mp hn
    have bx := hb x List.mem_cons_self
    rw [List.foldl_cons, subA_gi c l (subA c us x) (fun y hy => by unfold subA; rw [List.length_set]; exact hb y (List.mem_cons_of_mem _ hy)) n2 k hk]
    unfold subA
    rw [gi_set bx hk, List.contains_cons]
    by_cases e : x = k
    · subst e
      have nl : l.contains x = false := by
        rw [← Bool.not_eq_true]
        intro z
        exact n1 (by simpa using z)
      rw [if_pos rfl, nl]
      simp
    · have e2 : (k == x) = false := by simp; omega
      rw [if_neg e, e2, Bool.false_or]
theorem rec_nn {bs : List Bud} (W : WfB bs) {ps : List Int} (hp : ∀ k : Int, 0 ≤ k → 0 ≤ gi ps k ∧ gi ps k ≤ 4) : ∀ (l : List (Int × Int)) (z : List Int × Int), (∀ h, h ∈ l → ∃ k : Nat, k < bs.length ∧ h = (0 - gi ps (k : Nat), ((k : Nat) : Int))) → z.1.length = bs.length → (∀ k : Int, 0 ≤ k → 0 ≤ gi z.1 k) → 0 ≤ z.2 → 0 ≤ (l.foldl (recS bs) z).2
  | [], z, _, _, _, h => h
  | h :: l, (left, tot), hm, hl, hleft, ht => by
    have hleft : ∀ k : Int, 0 ≤ k → 0 ≤ gi left k := hleft
    obtain ⟨k, hk, rfl⟩ := hm h List.mem_cons_self
    have hl : left.length = bs.length := hl
    rw [List.foldl_cons]
    have hne : (pathF bs bs.length (k : Nat)).map (gi left) ≠ [] := by
      rw [pathF_step W (by omega) (by omega)]
      simp
    have mem : ∀ x, x ∈ pathF bs bs.length (k : Nat) → 0 ≤ x ∧ x < left.length := fun x hx => by
      have := pathF_mem W _ _ x (show ((k : Nat) : Int) < bs.length by omega) hx
      omega
    have c0 : 0 ≤ cntP bs left (k : Nat) := by
      unfold cntP
      obtain ⟨x, hx, e⟩ := List.mem_map.mp (mnL_mem hne)
      rw [← e]
      exact hleft x (mem x hx).1
    refine rec_nn W hp l _ (fun x hx => hm x (List.mem_cons_of_mem _ hx)) ?_ (fun x hx => ?_) ?_
    · show ((pathF bs bs.length (k : Nat)).foldl (subA _) left).length = _
      rw [subA_len]
      exact hl
    · show 0 ≤ gi ((pathF bs bs.length (k : Nat)).foldl (subA (cntP bs left (k : Nat))) left) x
      rw [subA_gi _ _ _ mem (pathF_nodup W _ _ (by omega)) x hx]
      split
      · rename_i q
        have q' : x ∈ pathF bs bs.length (k : Nat) := by simpa using q
        have : cntP bs left (k : Nat) ≤ gi left x := mnL_le (List.mem_map.mpr ⟨x, q', rfl⟩)
        omega
      · have := hleft x hx
        omega
    · show 0 ≤ tot - (0 - gi ps (k : Nat)) * cntP bs left (k : Nat)
      have ht : 0 ≤ tot := ht
      have := Int.mul_nonneg (hp (k : Nat) (by omega)).1 c0
      rw [Int.zero_sub, Int.neg_mul]
      omega
theorem horY_nn {y : Sys} (h : WfY y) : 0 ≤ horY y := by
  obtain ⟨p1, p2, p3, p4⟩ := prodY_bd h
  have w0 : 0 ≤ ((itemsY y).map workI).sum := by
    have : ∀ l : List Itm, (∀ i, i ∈ l → 0 ≤ workI i) → 0 ≤ (l.map workI).sum := fun l => by
      induction l with
      | nil => exact fun _ => by decide
      | cons i l ih =>
        intro hi
        rw [List.map_cons, List.sum_cons]
        have := hi i List.mem_cons_self
        have := ih fun x hx => hi x (List.mem_cons_of_mem _ hx)
        omega
    exact this _ fun i hi => (h.itemI hi).2.2.2.2.1
  have r0 : 0 ≤ recY y.buds (pens y.buds.length (itemsY y)) := by
    refine rec_nn h.buds (pens_bd fun i hi => (h.itemI hi).1) _ _ (fun x hx => order_mem hx) (List.length_map _) (fun k hk => ?_) (Int.le_refl 0)
    by_cases q : k < y.buds.length
    · show 0 ≤ gi (y.buds.map (·.cap)) k
      rw [gi_cap hk q]
      exact (gc_bd h.buds hk q).1
    · show 0 ≤ gi (y.buds.map (·.cap)) k
      rw [gi_over (by rw [List.length_map]; omega)]
      omega
  have t0 : 0 ≤ totY y := by unfold totY; omega
  unfold horY
  have : (0 - totY y * prodY y) / leftY y ≤ 0 := by
    have m : 0 ≤ totY y * prodY y := Int.mul_nonneg t0 (by omega)
    have := Int.ediv_le_ediv p3 (show 0 - totY y * prodY y ≤ 0 by omega)
    rw [Int.zero_ediv] at this
    exact this
  omega
theorem latestY_bd {y : Sys} (h : WfY y) : 0 ≤ latestY y ∧ latestY y ≤ 7 := by
  unfold latestY
  refine ⟨mxL_le List.mem_cons_self, ?_⟩
  rcases List.mem_cons.mp (mxL_mem (ns := 0 :: (y.jobs ++ y.tasks).map (·.a)) (by simp)) with e | e
  · rw [e]; decide
  · obtain ⟨i, hi, e⟩ := List.mem_map.mp e
    rw [← e]
    exact (h.itemI hi).1.a1
/-! ### the least -/
abbrev LB := Option (Int × Int × List Int) × Int
def encL : Option (Int × Int × List Int) → PyData
  | none => .tuple []
  | some b => .tuple [.int b.1, .int b.2.1, .tuple (b.2.2.map .int)]
def lfS (y : Sys) (s : Int) (z : LB) (e : Int) : LB := match fewY y s e z.2 with
  | none => z
  | some fs => match z.1 with
    | none => (some (s, e, fs), max (fs.sum - 1) 0)
    | some b => if fs.sum < b.2.2.sum then (some (s, e, fs), max (fs.sum - 1) 0) else z
def lfR (y : Sys) (z : LB) (s : Nat) : LB := (asc (endsL y (s : Nat) ((s : Nat) + horY y))).foldl (lfS y (s : Nat)) z
def lfY (y : Sys) : LB := (List.range (latestY y + 1).toNat).foldl (lfR y) (none, (y.buds.map (·.cap)).sum)
section
variable {P : Program} {w : World} {K : PySem.W.Frag} {mg : Str → Option Value} {base : Heap} {J : JJ}
def R_few (ds : List PyData) (d : PyData) : Prop := ∃ (y : Sys) (s e most : Int), ds = [encY y, .int s, .int e, .int most] ∧ WfY y ∧ 0 ≤ most ∧ d = optT (fewY y s e most)
theorem fd_fewest (D : Dfn K mg "fewest" s_fewest p_fewest) (T : Bt mg) (GP : FD P w K mg base J 2 "penalties" p_penalties (R_iv fun y s e => .tuple ((penY y s e).map .int))) (GD : FD P w K mg base J 3 "demand" p_demand (R_iv fun y s e => .int (demandY y s e))) (GO : FD P w K mg base J 4 "one_more" p_one_more R_one) :
    FD P w K mg base J 5 "fewest" p_fewest R_few := by
  refine fd_ok D sc_fewest (fun ds d h => ?_) (fun f cdv A outer s H E hr ds d h => ?_)
  · obtain ⟨_, _, _, _, rfl, _⟩ := h
    rfl
  · obtain ⟨y, s0, e0, most, rfl, hy, hm, rfl⟩ := h
    have hb := hy.buds.few
    have hb1 := hy.buds.pos
    have hpl := penY_len y s0 e0
    have hpb := penY_bd hy s0 e0
    refine pbd_cons (psd_set 4 (ped_call GP (hr.mono (by decide)) (pad_cons (ped_var 0) (pad_cons (ped_var 1) (pad_cons (ped_var 2) pad_nil))) ⟨y, s0, e0, rfl, hy, rfl⟩) ?_ sc_fewest.nd)
    refine pbd_cons (psd_set 5 (ped_sub (ped_sub (ped_var 2) (ped_var 1)) (ped_call GD (hr.mono (by decide)) (pad_cons (ped_var 0) (pad_cons (ped_var 1) (pad_cons (ped_var 2) pad_nil))) ⟨y, s0, e0, rfl, hy, rfl⟩)) ?_ sc_fewest.nd)
    refine pbd_cons (psd_set (d := .tuple ((List.replicate y.buds.length 0).map .int)) 6 (PED.eq (ped_repT (n := y.buds.length) (ped_tup (pad_cons ped_int pad_nil)) (PED.eq (ped_lenM (f := PyData.int) (bs := penY y s0 e0) T.len (ped_var 4)) (by rw [hpl])) hb1 (by omega)) (by rw [List.map_replicate])) ?_ sc_fewest.nd)
    refine pbd_cons (psd_while PassesOwn.never (fun z : Int × List Int => [.kn (encY y), .kn (.int s0), .kn (.int e0), .kn (.int most), .kn (.tuple ((penY y s0 e0).map .int)), .kn (.int z.1), .kn (.tuple (z.2.map .int)), .un, .un, .un, .un]) (fun z => z.2.length = y.buds.length ∧ fewF y.buds (penY y s0 e0) most ((most - z.2.sum).toNat + 1) z.1 z.2 = fewY y s0 e0 most) (fun z => (most - z.2.sum).toNat) (e0 - s0 - demandY y s0 e0, List.replicate y.buds.length 0) (by trivial) ⟨List.length_replicate, by unfold fewY; rw [rep_sum, Int.sub_zero]⟩ (fun z hz => ?_))
    obtain ⟨left, fs⟩ := z
    obtain ⟨z1, z2⟩ := hz
    have z1 : fs.length = y.buds.length := z1
    have z2 : fewF y.buds (penY y s0 e0) most ((most - fs.sum).toNat + 1) left fs = fewY y s0 e0 most := z2
    refine ⟨decide (0 ≤ left) && decide (fs.sum < most), ptd_and (ptd_ge (ped_var 5) ped_int) (fun _ => pwd_and1 (ptd_lt (ped_sumT rfl T.sum (ped_var 6)) (ped_var 3))), fun q => ?_, fun q => ?_⟩
    · have q' : 0 ≤ left ∧ fs.sum < most := by simpa using q
      have ob := omY_bd y.buds (penY y s0 e0) fs
      unfold fewF at z2
      rw [if_pos q'] at z2
      refine pbd_cons (psd_set (d := if omY y.buds (penY y s0 e0) fs < 0 then .none else .tuple ((incF fs (omY y.buds (penY y s0 e0) fs)).map .int)) 7 (ped_call GO hr (pad_cons (ped_ixT (ped_var 0) ped_int) (pad_cons (ped_var 4) (pad_cons (ped_var 6) pad_nil))) ⟨y.buds, penY y s0 e0, fs, rfl, hy.buds, hpl, z1, rfl⟩) ?_ sc_fewest.nd)
      generalize hk : omY y.buds (penY y s0 e0) fs = k at z2 ob ⊢
      by_cases hk0 : k < 0
      · rw [if_pos hk0] at z2
        refine pbd_cons (psd_if (q := true) (PTD.eq (ptd_isN (ped_var 7)) (by rw [if_pos hk0]; rfl)) (fun _ => pbd_one (psd_ret ped_none ?_)) (fun q => absurd q (by decide)))
        show PyData.none = optT (fewY y s0 e0 most)
        rw [← z2]
        rfl
      · rw [if_neg hk0] at z2
        refine pbd_cons (psd_if (q := false) (PTD.eq (ptd_isN (ped_var 7)) (by rw [if_neg hk0]; rfl)) (fun q => absurd q (by decide)) (fun _ => pbd_nil ?_))
        rw [if_neg hk0]
        have hlen := incF_len fs k
        refine pbd_cons (psd_set (d := .int (left - gi (penY y s0 e0) k)) 5 (PED.eq (ped_sub (ped_var 5) (ped_sumL (ns := (List.range y.buds.length).map fun i => gi (penY y s0 e0) (i : Nat) * (gi (incF fs k) (i : Nat) - gi fs (i : Nat))) rfl T.sum (PEF.pld ((pef_lcQ (own := [("penalty", 8), ("a", 9), ("b", 10)]) (js := [8, 9, 10]) (List.range y.buds.length) (fun i => .tuple [.int (gi (penY y s0 e0) (i : Nat)), .int (gi fs (i : Nat)), .int (gi (incF fs k) (i : Nat))]) (fun _ => true) (fun i => .int (gi (penY y s0 e0) (i : Nat) * (gi (incF fs k) (i : Nat) - gi fs (i : Nat))))
          (fun i => [.kn (encY y), .kn (.int s0), .kn (.int e0), .kn (.int most), .kn (.tuple ((penY y s0 e0).map .int)), .kn (.int left), .kn (.tuple (fs.map .int)), .kn (.tuple ((incF fs k).map .int)), .kn (.int (gi (penY y s0 e0) (i : Nat))), .kn (.int (gi fs (i : Nat))), .kn (.int (gi (incF fs k) (i : Nat)))])
          (δu := [.kn (encY y), .kn (.int s0), .kn (.int e0), .kn (.int most), .kn (.tuple ((penY y s0 e0).map .int)), .kn (.int left), .kn (.tuple (fs.map .int)), .kn (.tuple ((incF fs k).map .int)), .un, .un, .un]) rfl sc_fewest.nd
          (by
            have z3 := zip3D_ints (as := penY y s0 e0) (bs := fs) (cs := incF fs k) (by omega) (by omega)
            rw [hpl] at z3
            rw [← z3]
            exact pid_zip3 (t1 := true) (t2 := true) (t3 := true) T.zip (pad_cons (ped_var 4) (pad_cons (ped_var 6) (pad_cons (ped_var 7) pad_nil)))) (by trivial) (fun v x hv hx => ?_) (fun j hj => hj) (sl (by rw [List.length_range]; omega)) (fun i _ => le_eq (le_eq (le_eq (le_eq (le_eq (le_eq (le_eq (le_eq (by trivial))))))))) (fun i hi => ⟨fun _ _ _ _ _ => pgd_tup rfl (pgsd_cons (pgd_name 8 sc_fewest.nd) (pgsd_cons (pgd_name 9 sc_fewest.nd) (pgsd_cons (pgd_name 10 sc_fewest.nd) pgsd_nil))), fun _ _ _ _ _ => ptsd_nil, fun _ _ _ _ _ _ => ped_mul (ped_var 8) (ped_sub (ped_var 10) (ped_var 9)) (.inl (by have := hpb (i : Nat) (by omega); omega))⟩)
          (blkOk_by (N := N_fewest) (sc := defScope s_fewest) (by decide +kernel))).eq (by rw [List.filter_eq_self.mpr fun _ _ => rfl, List.map_map]; rfl))))) (by rw [zsum (by omega) (by omega) z1])) ?_ sc_fewest.nd)
        · have hv' : v = 8 ∨ v = 9 ∨ v = 10 := by simpa using hv
          rcases hv' with e | e | e <;> subst e <;> exact (Option.some.inj hx).symm
        · refine pbd_one (psd_set 6 (ped_var 7) ?_ sc_fewest.nd)
          have hs := incF_sum (fs := fs) (k := k) (by omega) (by omega)
          refine ⟨(left - gi (penY y s0 e0) k, incF fs k), ⟨hlen.trans z1, ?_⟩, ?_, by trivial⟩
          · rw [← z2]
            show fewF _ _ _ ((most - (incF fs k).sum).toNat + 1) _ _ = _
            rw [hs, show (most - (fs.sum + 1)).toNat + 1 = (most - fs.sum).toNat by omega]
          · show (most - (incF fs k).sum).toNat < (most - fs.sum).toNat
            rw [hs]
            omega
    · have q' : ¬ (0 ≤ left ∧ fs.sum < most) := by
        intro z
        rw [decide_eq_true z.1, decide_eq_true z.2] at q
        cases q
      unfold fewF at z2
      rw [if_neg q'] at z2
      refine pbd_cons (psd_if (ptd_ge (ped_var 5) ped_int) (fun q2 => pbd_one (psd_ret ped_none ?_)) (fun q2 => pbd_nil (pbd_one (psd_ret (ped_var 6) ?_))))
      · show PyData.none = optT (fewY y s0 e0 most)
        rw [← z2, if_pos (of_decide_eq_true q2)]
        rfl
      · show PyData.tuple (fs.map .int) = optT (fewY y s0 e0 most)
        rw [← z2, if_neg (of_decide_eq_false q2)]
        rfl
end
end Fd
namespace Fd
open PySem PySem.Spec PyProof.Rows L2
local macro_rules | `(tactic| trivial) => `(tactic| exact le_nil)
local macro_rules | `(tactic| trivial) => `(tactic| (refine le_eq ?_; trivial))
local macro_rules | `(tactic| trivial) => `(tactic| (refine le_un ?_; trivial))
theorem fewF_nn {bs : List Bud} {ps : List Int} {most : Int} : ∀ (f : Nat) (left : Int) (fs r : List Int), fs.length = bs.length → 0 ≤ fs.sum → fewF bs ps most f left fs = some r → 0 ≤ r.sum
  | 0, _, _, _, _, _, h => by cases h
  | f + 1, left, fs, r, hl, h0, h => by
    unfold fewF at h
    have ob := omY_bd bs ps fs
    split at h
    · split at h
      · cases h
      · refine fewF_nn f _ _ r ((incF_len _ _).trans hl) ?_ h
        rw [incF_sum (by omega) (by omega)]
        omega
    · split at h
      · cases h
      · cases h
        exact h0
theorem fewY_ok {y : Sys} {s e most : Int} {fs : List Int} (h : fewY y s e most = some fs) : fs.length = y.buds.length ∧ 0 ≤ fs.sum :=
  ⟨(fewF_len _ _ _ _ h).trans List.length_replicate, fewF_nn _ _ _ _ List.length_replicate (by rw [rep_sum]; decide) h⟩
def lbOk (z : LB) : Prop := 0 ≤ z.2
theorem lfS_ok {y : Sys} {s e : Int} {z : LB} (h : lbOk z) : lbOk (lfS y s z e) := by
  unfold lfS
  split
  · exact h
  · split
    · exact Int.le_max_right _ _
    · split
      · exact Int.le_max_right _ _
      · exact h
theorem lay_ints : ∀ fs : List Int, PyData.canLayAll0 (fs.map .int) = true
  | [] => rfl
  | a :: l => by
    have := lay_ints l
    simp [PyData.canLayAll0, PyData.canLay0, this]
theorem shaped_ints (fs : List Int) : SeqAt.shaped (.tuple (fs.map .int)) = true := by
  simp [SeqAt.shaped, PyData.canLay0, lay_ints, PyData.depth, PySem.W.depth_ints]
theorem shaped_encL (b : Option (Int × Int × List Int)) : SeqAt.shaped (encL b) = true := by
  cases b with
  | none => rfl
  | some b => simp [encL, SeqAt.shaped, PyData.canLay0, PyData.canLayAll0, lay_ints, PyData.depth, PyData.depthAll, PySem.W.depth_ints]
theorem eqv_encL (b : Option (Int × Int × List Int)) : PyData.eqv (encL b) (.tuple []) = b.isNone := by
  cases b with
  | none => rfl
  | some b => rfl
theorem cap_sum_nn {bs : List Bud} (W : WfB bs) : 0 ≤ (bs.map (·.cap)).sum := by
  have : ∀ l : List Bud, (∀ b, b ∈ l → 0 ≤ b.cap) → 0 ≤ (l.map (·.cap)).sum := fun l => by
    induction l with
    | nil => exact fun _ => by decide
    | cons i l ih =>
      intro hi
      rw [List.map_cons, List.sum_cons]
      have := hi i List.mem_cons_self
      have := ih fun x hx => hi x (List.mem_cons_of_mem _ hx)
      omega
  exact this _ fun b hb => (W.cap b hb).1
section
variable {P : Program} {w : World} {K : PySem.W.Frag} {mg : Str → Option Value} {base : Heap} {J : JJ}
/-- .. the horizon near -/
def R_sysN (f : Sys → PyData) (ds : List PyData) (d : PyData) : Prop := ∃ y : Sys, ds = [encY y] ∧ WfY y ∧ horY y ≤ 120 ∧ d = f y
theorem fd_least_faults (D : Dfn K mg "least_faults" s_least_faults p_least_faults) (T : Bt mg) (GH : FD P w K mg base J 4 "horizon_of" p_horizon_of (R_sys fun y => .int (horY y))) (GL : FD P w K mg base J 1 "latest_of" p_latest_of (R_sys fun y => .int (latestY y))) (GE : FD P w K mg base J 1 "ends_of" p_ends_of R_ends) (GF : FD P w K mg base J 5 "fewest" p_fewest R_few) :
    FD P w K mg base J 6 "least_faults" p_least_faults (R_sysN fun y => encL (lfY y).1) := by
  refine fd_ok D sc_least_faults (fun ds d h => ?_) (fun f cdv A outer s H E hr ds d h => ?_)
  · obtain ⟨_, rfl, _⟩ := h
    rfl
  · obtain ⟨y, rfl, hy, hh, rfl⟩ := h
    have hb := hy.buds.few
    have hn := horY_nn hy
    have lb := latestY_bd hy
    have hu : (cb P w K mg base N_least_faults "least_faults" s_least_faults f cdv A outer s H E).A.units + 64 < cLine := by have := hr.un; show (A.deeper _).units + 64 < cLine; omega
    refine pbd_cons (psd_set 1 (ped_tup pad_nil) ?_ sc_least_faults.nd)
    refine pbd_cons (psd_set 2 (ped_sumL (ns := y.buds.map (·.cap)) rfl T.sum (PEF.pld (pef_lcAI 3 y.buds encB (·.cap) rfl sc_least_faults.nd (pid_tup (ped_ixT (ped_var 0) ped_int)) (sl (by omega)) (fun b _ _ _ _ _ _ => ped_ixT (ped_var 3) ped_int) (blkOk_by (N := N_least_faults) (sc := defScope s_least_faults) (by decide +kernel))))) ?_ sc_least_faults.nd)
    refine pbd_cons (psd_set 4 (ped_call GH (hr.mono (by decide)) (pad_cons (ped_var 0) pad_nil) ⟨y, rfl, hy, rfl⟩) ?_ sc_least_faults.nd)
    refine pbd_cons (psd_fold (List.range (latestY y + 1).toNat) (fun i => .int (0 + (i : Nat) * 1)) (lfR y) (fun z => [.kn (encY y), .kn (encL z.1), .kn (.int z.2), .un, .kn (.int (horY y)), .un, .un, .un]) lbOk (none, (y.buds.map (·.cap)).sum) PassesOwn.never rfl
      (pid_range1 T.range (ped_add (ped_call GL (hr.mono (by decide)) (pad_cons (ped_var 0) pad_nil) ⟨y, rfl, hy, rfl⟩) ped_int) (by omega) (by omega)) (le_eq (le_kn rfl (le_kn rfl (by trivial)))) (show lbOk (none, (y.buds.map (·.cap)).sum) from cap_sum_nn hy.buds) (fun z i hm hz => ?_) (fun hz => ?_))
    · have hi := List.mem_range.mp hm
      rw [show (0 : Int) + (i : Nat) * 1 = (i : Nat) by omega]
      refine ⟨_, _, pgd_name 5 sc_least_faults.nd, pbd_one (psd_fold (asc (endsL y (i : Nat) ((i : Nat) + horY y))) .int (lfS y (i : Nat)) (fun z => [.kn (encY y), .kn (encL z.1), .kn (.int z.2), .un, .kn (.int (horY y)), .kn (.int ((i : Nat) : Int)), .un, .un]) lbOk z PassesOwn.never rfl
        (pid_list (ped_call GE (hr.mono (by decide)) (pad_cons (ped_var 0) (pad_cons (ped_var 5) (pad_cons (ped_add (ped_var 5) (ped_var 4)) pad_nil))) ⟨y, (i : Nat), (i : Nat) + horY y, rfl, hy, by omega, by omega, by omega, by omega, rfl⟩)) (by trivial) hz (fun z e hm2 hz => ?_) (fun hz => ?_))⟩
      · obtain ⟨best, most⟩ := z
        have hz : 0 ≤ most := hz
        refine ⟨_, _, pgd_name 6 sc_least_faults.nd, pbd_cons (psd_set (d := optT (fewY y (i : Nat) e most)) 7 (ped_call GF hr (pad_cons (ped_var 0) (pad_cons (ped_var 5) (pad_cons (ped_var 6) (pad_cons (ped_var 2) pad_nil)))) ⟨y, (i : Nat), e, most, rfl, hy, hz, rfl⟩) ?_ sc_least_faults.nd)⟩
        have hz2 := lfS_ok (y := y) (s := (i : Nat)) (e := e) (z := (best, most)) hz
        cases hf : fewY y (i : Nat) e most with
        | none =>
          have e2 : lfS y (i : Nat) (best, most) e = (best, most) := by unfold lfS; rw [hf]
          rw [e2] at hz2 ⊢
          refine pbd_one (psd_if (q := false) (ptd_and (c := false) (d := false) (PTD.eq (ptd_notN (ped_var 7)) rfl) (fun z => absurd z (by decide))) (fun z => absurd z (by decide)) (fun _ => pbd_nil (And.intro (by trivial) hz2)))
        | some fs =>
          have e2 : lfS y (i : Nat) (best, most) e = if (best.isNone || decide (fs.sum < (best.getD (0, 0, [])).2.2.sum)) = true then (some (((i : Nat) : Int), e, fs), max (fs.sum - 1) 0) else (best, most) := by
            unfold lfS
            rw [hf]
            cases best with
            | none => rfl
            | some b => simp
          refine pbd_one (psd_if (q := true && (best.isNone || decide (fs.sum < (best.getD (0, 0, [])).2.2.sum))) (ptd_and (c := true) (PTD.eq (ptd_notN (ped_var 7)) rfl) (fun _ => pwd_and1 (ptd_or (PTD.eq (ptd_eqD hu (ped_var 1) (ped_tup pad_nil) (shaped_encL best) rfl) (eqv_encL best)) (fun q => pwd_or1 (ptd_lt (ped_sumT rfl T.sum (ped_var 7)) (ped_sumT (ns := (best.getD (0, 0, [])).2.2) rfl T.sum (by
              cases best with
              | none => cases q
              | some b => exact ped_ixT (ds := [.int b.1, .int b.2.1, .tuple (b.2.2.map .int)]) (ped_var 1) ped_int))))))) (fun q => ?_) (fun q => ?_))
          · rw [Bool.true_and] at q
            rw [if_pos q] at e2
            rw [e2] at hz2 ⊢
            refine pbd_cons (psd_set 1 (ped_tup (pad_cons (ped_var 5) (pad_cons (ped_var 6) (pad_cons (ped_var 7) pad_nil)))) ?_ sc_least_faults.nd)
            exact pbd_one (psd_set 2 (ped_max2 rfl T.max (ped_sub (ped_sumT (ns := fs) rfl T.sum (ped_var 7)) ped_int) ped_int) (And.intro (by trivial) hz2) sc_least_faults.nd)
          · rw [Bool.true_and] at q
            rw [if_neg (by rw [q]; decide)] at e2
            rw [e2] at hz2 ⊢
            exact pbd_nil (And.intro (by trivial) hz2)
      · exact And.intro (by trivial) hz
    · exact pbd_one (psd_ret (ped_var 1) rfl)
theorem range_src (n : Nat) : ((List.range n).map fun i : Nat => PyData.int (i : Int)) = ((List.range n).map fun i : Nat => (i : Int)).map .int := by rw [List.map_map]; rfl
def bearY (y : Sys) : Int := match (lfY y).1 with
  | none => mostY y.buds
  | some b => b.2.2.sum - 1
theorem fd_bearable (D : Dfn K mg "bearable" s_bearable p_bearable) (T : Bt mg) (GL : FD P w K mg base J 6 "least_faults" p_least_faults (R_sysN fun y => encL (lfY y).1)) (GM : FD P w K mg base J 2 "most_faults" p_most_faults (R_src fun bs => .int (mostY bs))) : FD P w K mg base J 7 "bearable" p_bearable (R_sysN fun y => .int (bearY y)) := by
  refine fd_ok D sc_bearable (fun ds d h => ?_) (fun f cdv A outer s H E hr ds d h => ?_)
  · obtain ⟨_, rfl, _⟩ := h
    rfl
  · obtain ⟨y, rfl, hy, hh, rfl⟩ := h
    have hb := hy.buds.few
    have hu : (cb P w K mg base N_bearable "bearable" s_bearable f cdv A outer s H E).A.units + 64 < cLine := by have := hr.un; show (A.deeper _).units + 64 < cLine; omega
    refine pbd_cons (psd_set (d := encL (lfY y).1) 1 (ped_call GL hr (pad_cons (ped_var 0) pad_nil) ⟨y, rfl, hy, hh, rfl⟩) ?_ sc_bearable.nd)
    show PBD J _ _ [.kn (encY y), .kn (encL (lfY y).1)] (fin (.int (bearY y)))
    unfold bearY
    cases (lfY y).1 with
    | none =>
      refine pbd_cons (psd_if (q := true) (PTD.eq (ptd_eqD hu (ped_var 1) (ped_tup pad_nil) (shaped_encL _) rfl) (eqv_encL _)) (fun _ => ?_) (fun q => absurd q (by decide)))
      exact pbd_one (psd_ret (ped_call GM (hr.mono (by decide)) (pad_cons (ped_ixT (ped_var 0) ped_int) (pad_cons (PED.eq (ped_tupRg (n := y.buds.length) rfl T.tuple T.range (ped_lenM T.len (ped_ixT (ped_var 0) ped_int)) (by omega)) (by rw [range_src])) pad_nil)) ⟨y.buds, rfl, hy.buds, rfl⟩) rfl)
    | some b =>
      refine pbd_cons (psd_if (q := false) (PTD.eq (ptd_eqD hu (ped_var 1) (ped_tup pad_nil) (shaped_encL _) rfl) (eqv_encL _)) (fun q => absurd q (by decide)) (fun _ => ?_))
      exact pbd_nil (pbd_one (psd_ret (ped_sub (ped_sumT (ns := b.2.2) rfl T.sum (ped_ixT (ds := [.int b.1, .int b.2.1, .tuple (b.2.2.map .int)]) (ped_var 1) ped_int)) ped_int) rfl))
end
end Fd
namespace Fd
open PySem PySem.Spec PyProof.Rows L2
local macro_rules | `(tactic| trivial) => `(tactic| exact le_nil)
local macro_rules | `(tactic| trivial) => `(tactic| (refine le_eq ?_; trivial))
local macro_rules | `(tactic| trivial) => `(tactic| (refine le_un ?_; trivial))
/-! ### looks, assignments -/
def looksS (y : Sys) (s : Nat) : List (Int × Int) := (asc (endsL y (s : Nat) ((s : Nat) + horY y))).map fun e => (((s : Nat) : Int), e)
def looksY (y : Sys) : List (Int × Int) := (List.range (latestY y + 1).toNat).flatMap (looksS y)
theorem insU_len (x : Int) : ∀ l : List Int, (insU x l).length ≤ l.length + 1
  | [] => Nat.le_refl _
  | y :: l => by
    have := insU_len x l
    unfold insU
    split
    · simp
    · split
      · simp
      · rw [List.length_cons, List.length_cons]; omega
theorem asc_len : ∀ l : List Int, (asc l).length ≤ l.length
  | [] => Nat.le_refl _
  | y :: l => by
    have := insU_len y (asc l)
    have := asc_len l
    show (insU y (asc l)).length ≤ l.length + 1
    omega
theorem looksS_len {y : Sys} (h : WfY y) (hh : horY y ≤ 120) (s : Nat) : (looksS y s).length ≤ 64 := by
  unfold looksS
  rw [List.length_map]
  have := asc_len (endsL y (s : Nat) ((s : Nat) + horY y))
  have := endsL_len h (s := (s : Nat)) (m := (s : Nat) + horY y) (by omega)
  omega
theorem looksF_len {y : Sys} (h : WfY y) (hh : horY y ≤ 120) : ∀ l : List Nat, (l.flatMap (looksS y)).length ≤ 64 * l.length
  | [] => Nat.le_refl _
  | s :: l => by
    rw [List.flatMap_cons, List.length_append, List.length_cons]
    have := looksS_len h hh s
    have := looksF_len h hh l
    omega
def tupF (fs : List Int) : PyData := .tuple (fs.map .int)
def asgE (b : Bud) (fs : List Int) : List (List Int) := (List.range (b.cap + 1).toNat).map fun c : Nat => fs ++ [(c : Int)]
def asgS (acc : List (List Int)) (b : Bud) : List (List Int) := acc.flatMap (asgE b)
def asgA (bs : List Bud) : List (List Int) := bs.foldl asgS [[]]
def asgY (bs : List Bud) : List (List Int) := (asgA bs).filter (fitsY bs)
theorem asgE_len {b : Bud} (h : b.cap ≤ 3) (fs : List Int) : (asgE b fs).length ≤ 4 := by
  unfold asgE
  rw [List.length_map, List.length_range]
  omega
theorem asgS_len {b : Bud} (h : b.cap ≤ 3) : ∀ acc : List (List Int), (asgS acc b).length ≤ 4 * acc.length
  | [] => Nat.le_refl _
  | fs :: acc => by
    have := asgS_len h acc
    have := asgE_len h fs
    unfold asgS at *
    rw [List.flatMap_cons, List.length_append, List.length_cons]
    omega
theorem asgS_mem {acc : List (List Int)} {b : Bud} {n : Nat} (h : ∀ fs, fs ∈ acc → fs.length = n) : ∀ fs, fs ∈ asgS acc b → fs.length = n + 1 := fun fs hf => by
  obtain ⟨gs, hg, hf⟩ := List.mem_flatMap.mp hf
  obtain ⟨c, _, rfl⟩ := List.mem_map.mp hf
  rw [List.length_append, h gs hg]
  rfl
theorem asgF_len : ∀ (l : List Bud) (acc : List (List Int)) (n : Nat), (∀ b, b ∈ l → b.cap ≤ 3) → (∀ fs, fs ∈ acc → fs.length = n) → (l.foldl asgS acc).length ≤ 4 ^ l.length * acc.length ∧ ∀ fs, fs ∈ l.foldl asgS acc → fs.length = n + l.length
  | [], acc, n, _, h => ⟨by rw [List.length_nil, Nat.pow_zero, Nat.one_mul]; exact Nat.le_refl _, h⟩
  | b :: l, acc, n, hb, h => by
    obtain ⟨h1, h2⟩ := asgF_len l (asgS acc b) (n + 1) (fun x hx => hb x (List.mem_cons_of_mem _ hx)) (asgS_mem h)
    have h3 := asgS_len (hb b List.mem_cons_self) acc
    refine ⟨Nat.le_trans h1 ?_, fun fs hf => ?_⟩
    · rw [List.length_cons, Nat.pow_succ, Nat.mul_assoc]
      exact Nat.mul_le_mul_left _ h3
    · rw [h2 fs hf, List.length_cons]
      omega
theorem asgA_pre {bs : List Bud} (W : WfB bs) (pre post : List Bud) (e : bs = pre ++ post) : (pre.foldl asgS [[]]).length ≤ 4 ^ pre.length ∧ ∀ fs, fs ∈ pre.foldl asgS [[]] → fs.length = pre.length := by
  obtain ⟨h1, h2⟩ := asgF_len pre [[]] 0 (fun b hb => (W.cap b (by rw [e]; exact List.mem_append_left _ hb)).2) (fun fs hf => by rw [List.mem_singleton.mp hf]; rfl)
  refine ⟨?_, fun fs hf => ?_⟩
  · rw [List.length_singleton, Nat.mul_one] at h1
    exact h1
  · have := h2 fs hf
    omega
theorem asgY_mem {bs : List Bud} (W : WfB bs) {fs : List Int} (h : fs ∈ asgA bs) : fs.length = bs.length := (asgA_pre W bs [] (by rw [List.append_nil])).2 fs h
theorem asgA_len {bs : List Bud} (W : WfB bs) : (asgA bs).length ≤ 64 := by
  have h := (asgA_pre W bs [] (by rw [List.append_nil])).1
  have : 4 ^ bs.length ≤ 4 ^ 3 := Nat.pow_le_pow_right (by decide) W.few
  exact Nat.le_trans h this
section
variable {P : Program} {w : World} {K : PySem.W.Frag} {mg : Str → Option Value} {base : Heap} {J : JJ}
theorem fd_law_looks (D : Dfn K mg "_law_looks" s_law_looks p_law_looks) (T : Bt mg) (GH : FD P w K mg base J 3 "_law_horizon" p_law_horizon (R_sys fun y => .int (horY y))) (GL : FD P w K mg base J 1 "_law_latest" p_law_latest (R_sys fun y => .int (latestY y))) (GE : FD P w K mg base J 1 "_law_ends" p_law_ends R_ends) :
    FD P w K mg base J 4 "_law_looks" p_law_looks (R_sysN fun y => .list ((looksY y).map encS)) := by
  refine fd_ok D sc_law_looks (fun ds d h => ?_) (fun f cdv A outer s H E hr ds d h => ?_)
  · obtain ⟨_, rfl, _⟩ := h
    rfl
  · obtain ⟨y, rfl, hy, hh, rfl⟩ := h
    have hn := horY_nn hy
    have lb := latestY_bd hy
    refine pbd_cons (psd_set 1 (ped_call GH hr (pad_cons (ped_var 0) pad_nil) ⟨y, rfl, hy, rfl⟩) ?_ sc_law_looks.nd)
    refine pbd_cons (psd_setO 2 (pef_lst pad_nil) (fun p => ?_) sc_law_looks.nd)
    refine pbd_cons (psd_pre (List.range (latestY y + 1).toNat) (fun i => .int (0 + (i : Nat) * 1)) (fun pre => [.kn (encY y), .kn (.int (horY y)), .ow p ((pre.flatMap (looksS y)).map encS), .un, .un]) (fun _ => True) PassesOwn.never rfl
      (pid_range1 T.range (ped_add (ped_call GL (hr.mono (by decide)) (pad_cons (ped_var 0) pad_nil) ⟨y, rfl, hy, rfl⟩) ped_int) (by omega) (by omega)) (le_eq (le_eq (le_ow rfl (by trivial)))) True.intro (fun pre i post he _ => ?_) (fun _ => ?_))
    · have hi := List.mem_range.mp (show i ∈ List.range (latestY y + 1).toNat by rw [he]; exact List.mem_append_right _ List.mem_cons_self)
      have hpl : pre.length ≤ 8 := by
        have := congrArg List.length he
        rw [List.length_range, List.length_append] at this
        omega
      have hfl := looksF_len hy hh pre
      have hsl := looksS_len hy hh i
      rw [show (0 : Int) + (i : Nat) * 1 = (i : Nat) by omega]
      refine ⟨_, _, pgd_name 3 sc_law_looks.nd, pbd_one (psd_pre (asc (endsL y (i : Nat) ((i : Nat) + horY y))) .int (fun pre2 => [.kn (encY y), .kn (.int (horY y)), .ow p ((pre.flatMap (looksS y) ++ pre2.map fun e => (((i : Nat) : Int), e)).map encS), .kn (.int ((i : Nat) : Int)), .un]) (fun _ => True) PassesOwn.never rfl
        (pid_list (ped_call GE (hr.mono (by decide)) (pad_cons (ped_var 0) (pad_cons (ped_var 3) (pad_cons (ped_add (ped_var 3) (ped_var 1)) pad_nil))) ⟨y, (i : Nat), (i : Nat) + horY y, rfl, hy, by omega, by omega, by omega, by omega, rfl⟩)) (le_eq (le_eq (le_ow (by rw [List.map_nil, List.append_nil]) (by trivial)))) True.intro (fun pre2 e post2 he2 _ => ?_) (fun _ => ?_))⟩
      · have hl2 : pre2.length ≤ 64 := by
          have := congrArg List.length he2
          rw [List.length_append] at this
          unfold looksS at hsl
          rw [List.length_map] at hsl
          omega
        refine ⟨_, _, pgd_name 4 sc_law_looks.nd, pbd_one (psd_app (ds := (pre.flatMap (looksS y) ++ pre2.map fun e => (((i : Nat) : Int), e)).map encS) 2 (ped_tup (pad_cons (ped_var 3) (pad_cons (ped_var 4) pad_nil))) (sl (by rw [List.length_map, List.length_append, List.length_map]; omega)) (And.intro (le_eq (le_eq (le_ow ?_ (by trivial)))) True.intro))⟩
        rw [List.map_append (l₁ := pre2), ← List.append_assoc, List.map_append (f := encS) (l₁ := pre.flatMap (looksS y) ++ pre2.map fun e => (((i : Nat) : Int), e))]
        rfl
      · refine And.intro (le_eq (le_eq (le_ow ?_ (by trivial)))) True.intro
        rw [List.flatMap_append, List.flatMap_singleton]
        rfl
    · exact pbd_one (psd_retO 2 rfl)
def R_buds (f : List Bud → PyData) (ds : List PyData) (d : PyData) : Prop := ∃ bs : List Bud, ds = [.tuple (bs.map encB)] ∧ WfB bs ∧ d = f bs
theorem fd_law_assignments (D : Dfn K mg "_law_assignments" s_law_assignments p_law_assignments) (T : Bt mg) (GF : FD P w K mg base J 3 "_law_fits" p_law_fits (R_bf fun bs fs => .bool (fitsY bs fs))) : FD P w K mg base J 4 "_law_assignments" p_law_assignments (R_buds fun bs => .list ((asgY bs).map tupF)) := by
  refine fd_ok D sc_law_assignments (fun ds d h => ?_) (fun f cdv A outer s H E hr ds d h => ?_)
  · obtain ⟨_, rfl, _⟩ := h
    rfl
  · obtain ⟨bs, rfl, W, rfl⟩ := h
    have hf := W.few
    have hA := asgA_len W
    refine pbd_cons (psd_set (d := .list ([[]].map tupF)) 1 (PEF.ped (pef_lst (pad_cons (ped_tup pad_nil) pad_nil))) ?_ sc_law_assignments.nd)
    refine pbd_cons (psd_pre bs encB (fun pre => [.kn (.tuple (bs.map encB)), .kn (.list ((pre.foldl asgS [[]]).map tupF)), .un, .un, .un, .un]) (fun _ => True) PassesOwn.never rfl (pid_tup (ped_var 0)) (by trivial) True.intro (fun pre b post he _ => ?_) (fun _ => ?_))
    · have hbc := W.cap b (by rw [he]; exact List.mem_append_right _ List.mem_cons_self)
      obtain ⟨hl1, hl2⟩ := asgA_pre W pre (b :: post) he
      have hpl : pre.length ≤ 2 := by
        have := congrArg List.length he
        rw [List.length_append, List.length_cons] at this
        omega
      have hp4 : 4 ^ pre.length ≤ 4 ^ 2 := Nat.pow_le_pow_right (by decide) hpl
      have hfo : (pre ++ [b]).foldl asgS [[]] = asgS (pre.foldl asgS [[]]) b := by rw [List.foldl_append]; rfl
      rw [hfo]
      generalize pre.foldl asgS [[]] = acc at hl1 hl2 ⊢
      refine ⟨_, _, pgd_name 2 sc_law_assignments.nd, pbd_cons (psd_set (d := .list (([] : List (List Int)).map tupF)) 3 (PEF.ped (pef_lst pad_nil)) ?_ sc_law_assignments.nd)⟩
      refine pbd_cons (psd_pre acc tupF (fun pre2 => [.kn (.tuple (bs.map encB)), .kn (.list (acc.map tupF)), .kn (encB b), .kn (.list ((pre2.flatMap (asgE b)).map tupF)), .un, .un]) (fun _ => True) PassesOwn.never rfl (pid_list (ped_var 1)) (by trivial) True.intro (fun pre2 fs post2 he2 _ => ?_) (fun _ => ?_))
      · have h1 : (pre2.flatMap (asgE b)).length ≤ 4 * pre2.length := asgS_len hbc.2 pre2
        have h2 := asgE_len hbc.2 fs
        have h3 : pre2.length ≤ 16 := by
          have := congrArg List.length he2
          rw [List.length_append] at this
          omega
        have h4 := hl2 fs (by rw [he2]; exact List.mem_append_right _ List.mem_cons_self)
        refine ⟨_, _, pgd_name 4 sc_law_assignments.nd, pbd_one (psd_set (d := .list (((pre2 ++ [fs]).flatMap (asgE b)).map tupF)) 3 (PED.eq (PEF.ped (pef_cat (ped_var 3) (PEF.ped (PEF.eq (pef_lcA 5 (List.range (b.cap + 1).toNat) (fun c => .int (0 + (c : Nat) * 1)) (fun c => .tuple (fs.map .int ++ [.int (0 + (c : Nat) * 1)])) rfl sc_law_assignments.nd (pid_range1 T.range (ped_add (ped_ixT (ped_var 2) ped_int) ped_int) (by omega) (by omega)) (sl (by rw [List.length_range]; omega))
          (fun c hc _ _ _ _ _ => ped_catT (ped_var 4) (ped_tup (pad_cons (ped_var 5) pad_nil)) (sl (by rw [List.length_map]; show fs.length + 1 ≤ _; omega))) (blkOk_by (N := N_law_assignments) (sc := defScope s_law_assignments) (by decide +kernel))) (d' := (asgE b fs).map tupF) ?_)) (sl ?_))) ?_) (And.intro (by trivial) True.intro) sc_law_assignments.nd)⟩
        · unfold asgE
          rw [List.map_map]
          refine List.map_congr_left fun c _ => ?_
          show PyData.tuple _ = .tuple ((fs ++ [(c : Int)]).map .int)
          rw [List.map_append, Int.zero_add, Int.mul_one]
          rfl
        · rw [List.length_map, List.length_map]
          omega
        · rw [List.flatMap_append, List.flatMap_singleton, List.map_append]
      · refine pbd_one (psd_set 1 (ped_var 3) (And.intro (le_eq (le_kn ?_ (by trivial))) True.intro) sc_law_assignments.nd)
        rfl
    · refine pbd_one (psd_ret (PEF.ped (pef_lcN 4 (asgA bs) tupF (fitsY bs) tupF rfl sc_law_assignments.nd (pid_list (ped_var 1)) (sl (by omega))
        (fun fs hfs => ⟨fun _ _ _ _ _ => ptsd_one (ptd_val (ped_call GF hr (pad_cons (ped_var 0) (pad_cons (ped_var 4) pad_nil)) ⟨bs, fs, rfl, W, asgY_mem W hfs, rfl⟩)), fun _ _ _ _ _ _ => ped_var 4⟩) (blkOk_by (N := N_law_assignments) (sc := defScope s_law_assignments) (by decide +kernel)))) rfl)
end
end Fd
/-! Defs that draw from the box. -/
namespace Fd
open PySem PySem.Spec PyProof.Rows L2
def BoxD (ns : List Int) (pos : Nat) : List PyData := [.list (ns.map .int), .int ((pos : Nat) : Int)]
/-- what such a def gives: from the digits, the place and the other arguments the result and the new place -/
abbrev BR := List Int → Nat → List PyData → PyData → Nat → Prop
def SpB (K : PySem.W.Frag) (J : JJ) (R : BR) : Sp := fun vs H Q _ => ∃ (F : FT) (B : Hp) (p : Addr) (xs ws : List V) (ns : List Int) (pos : Nat) (ds : List PyData) (d : PyData) (pos' : Nat), vs = .ref p :: ws ∧ Hd J F B H ∧ B p = none ∧ F p = none ∧ H p = some (.lst xs) ∧ DpAll K B xs (BoxD ns pos) ∧ DpAll K B ws ds ∧ R ns pos ds d pos' ∧
  ∀ (v : V) (B' H' : Hp) (xs' : List V), Same B B' → Hd J F B' H' → B' p = none → H' p = some (.lst xs') → DpAll K B' xs' (BoxD ns pos') → Dp K B' v d → Q v H'
def FB (P : Program) (w : World) (K : PySem.W.Frag) (mg : Str → Option Value) (base : Heap) (J : JJ) (k : Nat) (x : Str) (ps : List Str) (R : BR) : Prop :=
  ∃ (f : Addr) (fd : FuncData), FnOk P w K mg base CX0 k f fd ps (SpB K J R) ∧ mg x = some (.ref f) ∧ PySem.W.keepIn K (.ref f) = true ∧ Binds K fd ps []
def startB (N : List Str) (p : Addr) (ns : List Int) (pos : Nat) (ds : List PyData) : DS := .ow p (BoxD ns pos) :: (ds.map .kn ++ List.replicate (N.length - (ds.length + 1)) .un)
def finB (p : Addr) (ns : List Int) (d : PyData) (pos : Nat) : OP
  | .rt d' δ => d' = d ∧ δ[0]? = some (.ow p (BoxD ns pos))
  | .nx δ => d = .none ∧ δ[0]? = some (.ow p (BoxD ns pos))
  | _ => False
theorem noOw_start {N : List Str} {ds : List PyData} {i : Nat} {p : Addr} {es : List PyData} : (startD N ds)[i]? ≠ some (.ow p es) := fun z => by
  unfold startD at z
  by_cases hi : i < ds.length
  · rw [List.getElem?_append_left (by rw [List.length_map]; exact hi), List.getElem?_map, List.getElem?_eq_getElem hi] at z
    cases z
  · rw [List.getElem?_append_right (by rw [List.length_map]; omega)] at z
    obtain ⟨_, z⟩ := List.getElem?_eq_some_iff.mp z
    rw [List.getElem_replicate] at z
    cases z
theorem sd_startB {K : PySem.W.Frag} {J : JJ} {F : FT} {B H : Hp} {p : Addr} {xs ws : List V} {ds es : List PyData} (N : List Str) (h : Hd J F B H) (b : B p = none) (f : F p = none) (hp : H p = some (.lst xs)) (rx : DpAll K B xs es) (r : DpAll K B ws ds) :
    Sd K J F B H (start N (.ref p :: ws)) (.ow p es :: (ds.map .kn ++ List.replicate (N.length - (ds.length + 1)) .un)) :=
  (sd_start N h (.cons .non r)).seto 0 hp b f (fun i q es' z => absurd z noOw_start) rx
theorem fd_okB {P : Program} {w : World} {K : PySem.W.Frag} {mg : Str → Option Value} {base : Heap} {J : JJ} {k : Nat} {x : Str} {st : Stmt} {N ps : List Str} {R : BR} (D : Dfn K mg x st ps) (S : FnScope N ps (defScope st)) (hlen : ∀ ns pos ds d pos', R ns pos ds d pos' → ds.length + 1 = ps.length)
    (hb : ∀ (f : Addr) (cdv : Value) (A : Around) (outer : List Env) (s : Shared) (H : Hp) (E : XK), Room k (A.deeper (envOfC x (defScope st) s.heap.objs.size f cdv)) → ∀ p ns pos ds d pos', R ns pos ds d pos' →
      PBD J (cb P w K mg base N x st f cdv A outer s H E) (defBody st) (startB N p ns pos ds) (finB p ns d pos')) : FB P w K mg base J (k + 1) x ps R := by
  obtain ⟨f, fd, F, hm, hbi⟩ := D
  refine ⟨f, fd, F.ok S (fun vs H Q E h => ?_) (fun cdv A outer s H vs Q E hr h => ⟨_, pss_wss, ?_⟩), hm, F.kp, hbi⟩
  · obtain ⟨F, B, p, xs, ws, ns, pos, ds, d, pos', rfl, h1, h2, h3, h4, h5, h6, h7, _⟩ := h
    rw [List.length_cons, dpa_len h6]
    exact hlen ns pos ds d pos' h7
  · obtain ⟨F, B, p, xs, ws, ns, pos, ds, d, pos', rfl, h1, h2, h3, h4, h5, h6, h7, q⟩ := h
    have fin : ∀ {σ : L2.St} {B' H' : Hp} {δ : DS} {v : V}, Same B B' → Sd K J F B' H' σ δ → δ[0]? = some (.ow p (BoxD ns pos')) → Dp K B' v d → Q v H' := fun {σ B' H' δ v} e S' h0 r => by
      obtain ⟨_, g2, _, xs', g4, g5⟩ := S'.ow 0 p _ h0
      exact q v B' H' xs' e S'.hd g2 g4 g5 r
    refine hb f cdv A outer s H E hr p ns pos ds d pos' h7 F B H _ _ (sd_startB N h1 h2 h3 h4 h5 h6) fun o ho => ?_
    cases o with
    | nx δ => exact fun σ B' H' e S' => fin e S' ho.2 (by rw [show d = PyData.none from ho.1]; exact .non)
    | rt d' δ => exact fun v σ B' H' e S' r => fin e S' ho.2 (by rw [← show d' = d from ho.1]; exact r)
    | bk δ => exact False.elim ho
    | ct δ => exact False.elim ho
section
variable {J : JJ} {X : Cx} {δ δ1 : DS} {pos pb p : Pos} {es : List Expr}
theorem set_same {σ : L2.St} {i : Nat} {x : Option V} (h : σ[i]? = some x) : σ.set i x = σ := by
  apply List.ext_getElem?
  intro j
  by_cases hj : i = j
  · subst hj
    rw [List.getElem?_set_self (List.getElem?_eq_some_iff.mp h).1, h]
  · rw [List.getElem?_set_ne hj]
theorem ped_callB {x bx : Str} {k : Nat} {ps : List Str} {R : BR} {ds : List PyData} {d : PyData} {q : Addr} {ns : List Int} {pp pp' : Nat} (i : Nat) (G : FB X.prog X.w X.K X.mg X.base J k x ps R) (hr : Room k X.A) (ha : PAD J X es δ ds δ1) (hR : R ns pp ds d pp') (h0 : ∃ es', δ[i]? = some (.ow q es') := by exact ⟨_, rfl⟩) (h1 : δ1[i]? = some (.ow q (BoxD ns pp)) := by rfl) (hg : Gl X x := by rfl) (hN : X.N[i]? = some bx := by rfl)
    (hv : Vis X.env.scope bx := by first | exact Or.inl rfl | exact Or.inr (Or.inl rfl) | exact Or.inr (Or.inr rfl)) (hd : (bx == ("__debug__" : Str)) = false := by decide) (hcd : (bx == ("__classdict__" : Str)) = false := by decide)
    (hdb : (x == ("__debug__" : Str)) = false := by decide) (he : starEach (.Name bx pb :: es) X.env = (false, eval (.Name bx pb) X.env) :: starEach es X.env := by rfl) (hpl : (backTo pos (starEach es X.env)).any (·.1) = false := by rfl) :
    PED J X (.Call (.Name x p) (.Name bx pb :: es) [] pos) δ d (δ1.set i (.ow q (BoxD ns pp'))) := fun F B H σ S Q k' => by
  obtain ⟨f, fd, G, hm, hk, hb⟩ := G
  obtain ⟨es', h0⟩ := h0
  refine we_of (pe_call G hr hg hm hk hb .nil pass0 (pa_cons (pe_var hN hv hd hcd) pa_wa he) hdb he hpl) ?_
  refine ⟨_, (S.ow i q _ h0).1, ha F B H σ S _ fun vs B1 H1 e1 S1 r1 => ?_⟩
  show SpB X.K J R ((V.ref q :: vs) ++ []) H1 Q E0
  rw [List.append_nil]
  obtain ⟨o1, o2, o3, xs, o4, o5⟩ := S1.ow i q _ h1
  refine ⟨fun b => if b = q then none else calF B1 H1 b, B1, q, xs, vs, ns, pp, ds, d, pp', rfl, ⟨S1.hd.ex, S1.hd.j, fun b ys z => ?_, S1.hd.nb⟩, o2, if_pos rfl, o4, o5, r1, hR, fun v B2 H2 xs' e2 h2 g2 g4 g5 r2 => ?_⟩
  · by_cases hbq : b = q
    · rw [if_pos hbq] at z
      cases z
    · rw [if_neg hbq] at z
      exact calF_is z
  · have un := S1.setu i (some (.ref q))
    rw [set_same o1] at un
    have nq : ∀ b ys, calF B1 H1 b = some ys → b ≠ q → B2 b = none ∧ H2 b = some (.lst ys) := fun b ys z hbq => h2.fr b ys (by rw [if_neg hbq]; exact z)
    have mv : Sd X.K J F B2 H2 σ (δ1.set i .un) := un.move ⟨h2.ex, h2.j, fun b ys z => by
      obtain ⟨c1, c2⟩ := S1.hd.fr b ys z
      exact nq b ys (calF_get c1 c2) (fun w => by rw [w, o3] at z; cases z), h2.nb⟩ e2 fun j r es2 z => by
      rcases get_set_cases z with ⟨_, w, _⟩ | ⟨hj, z⟩
      · cases w
      · obtain ⟨_, c2, _, ys, c4, c5⟩ := S1.ow j r es2 z
        obtain ⟨g1, g2⟩ := nq r ys (calF_get c2 c4) (S1.ne j i r q es2 _ hj z h1)
        exact ⟨g1, ys, g2, dpa_ext e2 _ _ c5⟩
    have fin := mv.seto i g4 g2 o3 (fun j r es2 z => by
      rcases get_set_cases z with ⟨_, w, _⟩ | ⟨hj, z⟩
      · cases w
      · exact S1.ne j i r q es2 _ hj z h1) g5
    rw [set_same o1, List.set_set] at fin
    exact k' v B2 H2 (e1.trans e2) fin r2
end
end Fd
namespace Fd
open PySem PySem.Spec PyProof.Rows L2
local macro_rules | `(tactic| trivial) => `(tactic| exact le_nil)
local macro_rules | `(tactic| trivial) => `(tactic| (refine le_eq ?_; trivial))
local macro_rules | `(tactic| trivial) => `(tactic| (refine le_un ?_; trivial))
theorem pid_rgN2 {J : JJ} {X : Cx} {δ δ1 δ2 : DS} {a b tg : Expr} {pos p : Pos} {n : Nat} (hm : X.mg "range" = none) (h : PED J X a δ (.int 0) δ1) (h' : PED J X b δ1 (.int ((n : Nat) : Int)) δ2) (hn : n ≤ 1000000) (hg : Gl X "range" := by rfl)
    (hs : starEach [a, b] X.env = [(false, eval a X.env), (false, eval b X.env)] := by rfl) (hs2 : starEach [b] X.env = [(false, eval b X.env)] := by rfl) (hs3 : starEach [a, b] X.env = (false, eval a X.env) :: starEach [b] X.env := by rfl) (hs4 : starEach [b] X.env = (false, eval b X.env) :: starEach [] X.env := by rfl) :
    PID J X tg (.Call (.Name "range" p) [a, b] [] pos) δ ((List.range n).map fun i => .int ((i : Nat) : Int)) δ2 := by
  have z := pid_range2 (pos := pos) (tg := tg) (p := p) hm h h' (by omega) hg hs hs2 hs3 hs4
  rw [show (((n : Nat) : Int) - 0).toNat = n by omega, rgD_nat] at z
  exact z
theorem psd_ifJ {J : JJ} {X : Cx} {δ δ1 : DS} {Φ : OP} {pos : Pos} {c : Expr} {t u : List Stmt} {q : Bool} (δj : DS) (hc : PTD J X c δ q δ1) (h1 : q = true → ∀ Ψ : OP, Ψ (.nx δj) → PBD J X t δ1 Ψ) (h2 : q = false → ∀ Ψ : OP, Ψ (.nx δj) → PBD J X u δ1 Ψ) (k : Φ (.nx δj)) : PSD J X (.If c t u pos) δ Φ :=
  psd_if hc (fun q => h1 q Φ k) (fun q => h2 q Φ k)
/-! ### digits -/
def bigS (z : List Int × Int) (_ : Nat) : List Int × Int := if 0 < z.2 then (z.1 ++ [z.2 % 1000], z.2 / 1000) else z
def smlS (z : List Int × Int) (t : Nat) : List Int × Int := (z.1 ++ [((z.2 * 16807 + 7 * (t : Nat) + 1) % 2147483647) / 997 % 1000], (z.2 * 16807 + 7 * (t : Nat) + 1) % 2147483647)
def cellF (c : Int) : Int := if c < 0 then 1 - 2 * c else c
def digS (ns : List Int) (acc : List Int) (k : Nat) : List Int :=
  if 10 ^ 18 ≤ cellF (gi ns (k : Nat)) then ((List.range 60).foldl bigS (acc, cellF (gi ns (k : Nat)))).1
  else ((List.range 12).foldl smlS (acc, (cellF (gi ns (k : Nat)) * 48271 + (k : Nat) * 69621 + 11) % 2147483647)).1
def digY (ns : List Int) : List Int := (List.range 63).foldl (digS ns) []
theorem big_len : ∀ (l : List Nat) (z : List Int × Int), (l.foldl bigS z).1.length ≤ z.1.length + l.length
  | [], z => Nat.le_refl _
  | t :: l, z => by
    have := big_len l (bigS z t)
    have h : (bigS z t).1.length ≤ z.1.length + 1 := by
      unfold bigS
      split
      · rw [List.length_append]; exact Nat.le_refl _
      · exact Nat.le_succ _
    rw [List.foldl_cons, List.length_cons]
    omega
theorem sml_len : ∀ (l : List Nat) (z : List Int × Int), (l.foldl smlS z).1.length ≤ z.1.length + l.length
  | [], z => Nat.le_refl _
  | t :: l, z => by
    have := sml_len l (smlS z t)
    have h : (smlS z t).1.length = z.1.length + 1 := by
      unfold smlS
      rw [List.length_append]
      rfl
    rw [List.foldl_cons, List.length_cons]
    omega
theorem dig_len (ns : List Int) : ∀ (l : List Nat) (acc : List Int), (l.foldl (digS ns) acc).length ≤ acc.length + 60 * l.length
  | [], _ => Nat.le_refl _
  | k :: l, acc => by
    have := dig_len ns l (digS ns acc k)
    have h : (digS ns acc k).length ≤ acc.length + 60 := by
      unfold digS
      split
      · have := big_len (List.range 60) (acc, cellF (gi ns (k : Nat)))
        rw [List.length_range] at this
        exact this
      · have := sml_len (List.range 12) (acc, (cellF (gi ns (k : Nat)) * 48271 + (k : Nat) * 69621 + 11) % 2147483647)
        rw [List.length_range] at this
        have h2 : (acc, (cellF (gi ns (k : Nat)) * 48271 + ((k : Nat) : Int) * 69621 + 11) % 2147483647).1.length = acc.length := rfl
        omega
    rw [List.foldl_cons, List.length_cons]
    omega
section
variable {P : Program} {w : World} {K : PySem.W.Frag} {mg : Str → Option Value} {base : Heap} {J : JJ}
def R_cell (ds : List PyData) (d : PyData) : Prop := ∃ (ns : List Int) (k : Int), ds = [.list (ns.map .int), .int k] ∧ 0 ≤ k ∧ d = .int (gi ns k)
theorem fd_law_cell (D : Dfn K mg "_law_cell" s_law_cell p_law_cell) (T : Bt mg) : FD P w K mg base J 1 "_law_cell" p_law_cell R_cell := by
  refine fd_ok D sc_law_cell (fun ds d h => ?_) (fun f cdv A outer s H E hr ds d h => ?_)
  · obtain ⟨_, _, rfl, _⟩ := h
    rfl
  · obtain ⟨ns, k, rfl, h0, rfl⟩ := h
    refine pbd_cons (psd_if (ptd_lt (ped_var 1) (ped_len T.len (PED.pld (ped_var 0)))) (fun q => ?_) (fun q => ?_))
    · have q' := of_decide_eq_true q
      rw [List.length_map] at q'
      exact pbd_one (psd_ret (ped_ixL (ped_var 0) (ped_var 1) (atI_gi h0 q')) rfl)
    · have q' := of_decide_eq_false q
      rw [List.length_map] at q'
      refine pbd_nil (pbd_one (psd_ret ped_int ?_))
      show PyData.int 0 = .int _
      rw [gi_over (by omega)]
def R_dig (ds : List PyData) (d : PyData) : Prop := ∃ ns : List Int, ds = [.list (ns.map .int), .int 0, .int 63] ∧ d = .list ((digY ns).map .int)
theorem fd_law_digits (D : Dfn K mg "_law_digits" s_law_digits p_law_digits) (T : Bt mg) (G : FD P w K mg base J 1 "_law_cell" p_law_cell R_cell) : FD P w K mg base J 2 "_law_digits" p_law_digits R_dig := by
  refine fd_ok D sc_law_digits (fun ds d h => ?_) (fun f cdv A outer s H E hr ds d h => ?_)
  · obtain ⟨_, rfl, _⟩ := h
    rfl
  · obtain ⟨ns, rfl, rfl⟩ := h
    refine pbd_cons (psd_setO 3 (pef_lst pad_nil) (fun p => ?_) sc_law_digits.nd)
    refine pbd_cons (psd_pre (List.range 63) (fun i => .int ((i : Nat) : Int)) (fun pre => [.kn (.list (ns.map .int)), .kn (.int 0), .kn (.int 63), .ow p ((pre.foldl (digS ns) []).map .int), .un, .un, .un, .un]) (fun _ => True) PassesOwn.never rfl
      (pid_rgN2 (n := 63) T.range (ped_var 1) (ped_var 2) (by decide)) (le_eq (le_eq (le_eq (le_ow rfl (by trivial))))) True.intro (fun pre k post he _ => ?_) (fun _ => ?_))
    · have hpl : pre.length ≤ 63 := by
        have := congrArg List.length he
        rw [List.length_range, List.length_append] at this
        omega
      have hal := dig_len ns pre []
      have hfo : (pre ++ [k]).foldl (digS ns) [] = digS ns (pre.foldl (digS ns) []) k := by rw [List.foldl_append]; rfl
      rw [hfo]
      generalize pre.foldl (digS ns) [] = acc at hal ⊢
      have hal : acc.length ≤ 3780 := by
        have h0 : ([] : List Int).length = 0 := rfl
        omega
      refine ⟨_, _, pgd_name 4 sc_law_digits.nd, pbd_cons (psd_set (d := .int (gi ns (k : Nat))) 5 (ped_call G hr (pad_cons (ped_var 0) (pad_cons (ped_var 4) pad_nil)) ⟨ns, (k : Nat), rfl, by omega, rfl⟩) ?_ sc_law_digits.nd)⟩
      refine pbd_cons (psd_ifJ [.kn (.list (ns.map .int)), .kn (.int 0), .kn (.int 63), .ow p (acc.map .int), .kn (.int ((k : Nat) : Int)), .kn (.int (cellF (gi ns (k : Nat)))), .un, .un] (ptd_lt (ped_var 5) ped_int) (fun q Ψ hk => ?_) (fun q Ψ hk => ?_) ?_)
      · rw [show cellF (gi ns (k : Nat)) = 1 - 2 * gi ns (k : Nat) from if_pos (of_decide_eq_true q)] at hk
        exact pbd_one (psd_set 5 (ped_sub ped_int (ped_mul ped_int (ped_var 5) (.inl (by decide)))) hk sc_law_digits.nd)
      · rw [show cellF (gi ns (k : Nat)) = gi ns (k : Nat) from if_neg (of_decide_eq_false q)] at hk
        exact pbd_nil hk
      generalize hc : cellF (gi ns (k : Nat)) = c
      refine pbd_one (psd_if (ptd_ge (ped_var 5) (ped_pow ped_int ped_int ⟨by decide, by decide, by decide⟩)) (fun q => ?_) (fun q => ?_))
      · have q' : (10 : Int) ^ 18 ≤ c := of_decide_eq_true q
        have e : digS ns acc k = ((List.range 60).foldl bigS (acc, c)).1 := by
          unfold digS
          rw [hc, if_pos q']
        rw [e]
        refine pbd_one (psd_pre (List.range 60) (fun i => .int ((i : Nat) : Int)) (fun pre2 => [.kn (.list (ns.map .int)), .kn (.int 0), .kn (.int 63), .ow p ((pre2.foldl bigS (acc, c)).1.map .int), .kn (.int ((k : Nat) : Int)), .kn (.int (pre2.foldl bigS (acc, c)).2), .un, .un]) (fun _ => True) PassesOwn.never rfl (pid_rgN (n := 60) T.range ped_int (by decide)) (by trivial) True.intro (fun pre2 t post2 he2 _ => ?_) (fun _ => ?_))
        · have hb := big_len pre2 (acc, c)
          have h2 : pre2.length ≤ 60 := by
            have := congrArg List.length he2
            rw [List.length_range, List.length_append] at this
            omega
          have hfo2 : (pre2 ++ [t]).foldl bigS (acc, c) = bigS (pre2.foldl bigS (acc, c)) t := by rw [List.foldl_append]; rfl
          rw [hfo2]
          generalize pre2.foldl bigS (acc, c) = z at hb ⊢
          obtain ⟨zs, zc⟩ := z
          have hb : zs.length ≤ acc.length + pre2.length := hb
          refine ⟨_, _, pgd_name 6 sc_law_digits.nd, pbd_one (psd_if (ptd_gt (ped_var 5) ped_int) (fun q => ?_) (fun q => ?_))⟩
          · have e2 : bigS (zs, zc) t = (zs ++ [zc % 1000], zc / 1000) := if_pos (of_decide_eq_true q)
            rw [e2]
            refine pbd_cons (psd_app (ds := zs.map .int) 3 (ped_mod (ped_intI T.int (ped_var 5)) ped_int (by decide)) (sl (by rw [List.length_map]; omega)) ?_)
            refine pbd_one (psd_set 5 (ped_fdiv (ped_var 5) ped_int (by decide)) (And.intro (le_eq (le_eq (le_eq (le_ow ?_ (by trivial))))) True.intro) sc_law_digits.nd)
            rw [List.map_append]
            rfl
          · have e2 : bigS (zs, zc) t = (zs, zc) := if_neg (of_decide_eq_false q)
            rw [e2]
            exact pbd_nil (And.intro (by trivial) True.intro)
        · exact And.intro (le_eq (le_eq (le_eq (le_ow rfl (by trivial))))) True.intro
      · have q' : ¬ (10 : Int) ^ 18 ≤ c := of_decide_eq_false q
        have e : digS ns acc k = ((List.range 12).foldl smlS (acc, (c * 48271 + (k : Nat) * 69621 + 11) % 2147483647)).1 := by
          unfold digS
          rw [hc, if_neg q']
        rw [e]
        refine pbd_cons (psd_set 7 (ped_mod (ped_intI T.int (ped_add (ped_add (ped_mul (ped_var 5) ped_int (.inr (by decide))) (ped_mul (ped_var 4) ped_int (.inr (by decide)))) ped_int)) ped_int (by decide)) ?_ sc_law_digits.nd)
        refine pbd_one (psd_pre (List.range 12) (fun i => .int ((i : Nat) : Int)) (fun pre2 => [.kn (.list (ns.map .int)), .kn (.int 0), .kn (.int 63), .ow p ((pre2.foldl smlS (acc, (c * 48271 + (k : Nat) * 69621 + 11) % 2147483647)).1.map .int), .un, .un, .un, .kn (.int (pre2.foldl smlS (acc, (c * 48271 + (k : Nat) * 69621 + 11) % 2147483647)).2)]) (fun _ => True) PassesOwn.never rfl (pid_rgN (n := 12) T.range ped_int (by decide)) (by trivial) True.intro (fun pre2 t post2 he2 _ => ?_) (fun _ => ?_))
        · have hb := sml_len pre2 (acc, (c * 48271 + (k : Nat) * 69621 + 11) % 2147483647)
          have h2 : pre2.length ≤ 12 := by
            have := congrArg List.length he2
            rw [List.length_range, List.length_append] at this
            omega
          have hfo2 : (pre2 ++ [t]).foldl smlS (acc, (c * 48271 + (k : Nat) * 69621 + 11) % 2147483647) = smlS (pre2.foldl smlS (acc, (c * 48271 + (k : Nat) * 69621 + 11) % 2147483647)) t := by rw [List.foldl_append]; rfl
          rw [hfo2]
          generalize pre2.foldl smlS (acc, (c * 48271 + (k : Nat) * 69621 + 11) % 2147483647) = z at hb ⊢
          obtain ⟨zs, zc⟩ := z
          have hb : zs.length ≤ acc.length + pre2.length := hb
          refine ⟨_, _, pgd_name 6 sc_law_digits.nd, pbd_cons (psd_set 7 (ped_mod (ped_intI T.int (ped_add (ped_add (ped_mul (ped_var 7) ped_int (.inr (by decide))) (ped_mul ped_int (ped_var 6) (.inl (by decide)))) ped_int)) ped_int (by decide)) ?_ sc_law_digits.nd)⟩
          refine pbd_one (psd_app (ds := zs.map .int) 3 (ped_mod (ped_intI T.int (ped_fdiv (ped_var 7) ped_int (by decide))) ped_int (by decide)) (sl (by rw [List.length_map]; omega)) (And.intro (le_eq (le_eq (le_eq (le_ow ?_ (by trivial))))) True.intro))
          unfold smlS
          rw [List.map_append]
          rfl
        · exact And.intro (le_eq (le_eq (le_eq (le_ow rfl (by trivial))))) True.intro
    · exact pbd_one (psd_retO 3 rfl)
end
end Fd
namespace Fd
open PySem PySem.Spec PyProof.Rows L2
local macro_rules | `(tactic| trivial) => `(tactic| exact le_nil)
local macro_rules | `(tactic| trivial) => `(tactic| (refine le_eq ?_; trivial))
local macro_rules | `(tactic| trivial) => `(tactic| (refine le_un ?_; trivial))
/-! ### draws -/
def dr (ns : List Int) (pos : Nat) (many : Int) : Int := if pos < ns.length then gi ns (pos : Nat) % many else 0
theorem dr_bd (ns : List Int) (pos : Nat) {many : Int} (h : 0 < many) : 0 ≤ dr ns pos many ∧ dr ns pos many < many := by
  unfold dr
  split
  · exact ⟨Int.emod_nonneg _ (by omega), Int.emod_lt_of_pos _ h⟩
  · omega
def segJ (ns : List Int) (pos nb : Nat) (many : Int) (j : Nat) : Int × Int := (1 + dr ns (pos + 1 + 2 * j) many, dr ns (pos + 1 + 2 * j + 1) (nb : Nat))
def segN (ns : List Int) (pos : Nat) : Nat := (1 + dr ns pos 3).toNat
def segsY (ns : List Int) (pos nb : Nat) (many : Int) : List (Int × Int) := (List.range (segN ns pos)).map (segJ ns pos nb many)
def segsP (ns : List Int) (pos : Nat) : Nat := pos + 1 + 2 * segN ns pos
theorem segN_bd (ns : List Int) (pos : Nat) : 1 ≤ segN ns pos ∧ segN ns pos ≤ 3 ∧ 1 + dr ns pos 3 = ((segN ns pos : Nat) : Int) := by
  have := dr_bd ns pos (many := 3) (by decide)
  unfold segN
  omega
theorem box_len {ns : List Int} {pos : Nat} : (BoxD ns pos)[1]? = some (.int ((pos : Nat) : Int)) := rfl
section
variable {P : Program} {w : World} {K : PySem.W.Frag} {mg : Str → Option Value} {base : Heap} {J : JJ}
def R_draw : BR := fun ns pos ds d pos' => ∃ many : Int, ds = [.int many] ∧ 0 < many ∧ d = .int (dr ns pos many) ∧ pos' = pos + 1
theorem fd_law_draw (D : Dfn K mg "_law_draw" s_law_draw p_law_draw) (T : Bt mg) : FB P w K mg base J 1 "_law_draw" p_law_draw R_draw := by
  refine fd_okB D sc_law_draw (fun ns pos ds d pos' h => ?_) (fun f cdv A outer s H E hr p ns pos ds d pos' h => ?_)
  · obtain ⟨_, rfl, _⟩ := h
    rfl
  · obtain ⟨many, rfl, hm, rfl, rfl⟩ := h
    have e : ((pos : Nat) : Int) + 1 = ((pos + 1 : Nat) : Int) := by omega
    refine pbd_cons (psd_set (d := .int ((pos : Nat) : Int)) 2 (ped_ixO (ds := BoxD ns pos) 0 ped_int rfl) ?_ sc_law_draw.nd)
    refine pbd_cons (psd_setItem (ds := BoxD ns pos) 0 (PED.eq (ped_add (ped_var 2) ped_int) (by rw [e])) ped_int (j := 1) rfl ?_)
    refine pbd_cons (psd_if (ptd_lt (ped_var 2) (ped_len (ds := ns.map .int) T.len (PED.pld (ped_ixO (ds := BoxD ns (pos + 1)) 0 ped_int rfl)))) (fun q => ?_) (fun q => ?_))
    · have q' := of_decide_eq_true q
      rw [List.length_map] at q'
      refine pbd_one (psd_ret (ped_mod (ped_intI T.int (ped_ixL (ds := ns.map .int) (ped_ixO (ds := BoxD ns (pos + 1)) 0 ped_int rfl) (ped_var 2) (atI_gi (by omega) q'))) (ped_var 1) hm) ⟨?_, rfl⟩)
      show PyData.int (gi ns (pos : Nat) % many) = .int (dr ns pos many)
      unfold dr
      rw [if_pos (by omega)]
    · have q' := of_decide_eq_false q
      rw [List.length_map] at q'
      refine pbd_nil (pbd_one (psd_ret ped_int ⟨?_, rfl⟩))
      show PyData.int 0 = .int (dr ns pos many)
      unfold dr
      rw [if_neg (by omega)]
def R_pick : BR := fun ns pos ds d pos' => ∃ ts : List Int, ds = [.list (ts.map .int)] ∧ ts ≠ [] ∧ d = .int (gi ts (dr ns pos 900 % ((ts.length : Nat) : Int))) ∧ pos' = pos + 1
theorem fd_law_pick (D : Dfn K mg "_law_pick" s_law_pick p_law_pick) (T : Bt mg) (G : FB P w K mg base J 1 "_law_draw" p_law_draw R_draw) : FB P w K mg base J 2 "_law_pick" p_law_pick R_pick := by
  refine fd_okB D sc_law_pick (fun ns pos ds d pos' h => ?_) (fun f cdv A outer s H E hr p ns pos ds d pos' h => ?_)
  · obtain ⟨_, rfl, _⟩ := h
    rfl
  · obtain ⟨ts, rfl, hne, rfl, rfl⟩ := h
    have hl : 0 < ((ts.length : Nat) : Int) := by have := List.length_pos_iff.mpr hne; omega
    have m1 := Int.emod_nonneg (dr ns pos 900) (show ((ts.length : Nat) : Int) ≠ 0 by omega)
    have m2 := Int.emod_lt_of_pos (dr ns pos 900) hl
    refine pbd_one (psd_ret (ped_ixL (ds := ts.map .int) (ped_var 1) (ped_mod (ped_intI T.int (ped_callB (d := .int (dr ns pos 900)) 0 G hr (pad_cons ped_int pad_nil) ⟨900, rfl, by decide, rfl, rfl⟩)) (PED.eq (ped_len T.len (PED.pld (ped_var 1))) (by rw [List.length_map])) hl) (atI_gi m1 m2)) ⟨rfl, rfl⟩)
def R_seg : BR := fun ns pos ds d pos' => ∃ (bs : List Bud) (many : Int), ds = [.tuple (bs.map encB), .int many] ∧ bs ≠ [] ∧ 0 < many ∧ d = .tuple ((segsY ns pos bs.length many).map encS) ∧ pos' = segsP ns pos
theorem fd_law_segments (D : Dfn K mg "_law_segments" s_law_segments p_law_segments) (T : Bt mg) (G : FB P w K mg base J 1 "_law_draw" p_law_draw R_draw) : FB P w K mg base J 2 "_law_segments" p_law_segments R_seg := by
  refine fd_okB D sc_law_segments (fun ns pos ds d pos' h => ?_) (fun f cdv A outer s H E hr p ns pos ds d pos' h => ?_)
  · obtain ⟨_, _, rfl, _⟩ := h
    rfl
  · obtain ⟨bs, many, rfl, hne, hm, rfl, rfl⟩ := h
    have hl : 0 < ((bs.length : Nat) : Int) := by have := List.length_pos_iff.mpr hne; omega
    obtain ⟨n1, n3, ne⟩ := segN_bd ns pos
    refine pbd_one (psd_ret (ped_tupL T.tuple (PEF.pld (pef_lcG (own := [("_law_k", 3)]) (ds := (List.range (segN ns pos)).map fun i => .int ((i : Nat) : Int)) rfl sc_law_segments.nd
      (pid_rgN T.range (PED.eq (ped_add ped_int (ped_callB (d := .int (dr ns pos 3)) 0 G hr (pad_cons ped_int pad_nil) ⟨3, rfl, by decide, rfl, rfl⟩)) (by rw [ne])) (by omega)) (blkOk_by (N := N_law_segments) (sc := defScope s_law_segments) (by decide +kernel))
      (fun i => [.ow p (BoxD ns (pos + 1 + 2 * i)), .kn (.tuple (bs.map encB)), .kn (.int many), .un]) (fun i => (List.range i).map fun j => encS (segJ ns pos bs.length many j)) (by trivial) rfl
      (fun i v x hv hx => by
        have hv' : v = 3 := by simpa using hv
        subst hv'
        exact (Option.some.inj hx).symm)
      (fun i d hd => by
        obtain ⟨hi, rfl⟩ := range_get hd
        refine ⟨[3], [.ow p (BoxD ns (pos + 1 + 2 * i)), .kn (.tuple (bs.map encB)), .kn (.int many), .kn (.int ((i : Nat) : Int))], [.ow p (BoxD ns (pos + 1 + 2 * i)), .kn (.tuple (bs.map encB)), .kn (.int many), .kn (.int ((i : Nat) : Int))], true, fun j hj => hj, fun _ _ _ _ _ => pgd_name 3 sc_law_segments.nd, fun _ _ _ _ _ => ptsd_nil, fun _ => ⟨encS (segJ ns pos bs.length many i), [.ow p (BoxD ns (pos + 1 + 2 * (i + 1))), .kn (.tuple (bs.map encB)), .kn (.int many), .kn (.int ((i : Nat) : Int))], fun _ _ _ _ _ => ped_tup (pad_cons (ped_add ped_int (ped_callB (d := .int (dr ns (pos + 1 + 2 * i) many)) 0 G hr (pad_cons (ped_var 2) pad_nil) ⟨many, rfl, hm, rfl, rfl⟩)) (pad_cons (ped_callB (d := .int (dr ns (pos + 1 + 2 * i + 1) (bs.length : Nat))) 0 G hr (pad_cons (ped_lenM T.len (ped_var 1)) pad_nil) ⟨((bs.length : Nat) : Int), rfl, hl, rfl, rfl⟩) pad_nil)), by trivial, ?_, ?_⟩, fun z => absurd z (by decide)⟩
        · rw [List.range_succ, List.map_append]
          rfl
        · rw [List.length_map, List.length_range]
          exact Nat.lt_of_lt_of_le hi (sl (by omega)))))) ⟨?_, ?_⟩)
    · show PyData.tuple _ = .tuple _
      rw [List.length_map, List.length_range]
      unfold segsY
      rw [List.map_map]
      rfl
    · rw [List.length_map, List.length_range]
      rfl
end
end Fd
/-! The little system, by its digits. -/
namespace Fd
open PySem PySem.Spec PyProof.Rows L2
def nmK (x : Str) (k : Nat) : Str := x ++ ⟨#[97 + k]⟩
def budJ (ns : List Int) (pos k : Nat) : Bud := ⟨nmK "b" k, dr ns pos 4, dr ns (pos + 1) (((k : Nat) : Int) + 1) - 1⟩
def budS (ns : List Int) (z : List Bud × Nat) (k : Nat) : List Bud × Nat := (z.1 ++ [budJ ns z.2 k], z.2 + 2)
def budZ (ns : List Int) : List Bud × Nat := (List.range (1 + dr ns 0 3).toNat).foldl (budS ns) ([], 1)
def jobS (ns : List Int) (nb : Nat) (z : List Itm × Nat) (k : Nat) : List Itm × Nat :=
  if dr ns (segsP ns z.2 + 2) 4 = 0 then (z.1 ++ [⟨"job", nmK "j" k, dr ns (segsP ns z.2) 8, dr ns (segsP ns z.2) 8 + 2 + dr ns (segsP ns z.2 + 1) 34, dr ns (segsP ns z.2 + 3) ((segJ ns z.2 nb 4 0).1 + 1), segsY ns z.2 nb 4⟩], segsP ns z.2 + 4)
  else (z.1 ++ [⟨"job", nmK "j" k, dr ns (segsP ns z.2) 8, dr ns (segsP ns z.2) 8 + 2 + dr ns (segsP ns z.2 + 1) 34, 0, segsY ns z.2 nb 4⟩], segsP ns z.2 + 3)
def jobZ (ns : List Int) : List Itm × Nat := (List.range (dr ns (budZ ns).2 4).toNat).foldl (jobS ns (budZ ns).1.length) ([], (budZ ns).2 + 1)
def taskS (ns : List Int) (nb : Nat) (z : List Itm × Nat) (k : Nat) : List Itm × Nat :=
  (z.1 ++ [⟨"task", nmK "t" k, dr ns (segsP ns z.2 + 2) 8, lens (segsY ns z.2 nb 3) * (3 + dr ns (segsP ns z.2) 3) + 1 + dr ns (segsP ns z.2 + 1) 9, 4 + dr ns (segsP ns z.2 + 3) 30, segsY ns z.2 nb 3⟩], segsP ns z.2 + 4)
def taskN (ns : List Int) : Int := gi [0, 1, 1, 2] (dr ns (jobZ ns).2 900 % 4)
def taskZ (ns : List Int) : List Itm × Nat := (List.range (taskN ns).toNat).foldl (taskS ns (budZ ns).1.length) ([], (jobZ ns).2 + 1)
def litY (ns : List Int) : Sys := ⟨(budZ ns).1, (jobZ ns).1, (taskZ ns).1⟩
theorem taskN_bd (ns : List Int) : 0 ≤ taskN ns ∧ taskN ns ≤ 2 := by
  unfold taskN
  have h1 := Int.emod_nonneg (dr ns (jobZ ns).2 900) (show (4 : Int) ≠ 0 by decide)
  have h2 := Int.emod_lt_of_pos (dr ns (jobZ ns).2 900) (show (0 : Int) < 4 by decide)
  generalize dr ns (jobZ ns).2 900 % 4 = i at h1 h2
  have : i = 0 ∨ i = 1 ∨ i = 2 ∨ i = 3 := by omega
  rcases this with rfl | rfl | rfl | rfl <;> decide
/-! ### budgets -/
theorem budF_eq (ns : List Int) : ∀ n : Nat, (List.range n).foldl (budS ns) ([], 1) = ((List.range n).map fun k => budJ ns (1 + 2 * k) k, 1 + 2 * n)
  | 0 => rfl
  | n + 1 => by
    rw [List.range_succ, List.foldl_append, budF_eq ns n, List.map_append]
    show ((List.range n).map (fun k => budJ ns (1 + 2 * k) k) ++ [budJ ns (1 + 2 * n) n], 1 + 2 * n + 2) = _
    congr 1
theorem budZ_wf (ns : List Int) : WfB (budZ ns).1 := by
  have hn := dr_bd ns 0 (many := 3) (by decide)
  unfold budZ
  rw [budF_eq]
  dsimp only
  refine ⟨?_, ?_, fun b hb => ?_, fun i b hb => ?_⟩
  · rw [List.length_map, List.length_range]; omega
  · rw [List.length_map, List.length_range]; omega
  · obtain ⟨k, _, rfl⟩ := List.mem_map.mp hb
    have := dr_bd ns (1 + 2 * k) (many := 4) (by decide)
    show 0 ≤ dr ns (1 + 2 * k) 4 ∧ dr ns (1 + 2 * k) 4 ≤ 3
    omega
  · obtain ⟨hi, rfl⟩ := range_get hb
    have := dr_bd ns (1 + 2 * i + 1) (many := ((i : Nat) : Int) + 1) (by omega)
    show -1 ≤ dr ns (1 + 2 * i + 1) (((i : Nat) : Int) + 1) - 1 ∧ dr ns (1 + 2 * i + 1) (((i : Nat) : Int) + 1) - 1 < i
    omega
/-! ### segments -/
theorem segsY_mem {ns : List Int} {pos nb : Nat} {many : Int} (hb : 1 ≤ nb) (hm : 0 < many) {g : Int × Int} (h : g ∈ segsY ns pos nb many) : 1 ≤ g.1 ∧ g.1 ≤ many ∧ 0 ≤ g.2 ∧ g.2 < nb := by
  obtain ⟨j, _, rfl⟩ := List.mem_map.mp h
  have h1 := dr_bd ns (pos + 1 + 2 * j) hm
  have h2 := dr_bd ns (pos + 1 + 2 * j + 1) (many := (nb : Nat)) (by omega)
  show 1 ≤ 1 + dr ns (pos + 1 + 2 * j) many ∧ 1 + dr ns (pos + 1 + 2 * j) many ≤ many ∧ 0 ≤ dr ns (pos + 1 + 2 * j + 1) (nb : Nat) ∧ dr ns (pos + 1 + 2 * j + 1) (nb : Nat) < nb
  omega
theorem segsY_len (ns : List Int) (pos nb : Nat) (many : Int) : 1 ≤ (segsY ns pos nb many).length ∧ (segsY ns pos nb many).length ≤ 3 := by
  have := segN_bd ns pos
  unfold segsY
  rw [List.length_map, List.length_range]
  omega
theorem segsY_hd (ns : List Int) (pos nb : Nat) (many : Int) : ∃ r, segsY ns pos nb many = segJ ns pos nb many 0 :: r := by
  have h := segN_bd ns pos
  unfold segsY
  obtain ⟨m, hm⟩ : ∃ m, segN ns pos = m + 1 := ⟨segN ns pos - 1, by omega⟩
  rw [hm, List.range_succ_eq_map, List.map_cons]
  exact ⟨_, rfl⟩
theorem segsY_lens {ns : List Int} {pos nb : Nat} {many : Int} (hb : 1 ≤ nb) (hm : 0 < many) (h4 : many ≤ 4) : (segJ ns pos nb many 0).1 ≤ lens (segsY ns pos nb many) ∧ lens (segsY ns pos nb many) ≤ many * 3 := by
  obtain ⟨r, hr⟩ := segsY_hd ns pos nb many
  have hl := segsY_len ns pos nb many
  have hm2 : ∀ g, g ∈ segsY ns pos nb many → 1 ≤ g.1 ∧ g.1 ≤ many := fun g hg => by
    have := segsY_mem hb hm hg
    omega
  have up : ∀ l : List (Int × Int), (∀ g, g ∈ l → 1 ≤ g.1 ∧ g.1 ≤ many) → 0 ≤ lens l ∧ lens l ≤ many * l.length := fun l => by
    induction l with
    | nil => intro _; constructor <;> simp [lens]
    | cons a l ih =>
      intro h
      have h1 := h a List.mem_cons_self
      have h2 := ih fun x hx => h x (List.mem_cons_of_mem _ hx)
      have e : lens (a :: l) = a.1 + lens l := by unfold lens; rw [List.map_cons, List.sum_cons]
      rw [e, List.length_cons]
      have e2 : many * ((l.length + 1 : Nat) : Int) = many * (l.length : Int) + many := by rw [Int.natCast_succ, Int.mul_add, Int.mul_one]
      omega
  refine ⟨?_, ?_⟩
  · rw [hr] at hm2 ⊢
    have h2 := up r fun x hx => hm2 x (List.mem_cons_of_mem _ hx)
    have e : lens (segJ ns pos nb many 0 :: r) = (segJ ns pos nb many 0).1 + lens r := by unfold lens; rw [List.map_cons, List.sum_cons]
    omega
  · have h2 := (up _ hm2).2
    have h3 : many * ((segsY ns pos nb many).length : Int) ≤ many * 3 := Int.mul_le_mul_of_nonneg_left (by omega) (by omega)
    omega
/-! ### jobs, tasks -/
theorem jobS_wf {ns : List Int} {nb : Nat} (hb : 1 ≤ nb) {z : List Itm × Nat} {k : Nat} (h : ∀ i, i ∈ z.1 → WfJ nb i) : ∀ i, i ∈ (jobS ns nb z k).1 → WfJ nb i := by
  have d8 := dr_bd ns (segsP ns z.2) (many := 8) (by decide)
  have d34 := dr_bd ns (segsP ns z.2 + 1) (many := 34) (by decide)
  have sl4 := segsY_len ns z.2 nb 4
  have ll := segsY_lens (ns := ns) (pos := z.2) (many := 4) hb (by decide) (by decide)
  have sm : ∀ g, g ∈ segsY ns z.2 nb 4 → 1 ≤ g.1 ∧ g.1 ≤ 4 ∧ 0 ≤ g.2 ∧ g.2 < nb := fun g hg => segsY_mem hb (by decide) hg
  have s0 : 1 ≤ (segJ ns z.2 nb 4 0).1 ∧ (segJ ns z.2 nb 4 0).1 ≤ 4 := by
    obtain ⟨r, hr⟩ := segsY_hd ns z.2 nb 4
    have := sm _ (by rw [hr]; exact List.mem_cons_self)
    omega
  intro i hi
  unfold jobS at hi
  split at hi
  · rcases List.mem_append.mp hi with hi | hi
    · exact h i hi
    · rw [List.mem_singleton.mp hi]
      have dc := dr_bd ns (segsP ns z.2 + 3) (many := (segJ ns z.2 nb 4 0).1 + 1) (by omega)
      exact { some := sl4.1, few := sl4.2, seg := sm, a0 := d8.1, a1 := by show dr ns _ 8 ≤ 7; omega, kd := rfl, due := by show dr ns (segsP ns z.2) 8 ≤ dr ns (segsP ns z.2) 8 + 2 + dr ns (segsP ns z.2 + 1) 34 ∧ dr ns (segsP ns z.2) 8 + 2 + dr ns (segsP ns z.2 + 1) 34 ≤ 50; omega, c0 := dc.1, c1 := by show dr ns _ _ ≤ 4; omega, c2 := by show dr ns _ _ ≤ lens (segsY ns z.2 nb 4); omega }
  · rcases List.mem_append.mp hi with hi | hi
    · exact h i hi
    · rw [List.mem_singleton.mp hi]
      exact { some := sl4.1, few := sl4.2, seg := sm, a0 := d8.1, a1 := by show dr ns _ 8 ≤ 7; omega, kd := rfl, due := by show dr ns (segsP ns z.2) 8 ≤ dr ns (segsP ns z.2) 8 + 2 + dr ns (segsP ns z.2 + 1) 34 ∧ dr ns (segsP ns z.2) 8 + 2 + dr ns (segsP ns z.2 + 1) 34 ≤ 50; omega, c0 := Int.le_refl 0, c1 := by show (0 : Int) ≤ 4; decide, c2 := by show 0 ≤ lens (segsY ns z.2 nb 4); omega }
theorem jobS_len (ns : List Int) (nb : Nat) (z : List Itm × Nat) (k : Nat) : (jobS ns nb z k).1.length = z.1.length + 1 := by
  unfold jobS
  split <;> (rw [List.length_append]; rfl)
theorem jobF_wf {ns : List Int} {nb : Nat} (hb : 1 ≤ nb) : ∀ (l : List Nat) (z : List Itm × Nat), (∀ i, i ∈ z.1 → WfJ nb i) → (∀ i, i ∈ (l.foldl (jobS ns nb) z).1 → WfJ nb i) ∧ (l.foldl (jobS ns nb) z).1.length = z.1.length + l.length
  | [], z, h => ⟨h, rfl⟩
  | k :: l, z, h => by
    obtain ⟨h1, h2⟩ := jobF_wf hb l (jobS ns nb z k) (jobS_wf hb h)
    refine ⟨h1, ?_⟩
    rw [List.foldl_cons, h2, jobS_len, List.length_cons]
    omega
theorem taskS_wf {ns : List Int} {nb : Nat} (hb : 1 ≤ nb) {z : List Itm × Nat} {k : Nat} (h : ∀ i, i ∈ z.1 → WfK nb i) : ∀ i, i ∈ (taskS ns nb z k).1 → WfK nb i := by
  have d3 := dr_bd ns (segsP ns z.2) (many := 3) (by decide)
  have d9 := dr_bd ns (segsP ns z.2 + 1) (many := 9) (by decide)
  have d8 := dr_bd ns (segsP ns z.2 + 2) (many := 8) (by decide)
  have d30 := dr_bd ns (segsP ns z.2 + 3) (many := 30) (by decide)
  have sl3 := segsY_len ns z.2 nb 3
  have ll := segsY_lens (ns := ns) (pos := z.2) (many := 3) hb (by decide) (by decide)
  have sm : ∀ g, g ∈ segsY ns z.2 nb 3 → 1 ≤ g.1 ∧ g.1 ≤ 3 ∧ 0 ≤ g.2 ∧ g.2 < nb := fun g hg => segsY_mem hb (by decide) hg
  have s0 : 1 ≤ (segJ ns z.2 nb 3 0).1 := by
    obtain ⟨r, hr⟩ := segsY_hd ns z.2 nb 3
    exact (sm _ (by rw [hr]; exact List.mem_cons_self)).1
  intro i hi
  rcases List.mem_append.mp hi with hi | hi
  · exact h i hi
  · rw [List.mem_singleton.mp hi]
    generalize hL : lens (segsY ns z.2 nb 3) = L at ll
    generalize dr ns (segsP ns z.2) 3 = D at d3
    have e : L * (3 + D) = 3 * L + L * D := by rw [Int.mul_add, Int.mul_comm L 3]
    have p0 : 0 ≤ L * D := Int.mul_nonneg (by omega) d3.1
    have p1 : L * D ≤ 9 * 2 := Int.mul_le_mul (by omega) (by omega) d3.1 (by decide)
    exact { some := sl3.1, few := sl3.2, seg := fun g hg => by have := sm g hg; omega, a0 := d8.1, a1 := by show dr ns _ 8 ≤ 7; omega, kd := rfl, gap := by show 3 * lens (segsY ns z.2 nb 3) < L * (3 + D) + 1 + dr ns _ 9 ∧ L * (3 + D) + 1 + dr ns _ 9 ≤ 100; rw [hL]; omega, due := by show 4 ≤ 4 + dr ns _ 30 ∧ 4 + dr ns _ 30 ≤ 50; omega }
theorem taskF_wf {ns : List Int} {nb : Nat} (hb : 1 ≤ nb) : ∀ (l : List Nat) (z : List Itm × Nat), (∀ i, i ∈ z.1 → WfK nb i) → (∀ i, i ∈ (l.foldl (taskS ns nb) z).1 → WfK nb i) ∧ (l.foldl (taskS ns nb) z).1.length = z.1.length + l.length
  | [], z, h => ⟨h, rfl⟩
  | k :: l, z, h => by
    obtain ⟨h1, h2⟩ := taskF_wf hb l (taskS ns nb z k) (taskS_wf hb h)
    refine ⟨h1, ?_⟩
    rw [List.foldl_cons, h2, List.length_cons]
    show (z.1 ++ [_]).length + l.length = _
    rw [List.length_append]
    show z.1.length + 1 + _ = _
    omega
theorem litY_wf (ns : List Int) : WfY (litY ns) := by
  have hB := budZ_wf ns
  have hJ := jobF_wf (ns := ns) hB.pos (List.range (dr ns (budZ ns).2 4).toNat) ([], (budZ ns).2 + 1) (fun i hi => absurd hi List.not_mem_nil)
  have hK := taskF_wf (ns := ns) hB.pos (List.range (taskN ns).toNat) ([], (jobZ ns).2 + 1) (fun i hi => absurd hi List.not_mem_nil)
  have d4 := dr_bd ns (budZ ns).2 (many := 4) (by decide)
  have t2 := taskN_bd ns
  refine ⟨hB, ?_, ?_, hJ.1, hK.1⟩
  · show (jobZ ns).1.length ≤ 3
    unfold jobZ
    rw [hJ.2, List.length_range]
    show 0 + _ ≤ _
    omega
  · show (taskZ ns).1.length ≤ 2
    unfold taskZ
    rw [hK.2, List.length_range]
    show 0 + _ ≤ _
    omega
end Fd
namespace Fd
open PySem PySem.Spec PyProof.Rows L2
local macro_rules | `(tactic| trivial) => `(tactic| exact le_nil)
local macro_rules | `(tactic| trivial) => `(tactic| (refine le_eq ?_; trivial))
local macro_rules | `(tactic| trivial) => `(tactic| (refine le_un ?_; trivial))
theorem abc_at {k : Nat} (h : k < 3) : atI (("abc" : Str)).cps.toList ((k : Nat) : Int) = some (97 + k) := by
  have : k = 0 ∨ k = 1 ∨ k = 2 := by omega
  rcases this with rfl | rfl | rfl <;> rfl
theorem abcd_at {k : Nat} (h : k < 4) : atI (("abcd" : Str)).cps.toList ((k : Nat) : Int) = some (97 + k) := by
  have : k = 0 ∨ k = 1 ∨ k = 2 ∨ k = 3 := by omega
  rcases this with rfl | rfl | rfl | rfl <;> rfl
section
variable {P : Program} {w : World} {K : PySem.W.Frag} {mg : Str → Option Value} {base : Heap} {J : JJ}
section
variable {X : Cx} {δ : DS} {q : Addr} {ns : List Int} {pp : Nat}
/-- draw(box, n), the box at slot 0 -/
theorem ped_draw {bx : Str} {e : Expr} {p pb pos : Pos} {many : Int} (G : FB X.prog X.w X.K X.mg X.base J 1 "_law_draw" p_law_draw R_draw) (hr : Room 1 X.A) (ha : PED J X e δ (.int many) δ) (hm : 0 < many) (h1 : δ[0]? = some (.ow q (BoxD ns pp)) := by rfl) (hg : Gl X "_law_draw" := by rfl) (hN : X.N[0]? = some bx := by rfl)
    (hv : Vis X.env.scope bx := by first | exact Or.inl rfl | exact Or.inr (Or.inl rfl) | exact Or.inr (Or.inr rfl)) (hd : (bx == ("__debug__" : Str)) = false := by decide) (hcd : (bx == ("__classdict__" : Str)) = false := by decide)
    (he : starEach [.Name bx pb, e] X.env = (false, eval (.Name bx pb) X.env) :: starEach [e] X.env := by rfl) (he2 : starEach [e] X.env = (false, eval e X.env) :: starEach [] X.env := by rfl) (hpl : (backTo pos (starEach [e] X.env)).any (·.1) = false := by rfl) : PED J X (.Call (.Name "_law_draw" p) [.Name bx pb, e] [] pos) δ (.int (dr ns pp many)) (δ.set 0 (.ow q (BoxD ns (pp + 1)))) :=
  ped_callB (h0 := ⟨_, h1⟩) (h1 := h1) (hg := hg) (hN := hN) (hv := hv) (hd := hd) (hcd := hcd) (he := he) (hpl := hpl) 0 G hr (pad_cons ha pad_nil he2) ⟨many, rfl, hm, rfl, rfl⟩
end
def R_lit : BR := fun ns pos ds d pos' => ds = [] ∧ pos = 0 ∧ d = encY (litY ns) ∧ pos' = (taskZ ns).2
theorem fd_law_little (D : Dfn K mg "_law_little" s_law_little p_law_little) (T : Bt mg) (GD : FB P w K mg base J 1 "_law_draw" p_law_draw R_draw) (GP : FB P w K mg base J 2 "_law_pick" p_law_pick R_pick) (GS : FB P w K mg base J 2 "_law_segments" p_law_segments R_seg) (GL : FD P w K mg base J 1 "_law_lengths" p_law_lengths R_len) :
    FB P w K mg base J 3 "_law_little" p_law_little R_lit := by
  refine fd_okB D sc_law_little (fun ns pos ds d pos' h => ?_) (fun f cdv A outer s H E hr p ns pos ds d pos' h => ?_)
  · obtain ⟨rfl, _⟩ := h
    rfl
  · obtain ⟨rfl, rfl, rfl, rfl⟩ := h
    have hr1 : Room 1 (cb P w K mg base N_law_little "_law_little" s_law_little f cdv A outer s H E).A := hr.mono (by decide)
    have hB := budZ_wf ns
    have dn := dr_bd ns 0 (many := 3) (by decide)
    have dj := dr_bd ns (budZ ns).2 (many := 4) (by decide)
    have dt := taskN_bd ns
    refine pbd_cons (psd_set 1 (ped_tup pad_nil) ?_ sc_law_little.nd)
    refine pbd_cons (psd_pre (List.range (1 + dr ns 0 3).toNat) (fun i => .int (0 + (i : Nat) * 1)) (fun pre => [.ow p (BoxD ns (pre.foldl (budS ns) ([], 1)).2), .kn (.tuple ((pre.foldl (budS ns) ([], 1)).1.map encB)), .un, .un, .un, .un, .un, .un, .un]) (fun pre => (pre.foldl (budS ns) ([], 1)).1.length = pre.length) PassesOwn.never rfl
      (pid_range1 T.range (ped_add ped_int (ped_draw GD hr1 ped_int (by decide))) (by omega) (by omega)) (by trivial) rfl (fun pre k post he hp => ?_) (fun _ => ?_))
    · have hk : k < (1 + dr ns 0 3).toNat := List.mem_range.mp (by rw [he]; exact List.mem_append_right _ List.mem_cons_self)
      have hl : pre.length ≤ 3 := by
        have := congrArg List.length he
        rw [List.length_range, List.length_append] at this
        omega
      have hfo : (pre ++ [k]).foldl (budS ns) ([], 1) = budS ns (pre.foldl (budS ns) ([], 1)) k := by rw [List.foldl_append]; rfl
      rw [hfo]
      generalize pre.foldl (budS ns) ([], 1) = z at hp ⊢
      obtain ⟨zs, zp⟩ := z
      have hp : zs.length = pre.length := hp
      rw [show (0 : Int) + (k : Nat) * 1 = (k : Nat) by omega]
      refine ⟨_, _, pgd_name 2 sc_law_little.nd, pbd_one (psd_set (d := .tuple ((zs ++ [budJ ns zp k]).map encB)) 1 (PED.eq (ped_catT (ped_var 1) (ped_tup (pad_cons (ped_tup (pad_cons (ped_addS ped_str (ped_ixS ped_str (ped_var 2) (by decide) (abc_at (by omega))) ?_) (pad_cons (ped_draw (pp := zp) GD hr1 ped_int (by decide)) (pad_cons (ped_sub (ped_draw (pp := zp + 1) GD hr1 (ped_add (ped_var 2) ped_int) (by omega)) ped_int) pad_nil)))) pad_nil)) (sl ?_)) ?_) (And.intro (by trivial) ?_) sc_law_little.nd)⟩
      · exact Nat.le_trans (show _ ≤ 2 by exact Nat.le_refl 2) (by decide)
      · rw [List.length_map]
        show zs.length + 1 ≤ _
        omega
      · rw [List.map_append]
        rfl
      · show (zs ++ [budJ ns zp k]).length = _
        rw [List.length_append, List.length_append, hp]
        rfl
    · show PBD J _ _ [.ow p (BoxD ns (budZ ns).2), .kn (.tuple ((budZ ns).1.map encB)), .un, .un, .un, .un, .un, .un, .un] _
      have hne : (budZ ns).1 ≠ [] := fun e => by
        have := hB.pos
        rw [e] at this
        exact absurd this (by decide)
      refine pbd_cons (psd_set 3 (ped_tup pad_nil) ?_ sc_law_little.nd)
      refine pbd_cons (psd_pre (List.range (dr ns (budZ ns).2 4).toNat) (fun i => .int (0 + (i : Nat) * 1)) (fun pre => [.ow p (BoxD ns (pre.foldl (jobS ns (budZ ns).1.length) ([], (budZ ns).2 + 1)).2), .kn (.tuple ((budZ ns).1.map encB)), .un, .kn (.tuple ((pre.foldl (jobS ns (budZ ns).1.length) ([], (budZ ns).2 + 1)).1.map encI)), .un, .un, .un, .un, .un]) (fun pre => (pre.foldl (jobS ns (budZ ns).1.length) ([], (budZ ns).2 + 1)).1.length = pre.length) PassesOwn.never rfl
        (pid_range1 T.range (ped_draw (pp := (budZ ns).2) GD hr1 ped_int (by decide)) (by omega) (by omega)) (by trivial) rfl (fun pre k post he hp => ?_) (fun _ => ?_))
      · have hk : k < (dr ns (budZ ns).2 4).toNat := List.mem_range.mp (by rw [he]; exact List.mem_append_right _ List.mem_cons_self)
        have hl : pre.length ≤ 3 := by
          have := congrArg List.length he
          rw [List.length_range, List.length_append] at this
          omega
        have hfo : (pre ++ [k]).foldl (jobS ns (budZ ns).1.length) ([], (budZ ns).2 + 1) = jobS ns (budZ ns).1.length (pre.foldl (jobS ns (budZ ns).1.length) ([], (budZ ns).2 + 1)) k := by rw [List.foldl_append]; rfl
        rw [hfo]
        generalize pre.foldl (jobS ns (budZ ns).1.length) ([], (budZ ns).2 + 1) = z at hp ⊢
        have hjl := jobS_len ns (budZ ns).1.length z k
        obtain ⟨zs, zp⟩ := z
        have hp : zs.length = pre.length := hp
        have hjl : (jobS ns (budZ ns).1.length (zs, zp) k).1.length = zs.length + 1 := hjl
        obtain ⟨r, hr0⟩ := segsY_hd ns zp (budZ ns).1.length 4
        have s0 : 1 ≤ (segJ ns zp (budZ ns).1.length 4 0).1 := (segsY_mem (ns := ns) (pos := zp) (many := 4) hB.pos (by decide) (by rw [hr0]; exact List.mem_cons_self)).1
        rw [show (0 : Int) + (k : Nat) * 1 = (k : Nat) by omega]
        refine ⟨_, _, pgd_name 2 sc_law_little.nd, pbd_cons (psd_set (d := .tuple ((segsY ns zp (budZ ns).1.length 4).map encS)) 4 (ped_callB (ns := ns) (pp := zp) (pp' := segsP ns zp) 0 GS (hr.mono (by decide)) (pad_cons (ped_var 1) (pad_cons ped_int pad_nil)) ⟨(budZ ns).1, 4, rfl, hne, by decide, rfl, rfl⟩) ?_ sc_law_little.nd)⟩
        refine pbd_cons (psd_set 5 (ped_draw (pp := segsP ns zp) GD hr1 ped_int (by decide)) ?_ sc_law_little.nd)
        refine pbd_cons (psd_set 6 (ped_tup (pad_cons ped_str (pad_cons (ped_addS ped_str (ped_ixS ped_str (ped_var 2) (by decide) (abcd_at (by omega))) (Nat.le_trans (show _ ≤ 2 by exact Nat.le_refl 2) (by decide))) (pad_cons (ped_var 5) (pad_cons (ped_add (ped_add (ped_var 5) ped_int) (ped_draw (pp := segsP ns zp + 1) GD hr1 ped_int (by decide))) (pad_cons ped_int (pad_cons (ped_var 4) pad_nil))))))) ?_ sc_law_little.nd)
        refine pbd_cons (psd_if (ptd_eq (ped_draw (pp := segsP ns zp + 2) GD hr1 ped_int (by decide)) ped_int) (fun q => ?_) (fun q => ?_))
        · have e : jobS ns (budZ ns).1.length (zs, zp) k = _ := if_pos (of_decide_eq_true q)
          rw [e] at hjl ⊢
          refine pbd_one (psd_set 6 (ped_catT (ped_slTo (ped_var 6) ped_int) (ped_tup (pad_cons (ped_draw (pp := segsP ns zp + 3) (many := (segJ ns zp (budZ ns).1.length 4 0).1 + 1) GD hr1 (ped_add (ped_ixT (ds := [.int (segJ ns zp (budZ ns).1.length 4 0).1, .int (segJ ns zp (budZ ns).1.length 4 0).2]) (ped_ixT (ped_var 4) ped_int (by rw [hr0]; exact atI_map (k := 0) (by decide) rfl)) ped_int) ped_int) (by omega)) (pad_cons (ped_var 4) pad_nil))) (Nat.le_trans (show _ ≤ 6 by exact Nat.le_refl 6) (by decide))) ?_ sc_law_little.nd)
          refine pbd_one (psd_set (d := .tuple ((jobS ns (budZ ns).1.length (zs, zp) k).1.map encI)) 3 (PED.eq (ped_catT (ped_var 3) (ped_tup (pad_cons (ped_var 6) pad_nil)) (sl ?_)) ?_) (And.intro ?_ ?_) sc_law_little.nd)
          · rw [List.length_map]
            show zs.length + 1 ≤ _
            omega
          · rw [e, List.map_append]
            rfl
          · rw [e]
            trivial
          · show List.length _ = _
            rw [hjl, List.length_append, hp]
            rfl
        · have e : jobS ns (budZ ns).1.length (zs, zp) k = _ := if_neg (of_decide_eq_false q)
          rw [e] at hjl ⊢
          refine pbd_nil (pbd_one (psd_set (d := .tuple ((jobS ns (budZ ns).1.length (zs, zp) k).1.map encI)) 3 (PED.eq (ped_catT (ped_var 3) (ped_tup (pad_cons (ped_var 6) pad_nil)) (sl ?_)) ?_) (And.intro ?_ ?_) sc_law_little.nd))
          · rw [List.length_map]
            show zs.length + 1 ≤ _
            omega
          · rw [e, List.map_append]
            rfl
          · rw [e]
            trivial
          · show List.length _ = _
            rw [hjl, List.length_append, hp]
            rfl
      · show PBD J _ _ [.ow p (BoxD ns (jobZ ns).2), .kn (.tuple ((budZ ns).1.map encB)), .un, .kn (.tuple ((jobZ ns).1.map encI)), .un, .un, .un, .un, .un] _
        refine pbd_cons (psd_set 7 (ped_tup pad_nil) ?_ sc_law_little.nd)
        refine pbd_cons (psd_pre (List.range (taskN ns).toNat) (fun i => .int (0 + (i : Nat) * 1)) (fun pre => [.ow p (BoxD ns (pre.foldl (taskS ns (budZ ns).1.length) ([], (jobZ ns).2 + 1)).2), .kn (.tuple ((budZ ns).1.map encB)), .un, .kn (.tuple ((jobZ ns).1.map encI)), .un, .un, .un, .kn (.tuple ((pre.foldl (taskS ns (budZ ns).1.length) ([], (jobZ ns).2 + 1)).1.map encI)), .un]) (fun pre => (pre.foldl (taskS ns (budZ ns).1.length) ([], (jobZ ns).2 + 1)).1.length = pre.length) PassesOwn.never rfl
          (pid_range1 T.range (ped_callB (d := .int (taskN ns)) (ns := ns) (pp := (jobZ ns).2) (pp' := (jobZ ns).2 + 1) 0 GP (hr.mono (by decide)) (pad_cons (PEF.ped (pef_lst (pad_cons ped_int (pad_cons ped_int (pad_cons ped_int (pad_cons ped_int pad_nil)))))) pad_nil) ⟨[0, 1, 1, 2], rfl, by decide, rfl, rfl⟩) (by omega) (by omega)) (by trivial) rfl (fun pre k post he hp => ?_) (fun _ => ?_))
        · have hk : k < (taskN ns).toNat := List.mem_range.mp (by rw [he]; exact List.mem_append_right _ List.mem_cons_self)
          have hl : pre.length ≤ 2 := by
            have := congrArg List.length he
            rw [List.length_range, List.length_append] at this
            omega
          have hfo : (pre ++ [k]).foldl (taskS ns (budZ ns).1.length) ([], (jobZ ns).2 + 1) = taskS ns (budZ ns).1.length (pre.foldl (taskS ns (budZ ns).1.length) ([], (jobZ ns).2 + 1)) k := by rw [List.foldl_append]; rfl
          rw [hfo]
          generalize pre.foldl (taskS ns (budZ ns).1.length) ([], (jobZ ns).2 + 1) = z at hp ⊢
          obtain ⟨zs, zp⟩ := z
          have hp : zs.length = pre.length := hp
          have d3 := dr_bd ns (segsP ns zp) (many := 3) (by decide)
          have sl3 := segsY_len ns zp (budZ ns).1.length 3
          rw [show (0 : Int) + (k : Nat) * 1 = (k : Nat) by omega]
          refine ⟨_, _, pgd_name 2 sc_law_little.nd, pbd_cons (psd_set (d := .tuple ((segsY ns zp (budZ ns).1.length 3).map encS)) 4 (ped_callB (ns := ns) (pp := zp) (pp' := segsP ns zp) 0 GS (hr.mono (by decide)) (pad_cons (ped_var 1) (pad_cons ped_int pad_nil)) ⟨(budZ ns).1, 3, rfl, hne, by decide, rfl, rfl⟩) ?_ sc_law_little.nd)⟩
          refine pbd_cons (psd_set 8 (ped_add (ped_add (ped_mul (ped_call (d := .int (lens (segsY ns zp (budZ ns).1.length 3))) GL (hr.mono (by decide)) (pad_cons (ped_tup (pad_cons ped_int (pad_cons ped_int (pad_cons ped_int (pad_cons ped_int (pad_cons ped_int (pad_cons (ped_var 4) pad_nil))))))) pad_nil) ⟨_, _, _, _, _, segsY ns zp (budZ ns).1.length 3, rfl, sl3.2, rfl⟩) (ped_add ped_int (ped_draw (pp := segsP ns zp) GD hr1 ped_int (by decide))) (.inr (by omega))) ped_int) (ped_draw (pp := segsP ns zp + 1) GD hr1 ped_int (by decide))) ?_ sc_law_little.nd)
          refine pbd_one (psd_set (d := .tuple ((taskS ns (budZ ns).1.length (zs, zp) k).1.map encI)) 7 (PED.eq (ped_catT (ped_var 7) (ped_tup (pad_cons (ped_tup (pad_cons ped_str (pad_cons (ped_addS ped_str (ped_ixS ped_str (ped_var 2) (by decide) (abc_at (by omega))) (Nat.le_trans (show _ ≤ 2 by exact Nat.le_refl 2) (by decide))) (pad_cons (ped_draw (pp := segsP ns zp + 2) GD hr1 ped_int (by decide)) (pad_cons (ped_var 8) (pad_cons (ped_add ped_int (ped_draw (pp := segsP ns zp + 3) GD hr1 ped_int (by decide))) (pad_cons (ped_var 4) pad_nil))))))) pad_nil)) (sl ?_)) ?_) (And.intro (by trivial) ?_) sc_law_little.nd)
          · rw [List.length_map]
            show zs.length + 1 ≤ _
            omega
          · unfold taskS
            rw [List.map_append]
            rfl
          · show (zs ++ [_]).length = _
            rw [List.length_append, List.length_append, hp]
            rfl
        · exact pbd_one (psd_ret (ped_tup (pad_cons ped_str (pad_cons (ped_var 1) (pad_cons (ped_var 3) (pad_cons (ped_var 7) pad_nil))))) ⟨rfl, rfl⟩)
end
end Fd
/-! repr; defs that are told that no repr is under way (A.guards = some []). -/
namespace Fd
open PySem PySem.Spec PyProof.Rows L2
/-- data that can be shown -/
structure Shw (d : PyData) : Prop where
  ok : d.showable = true
  nd : d.hasDict = false
  len : d.shown.length ≤ sizeLine
  dep : d.depth ≤ 5
  kind : (∃ i, d = .int i) ∨ ∃ ds, d = .tuple ds
theorem log_small {i : Int} (h : i.natAbs < 10 ^ 9) : i.natAbs.log2 < 1920 := by
  by_cases h0 : i.natAbs = 0
  · rw [h0]; decide
  · refine (Nat.log2_lt h0).mpr (Nat.lt_of_lt_of_le h ?_)
    exact Nat.le_trans (show 10 ^ 9 ≤ 2 ^ 30 by decide) (Nat.pow_le_pow_right (by decide) (show 30 ≤ 1920 by decide))
theorem int_len {i : Int} (h : i.natAbs < 10 ^ 9) : (PyData.shown (.int i)).length ≤ 11 := by
  have e := int_text_length_le10 (k := 9) (by decide) h
  show (Str.ofString (toString i)).length ≤ 11
  rw [PySem.ofString_length]
  omega
theorem shw_int {i : Int} (h : i.natAbs < 10 ^ 9) : Shw (.int i) := ⟨decide_eq_true (log_small h), rfl, Nat.le_trans (int_len h) (by decide), (by show 0 ≤ 5; decide), .inl ⟨i, rfl⟩⟩
theorem shw_nil : Shw (.tuple []) := ⟨rfl, rfl, by decide, by decide, .inr ⟨[], rfl⟩⟩
theorem shw_two {i j : Int} (h : i.natAbs < 10 ^ 9) (h' : j.natAbs < 10 ^ 9) : Shw (.tuple [.int i, .int j]) := by
  refine ⟨?_, rfl, ?_, (by show 1 ≤ 5; decide), .inr ⟨_, rfl⟩⟩
  · simp [PyData.showable, PyData.showableAll, log_small h, log_small h']
  · have h1 := int_len h
    have h2 := int_len h'
    have e : (PyData.shown (.tuple [.int i, .int j])) = ("(" : Str) ++ (PyData.shown (.int i) ++ ", " ++ PyData.shown (.int j)) ++ ")" := rfl
    rw [e, Str.length_append, Str.length_append, Str.length_append, Str.length_append]
    have a1 : (("(" : Str)).length = 1 := rfl
    have a2 : ((", " : Str)).length = 2 := rfl
    have a3 : ((")" : Str)).length = 1 := rfl
    rw [sizeLine_eq]
    omega
section
variable {J : JJ} {X : Cx} {δ δ1 : DS} {pos p : Pos} {e : Expr}
def rReprD (K : PySem.W.Frag) (d : PyData) : List V → Hp → VK → Prop := fun vs H Q => ∃ v, vs = [v] ∧ Dp K H v d ∧ Q (.str d.shown) H
theorem cr_repr {d : PyData} (hg : X.A.guards = some []) (hu : X.A.units + 64 < cLine) (hs : Shw d) : CallR X (.builtin "repr") (rReprD X.K d) := by
  intro pins s σ H vs us Q I r h
  obtain ⟨v, rfl, hd, q⟩ := h
  cases r with
  | cons r1 t =>
    cases t
    obtain ⟨as, rd⟩ := Dp.reads I _ _ _ hd r1
    have hdep := hs.dep
    rcases hs.kind with ⟨i, rfl⟩ | ⟨ds, rfl⟩
    · obtain rfl := dp_int hd
      obtain ⟨t, rfl⟩ := r1
      exact P.repr_of_int (of_decide_eq_true hs.ok) ⟨.str _, H, I.tok _, ⟨_, rfl⟩, q⟩
    · obtain ⟨a, xs, rfl, _⟩ := dp_tup hd
      cases r1
      exact repr_of_reads' rd hs.ok (fun z => by rw [hs.nd] at z; cases z) hg (by omega) (fun b o e => e) (fun h' u tk hk => ⟨.str _, H, I.kept hk, ⟨_, rfl⟩, q⟩) hs.len
theorem ped_repr {d : PyData} (hgd : X.A.guards = some []) (hu : X.A.units + 64 < cLine) (hm : X.mg "repr" = none) (ha : PED J X e δ d δ1) (hs : Shw d) (hg : Gl X "repr" := by rfl) (he : starEach [e] X.env = (false, eval e X.env) :: starEach [] X.env := by rfl) : PED J X (.Call (.Name "repr" p) [e] [] pos) δ (.str d.shown) δ1 :=
  ped_cB (he := he) (cr_repr hgd hu hs) hm PyProof.Rows.boot_repr hg (pad_cons ha pad_nil he) fun F B H σ vs S r Q k => by
    cases r with
    | cons r1 t =>
      cases t
      exact ⟨_, rfl, S.dp r1, k _ B H (Same.refl B) S (.str _)⟩
end
/-! ### defs with no guard on the way -/
structure FnOkG (P : Program) (w : World) (K : PySem.W.Frag) (mg : Str → Option Value) (base : Heap) (k : Nat) (f : Addr) (fd : FuncData) (ps : List Str) (sp : Sp) : Prop where
  len : ∀ vs H Q E, sp vs H Q E → vs.length = ps.length
  run : ∀ (A : Around) (outer : List Env) (s : Shared) (H : Hp) (args : Args) (us : List Value) (vs : List V) (Q : VK) (E : XK), Room k A → A.guards = some [] → Env0 P w K mg base A outer s H → BindsTo s fd args (ps.zip us) → Vals vs us → sp vs H Q E →
    codeAny (model P w) A (.call (.ref f) args) (CR CX0 outer P w H s Q E) s
theorem guards_deeper {A : Around} {env : Env} (h : A.guards = some []) : (A.deeper env).guards = some [] := h
/-- a def by its body -/
theorem fnG_of {P : Program} {w : World} {K : PySem.W.Frag} {mg : Str → Option Value} {base : Heap} {k : Nat} {x : Str} {st : Stmt} {f : Addr} {fd : FuncData} {N ps : List Str} {sp : Sp} (F : Fun K x x st f fd) (S : FnScope N ps (defScope st)) (len : ∀ vs H Q E, sp vs H Q E → vs.length = ps.length)
    (hb : ∀ (cdv : Value) (A : Around) (outer : List Env) (s : Shared) (H : Hp) (vs : List V) (Q : VK) (E : XK), Room k (A.deeper (envOfC x (defScope st) s.heap.objs.size f cdv)) → A.guards = some [] → sp vs H Q E →
      Wss (cb P w K mg base N x st f cdv A outer s H E) (defBody st) { nx := fun _ H' => Q .non H', rt := Q } (start N vs) H) : FnOkG P w K mg base (k + 1) f fd ps sp := by
  obtain ⟨oc, od, kV, doc, pm, an, cdv, ct, osl, rfl, lk, code⟩ := F.ex
  refine ⟨len, fun A outer s H args us vs Q E hr hg e0 bt r h => ?_⟩
  have inK : K.In s.heap := e0.mod.kin.keeps fun b o e => (e0.bs b o e).1
  have lim : s.heap.NoLimit := e0.mod.nolimit.keeps fun b o e => (e0.bs b o e).1
  have kinds : ∀ y ∈ ps.zip us, (defScope st).names.lookup y.1 = some .local ∨ ((defScope st).names.lookup y.1 = some .cell ∧ ((cellsFrom (s.heap.objs.size + 1) (defScope st).names []).lookup y.1).isSome = true) := by
    rintro ⟨n, v⟩ hy
    exact (S.par n (List.of_mem_zip hy).1).elim .inl fun q => .inr ⟨q, PySem.W.cellsFrom_some _ _ _ (.inl q)⟩
  refine codeAny_call_function hr.depth (inK _ _ lk) rfl S.co S.gen rfl (PySem.W.codeRec_of inK code) (bt _ _ _ _ ?_)
  refine wpAny_newFunctionEnv_cells S.kind kinds fun env he s1 x1 => ?_
  subst he
  refine ⟨lim.keeps x1.toInCall.keep, codeAny_func ?_⟩
  have I : Inv (cxOf CX0 P w K mg base N x (defScope st) f cdv A outer s H E) [] (start N vs) H s1 := inv_start S hr.hd e0 (len _ _ _ _ h) r x1
  refine wpAny_mono ((PSs.nox pss_wss).run [] s1 (start N vs) H { nx := fun _ H' => Q .non H', rt := Q } I (hb cdv A outer s H vs Q E (hr.deeper _) hg h)) (fun fl s' hs => ?_) fun e s' hs => hs
  have ends : ∀ {σ' : L2.St} {H' : Hp} {v : V} {u : Value}, Inv (cxOf CX0 P w K mg base N x (defScope st) f cdv A outer s H E) [] σ' H' s' → RelV v u → Q v H' → CE outer P w H s Q u s' := fun {σ' H' v u} J rv q => ⟨v, H', J.os, J.bare, J.base, J.hok, rv, q⟩
  cases fl with
  | ret u => exact let ⟨v, σ', H', J, rv, q⟩ := hs; ends J rv q
  | next => exact let ⟨σ', H', J, q⟩ := hs; ends (v := V.non) (u := Value.none) J rfl q
  | brk => exact let ⟨_, _, _, q⟩ := hs; False.elim q
  | cont => exact let ⟨_, _, _, q⟩ := hs; False.elim q
def FDG (P : Program) (w : World) (K : PySem.W.Frag) (mg : Str → Option Value) (base : Heap) (J : JJ) (k : Nat) (x : Str) (ps : List Str) (R : List PyData → PyData → Prop) : Prop :=
  ∃ (f : Addr) (fd : FuncData), FnOkG P w K mg base k f fd ps (SpD K J R) ∧ mg x = some (.ref f) ∧ PySem.W.keepIn K (.ref f) = true ∧ Binds K fd ps []
theorem fd_okG {P : Program} {w : World} {K : PySem.W.Frag} {mg : Str → Option Value} {base : Heap} {J : JJ} {k : Nat} {x : Str} {st : Stmt} {N ps : List Str} {R : List PyData → PyData → Prop} (D : Dfn K mg x st ps) (S : FnScope N ps (defScope st)) (hlen : ∀ ds d, R ds d → ds.length = ps.length)
    (hb : ∀ (f : Addr) (cdv : Value) (A : Around) (outer : List Env) (s : Shared) (H : Hp) (E : XK), Room k (A.deeper (envOfC x (defScope st) s.heap.objs.size f cdv)) → A.guards = some [] → ∀ ds d, R ds d →
      PBD J (cb P w K mg base N x st f cdv A outer s H E) (defBody st) (startD N ds) (fin d)) : FDG P w K mg base J (k + 1) x ps R := by
  obtain ⟨f, fd, F, hm, hbi⟩ := D
  refine ⟨f, fd, fnG_of F S (fun vs H Q E h => ?_) (fun cdv A outer s H vs Q E hr hg h => ?_), hm, F.kp, hbi⟩
  · obtain ⟨F, B, ds, d, h1, h2, h3, _⟩ := h
    rw [dpa_len h2]
    exact hlen ds d h3
  · obtain ⟨F, B, ds, d, h1, h2, h3, q⟩ := h
    refine hb f cdv A outer s H E hr hg ds d h3 F B H _ _ (sd_start N h1 h2) fun o ho => ?_
    cases o with
    | nx δ => exact fun σ B' H' e S' => q _ B' H' e S'.hd (by rw [show d = PyData.none from ho]; exact .non)
    | rt d' δ => exact fun v σ B' H' e S' r => q v B' H' e S'.hd (by rw [← show d' = d from ho]; exact r)
    | bk δ => exact False.elim ho
    | ct δ => exact False.elim ho
section
variable {J : JJ} {X : Cx} {δ δ1 : DS} {pos p : Pos} {e : Expr} {es : List Expr}
theorem ped_callG {x : Str} {k : Nat} {ps : List Str} {R : List PyData → PyData → Prop} {ds : List PyData} {d : PyData} (G : FDG X.prog X.w X.K X.mg X.base J k x ps R) (hgd : X.A.guards = some []) (hr : Room k X.A) (ha : PAD J X (e :: es) δ ds δ1) (hR : R ds d) (hg : Gl X x := by rfl)
    (hdb : (x == ("__debug__" : Str)) = false := by decide) (he : starEach (e :: es) X.env = (false, eval e X.env) :: starEach es X.env := by rfl) (hpl : (backTo pos (starEach es X.env)).any (·.1) = false := by rfl) : PED J X (.Call (.Name x p) (e :: es) [] pos) δ d δ1 := fun F B H σ S Q q => by
  obtain ⟨f, fd, G, hm, hk, hb⟩ := G
  have pe : PE X (.Call (.Name x p) (e :: es) [] pos) (fun σ H Q => Wa X (e :: es) σ H fun vs H1 => SpD X.K J R vs H1 Q E0) := by
    refine ⟨fun pins s σ H Q I h => ?_⟩
    refine wpAny_Call_Name_kw (ld_glob I hg hm ?_ hdb)
    refine PySem.W.callWith_K (h₀ := X.base) I.ok.mod.kin hk (L2.thn (pa_wa.run pos pins s σ H _ I h) fun us s1 ⟨vs, H1, I1, r, q⟩ => ⟨I1.kIn, ?_⟩) he hpl
    have r2 : Vals vs (us ++ []) := by rw [List.append_nil]; exact r
    have hl : (us ++ []).length = ps.length := by rw [← r2.length]; exact G.len _ _ _ _ q
    refine wpAny_call (codeAny_mono (G.run X.A X.stack s1 H1 ⟨us, []⟩ (us ++ []) vs Q E0 hr hgd I1.env0 (hb s1 us I1.kIn hl) r2 q) fun r s' hq => ?_)
    cases r with
    | error e => exact pass0 pins σ H1 s1 e s' I1 hq
    | ok fl =>
      cases fl with
      | ret u => exact I1.after hq
      | next => exact False.elim hq
      | brk => exact False.elim hq
      | cont => exact False.elim hq
  refine we_of pe (ha F B H σ S _ fun vs B1 H1 e1 S1 r1 => ?_)
  exact ⟨calF B1 H1, B1, ds, d, ⟨S1.hd.ex, S1.hd.j, fun b xs z => calF_is z, S1.hd.nb⟩, r1, hR, fun v B2 H2 e2 h2 r2 => q v B2 H2 (e1.trans e2) (sd_call S1 e2 h2) r2⟩
end
section
variable {P : Program} {w : World} {K : PySem.W.Frag} {mg : Str → Option Value} {base : Heap} {J : JJ}
def R_same (ds : List PyData) (d : PyData) : Prop := ∃ d0, ds = [d0, d0] ∧ Shw d0 ∧ d = .bool true
theorem fd_law_same (D : Dfn K mg "_law_same" s_law_same p_law_same) (T : Bt mg) : FDG P w K mg base J 1 "_law_same" p_law_same R_same := by
  refine fd_okG D sc_law_same (fun ds d h => ?_) (fun f cdv A outer s H E hr hg ds d h => ?_)
  · obtain ⟨_, rfl, _⟩ := h
    rfl
  · obtain ⟨d0, rfl, hs, rfl⟩ := h
    have hu : (cb P w K mg base N_law_same "_law_same" s_law_same f cdv A outer s H E).A.units + 64 < cLine := by have := hr.un; show (A.deeper _).units + 64 < cLine; omega
    refine pbd_one (psd_ret (ped_eqS (ped_repr hg hu T.repr (ped_var 0) hs) (ped_repr hg hu T.repr (ped_var 1) hs)) ?_)
    show PyData.bool _ = .bool true
    rw [decide_eq_true rfl]
end
end Fd
/-! The law's own loops in plain Lean. -/
namespace Fd
open PySem PySem.Spec PyProof.Rows L2
def encA (fs : List Int) : PyData := .tuple [.int fs.sum, tupF fs]
def asgO (bs : List Bud) : List (List Int) := (asgY bs).mergeSort (PySem.W.dataLe false encA)
def wt (n : Nat) (ps fs : List Int) : Int := ((List.range n).map fun k => gi ps (k : Nat) * gi fs (k : Nat)).sum
def fwC (best few : Option Int) (fs : List Int) : Bool := few.isNone && (best.isNone || decide (fs.sum < best.getD 0))
def fwS (n : Nat) (ps : List Int) (left : Int) (best few : Option Int) (fs : List Int) : Option Int := if fwC best few fs = true ∧ left < wt n ps fs then some fs.sum else few
def fwY (y : Sys) (s e : Int) (best : Option Int) : Option Int := (asgO y.buds).foldl (fwS y.buds.length (penY y s e) (e - s - demandY y s e) best) none
abbrev LW := Option Int × Option (Int × Int)
def lwS (y : Sys) (z : LW) (q : Int × Int) : LW := match fwY y q.1 q.2 z.1 with
  | none => z
  | some c => (some c, some q)
def lwY (y : Sys) : LW := (looksY y).foldl (lwS y) (none, none)
/-- what the mathematics has to say of a system -/
def LawOK (y : Sys) : Prop := ∃ (lo : List (List Int)) (fz : List Int), asgO y.buds = lo ++ [fz] ∧
  (((lwY y).2 = none ∧ (lfY y).1 = none ∧ fz.sum = mostY y.buds ∧ 0 ≤ fz.sum ∧ fz.sum ≤ 1000) ∨
   ∃ (c : Int) (q : Int × Int) (fs : List Int), lwY y = (some c, some q) ∧ (lfY y).1 = some (q.1, q.2, fs) ∧ fs.sum = c ∧ 0 ≤ c ∧ c ≤ 1000 ∧ fs.length = y.buds.length ∧ (∀ x, x ∈ fs → 0 ≤ x) ∧ fitsY y.buds fs = true ∧
     q.2 - q.1 < wt y.buds.length (penY y q.1 q.2) fs + demandY y q.1 q.2 ∧ q ∈ looksY y)
def encO : Option Int → PyData
  | none => .none
  | some c => .int c
def encQ : Option (Int × Int) → PyData
  | none => .none
  | some q => encS q
theorem isNon_encO (o : Option Int) : isNon (encO o) = o.isNone := by cases o <;> rfl
theorem isNon_encQ (o : Option (Int × Int)) : isNon (encQ o) = o.isNone := by cases o <;> rfl
theorem alike_encA (a b : List Int) : PySem.W.alike (encA a) (encA b) = true := by simp [encA, tupF, PySem.W.alike, PySem.W.alikeAll, PySem.W.alike_ints]
theorem depth_encA (a : List Int) : (encA a).depth ≤ 50 := by simp [encA, tupF, PyData.depth, PyData.depthAll, PySem.W.depth_ints]
theorem asgO_mem {bs : List Bud} {fs : List Int} : fs ∈ asgO bs ↔ fs ∈ asgY bs := List.mem_mergeSort
theorem asgY_len {bs : List Bud} (W : WfB bs) : (asgY bs).length ≤ 64 := Nat.le_trans (List.length_filter_le _ _) (asgA_len W)
theorem atI_last {α : Type} (l : List α) (x : α) : atI (l ++ [x]) (-1) = some x := by
  unfold atI ixN
  rw [if_neg (by decide), List.length_append, List.length_singleton, if_pos (by omega)]
  show (l ++ [x])[_]? = some x
  rw [show ((-1 : Int) + ((l.length + 1 : Nat) : Int)).toNat = l.length by omega, List.getElem?_append_right (Nat.le_refl _), Nat.sub_self]
  rfl
theorem looksY_bd {y : Sys} (h : WfY y) (hh : horY y ≤ 120) {q : Int × Int} (hq : q ∈ looksY y) : 0 ≤ q.1 ∧ q.1 ≤ 7 ∧ -10000 ≤ q.2 ∧ q.2 ≤ 10000 := by
  have lb := latestY_bd h
  obtain ⟨s, hs, hq⟩ := List.mem_flatMap.mp hq
  have hs := List.mem_range.mp hs
  obtain ⟨e, he, rfl⟩ := List.mem_map.mp hq
  rw [mem_asc] at he
  show 0 ≤ ((s : Nat) : Int) ∧ ((s : Nat) : Int) ≤ 7 ∧ -10000 ≤ e ∧ e ≤ 10000
  refine ⟨by omega, by omega, ?_⟩
  unfold endsL at he
  rcases List.mem_append.mp he with he | he
  · obtain ⟨j, hj, rfl⟩ := List.mem_map.mp he
    have w := h.jobs j (List.mem_filter.mp hj).1
    have := w.due
    have := w.a0
    show -10000 ≤ j.b ∧ j.b ≤ 10000
    omega
  · obtain ⟨t, ht, he⟩ := List.mem_flatMap.mp he
    have w := h.tasks t ht
    obtain ⟨i, hi, rfl⟩ := List.mem_map.mp he
    have hi := List.mem_range.mp hi
    have c := (cntT_le w (s := ((s : Nat) : Int)) (m := (s : Nat) + horY y) (by omega)).1
    have g := w.gap0
    have d := w.due
    have a0 := w.a0
    have a1 := w.a1
    unfold endT startT
    have m0 : 0 ≤ ((i : Nat) : Int) * t.b := Int.mul_nonneg (by omega) (by omega)
    have m1 : ((i : Nat) : Int) * t.b ≤ 30 * 100 := Int.mul_le_mul (by omega) g.2 (by omega) (by decide)
    omega
end Fd
namespace Fd
open PySem PySem.Spec PyProof.Rows L2
local macro_rules | `(tactic| trivial) => `(tactic| exact le_nil)
local macro_rules | `(tactic| trivial) => `(tactic| (refine le_eq ?_; trivial))
local macro_rules | `(tactic| trivial) => `(tactic| (refine le_un ?_; trivial))
section
variable {P : Program} {w : World} {K : PySem.W.Frag} {mg : Str → Option Value} {base : Heap} {J : JJ}
def R_law (ds : List PyData) (d : PyData) : Prop := ∃ ns : List Int, ds = [.list (ns.map .int)] ∧ d = .bool true
theorem fd_law (M : ∀ y : Sys, WfY y → horY y ≤ 120 → LawOK y) (D : Dfn K mg "law" s_law p_law) (T : Bt mg) (GD : FD P w K mg base J 2 "_law_digits" p_law_digits R_dig) (GL : FB P w K mg base J 3 "_law_little" p_law_little R_lit) (GH : FD P w K mg base J 3 "_law_horizon" p_law_horizon (R_sys fun y => .int (horY y)))
    (GA : FD P w K mg base J 4 "_law_assignments" p_law_assignments (R_buds fun bs => .list ((asgY bs).map tupF))) (GK : FD P w K mg base J 4 "_law_looks" p_law_looks (R_sysN fun y => .list ((looksY y).map encS))) (GP : FD P w K mg base J 3 "_law_penalties" p_law_penalties (R_iv fun y s e => .tuple ((penY y s e).map .int)))
    (GE : FD P w K mg base J 3 "_law_demand" p_law_demand (R_iv fun y s e => .int (demandY y s e))) (GF : FD P w K mg base J 6 "least_faults" p_least_faults (R_sysN fun y => encL (lfY y).1)) (GB : FD P w K mg base J 7 "bearable" p_bearable (R_sysN fun y => .int (bearY y))) (GS : FDG P w K mg base J 1 "_law_same" p_law_same R_same)
    (GT : FD P w K mg base J 3 "_law_fits" p_law_fits (R_bf fun bs fs => .bool (fitsY bs fs))) : FDG P w K mg base J 8 "law" p_law R_law := by
  refine fd_okG D sc_law (fun ds d h => ?_) (fun f cdv A outer s H E hr hgd ds d h => ?_)
  · obtain ⟨_, rfl, _⟩ := h
    rfl
  · obtain ⟨ns, rfl, rfl⟩ := h
    have hu : (cb P w K mg base N_law "law" s_law f cdv A outer s H E).A.units + 64 < cLine := by have := hr.un; show (A.deeper _).units + 64 < cLine; omega
    have hg : (cb P w K mg base N_law "law" s_law f cdv A outer s H E).A.guards = some [] := hgd
    refine pbd_cons (psd_setO 1 (pef_lst (pad_cons (ped_call GD (hr.mono (by decide)) (pad_cons (ped_var 0) (pad_cons ped_int (pad_cons ped_int pad_nil))) ⟨ns, rfl, rfl⟩) (pad_cons ped_int pad_nil))) (fun p => ?_) sc_law.nd)
    have hy := litY_wf (digY ns)
    refine pbd_cons (psd_set (d := encY (litY (digY ns))) 2 (ped_callB (q := p) (ns := digY ns) (pp := 0) (pp' := (taskZ (digY ns)).2) 1 GL (hr.mono (by decide)) pad_nil ⟨rfl, rfl, rfl, rfl⟩) ?_ sc_law.nd)
    generalize litY (digY ns) = y at hy ⊢
    refine pbd_cons (psd_if (ptd_gt (ped_call GH (hr.mono (by decide)) (pad_cons (ped_var 2) pad_nil) ⟨y, rfl, hy, rfl⟩) ped_int) (fun _ => pbd_one (psd_ret ped_bool rfl)) (fun q => pbd_nil ?_))
    have hh : horY y ≤ 120 := by have := of_decide_eq_false q; omega
    have hb := hy.buds.few
    have hb1 := hy.buds.pos
    obtain ⟨lo, fz, hO, hcase⟩ := M y hy hh
    have hAl := asgY_len hy.buds
    refine pbd_cons (psd_set (d := .int ((y.buds.length : Nat) : Int)) 3 (ped_lenM T.len (ped_ixT (ped_var 2) ped_int)) ?_ sc_law.nd)
    refine pbd_cons (psd_set (d := .list ((asgO y.buds).map encA)) 4 (PEF.ped (pef_sortD (enc := encA) (bs := asgY y.buds) hu T.sorted (PEF.pld (pef_lcA 5 (asgY y.buds) tupF encA rfl sc_law.nd (pid_list (ped_call GA (hr.mono (by decide)) (pad_cons (ped_ixT (ped_var 2) ped_int) pad_nil) ⟨y.buds, rfl, hy.buds, rfl⟩)) (sl (by omega))
      (fun fs hfs _ _ _ _ _ => ped_tup (pad_cons (ped_sumT (ns := fs) rfl T.sum (ped_var 5)) (pad_cons (ped_var 5) pad_nil))) (blkOk_by (N := N_law) (sc := defScope s_law) (by decide +kernel)))) alike_encA (PySem.W.Sortable.tuples fun b => ⟨_, _, rfl⟩) (sl (by omega)) (fun b _ => depth_encA b))) ?_ sc_law.nd)
    refine pbd_cons (psd_set 6 ped_none ?_ sc_law.nd)
    refine pbd_cons (psd_set 7 ped_none ?_ sc_law.nd)
    refine pbd_cons (psd_fold (looksY y) encS (lwS y) (fun z => [.un, .un, .kn (encY y), .kn (.int ((y.buds.length : Nat) : Int)), .kn (.list ((asgO y.buds).map encA)), .un, .kn (encO z.1), .kn (encQ z.2), .un, .un, .un, .un, .un, .un, .un, .un, .un]) (fun _ => True) (none, none) PassesOwn.never rfl
      (pid_list (ped_call GK (hr.mono (by decide)) (pad_cons (ped_var 2) pad_nil) ⟨y, rfl, hy, hh, rfl⟩)) (by trivial) True.intro (fun z q0 hq0 _ => ?_) (fun _ => ?_))
    · obtain ⟨best, place⟩ := z
      obtain ⟨s0, e0⟩ := q0
      have hpl := penY_len y s0 e0
      have hpb := penY_bd hy s0 e0
      refine ⟨_, _, pgd_tup (ds := [.int s0, .int e0]) rfl (pgsd_cons (pgd_name 8 sc_law.nd) (pgsd_cons (pgd_name 9 sc_law.nd) pgsd_nil)), pbd_cons (psd_set (d := .tuple ((penY y s0 e0).map .int)) 10 (ped_call GP (hr.mono (by decide)) (pad_cons (ped_var 2) (pad_cons (ped_var 8) (pad_cons (ped_var 9) pad_nil))) ⟨y, s0, e0, rfl, hy, rfl⟩) ?_ sc_law.nd)⟩
      refine pbd_cons (psd_set (d := .int (e0 - s0 - demandY y s0 e0)) 11 (ped_sub (ped_sub (ped_var 9) (ped_var 8)) (ped_call GE (hr.mono (by decide)) (pad_cons (ped_var 2) (pad_cons (ped_var 8) (pad_cons (ped_var 9) pad_nil))) ⟨y, s0, e0, rfl, hy, rfl⟩)) ?_ sc_law.nd)
      refine pbd_cons (psd_set (d := encO none) 12 ped_none ?_ sc_law.nd)
      refine pbd_cons (psd_fold (asgO y.buds) encA (fwS y.buds.length (penY y s0 e0) (e0 - s0 - demandY y s0 e0) best) (fun few => [.un, .un, .kn (encY y), .kn (.int ((y.buds.length : Nat) : Int)), .kn (.list ((asgO y.buds).map encA)), .un, .kn (encO best), .kn (encQ place), .kn (.int s0), .kn (.int e0), .kn (.tuple ((penY y s0 e0).map .int)), .kn (.int (e0 - s0 - demandY y s0 e0)), .kn (encO few), .un, .un, .un, .un]) (fun _ => True) none PassesOwn.never rfl (pid_list (ped_var 4)) (by trivial) True.intro (fun few fs hfs _ => ?_) (fun _ => ?_))
      · have hfl : fs.length = y.buds.length := asgY_mem hy.buds (List.mem_filter.mp (asgO_mem.mp hfs)).1
        refine ⟨_, _, pgd_tup (ds := [.int fs.sum, .tuple (fs.map .int)]) rfl (pgsd_cons (pgd_name 13 sc_law.nd) (pgsd_cons (pgd_name 5 sc_law.nd) pgsd_nil)), pbd_one (psd_if (q := fwC best few fs) (ptd_and (PTD.eq (ptd_isN (ped_var 12)) (isNon_encO few)) (fun _ => pwd_and1 (ptd_or (PTD.eq (ptd_isN (ped_var 6)) (isNon_encO best)) (fun q => pwd_or1 (ptd_lt (ped_var 13) (by
          cases best with
          | none => cases q
          | some b => exact ped_var 6)))))) (fun q => ?_) (fun q => ?_))⟩
        · refine pbd_one (psd_if (ptd_gt (ped_sumL (ns := (List.range y.buds.length).map fun k => gi (penY y s0 e0) (k : Nat) * gi fs (k : Nat)) rfl T.sum (PEF.pld (pef_lcAI 14 (List.range y.buds.length) (fun k => .int ((k : Nat) : Int)) (fun k => gi (penY y s0 e0) (k : Nat) * gi fs (k : Nat)) rfl sc_law.nd (pid_rgN T.range (ped_var 3) (by omega)) (sl (by rw [List.length_range]; omega))
            (fun k hk _ _ _ _ _ => ped_mul (ped_ixT (ped_var 10) (ped_var 14) (atI_gi (ns := penY y s0 e0) (by omega) (by have := List.mem_range.mp hk; omega))) (ped_ixT (ped_var 5) (ped_var 14) (atI_gi (ns := fs) (by omega) (by have := List.mem_range.mp hk; omega))) (.inl (by have := hpb (k : Nat) (by omega); omega))) (blkOk_by (N := N_law) (sc := defScope s_law) (by decide +kernel))))) (ped_var 11)) (fun q2 => ?_) (fun q2 => ?_))
          · have e : fwS y.buds.length (penY y s0 e0) (e0 - s0 - demandY y s0 e0) best few fs = some fs.sum := if_pos ⟨q, of_decide_eq_true q2⟩
            rw [e]
            exact pbd_one (psd_set 12 (ped_var 13) (And.intro (by trivial) True.intro) sc_law.nd)
          · have e : fwS y.buds.length (penY y s0 e0) (e0 - s0 - demandY y s0 e0) best few fs = few := if_neg fun z => of_decide_eq_false q2 z.2
            rw [e]
            exact pbd_nil (And.intro (by trivial) True.intro)
        · have e : fwS y.buds.length (penY y s0 e0) (e0 - s0 - demandY y s0 e0) best few fs = few := if_neg fun z => by rw [q] at z; exact absurd z.1 (by decide)
          rw [e]
          exact pbd_nil (And.intro (by trivial) True.intro)
      · show PBD J _ _ [.un, .un, .kn (encY y), .kn (.int ((y.buds.length : Nat) : Int)), .kn (.list ((asgO y.buds).map encA)), .un, .kn (encO best), .kn (encQ place), .kn (.int s0), .kn (.int e0), .kn (.tuple ((penY y s0 e0).map .int)), .kn (.int (e0 - s0 - demandY y s0 e0)), .kn (encO (fwY y s0 e0 best)), .un, .un, .un, .un] _
        have e : lwS y (best, place) (s0, e0) = match fwY y s0 e0 best with | none => (best, place) | some c => (some c, some (s0, e0)) := rfl
        rw [e]
        cases fwY y s0 e0 best with
        | none => exact pbd_one (psd_if (q := false) (PTD.eq (ptd_notN (ped_var 12)) rfl) (fun z => absurd z (by decide)) (fun _ => pbd_nil (And.intro (by trivial) True.intro)))
        | some c => exact pbd_one (psd_if (q := true) (PTD.eq (ptd_notN (ped_var 12)) rfl) (fun _ => pbd_cons (psd_set 6 (ped_var 12) (pbd_one (psd_set 7 (ped_tup (pad_cons (ped_var 8) (pad_cons (ped_var 9) pad_nil))) (And.intro (by trivial) True.intro) sc_law.nd)) sc_law.nd)) (fun z => absurd z (by decide)))
    · show PBD J _ _ [.un, .un, .kn (encY y), .kn (.int ((y.buds.length : Nat) : Int)), .kn (.list ((asgO y.buds).map encA)), .un, .kn (encO (lwY y).1), .kn (encQ (lwY y).2), .un, .un, .un, .un, .un, .un, .un, .un, .un] _
      refine pbd_cons (psd_set (d := encL (lfY y).1) 10 (ped_call GF (hr.mono (by decide)) (pad_cons (ped_var 2) pad_nil) ⟨y, rfl, hy, hh, rfl⟩) ?_ sc_law.nd)
      rcases hcase with ⟨c1, c2, c3, c4, c5⟩ | ⟨c, q0, fs, c1, c2, c3, c4, c5, c6, c7, c8, c9, c10⟩
      · have hbe : bearY y = fz.sum := by unfold bearY; rw [c2, c3]
        rw [c1, c2]
        refine pbd_cons (psd_if (q := true) (PTD.eq (ptd_isN (ped_var 7)) rfl) (fun _ => pbd_one (psd_ret (ped_and (c := true) (d := true) (ped_callG GS hg (hr.mono (by decide)) (pad_cons (ped_var 10) (pad_cons (ped_tup pad_nil) pad_nil)) ⟨_, rfl, shw_nil, rfl⟩)
          (fun _ => ped_callG GS hg (hr.mono (by decide)) (pad_cons (PED.eq (d' := PyData.int fz.sum) (ped_call GB hr (pad_cons (ped_var 2) pad_nil) ⟨y, rfl, hy, hh, rfl⟩) (by show PyData.int (bearY y) = _; rw [hbe])) (pad_cons (ped_ixT (ds := [.int fz.sum, tupF fz]) (ped_ixL (ped_var 4) (ped_neg ped_int) (by rw [hO, List.map_append]; exact atI_last _ _)) ped_int) pad_nil)) ⟨_, rfl, shw_int (by omega), rfl⟩)) rfl)) (fun z => absurd z (by decide)))
      · have hbe : bearY y = c - 1 := by unfold bearY; rw [c2]; show fs.sum - 1 = _; rw [c3]
        have lb := looksY_bd hy hh c10
        obtain ⟨s1, e1⟩ := q0
        have lb : 0 ≤ s1 ∧ s1 ≤ 7 ∧ -10000 ≤ e1 ∧ e1 ≤ 10000 := lb
        have c9 : e1 - s1 < wt y.buds.length (penY y s1 e1) fs + demandY y s1 e1 := c9
        rw [c1, c2]
        refine pbd_cons (psd_if (q := false) (PTD.eq (ptd_isN (ped_var 7)) rfl) (fun z => absurd z (by decide)) (fun _ => pbd_nil ?_))
        refine pbd_cons (psd_if (q := false) (ptd_or (c := false) (d := false) (PTD.eq (ptd_not (c := true) (ptd_val (ped_callG GS hg (hr.mono (by decide)) (pad_cons (PED.eq (d' := PyData.int (c - 1)) (ped_call GB hr (pad_cons (ped_var 2) pad_nil) ⟨y, rfl, hy, hh, rfl⟩) (by show PyData.int (bearY y) = _; rw [hbe])) (pad_cons (ped_sub (ped_var 6) ped_int) pad_nil)) ⟨_, rfl, shw_int (by omega), rfl⟩))) rfl)
          (fun _ => pwd_or (c := false) (d := false) (PTD.eq (ptd_not (c := true) (ptd_val (ped_isi (c := true) T.isinstance T.tuple PyProof.Rows.boot_tuple (ped_var 10) rfl))) rfl) (fun _ => pwd_or (c := false) (d := false) (PTD.eq (ptd_ne (i := ((3 : Nat) : Int)) (ped_lenT (ds := [.int s1, .int e1, .tuple (fs.map .int)]) T.len (ped_var 10)) ped_int) rfl)
            (fun _ => pwd_or1 (PTD.eq (ptd_not (c := true) (ptd_val (ped_callG GS hg (hr.mono (by decide)) (pad_cons (PED.eq (d' := encS (s1, e1)) (ped_slTo (ds := [.int s1, .int e1, .tuple (fs.map .int)]) (ped_var 10) ped_int) rfl) (pad_cons (ped_var 7) pad_nil)) ⟨encS (s1, e1), rfl, shw_two (by omega) (by omega), rfl⟩))) rfl))))) (fun z => absurd z (by decide)) (fun _ => pbd_nil ?_))
        refine pbd_cons (psd_set (d := .tuple (fs.map .int)) 5 (ped_ixT (ds := [.int s1, .int e1, .tuple (fs.map .int)]) (ped_var 10) ped_int) ?_ sc_law.nd)
        refine pbd_cons (psd_if (q := false) (ptd_or (c := false) (d := false) (PTD.eq (ptd_not (c := true) (ptd_val (ped_isi (c := true) T.isinstance T.tuple PyProof.Rows.boot_tuple (ped_var 5) rfl))) rfl)
          (fun _ => pwd_or (c := false) (d := false) (PTD.eq (ptd_ne (ped_lenM (f := PyData.int) (bs := fs) T.len (ped_var 5)) (ped_var 3)) (by rw [c6]; simp)) (fun _ => pwd_or1 (PTD.eq (ptd_ne (ped_sumT (ns := fs) rfl T.sum (ped_var 5)) (ped_var 6)) (by rw [c3]; simp))))) (fun z => absurd z (by decide)) (fun _ => pbd_nil ?_))
        refine pbd_cons (psd_fold fs .int (fun (u : Unit) _ => u) (fun _ => [.un, .un, .kn (encY y), .kn (.int ((y.buds.length : Nat) : Int)), .un, .kn (.tuple (fs.map .int)), .un, .kn (encS (s1, e1)), .un, .un, .un, .un, .un, .un, .un, .un, .un]) (fun _ => True) () PassesOwn.never rfl (pid_tup (ped_var 5)) (by trivial) True.intro (fun _ x hx _ => ?_) (fun _ => ?_))
        · refine ⟨_, _, pgd_name 13 sc_law.nd, pbd_one (psd_if (q := false) (ptd_or (c := false) (d := false) (PTD.eq (ptd_not (c := true) (ptd_val (ped_isi (c := true) T.isinstance T.int PyProof.Rows.boot_int (ped_var 13) rfl))) rfl)
            (fun _ => pwd_or (c := false) (d := false) (ptd_val (ped_isi (c := false) T.isinstance T.bool PyProof.Rows.boot_bool (ped_var 13) rfl)) (fun _ => pwd_or1 (PTD.eq (ptd_lt (ped_var 13) ped_int) (decide_eq_false (by have := c7 x hx; omega)))))) (fun z => absurd z (by decide)) (fun _ => pbd_nil (And.intro (by trivial) True.intro)))⟩
        · have hpl := penY_len y s1 e1
          have hpb := penY_bd hy s1 e1
          refine pbd_cons (psd_set (d := .tuple ((penY y s1 e1).map .int)) 15 (ped_call GP (hr.mono (by decide)) (pad_cons (ped_var 2) (pad_cons (ped_ixT (ds := [.int s1, .int e1]) (ped_var 7) ped_int) (pad_cons (ped_ixT (ds := [.int s1, .int e1]) (ped_var 7) ped_int) pad_nil))) ⟨y, s1, e1, rfl, hy, rfl⟩) ?_ sc_law.nd)
          refine pbd_cons (psd_set (d := .int (wt y.buds.length (penY y s1 e1) fs)) 16 (ped_sumL (ns := (List.range y.buds.length).map fun k => gi (penY y s1 e1) (k : Nat) * gi fs (k : Nat)) rfl T.sum (PEF.pld (pef_lcAI 14 (List.range y.buds.length) (fun k => .int ((k : Nat) : Int)) (fun k => gi (penY y s1 e1) (k : Nat) * gi fs (k : Nat)) rfl sc_law.nd (pid_rgN T.range (ped_var 3) (by omega)) (sl (by rw [List.length_range]; omega))
            (fun k hk _ _ _ _ _ => ped_mul (ped_ixT (ped_var 15) (ped_var 14) (atI_gi (ns := penY y s1 e1) (by omega) (by have := List.mem_range.mp hk; omega))) (ped_ixT (ped_var 5) (ped_var 14) (atI_gi (ns := fs) (by omega) (by have := List.mem_range.mp hk; omega))) (.inl (by have := hpb (k : Nat) (by omega); omega))) (blkOk_by (N := N_law) (sc := defScope s_law) (by decide +kernel))))) ?_ sc_law.nd)
          refine pbd_one (psd_ret (ped_and (c := true) (d := true) (PED.eq (ped_call GT (hr.mono (by decide)) (pad_cons (ped_ixT (ped_var 2) ped_int) (pad_cons (ped_var 5) pad_nil)) ⟨y.buds, fs, rfl, hy.buds, c6, rfl⟩) (by show PyData.bool _ = _; rw [c8])) (fun _ => PED.eq (ped_gt (ped_add (ped_var 16) (ped_call GE (hr.mono (by decide)) (pad_cons (ped_var 2) (pad_cons (ped_ixT (ds := [.int s1, .int e1]) (ped_var 7) ped_int) (pad_cons (ped_ixT (ds := [.int s1, .int e1]) (ped_var 7) ped_int) pad_nil))) ⟨y, s1, e1, rfl, hy, rfl⟩)) (ped_sub (ped_ixT (ds := [.int s1, .int e1]) (ped_var 7) ped_int) (ped_ixT (ds := [.int s1, .int e1]) (ped_var 7) ped_int))) (by rw [decide_eq_true c9]))) rfl)
end
end Fd
/-! The end: the law called on a script, one table of code objects on the way. -/
namespace Fd
open PySem PySem.Spec PyProof.Rows L2 LamX
/-- what is asked of the module, at each heap that stands for it -/
def LawDef (P : Program) (w : World) (K : PySem.W.Frag) (mg : Str → Option Value) (cc PT : Addr) (k : Nat) : Prop := ∀ base : Heap, K.In base → base.Ns mainGlobals mg → TabB base mg cc PT → FDG P w K mg base (tabJ [(PT, lamQ)]) k "law" p_law R_law
/-- the script, known -/
def known (H : Hp) : Hp := fun b => match H b with
  | some (.tbl _) => none
  | o => o
theorem known_get {H : Hp} {b : Addr} {o : HO} (h : H b = some o) (n : ∀ ps, o ≠ .tbl ps) : known H b = some o := by
  unfold known
  rw [h]
  cases o <;> first | rfl | exact absurd rfl (n _)
theorem known_of {H : Hp} {b : Addr} {o : HO} (h : known H b = some o) : H b = some o ∧ ∀ ps, o ≠ .tbl ps := by
  unfold known at h
  cases q : H b with
  | none => rw [q] at h; cases h
  | some u =>
    rw [q] at h
    cases u <;> first | exact ⟨h, fun ps z => by subst z; cases h⟩ | cases h
section
variable {P : Program} {w : World} {K : PySem.W.Frag} {mg mb : Str → Option Value} {k : Nat} {fa sc cc PT : Addr} {t0 : Shared} {vs : List Value} {ns : List Int}
theorem law_run (inK : K.In t0.heap) (glo : t0.heap.Ns mainGlobals mg) (blt : t0.heap.Ns builtinsNs mb) (boot : ∀ x : Str, x ≠ "__name__" → mb x = bootBuiltins x) (lim : t0.heap.NoLimit) (nog : t0.gens = #[]) (tab : t0.heap.get? PT = some { cls := .none, data := .fields #[] }) (ntab : K.lookup PT = none)
    (hd : PySem.W.CodeHd t0.heap cc PT) (bmod : ∃ (bm : Addr) (ob : Obj), mg "__builtins__" = some (.ref bm) ∧ bm ≠ builtinsNs ∧ t0.heap.get? bm = some ob ∧ ob.cls = .type "module" ∧ ob.dict = some builtinsNs ∧ ob.data = .plain)
    (scr : t0.heap.get? sc = some { cls := .type "list", data := .seq vs.toArray }) (hits : IntsAre vs ns) (few : ns.length ≤ 63) (room : Room k callerA) (L : LawDef P w K mg cc PT k) (isl : mg "law" = some (.ref fa)) :
    codeAny (model P w) callerA (.call (.ref fa) ⟨[.ref sc], []⟩) (fun r t => r = .ok (.ret (.bool true)) ∧ OldK t0.heap t.heap ∧ t.os = t0.os ∧ AllBare t.gens) t0 := by
  have vals := vals_ints hits
  have vlen := hits.length
  have scT : sc ≠ PT := fun z => by
    rw [z, tab] at scr
    have z' : Data.fields #[] = Data.seq vs.toArray _ := congrArg Obj.data (Option.some.inj scr)
    cases z'
  have big : (ns.map V.int).length ≤ sizeLine := by rw [List.length_map]; exact Nat.le_trans few (by decide)
  have core : ∀ H : Hp, H PT = some (.tbl #[]) → (∀ b, H b = none ∨ b = PT ∨ ∃ o xs, H b = some (.frz o (.lst xs))) → SqL K H sc (ns.map V.int) → HOk P w H t0.heap → (∀ b, H b ≠ none → b = sc ∨ b = PT) → (H sc ≠ none → K.lookup sc = none) →
      codeAny (model P w) callerA (.call (.ref fa) ⟨[.ref sc], []⟩) (fun r t => r = .ok (.ret (.bool true)) ∧ OldK t0.heap t.heap ∧ t.os = t0.os ∧ AllBare t.gens) t0 := by
    intro H hP hO hS ok0 only nk
    have nn : ∀ {b : Addr} {o : Obj}, t0.heap.get? b = some o → (∀ xs n, o.data ≠ .seq xs n) → o.data ≠ .fields #[] → H b = none := fun {b o} e h1 h2 => by
      cases q : H b with
      | none => rfl
      | some u =>
        rcases only b (by rw [q]; simp) with z | z
        · rw [z, scr] at e
          cases e
          exact absurd rfl (h1 _ _)
        · rw [z, tab] at e
          cases e
          exact absurd rfl h2
    have dictN : ∀ {b : Addr} {o : Obj} {es : Array DictEntry} {ep : Nat}, t0.heap.get? b = some o → o.data = .dict es ep → H b = none := fun e d => nn e (fun _ _ z => by rw [d] at z; cases z) fun z => by rw [d] at z; cases z
    have nsH : ∀ {b : Addr} {m : Str → Option Value}, t0.heap.Ns b m → (hidT t0.heap H).Ns b m := fun ⟨o, es, ep, e, d, r⟩ => ⟨o, es, ep, hidT_get e (dictN e d), d, r⟩
    have inB : K.In (hidT t0.heap H) := fun b o e => hidT_get (inK b o e) (by
      cases q : H b with
      | none => rfl
      | some u =>
        rcases only b (by rw [q]; simp) with z | z
        · rw [z] at e q
          rw [nk (by rw [q]; simp)] at e
          cases e
        · rw [z, ntab] at e
          cases e)
    have md : L2.Mod K mg (hidT t0.heap H) := ⟨inB, nsH glo, ⟨mb, nsH blt, boot⟩, let ⟨mc, h1, h2⟩ := lim; ⟨mc, nsH h1, h2⟩⟩
    have TB : TabB (hidT t0.heap H) mg cc PT := by
      refine ⟨?_, ?_, fun z => ?_⟩
      · obtain ⟨o, us, file, tf, flags, tg, inF, text, tt, g1, gc, g2, g3, gr⟩ := hd
        exact ⟨o, us, file, tf, flags, tg, inF, text, tt, hidT_get g1 (nn g1 (fun _ _ z => by rw [g2] at z; cases z) fun z => by rw [g2] at z; cases z; simp at g3), gc, g2, g3, gr⟩
      · obtain ⟨bm, ob, b1, b2, b3, b4, b5, b6⟩ := bmod
        have nG : bm ≠ mainGlobals := fun q => by
          obtain ⟨o, es, ep, e, d, _⟩ := glo
          rw [q, e] at b3
          cases b3
          rw [d] at b6
          cases b6
        have nP : bm ≠ PT := fun q => by
          rw [q, tab] at b3
          cases b3
          cases b6
        exact ⟨bm, ob, b1, b2, nG, nP, hidT_get b3 (nn b3 (fun _ _ z => by rw [b6] at z; cases z) fun z => by rw [b6] at z; cases z), b4, b5, b6⟩
      · obtain ⟨o, es, ep, e, d, _⟩ := glo
        rw [z, tab] at e
        cases e
        cases d
    have e0 : Env0 P w K mg (hidT t0.heap H) callerA [] t0 H := ⟨rfl, md, fun b o e => of_hidT e, Nat.le_of_eq (hidT_size _ _), True.intro, fun b hb => absurd (show b ∈ ([] : List Addr) from hb) (by simp), ok0, .of_eq nog⟩
    obtain ⟨f', fd, G, hf', _, bnd⟩ := L _ inB (nsH glo) TB
    have ef : f' = fa := by rw [isl] at hf'; cases hf'; rfl
    subst ef
    have sqB : SqL K (known H) sc (ns.map V.int) := by
      rcases hS with (z | ⟨o, z⟩) | z
      · exact .inl (.inl (known_get z fun _ q => by cases q))
      · exact .inl (.inr ⟨o, known_get z fun _ q => by cases q⟩)
      · exact .inr z
    have hd0 : Hd (tabJ [(PT, lamQ)]) (fun _ => none) (known H) H := ⟨fun b o e => (known_of e).1, fun p hp => by rw [List.mem_singleton.mp hp]; exact TabS.nil hP, (fun b xs z => by cases z), fun b ps e => (known_of e).2 ps rfl⟩
    have sp : SpD K (tabJ [(PT, lamQ)]) R_law [.ref sc] H (fun v _ => v = .bl true) E0 := ⟨_, known H, [.list (ns.map .int)], .bool true, hd0, .cons (.lst sqB (dpa_of_ints ns)) .nil, ⟨ns, rfl, rfl⟩, fun v B' H' _ _ r => dp_bool r⟩
    refine codeAny_mono (G.run callerA [] t0 H ⟨[.ref sc], []⟩ [.ref sc] [.ref sc] _ _ room rfl e0 (bnd t0 [.ref sc] inK rfl) (.cons rfl .nil) sp) fun r t h => ?_
    cases r with
    | error e => exact False.elim h
    | ok fl =>
      cases fl with
      | next => exact False.elim h
      | brk => exact False.elim h
      | cont => exact False.elim h
      | ret u =>
        obtain ⟨v, H', os, bare, un, ok1, rv, q⟩ := h
        have q : v = .bl true := q
        subst q
        obtain rfl : u = Value.bool true := rv
        have same : ∀ b o, b ≠ PT → t0.heap.get? b = some o → t.heap.get? b = some o := fun b o nb e => by
          cases q : H b with
          | none => exact un.keep b o e q (fun z => absurd (show b ∈ ([] : List Addr) from z) (by simp)) (by simp)
          | some u =>
            rcases hO b with z | z | ⟨ob, xs, z⟩
            · rw [q] at z; cases z
            · exact absurd z nb
            · obtain ⟨g1, _⟩ := ok0 b _ z
              obtain ⟨g2, _⟩ := ok1 b _ (un.frzs b ob _ z)
              rw [e] at g1; cases g1
              exact g2
        obtain ⟨more, hm⟩ := un.tbls PT #[] hP
        have grown : t.heap.get? PT = some { cls := .none, data := .fields (#[] ++ more) } := ok1 PT _ hm
        refine ⟨rfl, ⟨fun b o e => ?_, fun b o e => ?_⟩, os, bare⟩
        · by_cases hb : b = PT
          · rw [hb] at e ⊢
            rw [tab] at e
            cases e
            exact .inr (.inl ⟨(hd.tab tab).isCodeTable, rfl, #[], more, rfl, by rw [Array.empty_append] at grown ⊢; exact grown⟩)
          · exact .inl (same b o hb e)
        · by_cases hb : b = PT
          · rw [hb]
            exact ⟨_, grown⟩
          · exact ⟨o, same b o hb e⟩
  cases hk : K.lookup sc with
  | some o =>
    have e := inK sc o hk
    rw [scr] at e
    cases e
    refine core (fun b => if b = PT then some (.tbl #[]) else none) (if_pos rfl) (fun b => ?_) (.inr ⟨_, vs.toArray, _, hk, rfl, rfl, rfl, by rw [List.size_toArray, vlen]; exact Nat.le_trans few (by decide), by simpa using vals⟩) (fun b u z => ?_) (fun b z => ?_) fun z => absurd (if_neg scT) z
    · by_cases hb : b = PT
      · exact .inr (.inl hb)
      · exact .inl (if_neg hb)
    · by_cases hb : b = PT
      · subst hb
        have z' := (if_pos rfl).symm.trans z
        cases z'
        exact tab
      · have z' := (if_neg hb).symm.trans z
        cases z'
    · by_cases hb : b = PT
      · exact .inr hb
      · exact absurd (if_neg hb) z
  | none =>
    refine core (fun b => if b = sc then some (.frz { cls := .type "list", data := .seq vs.toArray } (.lst (ns.map V.int))) else if b = PT then some (.tbl #[]) else none) ((if_neg (Ne.symm scT)).trans (if_pos rfl)) (fun b => ?_) (.inl (.inr ⟨_, if_pos rfl⟩)) (fun b u z => ?_) (fun b z => ?_) fun _ => hk
    · by_cases hb : b = sc
      · exact .inr (.inr ⟨_, _, if_pos hb⟩)
      · by_cases hb2 : b = PT
        · exact .inr (.inl hb2)
        · exact .inl ((if_neg hb).trans (if_neg hb2))
    · by_cases hb : b = sc
      · subst hb
        have z' := (if_pos rfl).symm.trans z
        cases z'
        exact ⟨scr, big, vs, _, vals, scr⟩
      · have z1 := (if_neg hb).symm.trans z
        by_cases hb2 : b = PT
        · subst hb2
          have z' := (if_pos rfl).symm.trans z1
          cases z'
          exact tab
        · have z' := (if_neg hb2).symm.trans z1
          cases z'
    · by_cases hb : b = sc
      · exact .inl hb
      · by_cases hb2 : b = PT
        · exact .inr hb2
        · exact absurd ((if_neg hb).trans (if_neg hb2)) z
end
/-- the end of the row -/
theorem law_end {l : PySem.W.OpenLaw} {k : Nat} {q : Program} {loose : List Str} {XP : (Str → Option Value) → Heap → Prop} {YP : World → Heap → Prop} {d : DefRec} {K : Params → PySem.W.Frag} (most : l.most = some 63) (nodef : d.params.defaults = []) (nm : d.name = "law") (room : Room k callerA) (inK : ∀ (w : World) (h : Heap), YP w h → (K w.params).In h)
    (F : ∀ (w : World) (mg : Str → Option Value) (fa : Addr) (h : Heap), YP w h → (K w.params).In h → h.Ns mainGlobals mg → mg d.name = some (.ref fa) →
      ∃ cc PT : Addr, h.get? PT = some { cls := .none, data := .fields #[] } ∧ (K w.params).lookup PT = none ∧ PySem.W.CodeHd h cc PT ∧ LawDef l.prog w (K w.params) mg cc PT k) :
    PySem.W.WalkO q loose XP YP l.row.toRowW d [] (fun f vs => PySem.call f vs) := by
  refine Att.attach_callB most nodef fun w s₀ t0 mg mb fa o pm cd doc a vs ns G Y ho hd hcd hmg hobj hints hlen hbits hg => ?_
  obtain ⟨cc, PT, h1, h2, h3, h4⟩ := F w mg fa _ Y (inK w _ Y) G.T.g hmg
  exact law_run (inK w _ Y) G.T.g G.T.b G.T.builtins G.T.nolimit hg h1 h2 h3 G.T.bmain hobj hints hlen room h4 (by rw [← nm]; exact hmg)
end Fd
/-! What the top has left, put together. -/
namespace Fd
open PySem PySem.Spec PyProof.Rows L2
theorem dfn_mk {K : PySem.W.Frag} {mg : Str → Option Value} {h : Heap} {x : Str} {st : Stmt} {ps : List Str} {f : Addr} {oc : Value} {od an : Option Addr} {osl : Array (Option Value)} {kV doc pm cdv ct : Value} (X : K.In h) (G : h.Ns mainGlobals mg) (a : PySem.W.nsIn K mainGlobals x = some (some (.ref f)))
    (l : K.lookup f = some ⟨oc, od, .func (PySem.W.fnOf x x (defArgs st) (defBody st) (defScope st) .none kV doc pm an cdv ct), osl⟩) (c : PySem.W.codeIn K cdv x = true) (k : PySem.W.keepIn K (.ref f) = true)
    (b : ∀ (kV doc pm : Value) (an : Option Addr) (cdv ct : Value) (us : List Value), us.length = ps.length → bindArgs (PySem.W.fnOf x x (defArgs st) (defBody st) (defScope st) .none kV doc pm an cdv ct) ⟨us, []⟩ = pure (ps.zip us)) : Dfn K mg x st ps :=
  have F := fun_mk (st := st) l c k
  ⟨f, _, F, PySem.W.mg_of X G a, F.binds b⟩
theorem dfnC_mk {K : PySem.W.Frag} {mg : Str → Option Value} {h : Heap} {x : Str} {st : Stmt} {ps : List Str} {f cc : Addr} {oc : Value} {od an : Option Addr} {osl : Array (Option Value)} {kV doc pm ct : Value} (X : K.In h) (G : h.Ns mainGlobals mg) (a : PySem.W.nsIn K mainGlobals x = some (some (.ref f)))
    (l : K.lookup f = some ⟨oc, od, .func (PySem.W.fnOf x x (defArgs st) (defBody st) (defScope st) .none kV doc pm an (.ref cc) ct), osl⟩) (c : PySem.W.codeIn K (.ref cc) x = true) (k : PySem.W.keepIn K (.ref f) = true)
    (b : ∀ (kV doc pm : Value) (an : Option Addr) (cdv ct : Value) (us : List Value), us.length = ps.length → bindArgs (PySem.W.fnOf x x (defArgs st) (defBody st) (defScope st) .none kV doc pm an cdv ct) ⟨us, []⟩ = pure (ps.zip us)) : DfnC K mg x st ps cc :=
  ⟨f, oc, od, kV, doc, pm, an, ct, osl, l, c, PySem.W.mg_of X G a, k, .all (b kV doc pm an _ ct)⟩
structure AllD (K : PySem.W.Frag) (mg : Str → Option Value) (cc : Addr) : Prop where
  above : Dfn K mg "above" s_above p_above
  used : Dfn K mg "used" s_used p_used
  is_within : Dfn K mg "is_within" s_is_within p_is_within
  parts_most : Dfn K mg "parts_most" s_parts_most p_parts_most
  most_faults : Dfn K mg "most_faults" s_most_faults p_most_faults
  lengths_of : Dfn K mg "lengths_of" s_lengths_of p_lengths_of
  work_of : Dfn K mg "work_of" s_work_of p_work_of
  divisor : Dfn K mg "divisor" s_divisor p_divisor
  rate_of : Dfn K mg "rate_of" s_rate_of p_rate_of
  latest_of : Dfn K mg "latest_of" s_latest_of p_latest_of
  longest : Dfn K mg "longest" s_longest p_longest
  horizon_of : Dfn K mg "horizon_of" s_horizon_of p_horizon_of
  bodies : Dfn K mg "bodies" s_bodies p_bodies
  jobs_in : Dfn K mg "jobs_in" s_jobs_in p_jobs_in
  demand : Dfn K mg "demand" s_demand p_demand
  penalties : Dfn K mg "penalties" s_penalties p_penalties
  ends_of : Dfn K mg "ends_of" s_ends_of p_ends_of
  one_more : Dfn K mg "one_more" s_one_more p_one_more
  fewest : Dfn K mg "fewest" s_fewest p_fewest
  least_faults : Dfn K mg "least_faults" s_least_faults p_least_faults
  bearable : Dfn K mg "bearable" s_bearable p_bearable
  law_cell : Dfn K mg "_law_cell" s_law_cell p_law_cell
  law_digits : Dfn K mg "_law_digits" s_law_digits p_law_digits
  law_draw : Dfn K mg "_law_draw" s_law_draw p_law_draw
  law_pick : Dfn K mg "_law_pick" s_law_pick p_law_pick
  law_same : Dfn K mg "_law_same" s_law_same p_law_same
  law_path : Dfn K mg "_law_path" s_law_path p_law_path
  law_used : Dfn K mg "_law_used" s_law_used p_law_used
  law_fits : Dfn K mg "_law_fits" s_law_fits p_law_fits
  law_segments : Dfn K mg "_law_segments" s_law_segments p_law_segments
  law_lengths : Dfn K mg "_law_lengths" s_law_lengths p_law_lengths
  law_work : Dfn K mg "_law_work" s_law_work p_law_work
  law_bodies : Dfn K mg "_law_bodies" s_law_bodies p_law_bodies
  law_in : Dfn K mg "_law_in" s_law_in p_law_in
  law_penalties : Dfn K mg "_law_penalties" s_law_penalties p_law_penalties
  law_demand : Dfn K mg "_law_demand" s_law_demand p_law_demand
  law_recovery : Dfn K mg "_law_recovery" s_law_recovery p_law_recovery
  law_ends : Dfn K mg "_law_ends" s_law_ends p_law_ends
  law_little : Dfn K mg "_law_little" s_law_little p_law_little
  law_horizon : Dfn K mg "_law_horizon" s_law_horizon p_law_horizon
  law_latest : Dfn K mg "_law_latest" s_law_latest p_law_latest
  law_looks : Dfn K mg "_law_looks" s_law_looks p_law_looks
  law_assignments : Dfn K mg "_law_assignments" s_law_assignments p_law_assignments
  law : Dfn K mg "law" s_law p_law
  worst : DfnC K mg "worst" s_worst p_worst cc
  bt : Bt mg
theorem law_all {P : Program} {w : World} {K : PySem.W.Frag} {mg : Str → Option Value} {cc PT : Addr} (M : ∀ y : Sys, WfY y → horY y ≤ 120 → LawOK y) (A : AllD K mg cc) : LawDef P w K mg cc PT 8 := by
  intro base _ _ TB
  have T := A.bt
  have g_above := fd_above (P := P) (w := w) (base := base) (J := tabJ [(PT, lamQ)]) A.above
  have g_used := fd_used A.used T g_above
  have g_is_within := fd_is_within A.is_within T g_used
  have g_parts_most := fd_parts_most (P := P) (w := w) (base := base) (J := tabJ [(PT, lamQ)]) A.parts_most T
  have g_most_faults := fd_most_faults A.most_faults T g_parts_most
  have g_worst := fd_worst A.worst TB T g_above
  have g_lengths_of := fd_lengths_of (P := P) (w := w) (base := base) (J := tabJ [(PT, lamQ)]) A.lengths_of T
  have g_work_of := fd_work_of A.work_of g_lengths_of
  have g_divisor := fd_divisor (P := P) (w := w) (base := base) (J := tabJ [(PT, lamQ)]) A.divisor
  have g_rate_of := fd_rate_of A.rate_of g_work_of g_divisor
  have g_latest_of := fd_latest_of (P := P) (w := w) (base := base) (J := tabJ [(PT, lamQ)]) A.latest_of T
  have g_longest := fd_longest (P := P) (w := w) (base := base) (J := tabJ [(PT, lamQ)]) A.longest T
  have g_horizon_of := fd_horizon_of A.horizon_of T g_rate_of g_work_of g_longest g_worst
  have g_bodies := fd_bodies (P := P) (w := w) (base := base) (J := tabJ [(PT, lamQ)]) A.bodies T
  have g_jobs_in := fd_jobs_in (P := P) (w := w) (base := base) (J := tabJ [(PT, lamQ)]) A.jobs_in
  have g_demand := fd_demand A.demand T g_jobs_in g_bodies g_work_of
  have g_penalties := fd_penalties A.penalties T g_jobs_in g_bodies g_longest
  have g_ends_of := fd_ends_of (P := P) (w := w) (base := base) (J := tabJ [(PT, lamQ)]) A.ends_of T
  have g_one_more := fd_one_more A.one_more T g_is_within
  have g_fewest := fd_fewest A.fewest T g_penalties g_demand g_one_more
  have g_least_faults := fd_least_faults A.least_faults T g_horizon_of g_latest_of g_ends_of g_fewest
  have g_bearable := fd_bearable A.bearable T g_least_faults g_most_faults
  have h_cell := fd_law_cell (P := P) (w := w) (base := base) (J := tabJ [(PT, lamQ)]) A.law_cell T
  have h_digits := fd_law_digits A.law_digits T h_cell
  have h_draw := fd_law_draw (P := P) (w := w) (base := base) (J := tabJ [(PT, lamQ)]) A.law_draw T
  have h_pick := fd_law_pick A.law_pick T h_draw
  have h_segments := fd_law_segments A.law_segments T h_draw
  have h_lengths := fd_law_lengths (P := P) (w := w) (base := base) (J := tabJ [(PT, lamQ)]) A.law_lengths T
  have h_work := fd_law_work A.law_work T h_lengths
  have h_bodies := fd_law_bodies (P := P) (w := w) (base := base) (J := tabJ [(PT, lamQ)]) A.law_bodies T
  have h_in := fd_law_in A.law_in h_bodies
  have h_penalties := fd_law_penalties A.law_penalties T h_in
  have h_demand := fd_law_demand A.law_demand T h_in h_work
  have h_path := fd_law_path (P := P) (w := w) (base := base) (J := tabJ [(PT, lamQ)]) A.law_path T
  have h_used := fd_law_used A.law_used T h_path
  have h_fits := fd_law_fits A.law_fits T h_used
  have h_recovery := fd_law_recovery A.law_recovery T h_path
  have h_ends := fd_law_ends (P := P) (w := w) (base := base) (J := tabJ [(PT, lamQ)]) A.law_ends T
  have h_little := fd_law_little A.law_little T h_draw h_pick h_segments h_lengths
  have h_horizon := fd_law_horizon A.law_horizon T h_work h_recovery
  have h_latest := fd_law_latest (P := P) (w := w) (base := base) (J := tabJ [(PT, lamQ)]) A.law_latest T
  have h_looks := fd_law_looks A.law_looks T h_horizon h_latest h_ends
  have h_assignments := fd_law_assignments A.law_assignments T h_fits
  have h_same := fd_law_same (P := P) (w := w) (base := base) (J := tabJ [(PT, lamQ)]) A.law_same T
  exact fd_law M A.law T h_digits h_little h_horizon h_assignments h_looks h_penalties h_demand g_least_faults g_bearable h_same h_fits
theorem top_mk {P : Program} {w : World} {K : PySem.W.Frag} {mg : Str → Option Value} {h : Heap} {PT cc fW : Addr} (M : ∀ y : Sys, WfY y → horY y ≤ 120 → LawOK y) (X : K.In h) (G : h.Ns mainGlobals mg) (tab : h.get? PT = some { cls := .none, data := .fields #[] })
    {ocW kVW dcW pmW ctW : Value} {odW anW : Option Addr} {slW : Array (Option Value)} (aW : PySem.W.nsIn K mainGlobals "worst" = some (some (.ref fW))) (lW : K.lookup fW = some ⟨ocW, odW, .func (PySem.W.fnOf "worst" "worst" (defArgs s_worst) (defBody s_worst) (defScope s_worst) .none kVW dcW pmW anW (.ref cc) ctW), slW⟩) (cW : PySem.W.codeIn K (.ref cc) "worst" = true) (kW : PySem.W.keepIn K (.ref fW) = true) (nW : K.lookup PT = none) (dW : PySem.W.codeHdIn K cc PT = true)
    {f0 : Addr} {oc0 kV0 dc0 pm0 cd0 ct0 : Value} {od0 an0 : Option Addr} {sl0 : Array (Option Value)} (a0 : PySem.W.nsIn K mainGlobals "above" = some (some (.ref f0))) (l0 : K.lookup f0 = some ⟨oc0, od0, .func (PySem.W.fnOf "above" "above" (defArgs s_above) (defBody s_above) (defScope s_above) .none kV0 dc0 pm0 an0 cd0 ct0), sl0⟩) (c0 : PySem.W.codeIn K cd0 "above" = true) (k0 : PySem.W.keepIn K (.ref f0) = true)
    {f1 : Addr} {oc1 kV1 dc1 pm1 cd1 ct1 : Value} {od1 an1 : Option Addr} {sl1 : Array (Option Value)} (a1 : PySem.W.nsIn K mainGlobals "used" = some (some (.ref f1))) (l1 : K.lookup f1 = some ⟨oc1, od1, .func (PySem.W.fnOf "used" "used" (defArgs s_used) (defBody s_used) (defScope s_used) .none kV1 dc1 pm1 an1 cd1 ct1), sl1⟩) (c1 : PySem.W.codeIn K cd1 "used" = true) (k1 : PySem.W.keepIn K (.ref f1) = true)
    {f2 : Addr} {oc2 kV2 dc2 pm2 cd2 ct2 : Value} {od2 an2 : Option Addr} {sl2 : Array (Option Value)} (a2 : PySem.W.nsIn K mainGlobals "is_within" = some (some (.ref f2))) (l2 : K.lookup f2 = some ⟨oc2, od2, .func (PySem.W.fnOf "is_within" "is_within" (defArgs s_is_within) (defBody s_is_within) (defScope s_is_within) .none kV2 dc2 pm2 an2 cd2 ct2), sl2⟩) (c2 : PySem.W.codeIn K cd2 "is_within" = true) (k2 : PySem.W.keepIn K (.ref f2) = true)
    {f3 : Addr} {oc3 kV3 dc3 pm3 cd3 ct3 : Value} {od3 an3 : Option Addr} {sl3 : Array (Option Value)} (a3 : PySem.W.nsIn K mainGlobals "parts_most" = some (some (.ref f3))) (l3 : K.lookup f3 = some ⟨oc3, od3, .func (PySem.W.fnOf "parts_most" "parts_most" (defArgs s_parts_most) (defBody s_parts_most) (defScope s_parts_most) .none kV3 dc3 pm3 an3 cd3 ct3), sl3⟩) (c3 : PySem.W.codeIn K cd3 "parts_most" = true) (k3 : PySem.W.keepIn K (.ref f3) = true)
    {f4 : Addr} {oc4 kV4 dc4 pm4 cd4 ct4 : Value} {od4 an4 : Option Addr} {sl4 : Array (Option Value)} (a4 : PySem.W.nsIn K mainGlobals "most_faults" = some (some (.ref f4))) (l4 : K.lookup f4 = some ⟨oc4, od4, .func (PySem.W.fnOf "most_faults" "most_faults" (defArgs s_most_faults) (defBody s_most_faults) (defScope s_most_faults) .none kV4 dc4 pm4 an4 cd4 ct4), sl4⟩) (c4 : PySem.W.codeIn K cd4 "most_faults" = true) (k4 : PySem.W.keepIn K (.ref f4) = true)
    {f5 : Addr} {oc5 kV5 dc5 pm5 cd5 ct5 : Value} {od5 an5 : Option Addr} {sl5 : Array (Option Value)} (a5 : PySem.W.nsIn K mainGlobals "lengths_of" = some (some (.ref f5))) (l5 : K.lookup f5 = some ⟨oc5, od5, .func (PySem.W.fnOf "lengths_of" "lengths_of" (defArgs s_lengths_of) (defBody s_lengths_of) (defScope s_lengths_of) .none kV5 dc5 pm5 an5 cd5 ct5), sl5⟩) (c5 : PySem.W.codeIn K cd5 "lengths_of" = true) (k5 : PySem.W.keepIn K (.ref f5) = true)
    {f6 : Addr} {oc6 kV6 dc6 pm6 cd6 ct6 : Value} {od6 an6 : Option Addr} {sl6 : Array (Option Value)} (a6 : PySem.W.nsIn K mainGlobals "work_of" = some (some (.ref f6))) (l6 : K.lookup f6 = some ⟨oc6, od6, .func (PySem.W.fnOf "work_of" "work_of" (defArgs s_work_of) (defBody s_work_of) (defScope s_work_of) .none kV6 dc6 pm6 an6 cd6 ct6), sl6⟩) (c6 : PySem.W.codeIn K cd6 "work_of" = true) (k6 : PySem.W.keepIn K (.ref f6) = true)
    {f7 : Addr} {oc7 kV7 dc7 pm7 cd7 ct7 : Value} {od7 an7 : Option Addr} {sl7 : Array (Option Value)} (a7 : PySem.W.nsIn K mainGlobals "divisor" = some (some (.ref f7))) (l7 : K.lookup f7 = some ⟨oc7, od7, .func (PySem.W.fnOf "divisor" "divisor" (defArgs s_divisor) (defBody s_divisor) (defScope s_divisor) .none kV7 dc7 pm7 an7 cd7 ct7), sl7⟩) (c7 : PySem.W.codeIn K cd7 "divisor" = true) (k7 : PySem.W.keepIn K (.ref f7) = true)
    {f8 : Addr} {oc8 kV8 dc8 pm8 cd8 ct8 : Value} {od8 an8 : Option Addr} {sl8 : Array (Option Value)} (a8 : PySem.W.nsIn K mainGlobals "rate_of" = some (some (.ref f8))) (l8 : K.lookup f8 = some ⟨oc8, od8, .func (PySem.W.fnOf "rate_of" "rate_of" (defArgs s_rate_of) (defBody s_rate_of) (defScope s_rate_of) .none kV8 dc8 pm8 an8 cd8 ct8), sl8⟩) (c8 : PySem.W.codeIn K cd8 "rate_of" = true) (k8 : PySem.W.keepIn K (.ref f8) = true)
    {f9 : Addr} {oc9 kV9 dc9 pm9 cd9 ct9 : Value} {od9 an9 : Option Addr} {sl9 : Array (Option Value)} (a9 : PySem.W.nsIn K mainGlobals "latest_of" = some (some (.ref f9))) (l9 : K.lookup f9 = some ⟨oc9, od9, .func (PySem.W.fnOf "latest_of" "latest_of" (defArgs s_latest_of) (defBody s_latest_of) (defScope s_latest_of) .none kV9 dc9 pm9 an9 cd9 ct9), sl9⟩) (c9 : PySem.W.codeIn K cd9 "latest_of" = true) (k9 : PySem.W.keepIn K (.ref f9) = true)
    {f10 : Addr} {oc10 kV10 dc10 pm10 cd10 ct10 : Value} {od10 an10 : Option Addr} {sl10 : Array (Option Value)} (a10 : PySem.W.nsIn K mainGlobals "longest" = some (some (.ref f10))) (l10 : K.lookup f10 = some ⟨oc10, od10, .func (PySem.W.fnOf "longest" "longest" (defArgs s_longest) (defBody s_longest) (defScope s_longest) .none kV10 dc10 pm10 an10 cd10 ct10), sl10⟩) (c10 : PySem.W.codeIn K cd10 "longest" = true) (k10 : PySem.W.keepIn K (.ref f10) = true)
    {f11 : Addr} {oc11 kV11 dc11 pm11 cd11 ct11 : Value} {od11 an11 : Option Addr} {sl11 : Array (Option Value)} (a11 : PySem.W.nsIn K mainGlobals "horizon_of" = some (some (.ref f11))) (l11 : K.lookup f11 = some ⟨oc11, od11, .func (PySem.W.fnOf "horizon_of" "horizon_of" (defArgs s_horizon_of) (defBody s_horizon_of) (defScope s_horizon_of) .none kV11 dc11 pm11 an11 cd11 ct11), sl11⟩) (c11 : PySem.W.codeIn K cd11 "horizon_of" = true) (k11 : PySem.W.keepIn K (.ref f11) = true)
    {f12 : Addr} {oc12 kV12 dc12 pm12 cd12 ct12 : Value} {od12 an12 : Option Addr} {sl12 : Array (Option Value)} (a12 : PySem.W.nsIn K mainGlobals "bodies" = some (some (.ref f12))) (l12 : K.lookup f12 = some ⟨oc12, od12, .func (PySem.W.fnOf "bodies" "bodies" (defArgs s_bodies) (defBody s_bodies) (defScope s_bodies) .none kV12 dc12 pm12 an12 cd12 ct12), sl12⟩) (c12 : PySem.W.codeIn K cd12 "bodies" = true) (k12 : PySem.W.keepIn K (.ref f12) = true)
    {f13 : Addr} {oc13 kV13 dc13 pm13 cd13 ct13 : Value} {od13 an13 : Option Addr} {sl13 : Array (Option Value)} (a13 : PySem.W.nsIn K mainGlobals "jobs_in" = some (some (.ref f13))) (l13 : K.lookup f13 = some ⟨oc13, od13, .func (PySem.W.fnOf "jobs_in" "jobs_in" (defArgs s_jobs_in) (defBody s_jobs_in) (defScope s_jobs_in) .none kV13 dc13 pm13 an13 cd13 ct13), sl13⟩) (c13 : PySem.W.codeIn K cd13 "jobs_in" = true) (k13 : PySem.W.keepIn K (.ref f13) = true)
    {f14 : Addr} {oc14 kV14 dc14 pm14 cd14 ct14 : Value} {od14 an14 : Option Addr} {sl14 : Array (Option Value)} (a14 : PySem.W.nsIn K mainGlobals "demand" = some (some (.ref f14))) (l14 : K.lookup f14 = some ⟨oc14, od14, .func (PySem.W.fnOf "demand" "demand" (defArgs s_demand) (defBody s_demand) (defScope s_demand) .none kV14 dc14 pm14 an14 cd14 ct14), sl14⟩) (c14 : PySem.W.codeIn K cd14 "demand" = true) (k14 : PySem.W.keepIn K (.ref f14) = true)
    {f15 : Addr} {oc15 kV15 dc15 pm15 cd15 ct15 : Value} {od15 an15 : Option Addr} {sl15 : Array (Option Value)} (a15 : PySem.W.nsIn K mainGlobals "penalties" = some (some (.ref f15))) (l15 : K.lookup f15 = some ⟨oc15, od15, .func (PySem.W.fnOf "penalties" "penalties" (defArgs s_penalties) (defBody s_penalties) (defScope s_penalties) .none kV15 dc15 pm15 an15 cd15 ct15), sl15⟩) (c15 : PySem.W.codeIn K cd15 "penalties" = true) (k15 : PySem.W.keepIn K (.ref f15) = true)
    {f16 : Addr} {oc16 kV16 dc16 pm16 cd16 ct16 : Value} {od16 an16 : Option Addr} {sl16 : Array (Option Value)} (a16 : PySem.W.nsIn K mainGlobals "ends_of" = some (some (.ref f16))) (l16 : K.lookup f16 = some ⟨oc16, od16, .func (PySem.W.fnOf "ends_of" "ends_of" (defArgs s_ends_of) (defBody s_ends_of) (defScope s_ends_of) .none kV16 dc16 pm16 an16 cd16 ct16), sl16⟩) (c16 : PySem.W.codeIn K cd16 "ends_of" = true) (k16 : PySem.W.keepIn K (.ref f16) = true)
    {f17 : Addr} {oc17 kV17 dc17 pm17 cd17 ct17 : Value} {od17 an17 : Option Addr} {sl17 : Array (Option Value)} (a17 : PySem.W.nsIn K mainGlobals "one_more" = some (some (.ref f17))) (l17 : K.lookup f17 = some ⟨oc17, od17, .func (PySem.W.fnOf "one_more" "one_more" (defArgs s_one_more) (defBody s_one_more) (defScope s_one_more) .none kV17 dc17 pm17 an17 cd17 ct17), sl17⟩) (c17 : PySem.W.codeIn K cd17 "one_more" = true) (k17 : PySem.W.keepIn K (.ref f17) = true)
    {f18 : Addr} {oc18 kV18 dc18 pm18 cd18 ct18 : Value} {od18 an18 : Option Addr} {sl18 : Array (Option Value)} (a18 : PySem.W.nsIn K mainGlobals "fewest" = some (some (.ref f18))) (l18 : K.lookup f18 = some ⟨oc18, od18, .func (PySem.W.fnOf "fewest" "fewest" (defArgs s_fewest) (defBody s_fewest) (defScope s_fewest) .none kV18 dc18 pm18 an18 cd18 ct18), sl18⟩) (c18 : PySem.W.codeIn K cd18 "fewest" = true) (k18 : PySem.W.keepIn K (.ref f18) = true)
    {f19 : Addr} {oc19 kV19 dc19 pm19 cd19 ct19 : Value} {od19 an19 : Option Addr} {sl19 : Array (Option Value)} (a19 : PySem.W.nsIn K mainGlobals "least_faults" = some (some (.ref f19))) (l19 : K.lookup f19 = some ⟨oc19, od19, .func (PySem.W.fnOf "least_faults" "least_faults" (defArgs s_least_faults) (defBody s_least_faults) (defScope s_least_faults) .none kV19 dc19 pm19 an19 cd19 ct19), sl19⟩) (c19 : PySem.W.codeIn K cd19 "least_faults" = true) (k19 : PySem.W.keepIn K (.ref f19) = true)
    {f20 : Addr} {oc20 kV20 dc20 pm20 cd20 ct20 : Value} {od20 an20 : Option Addr} {sl20 : Array (Option Value)} (a20 : PySem.W.nsIn K mainGlobals "bearable" = some (some (.ref f20))) (l20 : K.lookup f20 = some ⟨oc20, od20, .func (PySem.W.fnOf "bearable" "bearable" (defArgs s_bearable) (defBody s_bearable) (defScope s_bearable) .none kV20 dc20 pm20 an20 cd20 ct20), sl20⟩) (c20 : PySem.W.codeIn K cd20 "bearable" = true) (k20 : PySem.W.keepIn K (.ref f20) = true)
    {f21 : Addr} {oc21 kV21 dc21 pm21 cd21 ct21 : Value} {od21 an21 : Option Addr} {sl21 : Array (Option Value)} (a21 : PySem.W.nsIn K mainGlobals "_law_cell" = some (some (.ref f21))) (l21 : K.lookup f21 = some ⟨oc21, od21, .func (PySem.W.fnOf "_law_cell" "_law_cell" (defArgs s_law_cell) (defBody s_law_cell) (defScope s_law_cell) .none kV21 dc21 pm21 an21 cd21 ct21), sl21⟩) (c21 : PySem.W.codeIn K cd21 "_law_cell" = true) (k21 : PySem.W.keepIn K (.ref f21) = true)
    {f22 : Addr} {oc22 kV22 dc22 pm22 cd22 ct22 : Value} {od22 an22 : Option Addr} {sl22 : Array (Option Value)} (a22 : PySem.W.nsIn K mainGlobals "_law_digits" = some (some (.ref f22))) (l22 : K.lookup f22 = some ⟨oc22, od22, .func (PySem.W.fnOf "_law_digits" "_law_digits" (defArgs s_law_digits) (defBody s_law_digits) (defScope s_law_digits) .none kV22 dc22 pm22 an22 cd22 ct22), sl22⟩) (c22 : PySem.W.codeIn K cd22 "_law_digits" = true) (k22 : PySem.W.keepIn K (.ref f22) = true)
    {f23 : Addr} {oc23 kV23 dc23 pm23 cd23 ct23 : Value} {od23 an23 : Option Addr} {sl23 : Array (Option Value)} (a23 : PySem.W.nsIn K mainGlobals "_law_draw" = some (some (.ref f23))) (l23 : K.lookup f23 = some ⟨oc23, od23, .func (PySem.W.fnOf "_law_draw" "_law_draw" (defArgs s_law_draw) (defBody s_law_draw) (defScope s_law_draw) .none kV23 dc23 pm23 an23 cd23 ct23), sl23⟩) (c23 : PySem.W.codeIn K cd23 "_law_draw" = true) (k23 : PySem.W.keepIn K (.ref f23) = true)
    {f24 : Addr} {oc24 kV24 dc24 pm24 cd24 ct24 : Value} {od24 an24 : Option Addr} {sl24 : Array (Option Value)} (a24 : PySem.W.nsIn K mainGlobals "_law_pick" = some (some (.ref f24))) (l24 : K.lookup f24 = some ⟨oc24, od24, .func (PySem.W.fnOf "_law_pick" "_law_pick" (defArgs s_law_pick) (defBody s_law_pick) (defScope s_law_pick) .none kV24 dc24 pm24 an24 cd24 ct24), sl24⟩) (c24 : PySem.W.codeIn K cd24 "_law_pick" = true) (k24 : PySem.W.keepIn K (.ref f24) = true)
    {f25 : Addr} {oc25 kV25 dc25 pm25 cd25 ct25 : Value} {od25 an25 : Option Addr} {sl25 : Array (Option Value)} (a25 : PySem.W.nsIn K mainGlobals "_law_same" = some (some (.ref f25))) (l25 : K.lookup f25 = some ⟨oc25, od25, .func (PySem.W.fnOf "_law_same" "_law_same" (defArgs s_law_same) (defBody s_law_same) (defScope s_law_same) .none kV25 dc25 pm25 an25 cd25 ct25), sl25⟩) (c25 : PySem.W.codeIn K cd25 "_law_same" = true) (k25 : PySem.W.keepIn K (.ref f25) = true)
    {f26 : Addr} {oc26 kV26 dc26 pm26 cd26 ct26 : Value} {od26 an26 : Option Addr} {sl26 : Array (Option Value)} (a26 : PySem.W.nsIn K mainGlobals "_law_path" = some (some (.ref f26))) (l26 : K.lookup f26 = some ⟨oc26, od26, .func (PySem.W.fnOf "_law_path" "_law_path" (defArgs s_law_path) (defBody s_law_path) (defScope s_law_path) .none kV26 dc26 pm26 an26 cd26 ct26), sl26⟩) (c26 : PySem.W.codeIn K cd26 "_law_path" = true) (k26 : PySem.W.keepIn K (.ref f26) = true)
    {f27 : Addr} {oc27 kV27 dc27 pm27 cd27 ct27 : Value} {od27 an27 : Option Addr} {sl27 : Array (Option Value)} (a27 : PySem.W.nsIn K mainGlobals "_law_used" = some (some (.ref f27))) (l27 : K.lookup f27 = some ⟨oc27, od27, .func (PySem.W.fnOf "_law_used" "_law_used" (defArgs s_law_used) (defBody s_law_used) (defScope s_law_used) .none kV27 dc27 pm27 an27 cd27 ct27), sl27⟩) (c27 : PySem.W.codeIn K cd27 "_law_used" = true) (k27 : PySem.W.keepIn K (.ref f27) = true)
    {f28 : Addr} {oc28 kV28 dc28 pm28 cd28 ct28 : Value} {od28 an28 : Option Addr} {sl28 : Array (Option Value)} (a28 : PySem.W.nsIn K mainGlobals "_law_fits" = some (some (.ref f28))) (l28 : K.lookup f28 = some ⟨oc28, od28, .func (PySem.W.fnOf "_law_fits" "_law_fits" (defArgs s_law_fits) (defBody s_law_fits) (defScope s_law_fits) .none kV28 dc28 pm28 an28 cd28 ct28), sl28⟩) (c28 : PySem.W.codeIn K cd28 "_law_fits" = true) (k28 : PySem.W.keepIn K (.ref f28) = true)
    {f29 : Addr} {oc29 kV29 dc29 pm29 cd29 ct29 : Value} {od29 an29 : Option Addr} {sl29 : Array (Option Value)} (a29 : PySem.W.nsIn K mainGlobals "_law_segments" = some (some (.ref f29))) (l29 : K.lookup f29 = some ⟨oc29, od29, .func (PySem.W.fnOf "_law_segments" "_law_segments" (defArgs s_law_segments) (defBody s_law_segments) (defScope s_law_segments) .none kV29 dc29 pm29 an29 cd29 ct29), sl29⟩) (c29 : PySem.W.codeIn K cd29 "_law_segments" = true) (k29 : PySem.W.keepIn K (.ref f29) = true)
    {f30 : Addr} {oc30 kV30 dc30 pm30 cd30 ct30 : Value} {od30 an30 : Option Addr} {sl30 : Array (Option Value)} (a30 : PySem.W.nsIn K mainGlobals "_law_lengths" = some (some (.ref f30))) (l30 : K.lookup f30 = some ⟨oc30, od30, .func (PySem.W.fnOf "_law_lengths" "_law_lengths" (defArgs s_law_lengths) (defBody s_law_lengths) (defScope s_law_lengths) .none kV30 dc30 pm30 an30 cd30 ct30), sl30⟩) (c30 : PySem.W.codeIn K cd30 "_law_lengths" = true) (k30 : PySem.W.keepIn K (.ref f30) = true)
    {f31 : Addr} {oc31 kV31 dc31 pm31 cd31 ct31 : Value} {od31 an31 : Option Addr} {sl31 : Array (Option Value)} (a31 : PySem.W.nsIn K mainGlobals "_law_work" = some (some (.ref f31))) (l31 : K.lookup f31 = some ⟨oc31, od31, .func (PySem.W.fnOf "_law_work" "_law_work" (defArgs s_law_work) (defBody s_law_work) (defScope s_law_work) .none kV31 dc31 pm31 an31 cd31 ct31), sl31⟩) (c31 : PySem.W.codeIn K cd31 "_law_work" = true) (k31 : PySem.W.keepIn K (.ref f31) = true)
    {f32 : Addr} {oc32 kV32 dc32 pm32 cd32 ct32 : Value} {od32 an32 : Option Addr} {sl32 : Array (Option Value)} (a32 : PySem.W.nsIn K mainGlobals "_law_bodies" = some (some (.ref f32))) (l32 : K.lookup f32 = some ⟨oc32, od32, .func (PySem.W.fnOf "_law_bodies" "_law_bodies" (defArgs s_law_bodies) (defBody s_law_bodies) (defScope s_law_bodies) .none kV32 dc32 pm32 an32 cd32 ct32), sl32⟩) (c32 : PySem.W.codeIn K cd32 "_law_bodies" = true) (k32 : PySem.W.keepIn K (.ref f32) = true)
    {f33 : Addr} {oc33 kV33 dc33 pm33 cd33 ct33 : Value} {od33 an33 : Option Addr} {sl33 : Array (Option Value)} (a33 : PySem.W.nsIn K mainGlobals "_law_in" = some (some (.ref f33))) (l33 : K.lookup f33 = some ⟨oc33, od33, .func (PySem.W.fnOf "_law_in" "_law_in" (defArgs s_law_in) (defBody s_law_in) (defScope s_law_in) .none kV33 dc33 pm33 an33 cd33 ct33), sl33⟩) (c33 : PySem.W.codeIn K cd33 "_law_in" = true) (k33 : PySem.W.keepIn K (.ref f33) = true)
    {f34 : Addr} {oc34 kV34 dc34 pm34 cd34 ct34 : Value} {od34 an34 : Option Addr} {sl34 : Array (Option Value)} (a34 : PySem.W.nsIn K mainGlobals "_law_penalties" = some (some (.ref f34))) (l34 : K.lookup f34 = some ⟨oc34, od34, .func (PySem.W.fnOf "_law_penalties" "_law_penalties" (defArgs s_law_penalties) (defBody s_law_penalties) (defScope s_law_penalties) .none kV34 dc34 pm34 an34 cd34 ct34), sl34⟩) (c34 : PySem.W.codeIn K cd34 "_law_penalties" = true) (k34 : PySem.W.keepIn K (.ref f34) = true)
    {f35 : Addr} {oc35 kV35 dc35 pm35 cd35 ct35 : Value} {od35 an35 : Option Addr} {sl35 : Array (Option Value)} (a35 : PySem.W.nsIn K mainGlobals "_law_demand" = some (some (.ref f35))) (l35 : K.lookup f35 = some ⟨oc35, od35, .func (PySem.W.fnOf "_law_demand" "_law_demand" (defArgs s_law_demand) (defBody s_law_demand) (defScope s_law_demand) .none kV35 dc35 pm35 an35 cd35 ct35), sl35⟩) (c35 : PySem.W.codeIn K cd35 "_law_demand" = true) (k35 : PySem.W.keepIn K (.ref f35) = true)
    {f36 : Addr} {oc36 kV36 dc36 pm36 cd36 ct36 : Value} {od36 an36 : Option Addr} {sl36 : Array (Option Value)} (a36 : PySem.W.nsIn K mainGlobals "_law_recovery" = some (some (.ref f36))) (l36 : K.lookup f36 = some ⟨oc36, od36, .func (PySem.W.fnOf "_law_recovery" "_law_recovery" (defArgs s_law_recovery) (defBody s_law_recovery) (defScope s_law_recovery) .none kV36 dc36 pm36 an36 cd36 ct36), sl36⟩) (c36 : PySem.W.codeIn K cd36 "_law_recovery" = true) (k36 : PySem.W.keepIn K (.ref f36) = true)
    {f37 : Addr} {oc37 kV37 dc37 pm37 cd37 ct37 : Value} {od37 an37 : Option Addr} {sl37 : Array (Option Value)} (a37 : PySem.W.nsIn K mainGlobals "_law_ends" = some (some (.ref f37))) (l37 : K.lookup f37 = some ⟨oc37, od37, .func (PySem.W.fnOf "_law_ends" "_law_ends" (defArgs s_law_ends) (defBody s_law_ends) (defScope s_law_ends) .none kV37 dc37 pm37 an37 cd37 ct37), sl37⟩) (c37 : PySem.W.codeIn K cd37 "_law_ends" = true) (k37 : PySem.W.keepIn K (.ref f37) = true)
    {f38 : Addr} {oc38 kV38 dc38 pm38 cd38 ct38 : Value} {od38 an38 : Option Addr} {sl38 : Array (Option Value)} (a38 : PySem.W.nsIn K mainGlobals "_law_little" = some (some (.ref f38))) (l38 : K.lookup f38 = some ⟨oc38, od38, .func (PySem.W.fnOf "_law_little" "_law_little" (defArgs s_law_little) (defBody s_law_little) (defScope s_law_little) .none kV38 dc38 pm38 an38 cd38 ct38), sl38⟩) (c38 : PySem.W.codeIn K cd38 "_law_little" = true) (k38 : PySem.W.keepIn K (.ref f38) = true)
    {f39 : Addr} {oc39 kV39 dc39 pm39 cd39 ct39 : Value} {od39 an39 : Option Addr} {sl39 : Array (Option Value)} (a39 : PySem.W.nsIn K mainGlobals "_law_horizon" = some (some (.ref f39))) (l39 : K.lookup f39 = some ⟨oc39, od39, .func (PySem.W.fnOf "_law_horizon" "_law_horizon" (defArgs s_law_horizon) (defBody s_law_horizon) (defScope s_law_horizon) .none kV39 dc39 pm39 an39 cd39 ct39), sl39⟩) (c39 : PySem.W.codeIn K cd39 "_law_horizon" = true) (k39 : PySem.W.keepIn K (.ref f39) = true)
    {f40 : Addr} {oc40 kV40 dc40 pm40 cd40 ct40 : Value} {od40 an40 : Option Addr} {sl40 : Array (Option Value)} (a40 : PySem.W.nsIn K mainGlobals "_law_latest" = some (some (.ref f40))) (l40 : K.lookup f40 = some ⟨oc40, od40, .func (PySem.W.fnOf "_law_latest" "_law_latest" (defArgs s_law_latest) (defBody s_law_latest) (defScope s_law_latest) .none kV40 dc40 pm40 an40 cd40 ct40), sl40⟩) (c40 : PySem.W.codeIn K cd40 "_law_latest" = true) (k40 : PySem.W.keepIn K (.ref f40) = true)
    {f41 : Addr} {oc41 kV41 dc41 pm41 cd41 ct41 : Value} {od41 an41 : Option Addr} {sl41 : Array (Option Value)} (a41 : PySem.W.nsIn K mainGlobals "_law_looks" = some (some (.ref f41))) (l41 : K.lookup f41 = some ⟨oc41, od41, .func (PySem.W.fnOf "_law_looks" "_law_looks" (defArgs s_law_looks) (defBody s_law_looks) (defScope s_law_looks) .none kV41 dc41 pm41 an41 cd41 ct41), sl41⟩) (c41 : PySem.W.codeIn K cd41 "_law_looks" = true) (k41 : PySem.W.keepIn K (.ref f41) = true)
    {f42 : Addr} {oc42 kV42 dc42 pm42 cd42 ct42 : Value} {od42 an42 : Option Addr} {sl42 : Array (Option Value)} (a42 : PySem.W.nsIn K mainGlobals "_law_assignments" = some (some (.ref f42))) (l42 : K.lookup f42 = some ⟨oc42, od42, .func (PySem.W.fnOf "_law_assignments" "_law_assignments" (defArgs s_law_assignments) (defBody s_law_assignments) (defScope s_law_assignments) .none kV42 dc42 pm42 an42 cd42 ct42), sl42⟩) (c42 : PySem.W.codeIn K cd42 "_law_assignments" = true) (k42 : PySem.W.keepIn K (.ref f42) = true)
    {f43 : Addr} {oc43 kV43 dc43 pm43 cd43 ct43 : Value} {od43 an43 : Option Addr} {sl43 : Array (Option Value)} (a43 : PySem.W.nsIn K mainGlobals "law" = some (some (.ref f43))) (l43 : K.lookup f43 = some ⟨oc43, od43, .func (PySem.W.fnOf "law" "law" (defArgs s_law) (defBody s_law) (defScope s_law) .none kV43 dc43 pm43 an43 cd43 ct43), sl43⟩) (c43 : PySem.W.codeIn K cd43 "law" = true) (k43 : PySem.W.keepIn K (.ref f43) = true)
    (z0 : PySem.W.nsIn K mainGlobals "len" = some none) (z1 : PySem.W.nsIn K mainGlobals "range" = some none) (z2 : PySem.W.nsIn K mainGlobals "sum" = some none) (z3 : PySem.W.nsIn K mainGlobals "max" = some none) (z4 : PySem.W.nsIn K mainGlobals "min" = some none) (z5 : PySem.W.nsIn K mainGlobals "int" = some none) (z6 : PySem.W.nsIn K mainGlobals "tuple" = some none) (z7 : PySem.W.nsIn K mainGlobals "sorted" = some none) (z8 : PySem.W.nsIn K mainGlobals "set" = some none) (z9 : PySem.W.nsIn K mainGlobals "zip" = some none) (z10 : PySem.W.nsIn K mainGlobals "enumerate" = some none) (z11 : PySem.W.nsIn K mainGlobals "repr" = some none) (z12 : PySem.W.nsIn K mainGlobals "isinstance" = some none) (z13 : PySem.W.nsIn K mainGlobals "bool" = some none) :
    ∃ cc PT : Addr, h.get? PT = some { cls := .none, data := .fields #[] } ∧ K.lookup PT = none ∧ PySem.W.CodeHd h cc PT ∧ LawDef P w K mg cc PT 8 :=
  ⟨cc, PT, tab, nW, PySem.W.codeHd_of_K X dW, law_all M ⟨dfn_mk X G a0 l0 c0 k0 (fun _ _ _ _ _ _ us hl => match us, hl with | [_, _], _ => rfl),
    dfn_mk X G a1 l1 c1 k1 (fun _ _ _ _ _ _ us hl => match us, hl with | [_, _], _ => rfl),
    dfn_mk X G a2 l2 c2 k2 (fun _ _ _ _ _ _ us hl => match us, hl with | [_, _], _ => rfl),
    dfn_mk X G a3 l3 c3 k3 (fun _ _ _ _ _ _ us hl => match us, hl with | [_, _], _ => rfl),
    dfn_mk X G a4 l4 c4 k4 (fun _ _ _ _ _ _ us hl => match us, hl with | [_, _], _ => rfl),
    dfn_mk X G a5 l5 c5 k5 (fun _ _ _ _ _ _ us hl => match us, hl with | [_], _ => rfl),
    dfn_mk X G a6 l6 c6 k6 (fun _ _ _ _ _ _ us hl => match us, hl with | [_], _ => rfl),
    dfn_mk X G a7 l7 c7 k7 (fun _ _ _ _ _ _ us hl => match us, hl with | [_, _], _ => rfl),
    dfn_mk X G a8 l8 c8 k8 (fun _ _ _ _ _ _ us hl => match us, hl with | [_], _ => rfl),
    dfn_mk X G a9 l9 c9 k9 (fun _ _ _ _ _ _ us hl => match us, hl with | [_], _ => rfl),
    dfn_mk X G a10 l10 c10 k10 (fun _ _ _ _ _ _ us hl => match us, hl with | [_, _], _ => rfl),
    dfn_mk X G a11 l11 c11 k11 (fun _ _ _ _ _ _ us hl => match us, hl with | [_], _ => rfl),
    dfn_mk X G a12 l12 c12 k12 (fun _ _ _ _ _ _ us hl => match us, hl with | [_, _, _], _ => rfl),
    dfn_mk X G a13 l13 c13 k13 (fun _ _ _ _ _ _ us hl => match us, hl with | [_, _, _], _ => rfl),
    dfn_mk X G a14 l14 c14 k14 (fun _ _ _ _ _ _ us hl => match us, hl with | [_, _, _], _ => rfl),
    dfn_mk X G a15 l15 c15 k15 (fun _ _ _ _ _ _ us hl => match us, hl with | [_, _, _], _ => rfl),
    dfn_mk X G a16 l16 c16 k16 (fun _ _ _ _ _ _ us hl => match us, hl with | [_, _, _], _ => rfl),
    dfn_mk X G a17 l17 c17 k17 (fun _ _ _ _ _ _ us hl => match us, hl with | [_, _, _], _ => rfl),
    dfn_mk X G a18 l18 c18 k18 (fun _ _ _ _ _ _ us hl => match us, hl with | [_, _, _, _], _ => rfl),
    dfn_mk X G a19 l19 c19 k19 (fun _ _ _ _ _ _ us hl => match us, hl with | [_], _ => rfl),
    dfn_mk X G a20 l20 c20 k20 (fun _ _ _ _ _ _ us hl => match us, hl with | [_], _ => rfl),
    dfn_mk X G a21 l21 c21 k21 (fun _ _ _ _ _ _ us hl => match us, hl with | [_, _], _ => rfl),
    dfn_mk X G a22 l22 c22 k22 (fun _ _ _ _ _ _ us hl => match us, hl with | [_, _, _], _ => rfl),
    dfn_mk X G a23 l23 c23 k23 (fun _ _ _ _ _ _ us hl => match us, hl with | [_, _], _ => rfl),
    dfn_mk X G a24 l24 c24 k24 (fun _ _ _ _ _ _ us hl => match us, hl with | [_, _], _ => rfl),
    dfn_mk X G a25 l25 c25 k25 (fun _ _ _ _ _ _ us hl => match us, hl with | [_, _], _ => rfl),
    dfn_mk X G a26 l26 c26 k26 (fun _ _ _ _ _ _ us hl => match us, hl with | [_, _], _ => rfl),
    dfn_mk X G a27 l27 c27 k27 (fun _ _ _ _ _ _ us hl => match us, hl with | [_, _], _ => rfl),
    dfn_mk X G a28 l28 c28 k28 (fun _ _ _ _ _ _ us hl => match us, hl with | [_, _], _ => rfl),
    dfn_mk X G a29 l29 c29 k29 (fun _ _ _ _ _ _ us hl => match us, hl with | [_, _, _], _ => rfl),
    dfn_mk X G a30 l30 c30 k30 (fun _ _ _ _ _ _ us hl => match us, hl with | [_], _ => rfl),
    dfn_mk X G a31 l31 c31 k31 (fun _ _ _ _ _ _ us hl => match us, hl with | [_], _ => rfl),
    dfn_mk X G a32 l32 c32 k32 (fun _ _ _ _ _ _ us hl => match us, hl with | [_, _, _], _ => rfl),
    dfn_mk X G a33 l33 c33 k33 (fun _ _ _ _ _ _ us hl => match us, hl with | [_, _, _], _ => rfl),
    dfn_mk X G a34 l34 c34 k34 (fun _ _ _ _ _ _ us hl => match us, hl with | [_, _, _], _ => rfl),
    dfn_mk X G a35 l35 c35 k35 (fun _ _ _ _ _ _ us hl => match us, hl with | [_, _, _], _ => rfl),
    dfn_mk X G a36 l36 c36 k36 (fun _ _ _ _ _ _ us hl => match us, hl with | [_, _], _ => rfl),
    dfn_mk X G a37 l37 c37 k37 (fun _ _ _ _ _ _ us hl => match us, hl with | [_, _, _], _ => rfl),
    dfn_mk X G a38 l38 c38 k38 (fun _ _ _ _ _ _ us hl => match us, hl with | [_], _ => rfl),
    dfn_mk X G a39 l39 c39 k39 (fun _ _ _ _ _ _ us hl => match us, hl with | [_], _ => rfl),
    dfn_mk X G a40 l40 c40 k40 (fun _ _ _ _ _ _ us hl => match us, hl with | [_], _ => rfl),
    dfn_mk X G a41 l41 c41 k41 (fun _ _ _ _ _ _ us hl => match us, hl with | [_], _ => rfl),
    dfn_mk X G a42 l42 c42 k42 (fun _ _ _ _ _ _ us hl => match us, hl with | [_], _ => rfl),
    dfn_mk X G a43 l43 c43 k43 (fun _ _ _ _ _ _ us hl => match us, hl with | [_], _ => rfl),
    dfnC_mk X G aW lW cW kW (fun _ _ _ _ _ _ us hl => match us, hl with | [_, _], _ => rfl),
    ⟨PySem.W.mg_none_of X G z0, PySem.W.mg_none_of X G z1, PySem.W.mg_none_of X G z2, PySem.W.mg_none_of X G z3, PySem.W.mg_none_of X G z4, PySem.W.mg_none_of X G z5, PySem.W.mg_none_of X G z6, PySem.W.mg_none_of X G z7, PySem.W.mg_none_of X G z8, PySem.W.mg_none_of X G z9, PySem.W.mg_none_of X G z10, PySem.W.mg_none_of X G z11, PySem.W.mg_none_of X G z12, PySem.W.mg_none_of X G z13⟩⟩⟩
end Fd
/-! What is true of at most three budgets (written by wip/gen_good.py). -/
namespace Fd
open PySem PySem.Spec PyProof.Rows L2
/-- a fitting assignment -/
structure Fit (bs : List Bud) (x : List Int) : Prop where
  len : x.length = bs.length
  nn : ∀ k : Nat, k < bs.length → 0 ≤ gi x (k : Nat)
  ok : fitsY bs x = true
structure Good (bs : List Bud) : Prop where
  sub : ∀ x y : List Int, Fit bs x → y.length = bs.length → (∀ k : Nat, k < bs.length → 0 ≤ gi y (k : Nat) ∧ gi y (k : Nat) ≤ gi x (k : Nat)) → fitsY bs y = true
  cap : ∀ x : List Int, Fit bs x → ∀ k : Nat, k < bs.length → gi x (k : Nat) ≤ gc bs (k : Nat)
  cover : ∀ g x : List Int, Fit bs g → Fit bs x → (∀ k : Nat, k < bs.length → 0 < gi x (k : Nat) → ¬ fitsY bs (incF g (k : Nat)) = true) → x.sum ≤ g.sum
  most : ∀ x : List Int, Fit bs x → x.sum ≤ mostY bs
  top : (∀ b, b ∈ bs → 0 ≤ b.cap ∧ b.cap ≤ 3) → ∃ x : List Int, Fit bs x ∧ x.sum = mostY bs
/-! ### parents (-1,) -/
section
variable {n0 : Str} {c0 : Int}
theorem fit_0 (x0 : Int) : fitsY [⟨n0, c0, -1⟩] [x0] = true ↔ x0 + 0 ≤ c0 := by
  have hu : usedY [⟨n0, c0, -1⟩] [x0] = [x0 + 0] := rfl
  unfold fitsY
  rw [decide_eq_true_iff, hu]
  constructor
  · intro h
    exact h 0 (by show 0 < 1; decide)
  · intro h0 k hk
    match k, hk with
    | 0, _ => exact h0
    | k + 1, hk => exact absurd hk (by show ¬ k + 1 < 1; omega)
theorem good_0 : Good [⟨n0, c0, -1⟩] where
  sub := fun x y h hy hk => by
    match x, y, h.len, hy, h, hk with
    | [x0], [y0], _, _, h, hk =>
      have fx := (fit_0 x0).mp h.ok
      have xn0 : 0 ≤ x0 := h.nn 0 (by show 0 < 1; decide)
      have k0 : 0 ≤ y0 ∧ y0 ≤ x0 := hk 0 (by show 0 < 1; decide)
      exact (fit_0 y0).mpr (by omega)
  cap := fun x h k hk => by
    match x, h.len, h with
    | [x0], _, h =>
      have fx := (fit_0 x0).mp h.ok
      have xn0 : 0 ≤ x0 := h.nn 0 (by show 0 < 1; decide)
      match k, hk with
      | 0, _ => show x0 ≤ c0; omega
      | k + 1, hk => exact absurd hk (by show ¬ k + 1 < 1; omega)
  cover := fun g x hg hx hk => by
    match g, x, hg.len, hx.len, hg, hx, hk with
    | [g0], [x0], _, _, hg, hx, hk =>
      have fg := (fit_0 g0).mp hg.ok
      have gn0 : 0 ≤ g0 := hg.nn 0 (by show 0 < 1; decide)
      have fx := (fit_0 x0).mp hx.ok
      have xn0 : 0 ≤ x0 := hx.nn 0 (by show 0 < 1; decide)
      have k0 : 0 < x0 → ¬ ((g0 + 1) + (0) ≤ c0) := fun z w => hk 0 (by show 0 < 1; decide) z ((fit_0 (g0 + 1)).mpr w)
      show x0 + 0 ≤ g0 + 0
      omega
  most := fun x h => by
    match x, h.len, h with
    | [x0], _, h =>
      have fx := (fit_0 x0).mp h.ok
      have xn0 : 0 ≤ x0 := h.nn 0 (by show 0 < 1; decide)
      show x0 + 0 ≤ c0 + (0)
      omega
  top := fun hc => by
    have b0 : 0 ≤ c0 ∧ c0 ≤ 3 := hc ⟨n0, c0, -1⟩ (by simp)
    refine ⟨[c0], ⟨rfl, fun k hk => ?_, (fit_0 c0).mpr (by omega)⟩, ?_⟩
    · match k, hk with
      | 0, _ => show 0 ≤ c0; omega
      | k + 1, hk => exact absurd hk (by show ¬ k + 1 < 1; omega)
    · show c0 + 0 = c0 + (0)
      omega
end
/-! ### parents (-1, -1) -/
section
variable {n0 n1 : Str} {c0 c1 : Int}
theorem fit_1 (x0 x1 : Int) : fitsY [⟨n0, c0, -1⟩, ⟨n1, c1, -1⟩] [x0, x1] = true ↔ x0 + 0 ≤ c0 ∧ x1 + 0 ≤ c1 := by
  have hu : usedY [⟨n0, c0, -1⟩, ⟨n1, c1, -1⟩] [x0, x1] = [x0 + 0, x1 + 0] := rfl
  unfold fitsY
  rw [decide_eq_true_iff, hu]
  constructor
  · intro h
    exact ⟨h 0 (by show 0 < 2; decide), h 1 (by show 1 < 2; decide)⟩
  · rintro ⟨h0, h1⟩ k hk
    match k, hk with
    | 0, _ => exact h0
    | 1, _ => exact h1
    | k + 2, hk => exact absurd hk (by show ¬ k + 2 < 2; omega)
theorem good_1 : Good [⟨n0, c0, -1⟩, ⟨n1, c1, -1⟩] where
  sub := fun x y h hy hk => by
    match x, y, h.len, hy, h, hk with
    | [x0, x1], [y0, y1], _, _, h, hk =>
      have fx := (fit_1 x0 x1).mp h.ok
      have xn0 : 0 ≤ x0 := h.nn 0 (by show 0 < 2; decide)
      have xn1 : 0 ≤ x1 := h.nn 1 (by show 1 < 2; decide)
      have k0 : 0 ≤ y0 ∧ y0 ≤ x0 := hk 0 (by show 0 < 2; decide)
      have k1 : 0 ≤ y1 ∧ y1 ≤ x1 := hk 1 (by show 1 < 2; decide)
      exact (fit_1 y0 y1).mpr (by omega)
  cap := fun x h k hk => by
    match x, h.len, h with
    | [x0, x1], _, h =>
      have fx := (fit_1 x0 x1).mp h.ok
      have xn0 : 0 ≤ x0 := h.nn 0 (by show 0 < 2; decide)
      have xn1 : 0 ≤ x1 := h.nn 1 (by show 1 < 2; decide)
      match k, hk with
      | 0, _ => show x0 ≤ c0; omega
      | 1, _ => show x1 ≤ c1; omega
      | k + 2, hk => exact absurd hk (by show ¬ k + 2 < 2; omega)
  cover := fun g x hg hx hk => by
    match g, x, hg.len, hx.len, hg, hx, hk with
    | [g0, g1], [x0, x1], _, _, hg, hx, hk =>
      have fg := (fit_1 g0 g1).mp hg.ok
      have gn0 : 0 ≤ g0 := hg.nn 0 (by show 0 < 2; decide)
      have gn1 : 0 ≤ g1 := hg.nn 1 (by show 1 < 2; decide)
      have fx := (fit_1 x0 x1).mp hx.ok
      have xn0 : 0 ≤ x0 := hx.nn 0 (by show 0 < 2; decide)
      have xn1 : 0 ≤ x1 := hx.nn 1 (by show 1 < 2; decide)
      have k0 : 0 < x0 → ¬ ((g0 + 1) + (0) ≤ c0 ∧ g1 + (0) ≤ c1) := fun z w => hk 0 (by show 0 < 2; decide) z ((fit_1 (g0 + 1) (g1)).mpr w)
      have k1 : 0 < x1 → ¬ (g0 + (0) ≤ c0 ∧ (g1 + 1) + (0) ≤ c1) := fun z w => hk 1 (by show 1 < 2; decide) z ((fit_1 (g0) (g1 + 1)).mpr w)
      show x0 + (x1 + 0) ≤ g0 + (g1 + 0)
      omega
  most := fun x h => by
    match x, h.len, h with
    | [x0, x1], _, h =>
      have fx := (fit_1 x0 x1).mp h.ok
      have xn0 : 0 ≤ x0 := h.nn 0 (by show 0 < 2; decide)
      have xn1 : 0 ≤ x1 := h.nn 1 (by show 1 < 2; decide)
      show x0 + (x1 + 0) ≤ c0 + (c1 + (0))
      omega
  top := fun hc => by
    have b0 : 0 ≤ c0 ∧ c0 ≤ 3 := hc ⟨n0, c0, -1⟩ (by simp)
    have b1 : 0 ≤ c1 ∧ c1 ≤ 3 := hc ⟨n1, c1, -1⟩ (by simp)
    refine ⟨[c0, c1], ⟨rfl, fun k hk => ?_, (fit_1 c0 c1).mpr (by omega)⟩, ?_⟩
    · match k, hk with
      | 0, _ => show 0 ≤ c0; omega
      | 1, _ => show 0 ≤ c1; omega
      | k + 2, hk => exact absurd hk (by show ¬ k + 2 < 2; omega)
    · show c0 + (c1 + 0) = c0 + (c1 + (0))
      omega
end
/-! ### parents (-1, 0) -/
section
variable {n0 n1 : Str} {c0 c1 : Int}
theorem fit_2 (x0 x1 : Int) : fitsY [⟨n0, c0, -1⟩, ⟨n1, c1, 0⟩] [x0, x1] = true ↔ x0 + (x1 + 0) ≤ c0 ∧ x1 + 0 ≤ c1 := by
  have hu : usedY [⟨n0, c0, -1⟩, ⟨n1, c1, 0⟩] [x0, x1] = [x0 + (x1 + 0), x1 + 0] := rfl
  unfold fitsY
  rw [decide_eq_true_iff, hu]
  constructor
  · intro h
    exact ⟨h 0 (by show 0 < 2; decide), h 1 (by show 1 < 2; decide)⟩
  · rintro ⟨h0, h1⟩ k hk
    match k, hk with
    | 0, _ => exact h0
    | 1, _ => exact h1
    | k + 2, hk => exact absurd hk (by show ¬ k + 2 < 2; omega)
theorem good_2 : Good [⟨n0, c0, -1⟩, ⟨n1, c1, 0⟩] where
  sub := fun x y h hy hk => by
    match x, y, h.len, hy, h, hk with
    | [x0, x1], [y0, y1], _, _, h, hk =>
      have fx := (fit_2 x0 x1).mp h.ok
      have xn0 : 0 ≤ x0 := h.nn 0 (by show 0 < 2; decide)
      have xn1 : 0 ≤ x1 := h.nn 1 (by show 1 < 2; decide)
      have k0 : 0 ≤ y0 ∧ y0 ≤ x0 := hk 0 (by show 0 < 2; decide)
      have k1 : 0 ≤ y1 ∧ y1 ≤ x1 := hk 1 (by show 1 < 2; decide)
      exact (fit_2 y0 y1).mpr (by omega)
  cap := fun x h k hk => by
    match x, h.len, h with
    | [x0, x1], _, h =>
      have fx := (fit_2 x0 x1).mp h.ok
      have xn0 : 0 ≤ x0 := h.nn 0 (by show 0 < 2; decide)
      have xn1 : 0 ≤ x1 := h.nn 1 (by show 1 < 2; decide)
      match k, hk with
      | 0, _ => show x0 ≤ c0; omega
      | 1, _ => show x1 ≤ c1; omega
      | k + 2, hk => exact absurd hk (by show ¬ k + 2 < 2; omega)
  cover := fun g x hg hx hk => by
    match g, x, hg.len, hx.len, hg, hx, hk with
    | [g0, g1], [x0, x1], _, _, hg, hx, hk =>
      have fg := (fit_2 g0 g1).mp hg.ok
      have gn0 : 0 ≤ g0 := hg.nn 0 (by show 0 < 2; decide)
      have gn1 : 0 ≤ g1 := hg.nn 1 (by show 1 < 2; decide)
      have fx := (fit_2 x0 x1).mp hx.ok
      have xn0 : 0 ≤ x0 := hx.nn 0 (by show 0 < 2; decide)
      have xn1 : 0 ≤ x1 := hx.nn 1 (by show 1 < 2; decide)
      have k0 : 0 < x0 → ¬ ((g0 + 1) + (g1 + (0)) ≤ c0 ∧ g1 + (0) ≤ c1) := fun z w => hk 0 (by show 0 < 2; decide) z ((fit_2 (g0 + 1) (g1)).mpr w)
      have k1 : 0 < x1 → ¬ (g0 + ((g1 + 1) + (0)) ≤ c0 ∧ (g1 + 1) + (0) ≤ c1) := fun z w => hk 1 (by show 1 < 2; decide) z ((fit_2 (g0) (g1 + 1)).mpr w)
      show x0 + (x1 + 0) ≤ g0 + (g1 + 0)
      omega
  most := fun x h => by
    match x, h.len, h with
    | [x0, x1], _, h =>
      have fx := (fit_2 x0 x1).mp h.ok
      have xn0 : 0 ≤ x0 := h.nn 0 (by show 0 < 2; decide)
      have xn1 : 0 ≤ x1 := h.nn 1 (by show 1 < 2; decide)
      show x0 + (x1 + 0) ≤ c0 + (0)
      omega
  top := fun hc => by
    have b0 : 0 ≤ c0 ∧ c0 ≤ 3 := hc ⟨n0, c0, -1⟩ (by simp)
    have b1 : 0 ≤ c1 ∧ c1 ≤ 3 := hc ⟨n1, c1, 0⟩ (by simp)
    refine ⟨[c0, 0], ⟨rfl, fun k hk => ?_, (fit_2 c0 0).mpr (by omega)⟩, ?_⟩
    · match k, hk with
      | 0, _ => show 0 ≤ c0; omega
      | 1, _ => exact Int.le_refl 0
      | k + 2, hk => exact absurd hk (by show ¬ k + 2 < 2; omega)
    · show c0 + (0 + 0) = c0 + (0)
      omega
end
/-! ### parents (-1, -1, -1) -/
section
variable {n0 n1 n2 : Str} {c0 c1 c2 : Int}
theorem fit_3 (x0 x1 x2 : Int) : fitsY [⟨n0, c0, -1⟩, ⟨n1, c1, -1⟩, ⟨n2, c2, -1⟩] [x0, x1, x2] = true ↔ x0 + 0 ≤ c0 ∧ x1 + 0 ≤ c1 ∧ x2 + 0 ≤ c2 := by
  have hu : usedY [⟨n0, c0, -1⟩, ⟨n1, c1, -1⟩, ⟨n2, c2, -1⟩] [x0, x1, x2] = [x0 + 0, x1 + 0, x2 + 0] := rfl
  unfold fitsY
  rw [decide_eq_true_iff, hu]
  constructor
  · intro h
    exact ⟨h 0 (by show 0 < 3; decide), h 1 (by show 1 < 3; decide), h 2 (by show 2 < 3; decide)⟩
  · rintro ⟨h0, h1, h2⟩ k hk
    match k, hk with
    | 0, _ => exact h0
    | 1, _ => exact h1
    | 2, _ => exact h2
    | k + 3, hk => exact absurd hk (by show ¬ k + 3 < 3; omega)
theorem good_3 : Good [⟨n0, c0, -1⟩, ⟨n1, c1, -1⟩, ⟨n2, c2, -1⟩] where
  sub := fun x y h hy hk => by
    match x, y, h.len, hy, h, hk with
    | [x0, x1, x2], [y0, y1, y2], _, _, h, hk =>
      have fx := (fit_3 x0 x1 x2).mp h.ok
      have xn0 : 0 ≤ x0 := h.nn 0 (by show 0 < 3; decide)
      have xn1 : 0 ≤ x1 := h.nn 1 (by show 1 < 3; decide)
      have xn2 : 0 ≤ x2 := h.nn 2 (by show 2 < 3; decide)
      have k0 : 0 ≤ y0 ∧ y0 ≤ x0 := hk 0 (by show 0 < 3; decide)
      have k1 : 0 ≤ y1 ∧ y1 ≤ x1 := hk 1 (by show 1 < 3; decide)
      have k2 : 0 ≤ y2 ∧ y2 ≤ x2 := hk 2 (by show 2 < 3; decide)
      exact (fit_3 y0 y1 y2).mpr (by omega)
  cap := fun x h k hk => by
    match x, h.len, h with
    | [x0, x1, x2], _, h =>
      have fx := (fit_3 x0 x1 x2).mp h.ok
      have xn0 : 0 ≤ x0 := h.nn 0 (by show 0 < 3; decide)
      have xn1 : 0 ≤ x1 := h.nn 1 (by show 1 < 3; decide)
      have xn2 : 0 ≤ x2 := h.nn 2 (by show 2 < 3; decide)
      match k, hk with
      | 0, _ => show x0 ≤ c0; omega
      | 1, _ => show x1 ≤ c1; omega
      | 2, _ => show x2 ≤ c2; omega
      | k + 3, hk => exact absurd hk (by show ¬ k + 3 < 3; omega)
  cover := fun g x hg hx hk => by
    match g, x, hg.len, hx.len, hg, hx, hk with
    | [g0, g1, g2], [x0, x1, x2], _, _, hg, hx, hk =>
      have fg := (fit_3 g0 g1 g2).mp hg.ok
      have gn0 : 0 ≤ g0 := hg.nn 0 (by show 0 < 3; decide)
      have gn1 : 0 ≤ g1 := hg.nn 1 (by show 1 < 3; decide)
      have gn2 : 0 ≤ g2 := hg.nn 2 (by show 2 < 3; decide)
      have fx := (fit_3 x0 x1 x2).mp hx.ok
      have xn0 : 0 ≤ x0 := hx.nn 0 (by show 0 < 3; decide)
      have xn1 : 0 ≤ x1 := hx.nn 1 (by show 1 < 3; decide)
      have xn2 : 0 ≤ x2 := hx.nn 2 (by show 2 < 3; decide)
      have k0 : 0 < x0 → ¬ ((g0 + 1) + (0) ≤ c0 ∧ g1 + (0) ≤ c1 ∧ g2 + (0) ≤ c2) := fun z w => hk 0 (by show 0 < 3; decide) z ((fit_3 (g0 + 1) (g1) (g2)).mpr w)
      have k1 : 0 < x1 → ¬ (g0 + (0) ≤ c0 ∧ (g1 + 1) + (0) ≤ c1 ∧ g2 + (0) ≤ c2) := fun z w => hk 1 (by show 1 < 3; decide) z ((fit_3 (g0) (g1 + 1) (g2)).mpr w)
      have k2 : 0 < x2 → ¬ (g0 + (0) ≤ c0 ∧ g1 + (0) ≤ c1 ∧ (g2 + 1) + (0) ≤ c2) := fun z w => hk 2 (by show 2 < 3; decide) z ((fit_3 (g0) (g1) (g2 + 1)).mpr w)
      show x0 + (x1 + (x2 + 0)) ≤ g0 + (g1 + (g2 + 0))
      omega
  most := fun x h => by
    match x, h.len, h with
    | [x0, x1, x2], _, h =>
      have fx := (fit_3 x0 x1 x2).mp h.ok
      have xn0 : 0 ≤ x0 := h.nn 0 (by show 0 < 3; decide)
      have xn1 : 0 ≤ x1 := h.nn 1 (by show 1 < 3; decide)
      have xn2 : 0 ≤ x2 := h.nn 2 (by show 2 < 3; decide)
      show x0 + (x1 + (x2 + 0)) ≤ c0 + (c1 + (c2 + (0)))
      omega
  top := fun hc => by
    have b0 : 0 ≤ c0 ∧ c0 ≤ 3 := hc ⟨n0, c0, -1⟩ (by simp)
    have b1 : 0 ≤ c1 ∧ c1 ≤ 3 := hc ⟨n1, c1, -1⟩ (by simp)
    have b2 : 0 ≤ c2 ∧ c2 ≤ 3 := hc ⟨n2, c2, -1⟩ (by simp)
    refine ⟨[c0, c1, c2], ⟨rfl, fun k hk => ?_, (fit_3 c0 c1 c2).mpr (by omega)⟩, ?_⟩
    · match k, hk with
      | 0, _ => show 0 ≤ c0; omega
      | 1, _ => show 0 ≤ c1; omega
      | 2, _ => show 0 ≤ c2; omega
      | k + 3, hk => exact absurd hk (by show ¬ k + 3 < 3; omega)
    · show c0 + (c1 + (c2 + 0)) = c0 + (c1 + (c2 + (0)))
      omega
end
/-! ### parents (-1, -1, 0) -/
section
variable {n0 n1 n2 : Str} {c0 c1 c2 : Int}
theorem fit_4 (x0 x1 x2 : Int) : fitsY [⟨n0, c0, -1⟩, ⟨n1, c1, -1⟩, ⟨n2, c2, 0⟩] [x0, x1, x2] = true ↔ x0 + (x2 + 0) ≤ c0 ∧ x1 + 0 ≤ c1 ∧ x2 + 0 ≤ c2 := by
  have hu : usedY [⟨n0, c0, -1⟩, ⟨n1, c1, -1⟩, ⟨n2, c2, 0⟩] [x0, x1, x2] = [x0 + (x2 + 0), x1 + 0, x2 + 0] := rfl
  unfold fitsY
  rw [decide_eq_true_iff, hu]
  constructor
  · intro h
    exact ⟨h 0 (by show 0 < 3; decide), h 1 (by show 1 < 3; decide), h 2 (by show 2 < 3; decide)⟩
  · rintro ⟨h0, h1, h2⟩ k hk
    match k, hk with
    | 0, _ => exact h0
    | 1, _ => exact h1
    | 2, _ => exact h2
    | k + 3, hk => exact absurd hk (by show ¬ k + 3 < 3; omega)
theorem good_4 : Good [⟨n0, c0, -1⟩, ⟨n1, c1, -1⟩, ⟨n2, c2, 0⟩] where
  sub := fun x y h hy hk => by
    match x, y, h.len, hy, h, hk with
    | [x0, x1, x2], [y0, y1, y2], _, _, h, hk =>
      have fx := (fit_4 x0 x1 x2).mp h.ok
      have xn0 : 0 ≤ x0 := h.nn 0 (by show 0 < 3; decide)
      have xn1 : 0 ≤ x1 := h.nn 1 (by show 1 < 3; decide)
      have xn2 : 0 ≤ x2 := h.nn 2 (by show 2 < 3; decide)
      have k0 : 0 ≤ y0 ∧ y0 ≤ x0 := hk 0 (by show 0 < 3; decide)
      have k1 : 0 ≤ y1 ∧ y1 ≤ x1 := hk 1 (by show 1 < 3; decide)
      have k2 : 0 ≤ y2 ∧ y2 ≤ x2 := hk 2 (by show 2 < 3; decide)
      exact (fit_4 y0 y1 y2).mpr (by omega)
  cap := fun x h k hk => by
    match x, h.len, h with
    | [x0, x1, x2], _, h =>
      have fx := (fit_4 x0 x1 x2).mp h.ok
      have xn0 : 0 ≤ x0 := h.nn 0 (by show 0 < 3; decide)
      have xn1 : 0 ≤ x1 := h.nn 1 (by show 1 < 3; decide)
      have xn2 : 0 ≤ x2 := h.nn 2 (by show 2 < 3; decide)
      match k, hk with
      | 0, _ => show x0 ≤ c0; omega
      | 1, _ => show x1 ≤ c1; omega
      | 2, _ => show x2 ≤ c2; omega
      | k + 3, hk => exact absurd hk (by show ¬ k + 3 < 3; omega)
  cover := fun g x hg hx hk => by
    match g, x, hg.len, hx.len, hg, hx, hk with
    | [g0, g1, g2], [x0, x1, x2], _, _, hg, hx, hk =>
      have fg := (fit_4 g0 g1 g2).mp hg.ok
      have gn0 : 0 ≤ g0 := hg.nn 0 (by show 0 < 3; decide)
      have gn1 : 0 ≤ g1 := hg.nn 1 (by show 1 < 3; decide)
      have gn2 : 0 ≤ g2 := hg.nn 2 (by show 2 < 3; decide)
      have fx := (fit_4 x0 x1 x2).mp hx.ok
      have xn0 : 0 ≤ x0 := hx.nn 0 (by show 0 < 3; decide)
      have xn1 : 0 ≤ x1 := hx.nn 1 (by show 1 < 3; decide)
      have xn2 : 0 ≤ x2 := hx.nn 2 (by show 2 < 3; decide)
      have k0 : 0 < x0 → ¬ ((g0 + 1) + (g2 + (0)) ≤ c0 ∧ g1 + (0) ≤ c1 ∧ g2 + (0) ≤ c2) := fun z w => hk 0 (by show 0 < 3; decide) z ((fit_4 (g0 + 1) (g1) (g2)).mpr w)
      have k1 : 0 < x1 → ¬ (g0 + (g2 + (0)) ≤ c0 ∧ (g1 + 1) + (0) ≤ c1 ∧ g2 + (0) ≤ c2) := fun z w => hk 1 (by show 1 < 3; decide) z ((fit_4 (g0) (g1 + 1) (g2)).mpr w)
      have k2 : 0 < x2 → ¬ (g0 + ((g2 + 1) + (0)) ≤ c0 ∧ g1 + (0) ≤ c1 ∧ (g2 + 1) + (0) ≤ c2) := fun z w => hk 2 (by show 2 < 3; decide) z ((fit_4 (g0) (g1) (g2 + 1)).mpr w)
      show x0 + (x1 + (x2 + 0)) ≤ g0 + (g1 + (g2 + 0))
      omega
  most := fun x h => by
    match x, h.len, h with
    | [x0, x1, x2], _, h =>
      have fx := (fit_4 x0 x1 x2).mp h.ok
      have xn0 : 0 ≤ x0 := h.nn 0 (by show 0 < 3; decide)
      have xn1 : 0 ≤ x1 := h.nn 1 (by show 1 < 3; decide)
      have xn2 : 0 ≤ x2 := h.nn 2 (by show 2 < 3; decide)
      show x0 + (x1 + (x2 + 0)) ≤ c0 + (c1 + (0))
      omega
  top := fun hc => by
    have b0 : 0 ≤ c0 ∧ c0 ≤ 3 := hc ⟨n0, c0, -1⟩ (by simp)
    have b1 : 0 ≤ c1 ∧ c1 ≤ 3 := hc ⟨n1, c1, -1⟩ (by simp)
    have b2 : 0 ≤ c2 ∧ c2 ≤ 3 := hc ⟨n2, c2, 0⟩ (by simp)
    refine ⟨[c0, c1, 0], ⟨rfl, fun k hk => ?_, (fit_4 c0 c1 0).mpr (by omega)⟩, ?_⟩
    · match k, hk with
      | 0, _ => show 0 ≤ c0; omega
      | 1, _ => show 0 ≤ c1; omega
      | 2, _ => exact Int.le_refl 0
      | k + 3, hk => exact absurd hk (by show ¬ k + 3 < 3; omega)
    · show c0 + (c1 + (0 + 0)) = c0 + (c1 + (0))
      omega
end
/-! ### parents (-1, -1, 1) -/
section
variable {n0 n1 n2 : Str} {c0 c1 c2 : Int}
theorem fit_5 (x0 x1 x2 : Int) : fitsY [⟨n0, c0, -1⟩, ⟨n1, c1, -1⟩, ⟨n2, c2, 1⟩] [x0, x1, x2] = true ↔ x0 + 0 ≤ c0 ∧ x1 + (x2 + 0) ≤ c1 ∧ x2 + 0 ≤ c2 := by
  have hu : usedY [⟨n0, c0, -1⟩, ⟨n1, c1, -1⟩, ⟨n2, c2, 1⟩] [x0, x1, x2] = [x0 + 0, x1 + (x2 + 0), x2 + 0] := rfl
  unfold fitsY
  rw [decide_eq_true_iff, hu]
  constructor
  · intro h
    exact ⟨h 0 (by show 0 < 3; decide), h 1 (by show 1 < 3; decide), h 2 (by show 2 < 3; decide)⟩
  · rintro ⟨h0, h1, h2⟩ k hk
    match k, hk with
    | 0, _ => exact h0
    | 1, _ => exact h1
    | 2, _ => exact h2
    | k + 3, hk => exact absurd hk (by show ¬ k + 3 < 3; omega)
theorem good_5 : Good [⟨n0, c0, -1⟩, ⟨n1, c1, -1⟩, ⟨n2, c2, 1⟩] where
  sub := fun x y h hy hk => by
    match x, y, h.len, hy, h, hk with
    | [x0, x1, x2], [y0, y1, y2], _, _, h, hk =>
      have fx := (fit_5 x0 x1 x2).mp h.ok
      have xn0 : 0 ≤ x0 := h.nn 0 (by show 0 < 3; decide)
      have xn1 : 0 ≤ x1 := h.nn 1 (by show 1 < 3; decide)
      have xn2 : 0 ≤ x2 := h.nn 2 (by show 2 < 3; decide)
      have k0 : 0 ≤ y0 ∧ y0 ≤ x0 := hk 0 (by show 0 < 3; decide)
      have k1 : 0 ≤ y1 ∧ y1 ≤ x1 := hk 1 (by show 1 < 3; decide)
      have k2 : 0 ≤ y2 ∧ y2 ≤ x2 := hk 2 (by show 2 < 3; decide)
      exact (fit_5 y0 y1 y2).mpr (by omega)
  cap := fun x h k hk => by
    match x, h.len, h with
    | [x0, x1, x2], _, h =>
      have fx := (fit_5 x0 x1 x2).mp h.ok
      have xn0 : 0 ≤ x0 := h.nn 0 (by show 0 < 3; decide)
      have xn1 : 0 ≤ x1 := h.nn 1 (by show 1 < 3; decide)
      have xn2 : 0 ≤ x2 := h.nn 2 (by show 2 < 3; decide)
      match k, hk with
      | 0, _ => show x0 ≤ c0; omega
      | 1, _ => show x1 ≤ c1; omega
      | 2, _ => show x2 ≤ c2; omega
      | k + 3, hk => exact absurd hk (by show ¬ k + 3 < 3; omega)
  cover := fun g x hg hx hk => by
    match g, x, hg.len, hx.len, hg, hx, hk with
    | [g0, g1, g2], [x0, x1, x2], _, _, hg, hx, hk =>
      have fg := (fit_5 g0 g1 g2).mp hg.ok
      have gn0 : 0 ≤ g0 := hg.nn 0 (by show 0 < 3; decide)
      have gn1 : 0 ≤ g1 := hg.nn 1 (by show 1 < 3; decide)
      have gn2 : 0 ≤ g2 := hg.nn 2 (by show 2 < 3; decide)
      have fx := (fit_5 x0 x1 x2).mp hx.ok
      have xn0 : 0 ≤ x0 := hx.nn 0 (by show 0 < 3; decide)
      have xn1 : 0 ≤ x1 := hx.nn 1 (by show 1 < 3; decide)
      have xn2 : 0 ≤ x2 := hx.nn 2 (by show 2 < 3; decide)
      have k0 : 0 < x0 → ¬ ((g0 + 1) + (0) ≤ c0 ∧ g1 + (g2 + (0)) ≤ c1 ∧ g2 + (0) ≤ c2) := fun z w => hk 0 (by show 0 < 3; decide) z ((fit_5 (g0 + 1) (g1) (g2)).mpr w)
      have k1 : 0 < x1 → ¬ (g0 + (0) ≤ c0 ∧ (g1 + 1) + (g2 + (0)) ≤ c1 ∧ g2 + (0) ≤ c2) := fun z w => hk 1 (by show 1 < 3; decide) z ((fit_5 (g0) (g1 + 1) (g2)).mpr w)
      have k2 : 0 < x2 → ¬ (g0 + (0) ≤ c0 ∧ g1 + ((g2 + 1) + (0)) ≤ c1 ∧ (g2 + 1) + (0) ≤ c2) := fun z w => hk 2 (by show 2 < 3; decide) z ((fit_5 (g0) (g1) (g2 + 1)).mpr w)
      show x0 + (x1 + (x2 + 0)) ≤ g0 + (g1 + (g2 + 0))
      omega
  most := fun x h => by
    match x, h.len, h with
    | [x0, x1, x2], _, h =>
      have fx := (fit_5 x0 x1 x2).mp h.ok
      have xn0 : 0 ≤ x0 := h.nn 0 (by show 0 < 3; decide)
      have xn1 : 0 ≤ x1 := h.nn 1 (by show 1 < 3; decide)
      have xn2 : 0 ≤ x2 := h.nn 2 (by show 2 < 3; decide)
      show x0 + (x1 + (x2 + 0)) ≤ c0 + (c1 + (0))
      omega
  top := fun hc => by
    have b0 : 0 ≤ c0 ∧ c0 ≤ 3 := hc ⟨n0, c0, -1⟩ (by simp)
    have b1 : 0 ≤ c1 ∧ c1 ≤ 3 := hc ⟨n1, c1, -1⟩ (by simp)
    have b2 : 0 ≤ c2 ∧ c2 ≤ 3 := hc ⟨n2, c2, 1⟩ (by simp)
    refine ⟨[c0, c1, 0], ⟨rfl, fun k hk => ?_, (fit_5 c0 c1 0).mpr (by omega)⟩, ?_⟩
    · match k, hk with
      | 0, _ => show 0 ≤ c0; omega
      | 1, _ => show 0 ≤ c1; omega
      | 2, _ => exact Int.le_refl 0
      | k + 3, hk => exact absurd hk (by show ¬ k + 3 < 3; omega)
    · show c0 + (c1 + (0 + 0)) = c0 + (c1 + (0))
      omega
end
/-! ### parents (-1, 0, -1) -/
section
variable {n0 n1 n2 : Str} {c0 c1 c2 : Int}
theorem fit_6 (x0 x1 x2 : Int) : fitsY [⟨n0, c0, -1⟩, ⟨n1, c1, 0⟩, ⟨n2, c2, -1⟩] [x0, x1, x2] = true ↔ x0 + (x1 + 0) ≤ c0 ∧ x1 + 0 ≤ c1 ∧ x2 + 0 ≤ c2 := by
  have hu : usedY [⟨n0, c0, -1⟩, ⟨n1, c1, 0⟩, ⟨n2, c2, -1⟩] [x0, x1, x2] = [x0 + (x1 + 0), x1 + 0, x2 + 0] := rfl
  unfold fitsY
  rw [decide_eq_true_iff, hu]
  constructor
  · intro h
    exact ⟨h 0 (by show 0 < 3; decide), h 1 (by show 1 < 3; decide), h 2 (by show 2 < 3; decide)⟩
  · rintro ⟨h0, h1, h2⟩ k hk
    match k, hk with
    | 0, _ => exact h0
    | 1, _ => exact h1
    | 2, _ => exact h2
    | k + 3, hk => exact absurd hk (by show ¬ k + 3 < 3; omega)
theorem good_6 : Good [⟨n0, c0, -1⟩, ⟨n1, c1, 0⟩, ⟨n2, c2, -1⟩] where
  sub := fun x y h hy hk => by
    match x, y, h.len, hy, h, hk with
    | [x0, x1, x2], [y0, y1, y2], _, _, h, hk =>
      have fx := (fit_6 x0 x1 x2).mp h.ok
      have xn0 : 0 ≤ x0 := h.nn 0 (by show 0 < 3; decide)
      have xn1 : 0 ≤ x1 := h.nn 1 (by show 1 < 3; decide)
      have xn2 : 0 ≤ x2 := h.nn 2 (by show 2 < 3; decide)
      have k0 : 0 ≤ y0 ∧ y0 ≤ x0 := hk 0 (by show 0 < 3; decide)
      have k1 : 0 ≤ y1 ∧ y1 ≤ x1 := hk 1 (by show 1 < 3; decide)
      have k2 : 0 ≤ y2 ∧ y2 ≤ x2 := hk 2 (by show 2 < 3; decide)
      exact (fit_6 y0 y1 y2).mpr (by omega)
  cap := fun x h k hk => by
    match x, h.len, h with
    | [x0, x1, x2], _, h =>
      have fx := (fit_6 x0 x1 x2).mp h.ok
      have xn0 : 0 ≤ x0 := h.nn 0 (by show 0 < 3; decide)
      have xn1 : 0 ≤ x1 := h.nn 1 (by show 1 < 3; decide)
      have xn2 : 0 ≤ x2 := h.nn 2 (by show 2 < 3; decide)
      match k, hk with
      | 0, _ => show x0 ≤ c0; omega
      | 1, _ => show x1 ≤ c1; omega
      | 2, _ => show x2 ≤ c2; omega
      | k + 3, hk => exact absurd hk (by show ¬ k + 3 < 3; omega)
  cover := fun g x hg hx hk => by
    match g, x, hg.len, hx.len, hg, hx, hk with
    | [g0, g1, g2], [x0, x1, x2], _, _, hg, hx, hk =>
      have fg := (fit_6 g0 g1 g2).mp hg.ok
      have gn0 : 0 ≤ g0 := hg.nn 0 (by show 0 < 3; decide)
      have gn1 : 0 ≤ g1 := hg.nn 1 (by show 1 < 3; decide)
      have gn2 : 0 ≤ g2 := hg.nn 2 (by show 2 < 3; decide)
      have fx := (fit_6 x0 x1 x2).mp hx.ok
      have xn0 : 0 ≤ x0 := hx.nn 0 (by show 0 < 3; decide)
      have xn1 : 0 ≤ x1 := hx.nn 1 (by show 1 < 3; decide)
      have xn2 : 0 ≤ x2 := hx.nn 2 (by show 2 < 3; decide)
      have k0 : 0 < x0 → ¬ ((g0 + 1) + (g1 + (0)) ≤ c0 ∧ g1 + (0) ≤ c1 ∧ g2 + (0) ≤ c2) := fun z w => hk 0 (by show 0 < 3; decide) z ((fit_6 (g0 + 1) (g1) (g2)).mpr w)
      have k1 : 0 < x1 → ¬ (g0 + ((g1 + 1) + (0)) ≤ c0 ∧ (g1 + 1) + (0) ≤ c1 ∧ g2 + (0) ≤ c2) := fun z w => hk 1 (by show 1 < 3; decide) z ((fit_6 (g0) (g1 + 1) (g2)).mpr w)
      have k2 : 0 < x2 → ¬ (g0 + (g1 + (0)) ≤ c0 ∧ g1 + (0) ≤ c1 ∧ (g2 + 1) + (0) ≤ c2) := fun z w => hk 2 (by show 2 < 3; decide) z ((fit_6 (g0) (g1) (g2 + 1)).mpr w)
      show x0 + (x1 + (x2 + 0)) ≤ g0 + (g1 + (g2 + 0))
      omega
  most := fun x h => by
    match x, h.len, h with
    | [x0, x1, x2], _, h =>
      have fx := (fit_6 x0 x1 x2).mp h.ok
      have xn0 : 0 ≤ x0 := h.nn 0 (by show 0 < 3; decide)
      have xn1 : 0 ≤ x1 := h.nn 1 (by show 1 < 3; decide)
      have xn2 : 0 ≤ x2 := h.nn 2 (by show 2 < 3; decide)
      show x0 + (x1 + (x2 + 0)) ≤ c0 + (c2 + (0))
      omega
  top := fun hc => by
    have b0 : 0 ≤ c0 ∧ c0 ≤ 3 := hc ⟨n0, c0, -1⟩ (by simp)
    have b1 : 0 ≤ c1 ∧ c1 ≤ 3 := hc ⟨n1, c1, 0⟩ (by simp)
    have b2 : 0 ≤ c2 ∧ c2 ≤ 3 := hc ⟨n2, c2, -1⟩ (by simp)
    refine ⟨[c0, 0, c2], ⟨rfl, fun k hk => ?_, (fit_6 c0 0 c2).mpr (by omega)⟩, ?_⟩
    · match k, hk with
      | 0, _ => show 0 ≤ c0; omega
      | 1, _ => exact Int.le_refl 0
      | 2, _ => show 0 ≤ c2; omega
      | k + 3, hk => exact absurd hk (by show ¬ k + 3 < 3; omega)
    · show c0 + (0 + (c2 + 0)) = c0 + (c2 + (0))
      omega
end
/-! ### parents (-1, 0, 0) -/
section
variable {n0 n1 n2 : Str} {c0 c1 c2 : Int}
theorem fit_7 (x0 x1 x2 : Int) : fitsY [⟨n0, c0, -1⟩, ⟨n1, c1, 0⟩, ⟨n2, c2, 0⟩] [x0, x1, x2] = true ↔ x0 + (x1 + (x2 + 0)) ≤ c0 ∧ x1 + 0 ≤ c1 ∧ x2 + 0 ≤ c2 := by
  have hu : usedY [⟨n0, c0, -1⟩, ⟨n1, c1, 0⟩, ⟨n2, c2, 0⟩] [x0, x1, x2] = [x0 + (x1 + (x2 + 0)), x1 + 0, x2 + 0] := rfl
  unfold fitsY
  rw [decide_eq_true_iff, hu]
  constructor
  · intro h
    exact ⟨h 0 (by show 0 < 3; decide), h 1 (by show 1 < 3; decide), h 2 (by show 2 < 3; decide)⟩
  · rintro ⟨h0, h1, h2⟩ k hk
    match k, hk with
    | 0, _ => exact h0
    | 1, _ => exact h1
    | 2, _ => exact h2
    | k + 3, hk => exact absurd hk (by show ¬ k + 3 < 3; omega)
theorem good_7 : Good [⟨n0, c0, -1⟩, ⟨n1, c1, 0⟩, ⟨n2, c2, 0⟩] where
  sub := fun x y h hy hk => by
    match x, y, h.len, hy, h, hk with
    | [x0, x1, x2], [y0, y1, y2], _, _, h, hk =>
      have fx := (fit_7 x0 x1 x2).mp h.ok
      have xn0 : 0 ≤ x0 := h.nn 0 (by show 0 < 3; decide)
      have xn1 : 0 ≤ x1 := h.nn 1 (by show 1 < 3; decide)
      have xn2 : 0 ≤ x2 := h.nn 2 (by show 2 < 3; decide)
      have k0 : 0 ≤ y0 ∧ y0 ≤ x0 := hk 0 (by show 0 < 3; decide)
      have k1 : 0 ≤ y1 ∧ y1 ≤ x1 := hk 1 (by show 1 < 3; decide)
      have k2 : 0 ≤ y2 ∧ y2 ≤ x2 := hk 2 (by show 2 < 3; decide)
      exact (fit_7 y0 y1 y2).mpr (by omega)
  cap := fun x h k hk => by
    match x, h.len, h with
    | [x0, x1, x2], _, h =>
      have fx := (fit_7 x0 x1 x2).mp h.ok
      have xn0 : 0 ≤ x0 := h.nn 0 (by show 0 < 3; decide)
      have xn1 : 0 ≤ x1 := h.nn 1 (by show 1 < 3; decide)
      have xn2 : 0 ≤ x2 := h.nn 2 (by show 2 < 3; decide)
      match k, hk with
      | 0, _ => show x0 ≤ c0; omega
      | 1, _ => show x1 ≤ c1; omega
      | 2, _ => show x2 ≤ c2; omega
      | k + 3, hk => exact absurd hk (by show ¬ k + 3 < 3; omega)
  cover := fun g x hg hx hk => by
    match g, x, hg.len, hx.len, hg, hx, hk with
    | [g0, g1, g2], [x0, x1, x2], _, _, hg, hx, hk =>
      have fg := (fit_7 g0 g1 g2).mp hg.ok
      have gn0 : 0 ≤ g0 := hg.nn 0 (by show 0 < 3; decide)
      have gn1 : 0 ≤ g1 := hg.nn 1 (by show 1 < 3; decide)
      have gn2 : 0 ≤ g2 := hg.nn 2 (by show 2 < 3; decide)
      have fx := (fit_7 x0 x1 x2).mp hx.ok
      have xn0 : 0 ≤ x0 := hx.nn 0 (by show 0 < 3; decide)
      have xn1 : 0 ≤ x1 := hx.nn 1 (by show 1 < 3; decide)
      have xn2 : 0 ≤ x2 := hx.nn 2 (by show 2 < 3; decide)
      have k0 : 0 < x0 → ¬ ((g0 + 1) + (g1 + (g2 + (0))) ≤ c0 ∧ g1 + (0) ≤ c1 ∧ g2 + (0) ≤ c2) := fun z w => hk 0 (by show 0 < 3; decide) z ((fit_7 (g0 + 1) (g1) (g2)).mpr w)
      have k1 : 0 < x1 → ¬ (g0 + ((g1 + 1) + (g2 + (0))) ≤ c0 ∧ (g1 + 1) + (0) ≤ c1 ∧ g2 + (0) ≤ c2) := fun z w => hk 1 (by show 1 < 3; decide) z ((fit_7 (g0) (g1 + 1) (g2)).mpr w)
      have k2 : 0 < x2 → ¬ (g0 + (g1 + ((g2 + 1) + (0))) ≤ c0 ∧ g1 + (0) ≤ c1 ∧ (g2 + 1) + (0) ≤ c2) := fun z w => hk 2 (by show 2 < 3; decide) z ((fit_7 (g0) (g1) (g2 + 1)).mpr w)
      show x0 + (x1 + (x2 + 0)) ≤ g0 + (g1 + (g2 + 0))
      omega
  most := fun x h => by
    match x, h.len, h with
    | [x0, x1, x2], _, h =>
      have fx := (fit_7 x0 x1 x2).mp h.ok
      have xn0 : 0 ≤ x0 := h.nn 0 (by show 0 < 3; decide)
      have xn1 : 0 ≤ x1 := h.nn 1 (by show 1 < 3; decide)
      have xn2 : 0 ≤ x2 := h.nn 2 (by show 2 < 3; decide)
      show x0 + (x1 + (x2 + 0)) ≤ c0 + (0)
      omega
  top := fun hc => by
    have b0 : 0 ≤ c0 ∧ c0 ≤ 3 := hc ⟨n0, c0, -1⟩ (by simp)
    have b1 : 0 ≤ c1 ∧ c1 ≤ 3 := hc ⟨n1, c1, 0⟩ (by simp)
    have b2 : 0 ≤ c2 ∧ c2 ≤ 3 := hc ⟨n2, c2, 0⟩ (by simp)
    refine ⟨[c0, 0, 0], ⟨rfl, fun k hk => ?_, (fit_7 c0 0 0).mpr (by omega)⟩, ?_⟩
    · match k, hk with
      | 0, _ => show 0 ≤ c0; omega
      | 1, _ => exact Int.le_refl 0
      | 2, _ => exact Int.le_refl 0
      | k + 3, hk => exact absurd hk (by show ¬ k + 3 < 3; omega)
    · show c0 + (0 + (0 + 0)) = c0 + (0)
      omega
end
/-! ### parents (-1, 0, 1) -/
section
variable {n0 n1 n2 : Str} {c0 c1 c2 : Int}
theorem fit_8 (x0 x1 x2 : Int) : fitsY [⟨n0, c0, -1⟩, ⟨n1, c1, 0⟩, ⟨n2, c2, 1⟩] [x0, x1, x2] = true ↔ x0 + (x1 + (x2 + 0)) ≤ c0 ∧ x1 + (x2 + 0) ≤ c1 ∧ x2 + 0 ≤ c2 := by
  have hu : usedY [⟨n0, c0, -1⟩, ⟨n1, c1, 0⟩, ⟨n2, c2, 1⟩] [x0, x1, x2] = [x0 + (x1 + (x2 + 0)), x1 + (x2 + 0), x2 + 0] := rfl
  unfold fitsY
  rw [decide_eq_true_iff, hu]
  constructor
  · intro h
    exact ⟨h 0 (by show 0 < 3; decide), h 1 (by show 1 < 3; decide), h 2 (by show 2 < 3; decide)⟩
  · rintro ⟨h0, h1, h2⟩ k hk
    match k, hk with
    | 0, _ => exact h0
    | 1, _ => exact h1
    | 2, _ => exact h2
    | k + 3, hk => exact absurd hk (by show ¬ k + 3 < 3; omega)
theorem good_8 : Good [⟨n0, c0, -1⟩, ⟨n1, c1, 0⟩, ⟨n2, c2, 1⟩] where
  sub := fun x y h hy hk => by
    match x, y, h.len, hy, h, hk with
    | [x0, x1, x2], [y0, y1, y2], _, _, h, hk =>
      have fx := (fit_8 x0 x1 x2).mp h.ok
      have xn0 : 0 ≤ x0 := h.nn 0 (by show 0 < 3; decide)
      have xn1 : 0 ≤ x1 := h.nn 1 (by show 1 < 3; decide)
      have xn2 : 0 ≤ x2 := h.nn 2 (by show 2 < 3; decide)
      have k0 : 0 ≤ y0 ∧ y0 ≤ x0 := hk 0 (by show 0 < 3; decide)
      have k1 : 0 ≤ y1 ∧ y1 ≤ x1 := hk 1 (by show 1 < 3; decide)
      have k2 : 0 ≤ y2 ∧ y2 ≤ x2 := hk 2 (by show 2 < 3; decide)
      exact (fit_8 y0 y1 y2).mpr (by omega)
  cap := fun x h k hk => by
    match x, h.len, h with
    | [x0, x1, x2], _, h =>
      have fx := (fit_8 x0 x1 x2).mp h.ok
      have xn0 : 0 ≤ x0 := h.nn 0 (by show 0 < 3; decide)
      have xn1 : 0 ≤ x1 := h.nn 1 (by show 1 < 3; decide)
      have xn2 : 0 ≤ x2 := h.nn 2 (by show 2 < 3; decide)
      match k, hk with
      | 0, _ => show x0 ≤ c0; omega
      | 1, _ => show x1 ≤ c1; omega
      | 2, _ => show x2 ≤ c2; omega
      | k + 3, hk => exact absurd hk (by show ¬ k + 3 < 3; omega)
  cover := fun g x hg hx hk => by
    match g, x, hg.len, hx.len, hg, hx, hk with
    | [g0, g1, g2], [x0, x1, x2], _, _, hg, hx, hk =>
      have fg := (fit_8 g0 g1 g2).mp hg.ok
      have gn0 : 0 ≤ g0 := hg.nn 0 (by show 0 < 3; decide)
      have gn1 : 0 ≤ g1 := hg.nn 1 (by show 1 < 3; decide)
      have gn2 : 0 ≤ g2 := hg.nn 2 (by show 2 < 3; decide)
      have fx := (fit_8 x0 x1 x2).mp hx.ok
      have xn0 : 0 ≤ x0 := hx.nn 0 (by show 0 < 3; decide)
      have xn1 : 0 ≤ x1 := hx.nn 1 (by show 1 < 3; decide)
      have xn2 : 0 ≤ x2 := hx.nn 2 (by show 2 < 3; decide)
      have k0 : 0 < x0 → ¬ ((g0 + 1) + (g1 + (g2 + (0))) ≤ c0 ∧ g1 + (g2 + (0)) ≤ c1 ∧ g2 + (0) ≤ c2) := fun z w => hk 0 (by show 0 < 3; decide) z ((fit_8 (g0 + 1) (g1) (g2)).mpr w)
      have k1 : 0 < x1 → ¬ (g0 + ((g1 + 1) + (g2 + (0))) ≤ c0 ∧ (g1 + 1) + (g2 + (0)) ≤ c1 ∧ g2 + (0) ≤ c2) := fun z w => hk 1 (by show 1 < 3; decide) z ((fit_8 (g0) (g1 + 1) (g2)).mpr w)
      have k2 : 0 < x2 → ¬ (g0 + (g1 + ((g2 + 1) + (0))) ≤ c0 ∧ g1 + ((g2 + 1) + (0)) ≤ c1 ∧ (g2 + 1) + (0) ≤ c2) := fun z w => hk 2 (by show 2 < 3; decide) z ((fit_8 (g0) (g1) (g2 + 1)).mpr w)
      show x0 + (x1 + (x2 + 0)) ≤ g0 + (g1 + (g2 + 0))
      omega
  most := fun x h => by
    match x, h.len, h with
    | [x0, x1, x2], _, h =>
      have fx := (fit_8 x0 x1 x2).mp h.ok
      have xn0 : 0 ≤ x0 := h.nn 0 (by show 0 < 3; decide)
      have xn1 : 0 ≤ x1 := h.nn 1 (by show 1 < 3; decide)
      have xn2 : 0 ≤ x2 := h.nn 2 (by show 2 < 3; decide)
      show x0 + (x1 + (x2 + 0)) ≤ c0 + (0)
      omega
  top := fun hc => by
    have b0 : 0 ≤ c0 ∧ c0 ≤ 3 := hc ⟨n0, c0, -1⟩ (by simp)
    have b1 : 0 ≤ c1 ∧ c1 ≤ 3 := hc ⟨n1, c1, 0⟩ (by simp)
    have b2 : 0 ≤ c2 ∧ c2 ≤ 3 := hc ⟨n2, c2, 1⟩ (by simp)
    refine ⟨[c0, 0, 0], ⟨rfl, fun k hk => ?_, (fit_8 c0 0 0).mpr (by omega)⟩, ?_⟩
    · match k, hk with
      | 0, _ => show 0 ≤ c0; omega
      | 1, _ => exact Int.le_refl 0
      | 2, _ => exact Int.le_refl 0
      | k + 3, hk => exact absurd hk (by show ¬ k + 3 < 3; omega)
    · show c0 + (0 + (0 + 0)) = c0 + (0)
      omega
end
theorem good_of {bs : List Bud} (W : WfB bs) : Good bs := by
  have h3 := W.few
  have h1 := W.pos
  match bs, h3, h1, W with
  | [b0], _, _, W =>
    obtain ⟨n0, c0, p0⟩ := b0
    have a0 : -1 ≤ p0 ∧ p0 < 0 := W.par 0 _ rfl
    obtain rfl : p0 = -1 := by omega
    exact good_0
  | [b0, b1], _, _, W =>
    obtain ⟨n0, c0, p0⟩ := b0
    obtain ⟨n1, c1, p1⟩ := b1
    have a0 : -1 ≤ p0 ∧ p0 < 0 := W.par 0 _ rfl
    have a1 : -1 ≤ p1 ∧ p1 < 1 := W.par 1 _ rfl
    obtain rfl : p0 = -1 := by omega
    have q1 : p1 = -1 ∨ p1 = 0 := by omega
    rcases q1 with rfl | rfl
    · exact good_1
    · exact good_2
  | [b0, b1, b2], _, _, W =>
    obtain ⟨n0, c0, p0⟩ := b0
    obtain ⟨n1, c1, p1⟩ := b1
    obtain ⟨n2, c2, p2⟩ := b2
    have a0 : -1 ≤ p0 ∧ p0 < 0 := W.par 0 _ rfl
    have a1 : -1 ≤ p1 ∧ p1 < 1 := W.par 1 _ rfl
    have a2 : -1 ≤ p2 ∧ p2 < 2 := W.par 2 _ rfl
    obtain rfl : p0 = -1 := by omega
    have q1 : p1 = -1 ∨ p1 = 0 := by omega
    have q2 : p2 = -1 ∨ p2 = 0 ∨ p2 = 1 := by omega
    rcases q1 with rfl | rfl <;> rcases q2 with rfl | rfl | rfl
    · exact good_3
    · exact good_4
    · exact good_5
    · exact good_6
    · exact good_7
    · exact good_8
  | _ :: _ :: _ :: _ :: _, h3, _, _ => exact absurd h3 (by simp)
end Fd
/-! The greedy is the best. -/
namespace Fd
open PySem PySem.Spec PyProof.Rows L2
theorem wt_set {ps x : List Int} {k v : Int} {n : Nat} (h0 : 0 ≤ k) (h : k < n) (hl : x.length = n) : wt n ps (x.set k.toNat v) = wt n ps x + gi ps k * (v - gi x k) := by
  have z : ∀ m : Nat, ((List.range m).map fun i => gi ps (i : Nat) * gi (x.set k.toNat v) (i : Nat)).sum = ((List.range m).map fun i => gi ps (i : Nat) * gi x (i : Nat)).sum + if k < m then gi ps k * (v - gi x k) else 0 := fun m => by
    induction m with
    | zero => rw [if_neg (by omega)]; rfl
    | succ m ih =>
      rw [List.range_succ, List.map_append, List.sum_append, ih, List.map_append, List.sum_append, List.map_cons, List.map_nil, List.sum_cons, List.sum_nil, List.map_cons, List.map_nil, List.sum_cons, List.sum_nil, gi_set (by omega) (by omega)]
      by_cases q : k = (m : Nat)
      · rw [if_pos q, if_neg (by omega), if_pos (by omega), ← q, Int.mul_sub]
        omega
      · rw [if_neg q]
        by_cases q2 : k < m
        · rw [if_pos q2, if_pos (by omega)]
          omega
        · rw [if_neg q2, if_neg (by omega)]
          omega
  unfold wt
  rw [z n, if_pos h]
def decF (fs : List Int) (k : Int) : List Int := fs.set k.toNat (gi fs k - 1)
theorem wt_inc {ps x : List Int} {k : Int} {n : Nat} (h0 : 0 ≤ k) (h : k < n) (hl : x.length = n) : wt n ps (incF x k) = wt n ps x + gi ps k := by
  unfold incF
  rw [wt_set h0 h hl, show gi x k + 1 - gi x k = 1 by omega, Int.mul_one]
theorem wt_dec {ps x : List Int} {k : Int} {n : Nat} (h0 : 0 ≤ k) (h : k < n) (hl : x.length = n) : wt n ps (decF x k) = wt n ps x - gi ps k := by
  unfold decF
  rw [wt_set h0 h hl, show gi x k - 1 - gi x k = -1 by omega, Int.mul_neg, Int.mul_one]
  omega
theorem decF_sum {fs : List Int} {k : Int} (h0 : 0 ≤ k) (h : k < fs.length) : (decF fs k).sum = fs.sum - 1 := by
  unfold decF
  rw [sum_set fs _ _ (by omega)]
  unfold gi
  omega
theorem sum_const0 {α : Type} : ∀ l : List α, (l.map fun _ => (0 : Int)).sum = 0
  | [] => rfl
  | _ :: l => by rw [List.map_cons, List.sum_cons, sum_const0 l]; rfl
theorem sum_nn : ∀ (x : List Int), (∀ a, a ∈ x → 0 ≤ a) → 0 ≤ x.sum
  | [], _ => by decide
  | a :: x, h => by
    have := h a List.mem_cons_self
    have := sum_nn x fun b hb => h b (List.mem_cons_of_mem _ hb)
    rw [List.sum_cons]
    omega
theorem sum_zero : ∀ (x : List Int), (∀ a, a ∈ x → 0 ≤ a) → x.sum = 0 → ∀ a, a ∈ x → a = 0
  | [], _, _, a, h => absurd h List.not_mem_nil
  | b :: x, h, hs, a, ha => by
    have h1 := h b List.mem_cons_self
    have h2 := sum_nn x fun c hc => h c (List.mem_cons_of_mem _ hc)
    rw [List.sum_cons] at hs
    rcases List.mem_cons.mp ha with e | ha
    · omega
    · exact sum_zero x (fun c hc => h c (List.mem_cons_of_mem _ hc)) (by omega) a ha
section
variable {bs : List Bud} {ps : List Int}
theorem Fit.mem {x : List Int} (h : Fit bs x) : ∀ a, a ∈ x → 0 ≤ a := fun a ha => by
  obtain ⟨i, hi, e⟩ := List.mem_iff_getElem.mp ha
  have z := h.nn i (by rw [← h.len]; exact hi)
  rw [gi_nat, List.getD_eq_getElem?_getD, List.getElem?_eq_getElem hi] at z
  rw [← e]
  exact z
theorem Fit.zero {x : List Int} (h : Fit bs x) (hs : x.sum = 0) : ∀ k : Nat, gi x (k : Nat) = 0 := fun k => by
  by_cases q : k < x.length
  · rw [gi_nat, List.getD_eq_getElem?_getD, List.getElem?_eq_getElem q]
    exact sum_zero x h.mem hs _ (List.getElem_mem q)
  · rw [gi_over (by omega)]
theorem Fit.dec (G : Good bs) {x : List Int} (h : Fit bs x) {k : Nat} (hk : k < bs.length) (h0 : 0 < gi x (k : Nat)) : Fit bs (decF x (k : Nat)) := by
  have hl : (decF x (k : Nat)).length = bs.length := List.length_set.trans h.len
  have b : ∀ j : Nat, j < bs.length → 0 ≤ gi (decF x (k : Nat)) (j : Nat) ∧ gi (decF x (k : Nat)) (j : Nat) ≤ gi x (j : Nat) := fun j hj => by
    unfold decF
    have := h.len
    rw [gi_set (by omega) (by omega)]
    have := h.nn j hj
    split
    · rename_i q
      rw [← q]
      omega
    · omega
  exact ⟨hl, fun j hj => (b j hj).1, G.sub x _ h hl b⟩
theorem Fit.inc {x : List Int} (h : Fit bs x) {k : Int} (h0 : 0 ≤ k) (hk : k < bs.length) (hf : fitsY bs (incF x k) = true) : Fit bs (incF x k) := by
  refine ⟨(incF_len _ _).trans h.len, fun j hj => ?_, hf⟩
  have hx := h.len
  have := h.nn j hj
  unfold incF
  rw [gi_set (by omega) (by omega)]
  split
  · have := h.nn k.toNat (by omega)
    rw [show ((k.toNat : Nat) : Int) = k by omega] at this
    omega
  · omega
theorem fit_zero (G : Good bs) {x : List Int} (h : Fit bs x) : Fit bs (List.replicate bs.length 0) := by
  have b : ∀ j : Nat, j < bs.length → 0 ≤ gi (List.replicate bs.length (0 : Int)) (j : Nat) ∧ gi (List.replicate bs.length (0 : Int)) (j : Nat) ≤ gi x (j : Nat) := fun j hj => by
    rw [gi_rep]
    exact ⟨Int.le_refl 0, h.nn j hj⟩
  exact ⟨List.length_replicate, fun j hj => (b j hj).1, G.sub x _ h List.length_replicate b⟩
/-! ### the choice of one more -/
def OmI (bs : List Bud) (ps fs : List Int) (m : Nat) (b : Int) : Prop := (b < 0 ∧ ∀ k : Nat, k < m → 0 < gi ps (k : Nat) → ¬ fitsY bs (incF fs (k : Nat)) = true) ∨
  (0 ≤ b ∧ b < m ∧ 0 < gi ps b ∧ fitsY bs (incF fs b) = true ∧ ∀ k : Nat, k < m → fitsY bs (incF fs (k : Nat)) = true → gi ps (k : Nat) ≤ gi ps b)
theorem omF_inv (fs : List Int) : ∀ m : Nat, OmI bs ps fs m ((List.range m).foldl (omS bs ps fs) (-1))
  | 0 => .inl ⟨show (-1 : Int) < 0 by decide, fun k hk => absurd hk (Nat.not_lt_zero k)⟩
  | m + 1 => by
    have ih := omF_inv fs m
    rw [List.range_succ, List.foldl_append]
    show OmI bs ps fs (m + 1) (omS bs ps fs ((List.range m).foldl (omS bs ps fs) (-1)) m)
    generalize (List.range m).foldl (omS bs ps fs) (-1) = b at ih ⊢
    unfold omS
    by_cases q : 0 < gi ps (m : Nat) ∧ fitsY bs (incF fs (m : Nat)) = true ∧ (b < 0 ∨ gi ps b < gi ps (m : Nat))
    · rw [if_pos q]
      refine .inr ⟨by omega, by omega, q.1, q.2.1, fun k hk hf => ?_⟩
      by_cases e : k = m
      · rw [e]; exact Int.le_refl _
      · rcases ih with ⟨h1, h2⟩ | ⟨h1, h2, h3, h4, h5⟩
        · have := h2 k (by omega)
          by_cases z : 0 < gi ps (k : Nat)
          · exact absurd hf (this z)
          · omega
        · have := h5 k (by omega) hf
          have := q.2.2
          omega
    · rw [if_neg q]
      rcases ih with ⟨h1, h2⟩ | ⟨h1, h2, h3, h4, h5⟩
      · refine .inl ⟨h1, fun k hk hp hf => ?_⟩
        by_cases e : k = m
        · subst e
          exact q ⟨hp, hf, .inl h1⟩
        · exact h2 k (by omega) hp hf
      · refine .inr ⟨h1, by omega, h3, h4, fun k hk hf => ?_⟩
        by_cases e : k = m
        · subst e
          by_cases z : gi ps (k : Nat) ≤ gi ps b
          · exact z
          · exact absurd ⟨by omega, hf, .inr (by omega)⟩ q
        · exact h5 k (by omega) hf
theorem omY_inv (fs : List Int) : OmI bs ps fs bs.length (omY bs ps fs) := omF_inv fs bs.length
/-! ### the chain -/
inductive Gr (bs : List Bud) (ps : List Int) : Nat → List Int → Prop
  | zero : Gr bs ps 0 (List.replicate bs.length 0)
  | step {m : Nat} {g : List Int} : Gr bs ps m g → 0 ≤ omY bs ps g → Gr bs ps (m + 1) (incF g (omY bs ps g))
theorem Gr.fit {z : List Int} (Z : Fit bs (List.replicate bs.length 0)) {m : Nat} {g : List Int} (h : Gr bs ps m g) : Fit bs g ∧ g.sum = (m : Nat) := by
  induction h with
  | zero => exact ⟨Z, rep_sum _⟩
  | @step m g hg h0 ih =>
    obtain ⟨i1, i2⟩ := ih
    rcases omY_inv (bs := bs) (ps := ps) g with ⟨h1, _⟩ | ⟨_, h2, _, h4, _⟩
    · omega
    · refine ⟨i1.inc h0 h2 h4, ?_⟩
      rw [incF_sum h0 (by have := i1.len; omega), i2]
      omega
theorem Gr.best (G : Good bs) (Z : Fit bs (List.replicate bs.length 0)) {m : Nat} {g : List Int} (h : Gr bs ps m g) : ∀ x, Fit bs x → x.sum = (m : Nat) → wt bs.length ps x ≤ wt bs.length ps g := by
  induction h with
  | zero =>
    intro x hx hs
    have e : ∀ y : List Int, (∀ k : Nat, gi y (k : Nat) = 0) → wt bs.length ps y = 0 := fun y hy => by
      unfold wt
      have : ((List.range bs.length).map fun k => gi ps (k : Nat) * gi y (k : Nat)) = (List.range bs.length).map fun _ => 0 := List.map_congr_left fun k _ => by rw [hy k, Int.mul_zero]
      rw [this, sum_const0]
    rw [e x (hx.zero hs), e _ fun k => gi_rep]
    exact Int.le_refl 0
  | @step m g hg h0 ih =>
    intro x hx hs
    obtain ⟨g1, g2⟩ := hg.fit (z := g) Z
    rcases omY_inv (bs := bs) (ps := ps) g with ⟨h1, _⟩ | ⟨_, h2, h3, h4, h5⟩
    · omega
    · rw [wt_inc h0 h2 g1.len]
      by_cases q : ∃ k : Nat, k < bs.length ∧ 0 < gi x (k : Nat) ∧ gi ps (k : Nat) ≤ gi ps (omY bs ps g)
      · obtain ⟨k, hk, hx0, hpk⟩ := q
        have hl := hx.len
        have := ih (decF x (k : Nat)) (hx.dec G hk hx0) (by rw [decF_sum (by omega) (by omega), hs]; omega)
        rw [wt_dec (by omega) (by omega) hl] at this
        omega
      · have c := G.cover g x g1 hx fun k hk hx0 hf => q ⟨k, hk, hx0, h5 k hk hf⟩
        omega
theorem Gr.chain {m : Nat} {g : List Int} (Z : Fit bs (List.replicate bs.length 0)) (h : Gr bs ps m g) : ∀ j : Nat, j ≤ m → ∃ gj, Gr bs ps j gj ∧ wt bs.length ps gj ≤ wt bs.length ps g := by
  induction h with
  | zero => exact fun j hj => ⟨_, by rw [show j = 0 by omega]; exact .zero, Int.le_refl _⟩
  | @step m g hg h0 ih =>
    intro j hj
    obtain ⟨g1, _⟩ := hg.fit (z := g) Z
    rcases omY_inv (bs := bs) (ps := ps) g with ⟨h1, _⟩ | ⟨_, h2, h3, h4, _⟩
    · omega
    · by_cases e : j = m + 1
      · exact ⟨_, by rw [e]; exact .step hg h0, Int.le_refl _⟩
      · obtain ⟨gj, a, b⟩ := ih j (by omega)
        refine ⟨gj, a, ?_⟩
        rw [wt_inc h0 h2 g1.len]
        omega
theorem Gr.stop (G : Good bs) (Z : Fit bs (List.replicate bs.length 0)) {m : Nat} {g : List Int} (h : Gr bs ps m g) (hs : omY bs ps g < 0) : ∀ (t : Nat) (x : List Int), Fit bs x → x.sum = (t : Nat) → wt bs.length ps x ≤ wt bs.length ps g
  | 0, x, hx, ht => by
    obtain ⟨gj, a, b⟩ := h.chain Z 0 (Nat.zero_le _)
    exact Int.le_trans (a.best G Z x hx ht) b
  | t + 1, x, hx, ht => by
    by_cases q : t + 1 ≤ m
    · obtain ⟨gj, a, b⟩ := h.chain Z (t + 1) q
      exact Int.le_trans (a.best G Z x hx ht) b
    · obtain ⟨g1, g2⟩ := h.fit (z := g) Z
      have hl := hx.len
      have ex : ∃ k : Nat, k < bs.length ∧ 0 < gi x (k : Nat) ∧ fitsY bs (incF g (k : Nat)) = true := by
        apply Classical.byContradiction
        intro no
        have c := G.cover g x g1 hx fun k hk hx0 hf => no ⟨k, hk, hx0, hf⟩
        omega
      obtain ⟨k, hk, hx0, hf⟩ := ex
      rcases omY_inv (bs := bs) (ps := ps) g with ⟨_, h2⟩ | ⟨h1, _⟩
      · have hp : ¬ 0 < gi ps (k : Nat) := fun z => h2 k hk z hf
        have := Gr.stop G Z h hs t (decF x (k : Nat)) (hx.dec G hk hx0) (by rw [decF_sum (by omega) (by omega), ht]; omega)
        rw [wt_dec (by omega) (by omega) hl] at this
        omega
      · omega
/-! ### what fewest gives -/
theorem fewF_spec (G : Good bs) (Z : Fit bs (List.replicate bs.length 0)) {most left0 : Int} : ∀ (f m : Nat) (left : Int) (fs : List Int), Gr bs ps m fs → left = left0 - wt bs.length ps fs → (∀ j : Nat, j < m → ∃ gj, Gr bs ps j gj ∧ wt bs.length ps gj ≤ left0) → most - (m : Nat) < (f : Nat) →
    match fewF bs ps most f left fs with
    | some r => Fit bs r ∧ left0 < wt bs.length ps r ∧ ∀ x, Fit bs x → left0 < wt bs.length ps x → r.sum ≤ x.sum
    | none => ∀ x, Fit bs x → left0 < wt bs.length ps x → most < x.sum
  | 0, m, left, fs, hg, hl, hj, hf => by
    show ∀ x, Fit bs x → left0 < wt bs.length ps x → most < x.sum
    intro x hx hw
    apply Classical.byContradiction
    intro no
    have xs := sum_nn x hx.mem
    obtain ⟨gj, a, b⟩ := hj x.sum.toNat (by omega)
    have := a.best G Z x hx (by omega)
    omega
  | f + 1, m, left, fs, hg, hl, hj, hf => by
    obtain ⟨g1, g2⟩ := hg.fit (z := fs) Z
    have low : ∀ x, Fit bs x → left0 < wt bs.length ps x → (m : Int) ≤ x.sum := fun x hx hw => by
      apply Classical.byContradiction
      intro no
      have xs := sum_nn x hx.mem
      obtain ⟨gj, a, b⟩ := hj x.sum.toNat (by omega)
      have := a.best G Z x hx (by omega)
      omega
    unfold fewF
    by_cases c : 0 ≤ left ∧ fs.sum < most
    · rw [if_pos c]
      by_cases n : omY bs ps fs < 0
      · rw [if_pos n]
        show ∀ x, Fit bs x → left0 < wt bs.length ps x → most < x.sum
        intro x hx hw
        have xs := sum_nn x hx.mem
        have := hg.stop G Z n x.sum.toNat x hx (by omega)
        omega
      · rw [if_neg n]
        have ob := omY_bd bs ps fs
        have hw := wt_inc (ps := ps) (x := fs) (k := omY bs ps fs) (n := bs.length) (by omega) ob.2 g1.len
        refine fewF_spec G Z f (m + 1) _ _ (.step hg (by omega)) (by omega) (fun j hj2 => ?_) (by omega)
        by_cases e : j = m
        · exact ⟨fs, by rw [e]; exact hg, by omega⟩
        · exact hj j (by omega)
    · rw [if_neg c]
      by_cases l : 0 ≤ left
      · rw [if_pos l]
        show ∀ x, Fit bs x → left0 < wt bs.length ps x → most < x.sum
        intro x hx hw
        have h1 := low x hx hw
        by_cases e : x.sum = (m : Nat)
        · have := hg.best G Z x hx e
          omega
        · omega
      · rw [if_neg l]
        show Fit bs fs ∧ left0 < wt bs.length ps fs ∧ ∀ x, Fit bs x → left0 < wt bs.length ps x → fs.sum ≤ x.sum
        exact ⟨g1, by omega, fun x hx hw => by rw [g2]; exact low x hx hw⟩
end
theorem wt_rep (n m : Nat) (ps : List Int) : wt n ps (List.replicate m 0) = 0 := by
  unfold wt
  have : ((List.range n).map fun k => gi ps (k : Nat) * gi (List.replicate m (0 : Int)) (k : Nat)) = (List.range n).map fun _ => 0 := List.map_congr_left fun k _ => by rw [gi_rep, Int.mul_zero]
  rw [this, sum_const0]
theorem fewY_spec {y : Sys} (G : Good y.buds) (Z : Fit y.buds (List.replicate y.buds.length 0)) (s e most : Int) :
    match fewY y s e most with
    | some r => Fit y.buds r ∧ e - s - demandY y s e < wt y.buds.length (penY y s e) r ∧ ∀ x, Fit y.buds x → e - s - demandY y s e < wt y.buds.length (penY y s e) x → r.sum ≤ x.sum
    | none => ∀ x, Fit y.buds x → e - s - demandY y s e < wt y.buds.length (penY y s e) x → most < x.sum :=
  fewF_spec G Z (most.toNat + 1) 0 _ _ .zero (by rw [wt_rep]; omega) (fun j hj => absurd hj (Nat.not_lt_zero j)) (by omega)
end Fd
/-! The plain law. -/
namespace Fd
open PySem PySem.Spec PyProof.Rows L2
/-! ### the assignments -/
def Cnt : List Bud → List Int → Prop
  | [], [] => True
  | b :: bs, c :: cs => 0 ≤ c ∧ c ≤ b.cap ∧ Cnt bs cs
  | _, _ => False
theorem asgF_iff : ∀ (l : List Bud) (acc : List (List Int)) (x : List Int), x ∈ l.foldl asgS acc ↔ ∃ p s, p ∈ acc ∧ Cnt l s ∧ x = p ++ s
  | [], acc, x => by
    constructor
    · intro h
      exact ⟨x, [], h, True.intro, (List.append_nil x).symm⟩
    · rintro ⟨p, s, hp, hs, rfl⟩
      cases s with
      | nil => rw [List.append_nil]; exact hp
      | cons a s => exact hs.elim
  | b :: l, acc, x => by
    rw [List.foldl_cons, asgF_iff l (asgS acc b) x]
    constructor
    · rintro ⟨p, s, hp, hs, rfl⟩
      obtain ⟨p0, hp0, hp⟩ := List.mem_flatMap.mp hp
      obtain ⟨c, hc, rfl⟩ := List.mem_map.mp hp
      have hc := List.mem_range.mp hc
      exact ⟨p0, ((c : Nat) : Int) :: s, hp0, ⟨by omega, by omega, hs⟩, by rw [List.append_assoc]; rfl⟩
    · rintro ⟨p, s, hp, hs, rfl⟩
      cases s with
      | nil => exact hs.elim
      | cons c s =>
        obtain ⟨h0, h1, h2⟩ := hs
        refine ⟨p ++ [c], s, List.mem_flatMap.mpr ⟨p, hp, List.mem_map.mpr ⟨c.toNat, List.mem_range.mpr (by omega), ?_⟩⟩, h2, by rw [List.append_assoc]; rfl⟩
        rw [show ((c.toNat : Nat) : Int) = c by omega]
theorem asgA_iff (bs : List Bud) (x : List Int) : x ∈ asgA bs ↔ Cnt bs x := by
  unfold asgA
  rw [asgF_iff]
  constructor
  · rintro ⟨p, s, hp, hs, rfl⟩
    rw [List.mem_singleton.mp hp]
    exact hs
  · exact fun h => ⟨[], x, List.mem_singleton.mpr rfl, h, rfl⟩
theorem cnt_get : ∀ {bs : List Bud} {x : List Int}, Cnt bs x → x.length = bs.length ∧ (∀ k : Nat, k < bs.length → 0 ≤ gi x (k : Nat)) ∧ x.sum ≤ (bs.map (·.cap)).sum
  | [], [], _ => ⟨rfl, fun k hk => absurd hk (Nat.not_lt_zero k), by decide⟩
  | b :: bs, c :: cs, ⟨h0, h1, h2⟩ => by
    obtain ⟨i1, i2, i3⟩ := cnt_get h2
    refine ⟨by rw [List.length_cons, List.length_cons, i1], fun k hk => ?_, ?_⟩
    · cases k with
      | zero => exact h0
      | succ k => exact i2 k (by simpa using hk)
    · rw [List.sum_cons, List.map_cons, List.sum_cons]
      omega
  | [], _ :: _, h => h.elim
  | _ :: _, [], h => h.elim
theorem cnt_of : ∀ {bs : List Bud} {x : List Int}, x.length = bs.length → (∀ k : Nat, k < bs.length → 0 ≤ gi x (k : Nat) ∧ gi x (k : Nat) ≤ gc bs (k : Nat)) → Cnt bs x
  | [], [], _, _ => True.intro
  | b :: bs, c :: cs, hl, h => by
    have h0 : 0 ≤ c ∧ c ≤ b.cap := h 0 (by simp)
    exact ⟨h0.1, h0.2, cnt_of (by simpa using hl) fun k hk => h (k + 1) (by simpa using hk)⟩
  | [], _ :: _, hl, _ => by simp at hl
  | _ :: _, [], hl, _ => by simp at hl
theorem asg_iff {bs : List Bud} (G : Good bs) (x : List Int) : x ∈ asgO bs ↔ Fit bs x := by
  rw [asgO_mem]
  unfold asgY
  rw [List.mem_filter, asgA_iff]
  constructor
  · rintro ⟨h1, h2⟩
    obtain ⟨i1, i2, _⟩ := cnt_get h1
    exact ⟨i1, i2, h2⟩
  · intro h
    exact ⟨cnt_of h.len fun k hk => ⟨h.nn k hk, G.cap x h k hk⟩, h.ok⟩
theorem fit_cap {bs : List Bud} (G : Good bs) {x : List Int} (h : Fit bs x) : x.sum ≤ (bs.map (·.cap)).sum := (cnt_get (cnt_of h.len fun k hk => ⟨h.nn k hk, G.cap x h k hk⟩)).2.2
theorem cap_le9 {bs : List Bud} (W : WfB bs) : (bs.map (·.cap)).sum ≤ 9 := by
  have up : ∀ l : List Bud, (∀ b, b ∈ l → b.cap ≤ 3) → (l.map (·.cap)).sum ≤ 3 * l.length := fun l => by
    induction l with
    | nil => exact fun _ => by decide
    | cons b l ih =>
      intro h
      have h1 := h b List.mem_cons_self
      have h2 := ih fun x hx => h x (List.mem_cons_of_mem _ hx)
      rw [List.map_cons, List.sum_cons, List.length_cons]
      omega
  have := up bs fun b hb => (W.cap b hb).2
  have := W.few
  omega
/-! ### their order -/
theorem eqv_lists : ∀ xs ys : List Int, PyData.eqvAll (xs.map .int) (ys.map .int) = decide (xs = ys)
  | [], [] => rfl
  | [], _ :: _ => by simp [PyData.eqvAll]
  | _ :: _, [] => by simp [PyData.eqvAll]
  | x :: xs, y :: ys => by
    have ih := eqv_lists xs ys
    rw [List.map_cons, List.map_cons]
    simp only [PyData.eqvAll, PyData.eqv, ih]
    by_cases h : x = y <;> by_cases h2 : xs = ys <;> simp [h, h2]
theorem encA_le (a b : List Int) : PySem.W.dataLe false encA a b = decide (a.sum < b.sum ∨ (a.sum = b.sum ∧ a ≤ b)) := by
  rw [PySem.W.dataLe_eq]
  show (!PySem.W.dataLt (encA b) (encA a)) = _
  unfold encA tupF
  rw [PySem.W.dataLt_pair (by simp [PySem.W.alike]) (by simp [PySem.W.alike, PySem.W.alike_ints]), PySem.W.dataLt_int]
  have et : PySem.W.dataLt (.tuple (b.map .int)) (.tuple (a.map .int)) = decide (b < a) := by
    rw [PySem.W.dataLt_tuple]
    exact PySem.W.dataLt_ints b a
  have ee : PyData.eqv (.tuple (b.map .int)) (.tuple (a.map .int)) = decide (b = a) := eqv_lists b a
  have es : PyData.eqv (.int b.sum) (.int a.sum) = decide (b.sum = a.sum) := by simp [PyData.eqv]; by_cases h : b.sum = a.sum <;> simp [h]
  rw [et, ee, es]
  by_cases h : b.sum = a.sum
  · rw [if_pos (decide_eq_true h)]
    by_cases e : b = a
    · subst e
      rw [if_pos (decide_eq_true rfl)]
      have : b ≤ b := List.not_lt.mp (List.lt_irrefl b)
      simp [this]
    · rw [if_neg (by rw [decide_eq_false e]; decide)]
      by_cases l : b < a
      · have n : ¬ a ≤ b := fun z => List.not_lt.mpr z l
        have n2 : ¬ a.sum < b.sum := by omega
        simp [l, n, n2]
      · have n : a ≤ b := List.not_lt.mp l
        simp [l, n, h]
  · rw [if_neg (by rw [decide_eq_false h]; decide)]
    by_cases l : b.sum < a.sum
    · have n : ¬ a.sum < b.sum := by omega
      have n2 : ¬ a.sum = b.sum := by omega
      simp [l, n, n2]
    · have n : a.sum < b.sum := by omega
      simp [l, n]
theorem asgO_up (bs : List Bud) : (asgO bs).Pairwise fun a b => a.sum ≤ b.sum := by
  have h := List.pairwise_mergeSort (le := PySem.W.dataLe false encA) (fun a b c h1 h2 => ?_) (fun a b => ?_) (asgY bs)
  · refine h.imp fun {a b} hab => ?_
    rw [encA_le] at hab
    have := of_decide_eq_true hab
    omega
  · rw [encA_le] at h1 h2 ⊢
    have g1 := of_decide_eq_true h1
    have g2 := of_decide_eq_true h2
    refine decide_eq_true ?_
    rcases g1 with g1 | ⟨g1, g3⟩
    · left; omega
    · rcases g2 with g2 | ⟨g2, g4⟩
      · left; omega
      · right
        exact ⟨by omega, List.le_trans g3 g4⟩
  · rw [encA_le, encA_le]
    simp only [Bool.or_eq_true, decide_eq_true_eq]
    rcases Int.lt_trichotomy a.sum b.sum with g | g | g
    · exact .inl (.inl g)
    · rcases List.le_total a b with l | l
      · exact .inl (.inr ⟨g, l⟩)
      · exact .inr (.inr ⟨g.symm, l⟩)
    · exact .inr (.inl g)
/-! ### the first that is too heavy -/
def heavy (n : Nat) (ps : List Int) (left : Int) (best : Option Int) (x : List Int) : Prop := (best = none ∨ ∃ b, best = some b ∧ x.sum < b) ∧ left < wt n ps x
theorem fwC_none (best : Option Int) (x : List Int) : fwC best none x = true ↔ (best = none ∨ ∃ b, best = some b ∧ x.sum < b) := by
  cases best with
  | none => simp [fwC]
  | some b => simp [fwC]
theorem fw_some (n : Nat) (ps : List Int) (left : Int) (best : Option Int) (c : Int) : ∀ l : List (List Int), l.foldl (fwS n ps left best) (some c) = some c
  | [] => rfl
  | x :: l => by
    have e : fwS n ps left best (some c) x = some c := if_neg fun z => by
      have : fwC best (some c) x = false := rfl
      rw [this] at z
      exact absurd z.1 (by decide)
    rw [List.foldl_cons, e, fw_some n ps left best c l]
theorem fw_spec (n : Nat) (ps : List Int) (left : Int) (best : Option Int) : ∀ l : List (List Int), (l.Pairwise fun a b => a.sum ≤ b.sum) →
    match l.foldl (fwS n ps left best) none with
    | none => ∀ x, x ∈ l → ¬ heavy n ps left best x
    | some c => ∃ x, x ∈ l ∧ heavy n ps left best x ∧ x.sum = c ∧ ∀ z, z ∈ l → heavy n ps left best z → c ≤ z.sum
  | [], _ => fun x hx => absurd hx List.not_mem_nil
  | x :: l, h => by
    obtain ⟨h1, h2⟩ := List.pairwise_cons.mp h
    rw [List.foldl_cons]
    by_cases q : fwC best none x = true ∧ left < wt n ps x
    · have e : fwS n ps left best none x = some x.sum := if_pos q
      rw [e, fw_some]
      refine ⟨x, List.mem_cons_self, ⟨(fwC_none best x).mp q.1, q.2⟩, rfl, fun z hz _ => ?_⟩
      rcases List.mem_cons.mp hz with e | hz
      · rw [e]; exact Int.le_refl _
      · exact h1 z hz
    · have e : fwS n ps left best none x = none := if_neg q
      rw [e]
      have ih := fw_spec n ps left best l h2
      have nx : ¬ heavy n ps left best x := fun z => q ⟨(fwC_none best x).mpr z.1, z.2⟩
      cases hf : l.foldl (fwS n ps left best) none with
      | none =>
        rw [hf] at ih
        intro z hz
        rcases List.mem_cons.mp hz with e | hz
        · rw [e]; exact nx
        · exact ih z hz
      | some c =>
        rw [hf] at ih
        obtain ⟨z, hz, a, b, c'⟩ := ih
        refine ⟨z, List.mem_cons_of_mem _ hz, a, b, fun t ht hv => ?_⟩
        rcases List.mem_cons.mp ht with e | ht
        · rw [e] at hv
          exact absurd hv nx
        · exact c' t ht hv
section
variable {y : Sys}
def hvy (y : Sys) (s e : Int) (x : List Int) : Prop := e - s - demandY y s e < wt y.buds.length (penY y s e) x
theorem fwY_spec (G : Good y.buds) (s e : Int) (best : Option Int) :
    match fwY y s e best with
    | none => ∀ x, Fit y.buds x → (best = none ∨ ∃ b, best = some b ∧ x.sum < b) → ¬ hvy y s e x
    | some c => ∃ x, Fit y.buds x ∧ (best = none ∨ ∃ b, best = some b ∧ x.sum < b) ∧ hvy y s e x ∧ x.sum = c ∧ ∀ z, Fit y.buds z → (best = none ∨ ∃ b, best = some b ∧ z.sum < b) → hvy y s e z → c ≤ z.sum := by
  have h := fw_spec y.buds.length (penY y s e) (e - s - demandY y s e) best (asgO y.buds) (asgO_up y.buds)
  unfold fwY
  cases hf : (asgO y.buds).foldl (fwS y.buds.length (penY y s e) (e - s - demandY y s e) best) none with
  | none =>
    rw [hf] at h
    exact fun x hx hb hv => h x ((asg_iff G x).mpr hx) ⟨hb, hv⟩
  | some c =>
    rw [hf] at h
    obtain ⟨x, h1, h2, h3, h4⟩ := h
    exact ⟨x, (asg_iff G x).mp h1, h2.1, h2.2, h3, fun z hz hb hv => h4 z ((asg_iff G z).mpr hz) ⟨hb, hv⟩⟩
/-! ### both loops -/
def Rl (y : Sys) (z : LB) (v : LW) : Prop := (z = (none, (y.buds.map (·.cap)).sum) ∧ v = (none, none)) ∨
  ∃ (s e : Int) (fs : List Int), z = (some (s, e, fs), max (fs.sum - 1) 0) ∧ v = (some fs.sum, some (s, e)) ∧ Fit y.buds fs ∧ hvy y s e fs ∧ (s, e) ∈ looksY y
theorem rl_step (G : Good y.buds) (Z : Fit y.buds (List.replicate y.buds.length 0)) {z : LB} {v : LW} {s e : Int} (h : Rl y z v) (hm : (s, e) ∈ looksY y) : Rl y (lfS y s z e) (lwS y v (s, e)) := by
  rcases h with ⟨rfl, rfl⟩ | ⟨s0, e0, fs, rfl, rfl, hfit, hh, hm0⟩
  · have h1 := fewY_spec G Z s e (y.buds.map (·.cap)).sum
    have h2 := fwY_spec G s e none
    unfold lfS lwS
    dsimp only
    cases f1 : fewY y s e (y.buds.map (·.cap)).sum with
    | none =>
      rw [f1] at h1
      cases f2 : fwY y s e none with
      | none => exact .inl ⟨rfl, rfl⟩
      | some c =>
        rw [f2] at h2
        obtain ⟨x, hx, _, hv, _⟩ := h2
        have := h1 x hx hv
        have := fit_cap G hx
        omega
    | some r =>
      rw [f1] at h1
      obtain ⟨r1, r2, r3⟩ := h1
      cases f2 : fwY y s e none with
      | none =>
        rw [f2] at h2
        exact absurd r2 (h2 r r1 (.inl rfl))
      | some c =>
        rw [f2] at h2
        obtain ⟨x, hx, _, hv, hc, hmin⟩ := h2
        have l1 := r3 x hx hv
        have l2 := hmin r r1 (.inl rfl) r2
        have e1 : c = r.sum := by omega
        subst e1
        exact .inr ⟨s, e, r, rfl, rfl, r1, r2, hm⟩
  · have h1 := fewY_spec G Z s e (max (fs.sum - 1) 0)
    have h2 := fwY_spec G s e (some fs.sum)
    have fs0 := sum_nn fs hfit.mem
    unfold lfS lwS
    dsimp only
    cases f1 : fewY y s e (max (fs.sum - 1) 0) with
    | none =>
      rw [f1] at h1
      cases f2 : fwY y s e (some fs.sum) with
      | none => exact .inr ⟨s0, e0, fs, rfl, rfl, hfit, hh, hm0⟩
      | some c =>
        rw [f2] at h2
        obtain ⟨x, hx, hb, hv, _⟩ := h2
        have := h1 x hx hv
        rcases hb with z | ⟨b, z, hb⟩
        · cases z
        · cases z
          omega
    | some r =>
      rw [f1] at h1
      obtain ⟨r1, r2, r3⟩ := h1
      dsimp only
      by_cases q : r.sum < fs.sum
      · rw [if_pos q]
        cases f2 : fwY y s e (some fs.sum) with
        | none =>
          rw [f2] at h2
          exact absurd r2 (h2 r r1 (.inr ⟨_, rfl, q⟩))
        | some c =>
          rw [f2] at h2
          obtain ⟨x, hx, _, hv, hc, hmin⟩ := h2
          have l1 := r3 x hx hv
          have l2 := hmin r r1 (.inr ⟨_, rfl, q⟩) r2
          have e1 : c = r.sum := by omega
          subst e1
          exact .inr ⟨s, e, r, rfl, rfl, r1, r2, hm⟩
      · rw [if_neg q]
        cases f2 : fwY y s e (some fs.sum) with
        | none => exact .inr ⟨s0, e0, fs, rfl, rfl, hfit, hh, hm0⟩
        | some c =>
          rw [f2] at h2
          obtain ⟨x, hx, hb, hv, _⟩ := h2
          have := r3 x hx hv
          rcases hb with z | ⟨b, z, hb⟩
          · cases z
          · cases z
            omega
theorem rl_row (G : Good y.buds) (Z : Fit y.buds (List.replicate y.buds.length 0)) (s : Int) : ∀ (es : List Int) (z : LB) (v : LW), Rl y z v → (∀ e, e ∈ es → (s, e) ∈ looksY y) → Rl y (es.foldl (lfS y s) z) ((es.map fun e => (s, e)).foldl (lwS y) v)
  | [], _, _, h, _ => h
  | e :: es, z, v, h, hm => by
    rw [List.map_cons, List.foldl_cons, List.foldl_cons]
    exact rl_row G Z s es _ _ (rl_step G Z h (hm e List.mem_cons_self)) fun x hx => hm x (List.mem_cons_of_mem _ hx)
theorem rl_all (G : Good y.buds) (Z : Fit y.buds (List.replicate y.buds.length 0)) : ∀ (l : List Nat) (z : LB) (v : LW), Rl y z v → (∀ s, s ∈ l → ∀ q, q ∈ looksS y s → q ∈ looksY y) → Rl y (l.foldl (lfR y) z) ((l.flatMap (looksS y)).foldl (lwS y) v)
  | [], _, _, h, _ => h
  | s :: l, z, v, h, hm => by
    rw [List.flatMap_cons, List.foldl_append, List.foldl_cons]
    refine rl_all G Z l _ _ (rl_row G Z (s : Nat) _ z v h fun e he => hm s List.mem_cons_self _ (List.mem_map.mpr ⟨e, he, rfl⟩)) fun x hx => hm x (List.mem_cons_of_mem _ hx)
theorem law_ok (hy : WfY y) (hh : horY y ≤ 120) : LawOK y := by
  have G := good_of hy.buds
  obtain ⟨t, ht, htop⟩ := G.top fun b hb => hy.buds.cap b hb
  have Z := fit_zero G ht
  have c9 := cap_le9 hy.buds
  have fin : Rl y (lfY y) (lwY y) := rl_all G Z _ _ _ (.inl ⟨rfl, rfl⟩) fun s hs q hq => List.mem_flatMap.mpr ⟨s, hs, hq⟩
  have hne : asgO y.buds ≠ [] := fun e => by
    have := (asg_iff G t).mpr ht
    rw [e] at this
    exact absurd this List.not_mem_nil
  refine ⟨(asgO y.buds).dropLast, (asgO y.buds).getLast hne, (List.dropLast_concat_getLast hne).symm, ?_⟩
  have lastFit := (asg_iff G _).mp (List.getLast_mem hne)
  have lastMax : t.sum ≤ ((asgO y.buds).getLast hne).sum := by
    have hp := asgO_up y.buds
    have hm := (asg_iff G t).mpr ht
    rw [← List.dropLast_concat_getLast hne] at hp hm
    rcases List.mem_append.mp hm with z | z
    · exact (List.pairwise_append.mp hp).2.2 t z _ (List.mem_singleton.mpr rfl)
    · rw [List.mem_singleton.mp z]
      exact Int.le_refl _
  rcases fin with ⟨h1, h2⟩ | ⟨s, e, fs, h1, h2, hfit, hv, hm⟩
  · left
    have l1 := G.most _ lastFit
    have l2 := sum_nn _ lastFit.mem
    have l3 := fit_cap G lastFit
    exact ⟨by rw [h2], by rw [h1], by omega, l2, by omega⟩
  · right
    have l2 := sum_nn _ hfit.mem
    have l3 := fit_cap G hfit
    have hv : e - s - demandY y s e < wt y.buds.length (penY y s e) fs := hv
    exact ⟨fs.sum, (s, e), fs, h2, by rw [h1], rfl, l2, by omega, hfit.len, hfit.mem, hfit.ok, by show e - s < wt y.buds.length (penY y s e) fs + demandY y s e; omega, hm⟩
end
end Fd
open PySem PySem.W PyProof.Rows
set_option maxHeartbeats 0 in
theorem PySem.Challenge.cw_faultdue_k29_least_faults_holds : PySem.Challenge.rw_faultdue_k29_least_faults.Holds := by
  w_on; o_law; k_head; (case hw => w_witness2)
  k_fill
  refine Fd.law_end (k := 8) rfl rfl rfl ⟨rfl, by decide, by decide⟩ (fun w h Y => PySem.W.km_in_of Y) ?F
  case F =>
    intro w mg fa h Y KX hns hmg
    refine' Fd.top_mk (PT := 49) (fun y hy hh => Fd.law_ok hy hh) KX hns (PySem.W.km_tabs_of Y 49 (by simp)) ?aW ?lW ?cW ?kW ?nW ?dW ?a0 ?l0 ?c0 ?k0 ?a1 ?l1 ?c1 ?k1 ?a2 ?l2 ?c2 ?k2 ?a3 ?l3 ?c3 ?k3 ?a4 ?l4 ?c4 ?k4 ?a5 ?l5 ?c5 ?k5 ?a6 ?l6 ?c6 ?k6 ?a7 ?l7 ?c7 ?k7 ?a8 ?l8 ?c8 ?k8 ?a9 ?l9 ?c9 ?k9 ?a10 ?l10 ?c10 ?k10 ?a11 ?l11 ?c11 ?k11 ?a12 ?l12 ?c12 ?k12 ?a13 ?l13 ?c13 ?k13 ?a14 ?l14 ?c14 ?k14 ?a15 ?l15 ?c15 ?k15 ?a16 ?l16 ?c16 ?k16 ?a17 ?l17 ?c17 ?k17 ?a18 ?l18 ?c18 ?k18 ?a19 ?l19 ?c19 ?k19 ?a20 ?l20 ?c20 ?k20 ?a21 ?l21 ?c21 ?k21 ?a22 ?l22 ?c22 ?k22 ?a23 ?l23 ?c23 ?k23 ?a24 ?l24 ?c24 ?k24 ?a25 ?l25 ?c25 ?k25 ?a26 ?l26 ?c26 ?k26 ?a27 ?l27 ?c27 ?k27 ?a28 ?l28 ?c28 ?k28 ?a29 ?l29 ?c29 ?k29 ?a30 ?l30 ?c30 ?k30 ?a31 ?l31 ?c31 ?k31 ?a32 ?l32 ?c32 ?k32 ?a33 ?l33 ?c33 ?k33 ?a34 ?l34 ?c34 ?k34 ?a35 ?l35 ?c35 ?k35 ?a36 ?l36 ?c36 ?k36 ?a37 ?l37 ?c37 ?k37 ?a38 ?l38 ?c38 ?k38 ?a39 ?l39 ?c39 ?k39 ?a40 ?l40 ?c40 ?k40 ?a41 ?l41 ?c41 ?k41 ?a42 ?l42 ?c42 ?k42 ?a43 ?l43 ?c43 ?k43 ?z0 ?z1 ?z2 ?z3 ?z4 ?z5 ?z6 ?z7 ?z8 ?z9 ?z10 ?z11 ?z12 ?z13
    (case aW => k_is); (case lW => k_is); (case cW => k_is); (case kW => k_is); (case nW => kernel_rfl); (case dW => kernel_rfl)
    (case a0 => k_is); (case l0 => k_is); (case c0 => k_is); (case k0 => k_is)
    (case a1 => k_is); (case l1 => k_is); (case c1 => k_is); (case k1 => k_is)
    (case a2 => k_is); (case l2 => k_is); (case c2 => k_is); (case k2 => k_is)
    (case a3 => k_is); (case l3 => k_is); (case c3 => k_is); (case k3 => k_is)
    (case a4 => k_is); (case l4 => k_is); (case c4 => k_is); (case k4 => k_is)
    (case a5 => k_is); (case l5 => k_is); (case c5 => k_is); (case k5 => k_is)
    (case a6 => k_is); (case l6 => k_is); (case c6 => k_is); (case k6 => k_is)
    (case a7 => k_is); (case l7 => k_is); (case c7 => k_is); (case k7 => k_is)
    (case a8 => k_is); (case l8 => k_is); (case c8 => k_is); (case k8 => k_is)
    (case a9 => k_is); (case l9 => k_is); (case c9 => k_is); (case k9 => k_is)
    (case a10 => k_is); (case l10 => k_is); (case c10 => k_is); (case k10 => k_is)
    (case a11 => k_is); (case l11 => k_is); (case c11 => k_is); (case k11 => k_is)
    (case a12 => k_is); (case l12 => k_is); (case c12 => k_is); (case k12 => k_is)
    (case a13 => k_is); (case l13 => k_is); (case c13 => k_is); (case k13 => k_is)
    (case a14 => k_is); (case l14 => k_is); (case c14 => k_is); (case k14 => k_is)
    (case a15 => k_is); (case l15 => k_is); (case c15 => k_is); (case k15 => k_is)
    (case a16 => k_is); (case l16 => k_is); (case c16 => k_is); (case k16 => k_is)
    (case a17 => k_is); (case l17 => k_is); (case c17 => k_is); (case k17 => k_is)
    (case a18 => k_is); (case l18 => k_is); (case c18 => k_is); (case k18 => k_is)
    (case a19 => k_is); (case l19 => k_is); (case c19 => k_is); (case k19 => k_is)
    (case a20 => k_is); (case l20 => k_is); (case c20 => k_is); (case k20 => k_is)
    (case a21 => k_is); (case l21 => k_is); (case c21 => k_is); (case k21 => k_is)
    (case a22 => k_is); (case l22 => k_is); (case c22 => k_is); (case k22 => k_is)
    (case a23 => k_is); (case l23 => k_is); (case c23 => k_is); (case k23 => k_is)
    (case a24 => k_is); (case l24 => k_is); (case c24 => k_is); (case k24 => k_is)
    (case a25 => k_is); (case l25 => k_is); (case c25 => k_is); (case k25 => k_is)
    (case a26 => k_is); (case l26 => k_is); (case c26 => k_is); (case k26 => k_is)
    (case a27 => k_is); (case l27 => k_is); (case c27 => k_is); (case k27 => k_is)
    (case a28 => k_is); (case l28 => k_is); (case c28 => k_is); (case k28 => k_is)
    (case a29 => k_is); (case l29 => k_is); (case c29 => k_is); (case k29 => k_is)
    (case a30 => k_is); (case l30 => k_is); (case c30 => k_is); (case k30 => k_is)
    (case a31 => k_is); (case l31 => k_is); (case c31 => k_is); (case k31 => k_is)
    (case a32 => k_is); (case l32 => k_is); (case c32 => k_is); (case k32 => k_is)
    (case a33 => k_is); (case l33 => k_is); (case c33 => k_is); (case k33 => k_is)
    (case a34 => k_is); (case l34 => k_is); (case c34 => k_is); (case k34 => k_is)
    (case a35 => k_is); (case l35 => k_is); (case c35 => k_is); (case k35 => k_is)
    (case a36 => k_is); (case l36 => k_is); (case c36 => k_is); (case k36 => k_is)
    (case a37 => k_is); (case l37 => k_is); (case c37 => k_is); (case k37 => k_is)
    (case a38 => k_is); (case l38 => k_is); (case c38 => k_is); (case k38 => k_is)
    (case a39 => k_is); (case l39 => k_is); (case c39 => k_is); (case k39 => k_is)
    (case a40 => k_is); (case l40 => k_is); (case c40 => k_is); (case k40 => k_is)
    (case a41 => k_is); (case l41 => k_is); (case c41 => k_is); (case k41 => k_is)
    (case a42 => k_is); (case l42 => k_is); (case c42 => k_is); (case k42 => k_is)
    (case a43 => k_is); (case l43 => k_is); (case c43 => k_is); (case k43 => k_is)
    (case z0 => k_is)
    (case z1 => k_is)
    (case z2 => k_is)
    (case z3 => k_is)
    (case z4 => k_is)
    (case z5 => k_is)
    (case z6 => k_is)
    (case z7 => k_is)
    (case z8 => k_is)
    (case z9 => k_is)
    (case z10 => k_is)
    (case z11 => k_is)
    (case z12 => k_is)
    (case z13 => k_is)
