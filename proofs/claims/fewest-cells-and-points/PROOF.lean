import PyProof.Rows.All
import Wide.All
import OpenK.AllK
import Wide.FinOn
import HandS.ForMost
import HandS.IsInst
import HandS.TupAny
import HandS.TupMul
import KE.GoesMore
import KE.GoesEnum
import KE.GoesDict
import HandS.Zip
import HandS.DictTup
import KE.SortData
import KE.KDictKeyed
import HandS.Style
import HandS.Deep
import KE.DataMinMax
import KE.KTupSum
import HandS.Conv
import KE.KDictPairs
import HandS.Words
import HandS.Wide
import HandS.HotCalls
import HandS.ExcIs
import PyProof.ZipIter
import KE.KExcIs
import HandS.Text
import HandS.Lambda
import HandS.CallLocal
import HandS.WordsExc
import HandS.ExcInit
import KE.KExcSuper
import HandS.ExcSuper
import HandS.ExcCtx
import HandS.EndOwn
import PySem.Challenge.RW_signsquared_k60_whole_fewest_cells_and_p
section
set_option Elab.async false
set_option maxRecDepth 100000
set_option maxHeartbeats 0
open PySem PySem.W PyProof.Rows
open_top head for PySem.Challenge.rw_signsquared_k60_whole_fewest_cells_and_p
end
section
set_option Elab.async false
set_option linter.all false
set_option maxRecDepth 100000
set_option maxHeartbeats 4000000
/-! A data layer over HandS: ghost heap G, data PyData, stores of data, canonical readings. -/
namespace SQ
open PySem PySem.Spec PyProof.Rows L2

abbrev D := PyData

/-! ### what a value stands for -/
mutual
inductive Rp (G : Hp) : V → D → Prop
  | non : Rp G .non .none
  | bl (b : Bool) : Rp G (.bl b) (.bool b)
  | int (i : Int) : Rp G (.int i) (.int i)
  | str (x : Str) : Rp G (.str x) (.str x)
  | lst {a : Addr} {xs : List V} {ds : List D} : G a = some (.lst xs) → RpA G xs ds → Rp G (.ref a) (.list ds)
  | tup {a : Addr} {xs : List V} {ds : List D} : G a = some (.tup xs) → RpA G xs ds → Rp G (.ref a) (.tuple ds)
  | dic {a : Addr} {kvs : List (List Key × V)} {des : List (D × D)} : G a = some (.dT kvs) → RpD G kvs des → Rp G (.ref a) (.dict des)
inductive RpA (G : Hp) : List V → List D → Prop
  | nil : RpA G [] []
  | cons {v : V} {vs : List V} {d : D} {ds : List D} : Rp G v d → RpA G vs ds → RpA G (v :: vs) (d :: ds)
inductive RpD (G : Hp) : List (List Key × V) → List (D × D) → Prop
  | nil : RpD G [] []
  | cons {ks : List Int} {v : V} {kvs : List (List Key × V)} {d : D} {des : List (D × D)} : Rp G v d → RpD G kvs des → RpD G ((ks.map Sum.inl, v) :: kvs) ((.tuple (ks.map PyData.int), d) :: des)
end

theorem Rp.mono {G G' : Hp} (e : Same G G') {v : V} {d : D} (h : Rp G v d) : Rp G' v d :=
  @Rp.rec G (fun v d _ => Rp G' v d) (fun vs ds _ => RpA G' vs ds) (fun kvs des _ => RpD G' kvs des)
    .non .bl .int .str (fun h _ ih => .lst (e _ _ h) ih) (fun h _ ih => .tup (e _ _ h) ih) (fun h _ ih => .dic (e _ _ h) ih) .nil (fun _ _ a b => .cons a b) .nil (fun _ _ a b => .cons a b) v d h
theorem RpA.mono {G G' : Hp} (e : Same G G') {v : List V} {d : List D} (h : RpA G v d) : RpA G' v d := by
  induction d generalizing v with
  | nil => cases h; exact .nil
  | cons x xs ih => cases h with
    | cons a b => exact .cons (a.mono e) (ih b)
theorem RpD.mono {G G' : Hp} (e : Same G G') {v : List (List Key × V)} {d : List (D × D)} (h : RpD G v d) : RpD G' v d := by
  induction d generalizing v with
  | nil => cases h; exact .nil
  | cons x xs ih => cases h with
    | cons a b => exact .cons (a.mono e) (ih b)
theorem RpA.length {G : Hp} {v : List V} {d : List D} (h : RpA G v d) : v.length = d.length := by
  induction d generalizing v with
  | nil => cases h; rfl
  | cons x xs ih => cases h with
    | cons a b => rw [List.length_cons, List.length_cons, ih b]
theorem RpA.get {G : Hp} : ∀ {v : List V} {d : List D} {i : Nat} {e : D}, RpA G v d → d[i]? = some e → ∃ x, v[i]? = some x ∧ Rp G x e
  | _, [], _, _, _, h => by simp at h
  | _, _ :: _, 0, _, .cons a _, h => by simp at h; subst h; exact ⟨_, rfl, a⟩
  | _, _ :: _, i + 1, _, .cons _ b, h => by
    obtain ⟨x, h1, h2⟩ := RpA.get (i := i) b (by simpa using h)
    exact ⟨x, by simpa using h1, h2⟩
theorem RpA.get' {G : Hp} : ∀ {v : List V} {d : List D} {i : Nat} {x : V}, RpA G v d → v[i]? = some x → ∃ e, d[i]? = some e ∧ Rp G x e
  | [], _, _, _, _, h => by simp at h
  | _ :: _, _, 0, _, .cons a _, h => by simp at h; subst h; exact ⟨_, rfl, a⟩
  | _ :: _, _, i + 1, _, .cons _ b, h => by
    obtain ⟨x, h1, h2⟩ := RpA.get' (i := i) b (by simpa using h)
    exact ⟨x, by simpa using h1, h2⟩
theorem RpA.app {G : Hp} : ∀ {v w : List V} {d e : List D}, RpA G v d → RpA G w e → RpA G (v ++ w) (d ++ e)
  | _, _, _, _, .nil, h => h
  | _, _, _, _, .cons a b, h => .cons a (RpA.app b h)
theorem RpA.drop {G : Hp} : ∀ {v : List V} {d : List D} (n : Nat), RpA G v d → RpA G (v.drop n) (d.drop n)
  | _, _, 0, h => h
  | _, _, _ + 1, .nil => .nil
  | _, _, n + 1, .cons _ b => RpA.drop n b
theorem RpA.take {G : Hp} : ∀ {v : List V} {d : List D} (n : Nat), RpA G v d → RpA G (v.take n) (d.take n)
  | _, _, 0, _ => .nil
  | _, _, _ + 1, .nil => .nil
  | _, _, n + 1, .cons a b => .cons a (RpA.take n b)
theorem RpA.rep {G : Hp} {v : List V} {d : List D} (h : RpA G v d) : ∀ n : Nat, RpA G (List.replicate n v).flatten (List.replicate n d).flatten
  | 0 => .nil
  | n + 1 => by
    rw [List.replicate_succ, List.replicate_succ, List.flatten_cons, List.flatten_cons]
    exact h.app (RpA.rep h n)
theorem RpA.set {G : Hp} {x : V} {e : D} (r : Rp G x e) : ∀ {v : List V} {d : List D} (i : Nat), RpA G v d → RpA G (v.set i x) (d.set i e)
  | _, _, _, .nil => .nil
  | _, _, 0, .cons _ t => .cons r t
  | _, _, i + 1, .cons q t => .cons q (RpA.set r i t)
theorem RpA.rev {G : Hp} {v : List V} {d : List D} (h : RpA G v d) : RpA G v.reverse d.reverse := by
  induction d generalizing v with
  | nil => cases h; exact .nil
  | cons x xs ih => cases h with
    | cons a b =>
      rw [List.reverse_cons, List.reverse_cons]
      exact (ih b).app (.cons a .nil)
theorem RpA.ints {G : Hp} : ∀ {v : List V} {ns : List Int}, RpA G v (ns.map PyData.int) → v = ns.map V.int
  | [], [], _ => rfl
  | _ :: _, _ :: _, .cons a b => by
    cases a
    rw [RpA.ints b]
    rfl
theorem RpA.of_ints {G : Hp} : ∀ ns : List Int, RpA G (ns.map V.int) (ns.map PyData.int)
  | [] => .nil
  | n :: r => .cons (.int n) (RpA.of_ints r)
theorem RpA.bools {G : Hp} : ∀ {v : List V} {ns : List Bool}, RpA G v (ns.map PyData.bool) → v = ns.map V.bl
  | [], [], _ => rfl
  | _ :: _, _ :: _, .cons a b => by
    cases a
    rw [RpA.bools b]
    rfl
theorem RpD.length {G : Hp} {v : List (List Key × V)} {d : List (D × D)} (h : RpD G v d) : v.length = d.length := by
  induction d generalizing v with
  | nil => cases h; rfl
  | cons x xs ih => cases h with
    | cons a b => rw [List.length_cons, List.length_cons, ih b]

/-! ### how heaps grow -/
/-- the ghost heap lies within the heap (dicts may be locked) -/
def Le (G H : Hp) : Prop := ∀ a o, G a = some o → H a = some o ∨ ∃ kvs ob, o = HO.dT kvs ∧ H a = some (.frz ob o)
theorem Le.nn {G H : Hp} (e : Le G H) {p : Addr} (h : H p = none) : G p = none := by
  cases q : G p with
  | none => rfl
  | some o =>
    rcases e p o q with z | ⟨_, _, _, z⟩ <;> (rw [h] at z; cases z)
theorem Le.lst {G H : Hp} (e : Le G H) {a : Addr} {xs : List V} (h : G a = some (.lst xs)) : H a = some (.lst xs) := by
  rcases e a _ h with z | ⟨_, _, z, _⟩
  · exact z
  · cases z
theorem Le.tup {G H : Hp} (e : Le G H) {a : Addr} {xs : List V} (h : G a = some (.tup xs)) : H a = some (.tup xs) := by
  rcases e a _ h with z | ⟨_, _, z, _⟩
  · exact z
  · cases z
theorem Le.dic {G H : Hp} (e : Le G H) {a : Addr} {kvs : List (List Key × V)} (h : G a = some (.dT kvs)) : Rd H a (.dT kvs) := by
  rcases e a _ h with z | ⟨_, ob, _, z⟩
  · exact .inl z
  · exact .inr ⟨ob, z⟩
structure Gr (G H G2 H2 : Hp) : Prop where
  g : Same G G2
  h : ∀ a o, H a = some o → H2 a = some o ∨ (G2 a = some o ∧ ∃ kvs ob, o = HO.dT kvs ∧ H2 a = some (.frz ob o))
  le : Le G2 H2
  nw : ∀ a o, G2 a = some o → G a = some o ∨ H a = none ∨ ∃ xs, H a = some (.tup xs)
theorem Gr.refl {G H : Hp} (e : Le G H) : Gr G H G H := ⟨fun _ _ h => h, fun _ _ h => .inl h, e, fun _ _ h => .inl h⟩
theorem Gr.hs {G H G2 H2 : Hp} (r : Gr G H G2 H2) {a : Addr} {o : HO} (e : H a = some o) (hd : ∀ kvs, o ≠ HO.dT kvs) : H2 a = some o := by
  rcases r.h a o e with z | ⟨_, kvs, _, z, _⟩
  · exact z
  · exact absurd z (hd kvs)
theorem Gr.sm {G H G2 H2 : Hp} (r : Gr G H G2 H2) {a : Addr} {o : HO} (e : H a = some o) : ∃ o', H2 a = some o' := by
  rcases r.h a o e with z | ⟨_, _, _, _, z⟩ <;> exact ⟨_, z⟩
theorem Gr.nn {G H G2 H2 : Hp} (r : Gr G H G2 H2) {a : Addr} (e : H2 a = none) : H a = none := by
  cases q : H a with
  | none => rfl
  | some o =>
    obtain ⟨o', z⟩ := r.sm q
    rw [e] at z
    cases z
theorem Gr.trans {G H G1 H1 G2 H2 : Hp} (r : Gr G H G1 H1) (q : Gr G1 H1 G2 H2) : Gr G H G2 H2 := by
  refine ⟨r.g.trans q.g, fun a o e => ?_, q.le, fun a o e => ?_⟩
  · rcases r.h a o e with z | ⟨z, kvs, ob, zo, zf⟩
    · exact q.h a o z
    · refine .inr ⟨q.g _ _ z, kvs, ob, zo, ?_⟩
      exact q.hs zf (fun kvs => by intro z; cases z)
  · rcases q.nw a o e with z | z | ⟨xs, z⟩
    · exact r.nw a o z
    · exact .inr (.inl (r.nn z))
    · cases hq : H a with
      | none => exact .inr (.inl rfl)
      | some y =>
        rcases r.h a y hq with w | ⟨_, _, _, _, w⟩
        · rw [z] at w
          cases w
          exact .inr (.inr ⟨xs, rfl⟩)
        · rw [z] at w
          cases w
/-- a new object, known to the ghost heap -/
theorem Gr.new {G H : Hp} (e : Le G H) {p : Addr} {o : HO} (h : H p = none) : Gr G H (upd G p o) (upd H p o) := by
  have hg := e.nn h
  refine ⟨fun a u q => by rw [upd_ne (ne_of_none q hg)]; exact q, fun a u q => .inl (by rw [upd_ne (ne_of_none q h)]; exact q), fun a u q => ?_, fun a u q => ?_⟩
  · by_cases ha : a = p
    · subst ha
      rw [upd_same] at q ⊢
      exact .inl q
    · rw [upd_ne ha] at q ⊢
      exact e a u q
  · by_cases ha : a = p
    · subst ha
      exact .inr (.inl h)
    · rw [upd_ne ha] at q
      exact .inl q
/-- a new object that the ghost heap does not know -/
theorem Gr.newH {G H : Hp} (e : Le G H) {p : Addr} {o : HO} (h : H p = none) : Gr G H G (upd H p o) := by
  have hg := e.nn h
  refine ⟨fun _ _ q => q, fun a u q => .inl (by rw [upd_ne (ne_of_none q h)]; exact q), fun a u q => ?_, fun a u q => .inl q⟩
  rw [upd_ne (ne_of_none q hg)]
  exact e a u q
/-- a tuple that stands there already comes to be known -/
theorem Gr.tupG {G H : Hp} (e : Le G H) {q : Addr} {xs : List V} (h : H q = some (.tup xs)) : ∃ G2, Gr G H G2 H ∧ G2 q = some (.tup xs) := by
  cases hg : G q with
  | some o =>
    refine ⟨G, Gr.refl e, ?_⟩
    rcases e q o hg with z | ⟨_, _, _, z⟩
    · rw [h] at z
      cases z
      exact hg
    · rw [h] at z
      cases z
  | none =>
    refine ⟨upd G q (.tup xs), ⟨fun a u z => by rw [upd_ne (ne_of_none z hg)]; exact z, fun a u z => .inl z, fun a u z => ?_, fun a u z => ?_⟩, upd_same⟩
    · by_cases ha : a = q
      · subst ha
        rw [upd_same] at z
        cases z
        exact .inl h
      · rw [upd_ne ha] at z
        exact e a u z
    · by_cases ha : a = q
      · subst ha
        exact .inr (.inr ⟨xs, h⟩)
      · rw [upd_ne ha] at z
        exact .inl z
/-- a dict that the ghost heap knows is locked -/
theorem Gr.lock {G H : Hp} (e : Le G H) {d : Addr} {kvs : List (List Key × V)} {ob : Obj} (hg : G d = some (.dT kvs)) (h : H d = some (.dT kvs)) : Gr G H G (upd H d (.frz ob (.dT kvs))) := by
  refine ⟨fun _ _ q => q, fun a u q => ?_, fun a u q => ?_, fun a u q => .inl q⟩
  · by_cases ha : a = d
    · subst ha
      rw [h] at q
      cases q
      exact .inr ⟨hg, kvs, ob, rfl, upd_same⟩
    · exact .inl (by rw [upd_ne ha]; exact q)
  · by_cases ha : a = d
    · subst ha
      rw [hg] at q
      cases q
      exact .inr ⟨kvs, ob, rfl, upd_same⟩
    · rw [upd_ne ha]
      exact e a u q
/-- an object that neither the ghost heap nor the base knows is changed -/
theorem Gr.mut {G B G2 H : Hp} (r : Gr G B G2 H) {p : Addr} {o : HO} (hg : G2 p = none) (hb : B p = none) : Gr G B G2 (upd H p o) := by
  refine ⟨r.g, fun a u q => ?_, fun a u q => ?_, r.nw⟩
  · rw [upd_ne (ne_of_none q hb)]
    exact r.h a u q
  · rw [upd_ne (ne_of_none q hg)]
    exact r.le a u q

/-! ### stores -/
inductive SL where
  | no | dat (d : D) | own (d : D)
abbrev Store := List SL
/-- a list or a dict at a, its items known to G -/
def OwnAt (G H : Hp) (a : Addr) : D → Prop
  | .list ds => ∃ xs, H a = some (.lst xs) ∧ RpA G xs ds
  | .dict des => ∃ kvs, H a = some (.dT kvs) ∧ RpD G kvs des
  | _ => False
theorem OwnAt.step {G H G2 H2 : Hp} (r : Gr G H G2 H2) {a : Addr} {d : D} (o : OwnAt G H a d) (hg : G a = none) : OwnAt G2 H2 a d ∧ G2 a = none := by
  have key : ∀ u, H a = some u → (∀ xs, u ≠ HO.tup xs) → H2 a = some u ∧ G2 a = none := fun u hu ht => by
    have g2 : G2 a = none := by
      cases q : G2 a with
      | none => rfl
      | some w =>
        rcases r.nw a w q with z | z | ⟨xs, z⟩
        · rw [hg] at z; cases z
        · rw [hu] at z; cases z
        · rw [hu] at z; cases z; exact absurd rfl (ht xs)
    refine ⟨?_, g2⟩
    rcases r.h a u hu with z | ⟨z, _⟩
    · exact z
    · rw [g2] at z; cases z
  cases d with
  | list ds =>
    obtain ⟨xs, h1, h2⟩ := o
    obtain ⟨k1, k2⟩ := key _ h1 (fun xs z => by cases z)
    exact ⟨⟨xs, k1, h2.mono r.g⟩, k2⟩
  | dict des =>
    obtain ⟨kvs, h1, h2⟩ := o
    obtain ⟨k1, k2⟩ := key _ h1 (fun xs z => by cases z)
    exact ⟨⟨kvs, k1, h2.mono r.g⟩, k2⟩
  | none => exact o.elim
  | bool b => exact o.elim
  | int i => exact o.elim
  | str x => exact o.elim
  | tuple ds => exact o.elim
theorem OwnAt.there {G H : Hp} {a : Addr} {d : D} (o : OwnAt G H a d) : ∃ u, H a = some u := by
  cases d with
  | list ds => obtain ⟨xs, h, _⟩ := o; exact ⟨_, h⟩
  | dict ds => obtain ⟨xs, h, _⟩ := o; exact ⟨_, h⟩
  | none => exact o.elim
  | bool b => exact o.elim
  | int i => exact o.elim
  | str x => exact o.elim
  | tuple ds => exact o.elim

structure SR (G0 B G H : Hp) (σ : L2.St) (τ : Store) : Prop where
  gr : Gr G0 B G H
  dat : ∀ (i : Nat) (d : D), τ[i]? = some (SL.dat d) → ∃ v, σ[i]? = some (some v) ∧ Rp G v d
  own : ∀ (i : Nat) (d : D), τ[i]? = some (SL.own d) → ∃ a, σ[i]? = some (some (V.ref a)) ∧ OwnAt G H a d ∧ G a = none ∧ B a = none
  one : ∀ (i j : Nat) (d e : D) (a : Addr), τ[i]? = some (SL.own d) → τ[j]? = some (SL.own e) → σ[i]? = some (some (V.ref a)) → σ[j]? = some (some (V.ref a)) → i = j
  len : σ.length = τ.length
section
variable {G0 B G H G2 H2 : Hp} {σ : L2.St} {τ : Store}
theorem SR.step (s : SR G0 B G H σ τ) (r : Gr G H G2 H2) : SR G0 B G2 H2 σ τ := by
  refine ⟨s.gr.trans r, fun i d h => ?_, fun i d h => ?_, s.one, s.len⟩
  · obtain ⟨v, h1, h2⟩ := s.dat i d h
    exact ⟨v, h1, h2.mono r.g⟩
  · obtain ⟨a, h1, h2, h3, h4⟩ := s.own i d h
    obtain ⟨k1, k2⟩ := h2.step r h3
    exact ⟨a, h1, k1, k2, h4⟩
theorem get_set {α : Type} {l : List α} {i j : Nat} {x y : α} (h : (l.set i x)[j]? = some y) : (j = i ∧ y = x ∧ i < l.length) ∨ (j ≠ i ∧ l[j]? = some y) := by
  by_cases e : i = j
  · subst e
    have hl : i < l.length := by
      have := (List.getElem?_eq_some_iff.mp h).1
      simpa using this
    rw [List.getElem?_set_self hl] at h
    exact .inl ⟨rfl, (Option.some.inj h).symm, hl⟩
  · rw [List.getElem?_set_ne e] at h
    exact .inr ⟨fun z => e z.symm, h⟩
theorem SR.set_dat (s : SR G0 B G H σ τ) {v : V} {d : D} (i : Nat) (r : Rp G v d) : SR G0 B G H (σ.set i (some v)) (τ.set i (SL.dat d)) := by
  refine ⟨s.gr, fun j e h => ?_, fun j e h => ?_, fun j k d e a h1 h2 h3 h4 => ?_, by rw [List.length_set, List.length_set]; exact s.len⟩
  · rcases get_set h with ⟨rfl, z, hl⟩ | ⟨hn, h⟩
    · cases z
      exact ⟨v, List.getElem?_set_self (by rw [s.len]; exact hl), r⟩
    · rw [List.getElem?_set_ne (fun z => hn z.symm)]
      exact s.dat j e h
  · rcases get_set h with ⟨_, z, _⟩ | ⟨hn, h⟩
    · cases z
    · rw [List.getElem?_set_ne (fun z => hn z.symm)]
      exact s.own j e h
  · rcases get_set h1 with ⟨_, z, _⟩ | ⟨hj, h1⟩
    · cases z
    · rcases get_set h2 with ⟨_, z, _⟩ | ⟨hk, h2⟩
      · cases z
      · rw [List.getElem?_set_ne (fun z => hj z.symm)] at h3
        rw [List.getElem?_set_ne (fun z => hk z.symm)] at h4
        exact s.one j k d e a h1 h2 h3 h4
theorem SR.set_no (s : SR G0 B G H σ τ) (v : Option V) (i : Nat) : SR G0 B G H (σ.set i v) (τ.set i .no) := by
  refine ⟨s.gr, fun j e h => ?_, fun j e h => ?_, fun j k d e a h1 h2 h3 h4 => ?_, by rw [List.length_set, List.length_set]; exact s.len⟩
  · rcases get_set h with ⟨rfl, z, hl⟩ | ⟨hn, h⟩
    · cases z
    · rw [List.getElem?_set_ne (fun z => hn z.symm)]
      exact s.dat j e h
  · rcases get_set h with ⟨_, z, _⟩ | ⟨hn, h⟩
    · cases z
    · rw [List.getElem?_set_ne (fun z => hn z.symm)]
      exact s.own j e h
  · rcases get_set h1 with ⟨_, z, _⟩ | ⟨hj, h1⟩
    · cases z
    · rcases get_set h2 with ⟨_, z, _⟩ | ⟨hk, h2⟩
      · cases z
      · rw [List.getElem?_set_ne (fun z => hj z.symm)] at h3
        rw [List.getElem?_set_ne (fun z => hk z.symm)] at h4
        exact s.one j k d e a h1 h2 h3 h4
/-- a slot gets an object of its own: one that no other slot has -/
theorem SR.set_own (s : SR G0 B G H σ τ) {p : Addr} {d : D} (i : Nat) (o : OwnAt G H p d) (hg : G p = none) (hb : B p = none)
    (hn : ∀ (j : Nat) (e : D) (a : Addr), τ[j]? = some (SL.own e) → σ[j]? = some (some (V.ref a)) → a ≠ p) : SR G0 B G H (σ.set i (some (V.ref p))) (τ.set i (SL.own d)) := by
  refine ⟨s.gr, fun j e h => ?_, fun j e h => ?_, fun j k d' e a h1 h2 h3 h4 => ?_, by rw [List.length_set, List.length_set]; exact s.len⟩
  · rcases get_set h with ⟨rfl, z, hl⟩ | ⟨hn, h⟩
    · cases z
    · rw [List.getElem?_set_ne (fun z => hn z.symm)]
      exact s.dat j e h
  · rcases get_set h with ⟨rfl, z, hl⟩ | ⟨hn, h⟩
    · cases z
      exact ⟨p, List.getElem?_set_self (by rw [s.len]; exact hl), o, hg, hb⟩
    · rw [List.getElem?_set_ne (fun z => hn z.symm)]
      exact s.own j e h
  · rcases get_set h1 with ⟨e1, z, hl⟩ | ⟨hj, g1⟩
    · rcases get_set h2 with ⟨e2, _, _⟩ | ⟨hk, g2⟩
      · rw [e1, e2]
      · subst e1
        rw [List.getElem?_set_self (by rw [s.len]; exact hl)] at h3
        rw [List.getElem?_set_ne (fun z => hk z.symm)] at h4
        cases h3
        exact absurd rfl (hn k e _ g2 h4)
    · rw [List.getElem?_set_ne (fun z => hj z.symm)] at h3
      rcases get_set h2 with ⟨e2, _, hl⟩ | ⟨hk, g2⟩
      · subst e2
        rw [List.getElem?_set_self (by rw [s.len]; exact hl)] at h4
        cases h4
        exact absurd rfl (hn j d' _ g1 h3)
      · rw [List.getElem?_set_ne (fun z => hk z.symm)] at h4
        exact s.one j k d' e a g1 g2 h3 h4
/-- an owned object is changed -/
theorem SR.mut (s : SR G0 B G H σ τ) {i : Nat} {p : Addr} {d d' : D} {u : HO} (hτ : τ[i]? = some (SL.own d)) (hσ : σ[i]? = some (some (V.ref p))) (hu : OwnAt G (upd H p u) p d') : SR G0 B G (upd H p u) σ (τ.set i (.own d')) := by
  obtain ⟨a, h1, h2, h3, h4⟩ := s.own i d hτ
  rw [hσ] at h1
  cases h1
  have hl : i < τ.length := (List.getElem?_eq_some_iff.mp hτ).1
  refine ⟨s.gr.mut h3 h4, fun j e h => ?_, fun j e h => ?_, fun j k d e a h1 h2 h3 h4 => ?_, by rw [List.length_set]; exact s.len⟩
  · rcases get_set h with ⟨_, z, _⟩ | ⟨hn, h⟩
    · cases z
    · exact s.dat j e h
  · rcases get_set h with ⟨rfl, z, _⟩ | ⟨hn, h⟩
    · cases z
      exact ⟨p, hσ, hu, h3, h4⟩
    · obtain ⟨a, k1, k2, k3, k4⟩ := s.own j e h
      refine ⟨a, k1, ?_, k3, k4⟩
      have hap : a ≠ p := fun z => hn (s.one j i e d a h hτ k1 (by rw [z]; exact hσ))
      cases e with
      | list ds => obtain ⟨xs, q1, q2⟩ := k2; exact ⟨xs, by rw [upd_ne hap]; exact q1, q2⟩
      | dict ds => obtain ⟨xs, q1, q2⟩ := k2; exact ⟨xs, by rw [upd_ne hap]; exact q1, q2⟩
      | none => exact k2.elim
      | bool b => exact k2.elim
      | int i => exact k2.elim
      | str x => exact k2.elim
      | tuple ds => exact k2.elim
  · have e1 : ∃ d, τ[j]? = some (SL.own d) := by
      rcases get_set h1 with ⟨rfl, _, _⟩ | ⟨_, h1⟩
      · exact ⟨_, hτ⟩
      · exact ⟨_, h1⟩
    have e2 : ∃ d, τ[k]? = some (SL.own d) := by
      rcases get_set h2 with ⟨rfl, _, _⟩ | ⟨_, h2⟩
      · exact ⟨_, hτ⟩
      · exact ⟨_, h2⟩
    obtain ⟨_, e1⟩ := e1
    obtain ⟨_, e2⟩ := e2
    exact s.one j k _ _ a e1 e2 h3 h4
/-- an owned object is given to the ghost heap -/
theorem SR.commit (s : SR G0 B G H σ τ) {i : Nat} {d : D} (hτ : τ[i]? = some (SL.own d)) : ∃ G', SR G0 B G' H σ (τ.set i (SL.dat d)) ∧ Same G G' := by
  obtain ⟨p, hσ, h2, hgp, h4⟩ := s.own i d hτ
  obtain ⟨u, hu⟩ := h2.there
  have hl : i < τ.length := (List.getElem?_eq_some_iff.mp hτ).1
  have sm : Same G (upd G p u) := fun a o q => by
    rw [upd_ne (ne_of_none q hgp)]
    exact q
  have ud : (∃ xs, u = .lst xs) ∨ ∃ kvs, u = .dT kvs := by
    cases d with
    | list ds => obtain ⟨xs, q1, _⟩ := h2; rw [hu] at q1; cases q1; exact .inl ⟨_, rfl⟩
    | dict ds => obtain ⟨xs, q1, _⟩ := h2; rw [hu] at q1; cases q1; exact .inr ⟨_, rfl⟩
    | none => exact h2.elim
    | bool b => exact h2.elim
    | int i => exact h2.elim
    | str x => exact h2.elim
    | tuple ds => exact h2.elim
  refine ⟨upd G p u, ⟨⟨s.gr.g.trans sm, fun a o q => ?_, fun a o q => ?_, fun a o q => ?_⟩, fun j e h => ?_, fun j e h => ?_, fun j k d' e a h1 h2 h3 h4 => ?_, by rw [List.length_set]; exact s.len⟩, sm⟩
  · rcases s.gr.h a o q with z | ⟨z1, z2⟩
    · exact .inl z
    · exact .inr ⟨sm _ _ z1, z2⟩
  · by_cases ha : a = p
    · subst ha
      rw [upd_same] at q
      cases q
      exact .inl hu
    · rw [upd_ne ha] at q
      exact s.gr.le a o q
  · by_cases ha : a = p
    · subst ha
      exact .inr (.inl h4)
    · rw [upd_ne ha] at q
      exact s.gr.nw a o q
  · rcases get_set h with ⟨rfl, z, _⟩ | ⟨hn, h⟩
    · cases z
      refine ⟨_, hσ, ?_⟩
      cases d with
      | list ds => obtain ⟨xs, q1, q2⟩ := h2; rw [hu] at q1; cases q1; exact .lst upd_same (q2.mono sm)
      | dict ds => obtain ⟨xs, q1, q2⟩ := h2; rw [hu] at q1; cases q1; exact .dic upd_same (q2.mono sm)
      | none => exact h2.elim
      | bool b => exact h2.elim
      | int i => exact h2.elim
      | str x => exact h2.elim
      | tuple ds => exact h2.elim
    · obtain ⟨v, k1, k2⟩ := s.dat j e h
      exact ⟨v, k1, k2.mono sm⟩
  · rcases get_set h with ⟨_, z, _⟩ | ⟨hn, h⟩
    · cases z
    · obtain ⟨a, k1, k2, k3, k4⟩ := s.own j e h
      have hap : a ≠ p := fun z => hn (s.one j i e d a h hτ k1 (by rw [z]; exact hσ))
      refine ⟨a, k1, ?_, by rw [upd_ne hap]; exact k3, k4⟩
      cases e with
      | list ds => obtain ⟨xs, q1, q2⟩ := k2; exact ⟨xs, q1, q2.mono sm⟩
      | dict ds => obtain ⟨xs, q1, q2⟩ := k2; exact ⟨xs, q1, q2.mono sm⟩
      | none => exact k2.elim
      | bool b => exact k2.elim
      | int i => exact k2.elim
      | str x => exact k2.elim
      | tuple ds => exact k2.elim
  · rcases get_set h1 with ⟨_, z, _⟩ | ⟨hj, h1⟩
    · cases z
    · rcases get_set h2 with ⟨_, z, _⟩ | ⟨hk, h2⟩
      · cases z
      · exact s.one j k d' e a h1 h2 h3 h4
/-- an own slot's object is unlike any that is new -/
theorem SR.own_ne (s : SR G0 B G H σ τ) {p : Addr} (hp : H p = none) : ∀ (j : Nat) (e : D) (a : Addr), τ[j]? = some (SL.own e) → σ[j]? = some (some (V.ref a)) → a ≠ p := fun j e a h1 h2 => by
  obtain ⟨b, k1, k2, _⟩ := s.own j e h1
  rw [h2] at k1
  cases k1
  obtain ⟨u, hu⟩ := k2.there
  exact ne_of_none hu hp
/-- another base: what stands now, but for what is owned -/
theorem SR.rebase (s : SR G0 B G H σ τ) : ∃ B', SR G B' G H σ τ ∧ (∀ a o, H a = some o → (∀ kvs xs, o ≠ HO.dT kvs ∧ o ≠ HO.lst xs) → B' a = some o) ∧
    (∀ a, B' a = none → B a = none) ∧ ∀ G' H', Gr G B' G' H' → Gr G0 B G' H' := by
  classical
  refine ⟨fun a => if (∃ (i : Nat) (d : D), τ[i]? = some (SL.own d) ∧ σ[i]? = some (some (V.ref a))) then none else H a, ⟨⟨fun _ _ q => q, fun a o q => ?_, s.gr.le, fun a o q => .inl q⟩, s.dat, fun i d h => ?_, s.one, s.len⟩, fun a o q hn => ?_, fun a q => ?_, fun G' H' r => ⟨s.gr.g.trans r.g, fun a o q => ?_, r.le, fun a o q => ?_⟩⟩
  · replace q : (if (∃ (i : Nat) (d : D), τ[i]? = some (SL.own d) ∧ σ[i]? = some (some (V.ref a))) then none else H a) = some o := q
    split at q
    · cases q
    · exact .inl q
  · obtain ⟨a, h1, h2, h3, _⟩ := s.own i d h
    exact ⟨a, h1, h2, h3, if_pos ⟨i, d, h, h1⟩⟩
  · show (if (∃ (i : Nat) (d : D), τ[i]? = some (SL.own d) ∧ σ[i]? = some (some (V.ref a))) then none else H a) = some o
    rw [if_neg]
    · exact q
    · rintro ⟨i, d, h1, h2⟩
      obtain ⟨b, k1, k2, _⟩ := s.own i d h1
      rw [h2] at k1
      cases k1
      cases d with
      | list ds => obtain ⟨xs, z, _⟩ := k2; rw [q] at z; cases z; exact (hn [] xs).2 rfl
      | dict ds => obtain ⟨xs, z, _⟩ := k2; rw [q] at z; cases z; exact (hn xs []).1 rfl
      | none => exact k2.elim
      | bool b => exact k2.elim
      | int i => exact k2.elim
      | str x => exact k2.elim
      | tuple ds => exact k2.elim
  · replace q : (if (∃ (i : Nat) (d : D), τ[i]? = some (SL.own d) ∧ σ[i]? = some (some (V.ref a))) then none else H a) = none := q
    by_cases nb : ∃ (i : Nat) (d : D), τ[i]? = some (SL.own d) ∧ σ[i]? = some (some (V.ref a))
    · obtain ⟨i, d, h1, h2⟩ := nb
      obtain ⟨b, k1, _, _, k4⟩ := s.own i d h1
      rw [h2] at k1
      cases k1
      exact k4
    · rw [if_neg nb] at q
      exact s.gr.nn q
  · have nb : ¬ ∃ (i : Nat) (d : D), τ[i]? = some (SL.own d) ∧ σ[i]? = some (some (V.ref a)) := by
      rintro ⟨i, d, h1, h2⟩
      obtain ⟨b, k1, _, _, k4⟩ := s.own i d h1
      rw [h2] at k1
      cases k1
      rw [k4] at q
      cases q
    rcases s.gr.h a o q with z | ⟨z, kvs, ob, zo, zf⟩
    · exact r.h a o ((if_neg nb).trans z)
    · exact .inr ⟨r.g _ _ z, kvs, ob, zo, r.hs ((if_neg nb).trans zf) (fun kvs => by intro z; cases z)⟩
  · rcases r.nw a o q with z | z | ⟨xs, z⟩
    · exact s.gr.nw a o z
    · replace z : (if (∃ (i : Nat) (d : D), τ[i]? = some (SL.own d) ∧ σ[i]? = some (some (V.ref a))) then none else H a) = none := z
      by_cases nb : ∃ (i : Nat) (d : D), τ[i]? = some (SL.own d) ∧ σ[i]? = some (some (V.ref a))
      · obtain ⟨i, d, h1, h2⟩ := nb
        obtain ⟨b, k1, _, _, k4⟩ := s.own i d h1
        rw [h2] at k1
        cases k1
        exact .inr (.inl k4)
      · rw [if_neg nb] at z
        exact .inr (.inl (s.gr.nn z))
    · replace z : (if (∃ (i : Nat) (d : D), τ[i]? = some (SL.own d) ∧ σ[i]? = some (some (V.ref a))) then none else H a) = some (.tup xs) := z
      split at z
      · cases z
      · cases hq : B a with
        | none => exact .inr (.inl rfl)
        | some y =>
          rcases s.gr.h a y hq with w | ⟨_, _, _, _, w⟩
          · rw [z] at w
            cases w
            exact .inr (.inr ⟨xs, rfl⟩)
          · rw [z] at w
            cases w
end
theorem Gr.commit {G B G2 H : Hp} (r : Gr G B G2 H) {p : Addr} {o : HO} (hb : B p = none) (hg : G2 p = none) (h : H p = some o) : Gr G B (upd G2 p o) H := by
  refine ⟨fun a u q => ?_, fun a u q => ?_, fun a u q => ?_, fun a u q => ?_⟩
  · have z := r.g a u q
    rw [upd_ne (ne_of_none z hg)]
    exact z
  · rcases r.h a u q with z | ⟨z, w⟩
    · exact .inl z
    · exact .inr ⟨by rw [upd_ne (ne_of_none z hg)]; exact z, w⟩
  · by_cases ha : a = p
    · subst ha
      rw [upd_same] at q
      cases q
      exact .inl h
    · rw [upd_ne ha] at q
      exact r.le a u q
  · by_cases ha : a = p
    · subst ha
      exact .inr (.inl hb)
    · rw [upd_ne ha] at q
      exact r.nw a u q
/-- an object that no slot has is changed -/
theorem SR.mutX {G0 B G H : Hp} {σ : L2.St} {τ : Store} (s : SR G0 B G H σ τ) {p : Addr} {u : HO} (hg : G p = none) (hb : B p = none) (hn : ∀ (j : Nat) (e : D) (a : Addr), τ[j]? = some (SL.own e) → σ[j]? = some (some (V.ref a)) → a ≠ p) : SR G0 B G (upd H p u) σ τ := by
  refine ⟨s.gr.mut hg hb, s.dat, fun j e h => ?_, s.one, s.len⟩
  obtain ⟨a, k1, k2, k3, k4⟩ := s.own j e h
  refine ⟨a, k1, ?_, k3, k4⟩
  have hap := hn j e a h k1
  cases e with
  | list ds => obtain ⟨xs, q1, q2⟩ := k2; exact ⟨xs, by rw [upd_ne hap]; exact q1, q2⟩
  | dict ds => obtain ⟨xs, q1, q2⟩ := k2; exact ⟨xs, by rw [upd_ne hap]; exact q1, q2⟩
  | none => exact k2.elim
  | bool b => exact k2.elim
  | int i => exact k2.elim
  | str x => exact k2.elim
  | tuple ds => exact k2.elim
def wipeS (τ : Store) : List Nat → Store
  | [] => τ
  | v :: vs => (wipeS τ vs).set v .no
theorem SR.wipe {G0 B G H : Hp} {σ : L2.St} {τ : Store} (s : SR G0 B G H σ τ) : ∀ vs : List Nat, SR G0 B G H (L2.wipe σ vs) (wipeS τ vs)
  | [] => s
  | v :: vs => (s.wipe vs).set_no none v
end SQ
end
section
set_option Elab.async false
set_option linter.all false
set_option maxRecDepth 100000
set_option maxHeartbeats 4000000
/-! Canonical readings of expressions and their rules. -/
namespace SQ
open PySem PySem.Spec PyProof.Rows L2

abbrev FE := Store → Option D
abbrev FT := Store → Option Bool
abbrev FA := Store → Option (List D)
abbrev FI := Store → Option (Option Int)

def T (f : FE) : TE := fun σ H Q => ∃ (G0 B G : Hp) (τ : Store) (d : D), SR G0 B G H σ τ ∧ f τ = some d ∧ ∀ v G2 H2, Gr G H G2 H2 → Rp G2 v d → Q v H2
/-- a new object of one's own -/
def To (f : FE) : TE := fun σ H Q => ∃ (G0 B G : Hp) (τ : Store) (d : D), SR G0 B G H σ τ ∧ f τ = some d ∧ ∀ p G2 H2, Gr G H G2 H2 → H p = none → G2 p = none → OwnAt G2 H2 p d → Q (.ref p) H2
def Tt (f : FT) : TT := fun σ H Q => ∃ (G0 B G : Hp) (τ : Store) (b : Bool), SR G0 B G H σ τ ∧ f τ = some b ∧ ∀ G2 H2, Gr G H G2 H2 → Q b H2
def Ta (f : FA) : TA := fun σ H Q => ∃ (G0 B G : Hp) (τ : Store) (ds : List D), SR G0 B G H σ τ ∧ f τ = some ds ∧ ∀ vs G2 H2, Gr G H G2 H2 → RpA G2 vs ds → Q vs H2
def Tp (f : FI) : TO := fun σ H Q => ∃ (G0 B G : Hp) (τ : Store) (o : Option Int), SR G0 B G H σ τ ∧ f τ = some o ∧ ∀ G2 H2, Gr G H G2 H2 → Q o H2

/-! ### plain functions -/
def fV (i : Nat) : FE := fun τ => match τ[i]? with
  | some (.dat d) => some d
  | _ => none
def fC (d : D) : FE := fun _ => some d
def f1 (g : D → Option D) (fa : FE) : FE := fun τ => (fa τ).bind g
def f2 (g : D → D → Option D) (fa fb : FE) : FE := fun τ => (fa τ).bind fun d => (fb τ).bind fun e => g d e
def fAn : FA := fun _ => some []
def fAc (fa : FE) (fr : FA) : FA := fun τ => (fa τ).bind fun d => (fr τ).bind fun ds => some (d :: ds)
def fcall (g : List D → Option D) (fa : FA) : FE := fun τ => (fa τ).bind g
def fTb (f : FE) : FT := fun τ => (f τ).bind fun
  | .bool b => some b
  | _ => none
def fAnd (f g : FT) : FT := fun τ => (f τ).bind fun b => if b = true then g τ else some false
def fOr (f g : FT) : FT := fun τ => (f τ).bind fun b => if b = true then some true else g τ
def fNot (f : FT) : FT := fun τ => (f τ).bind fun b => some (!b)
def fAndV (f g : FE) : FE := fun τ => (f τ).bind fun
  | .bool b => if b = true then g τ else some (.bool false)
  | _ => none
def fOrV (f g : FE) : FE := fun τ => (f τ).bind fun
  | .bool b => if b = true then some (.bool true) else g τ
  | _ => none
def fNotV (f : FE) : FE := fun τ => (f τ).bind fun
  | .bool b => some (.bool (!b))
  | _ => none
def fIf (c : FT) (f g : FE) : FE := fun τ => (c τ).bind fun b => if b = true then f τ else g τ
def addD : D → D → Option D
  | .int i, .int j => some (.int (i + j))
  | .list xs, .list ys => if xs.length + ys.length ≤ 16777216 then some (.list (xs ++ ys)) else none
  | .tuple xs, .tuple ys => if xs.length + ys.length ≤ 16777216 then some (.tuple (xs ++ ys)) else none
  | _, _ => none
def subD : D → D → Option D
  | .int i, .int j => some (.int (i - j))
  | _, _ => none
def mulD : D → D → Option D
  | .int i, .int j => if -(2 ^ 64) < i ∧ i < 2 ^ 64 then some (.int (i * j)) else none
  | .list xs, .int k => if 0 ≤ k ∧ k ≤ 1000 ∧ xs.length ≤ 1000 then some (.list (List.replicate k.toNat xs).flatten) else none
  | _, _ => none
def negD : D → Option D
  | .int i => some (.int (-i))
  | _ => none
def cmpI (p : Int → Int → Bool) : D → D → Option D
  | .int i, .int j => some (.bool (p i j))
  | _, _ => none
def ltI : Int → Int → Bool := fun i j => decide (i < j)
def leI : Int → Int → Bool := fun i j => decide (i ≤ j)
def gtI : Int → Int → Bool := fun i j => decide (j < i)
def geI : Int → Int → Bool := fun i j => decide (j ≤ i)
def eqD (d e : D) : Option D := if (SeqAt.shaped d && SeqAt.shaped e) = true then some (.bool (PyData.eqv d e)) else none
def neD (d e : D) : Option D := if (SeqAt.shaped d && SeqAt.shaped e) = true then some (.bool (!PyData.eqv d e)) else none
/-- a < b < c -/
def fChain (g g' : D → D → Option D) (fa fb fc : FE) : FE := fun τ => (fa τ).bind fun a => (fb τ).bind fun b => (g a b).bind fun
  | .bool k => if k = true then (fc τ).bind fun c => g' b c else some (.bool false)
  | _ => none
def lenD : List D → Option D
  | [.list xs] => some (.int (xs.length : Int))
  | [.tuple xs] => some (.int (xs.length : Int))
  | _ => none
def boolsOf : List D → Option (List Bool)
  | [] => some []
  | .bool b :: r => (boolsOf r).bind fun bs => some (b :: bs)
  | _ => none
def intsOf : List D → Option (List Int)
  | [] => some []
  | .int b :: r => (intsOf r).bind fun bs => some (b :: bs)
  | _ => none
def allD : List D → Option D
  | [.list xs] => (boolsOf xs).bind fun bs => some (.bool (bs.all id))
  | _ => none
def sumD : List D → Option D
  | [.list xs] => (intsOf xs).bind fun bs => some (.int bs.sum)
  | _ => none
def tupleD : List D → Option D
  | [.list xs] => some (.tuple xs)
  | [.tuple xs] => some (.tuple xs)
  | _ => none
def tyD : D → String
  | .none => "NoneType" | .bool _ => "bool" | .int _ => "int" | .str _ => "str" | .list _ => "list" | .tuple _ => "tuple" | .dict _ => "dict"
def isiD (c : String) : D → Option D := fun d => (kitB (tyD d) c).bind fun b => some (.bool b)
def ixD : D → D → Option D
  | .list xs, .int i => atI xs i
  | .tuple xs, .int i => atI xs i
  | _, _ => none
def cutD (xs : List D) (lo hi : Option Int) : List D := (xs.drop (HT.sIx xs.length 0 lo)).take (HT.sIx xs.length xs.length hi - HT.sIx xs.length 0 lo)
def fSl (fe : FE) (fl fh : FI) : FE := fun τ => (fe τ).bind fun d => (fl τ).bind fun lo => (fh τ).bind fun hi => match d with
  | .list xs => some (.list (cutD xs lo hi))
  | .tuple xs => some (.tuple (cutD xs lo hi))
  | _ => none
def fPn : FI := fun _ => some none
def fPs (f : FE) : FI := fun τ => (f τ).bind fun
  | .int i => some (some i)
  | _ => none
def mkTup (ds : List D) : Option D := if ds.length ≤ 1000 then some (.tuple ds) else none
def mkLst (ds : List D) : Option D := if ds.length ≤ 1000 then some (.list ds) else none

theorem bnd {α β : Type} {o : Option α} {f : α → Option β} {b : β} (h : o.bind f = some b) : ∃ a, o = some a ∧ f a = some b := Option.bind_eq_some_iff.mp h

theorem new_lst {G H : Hp} {p : Addr} {xs : List V} {ds : List D} {Q : VK} (le : Le G H) (hp : H p = none) (a : RpA G xs ds) (q : ∀ z G2 H2, Gr G H G2 H2 → Rp G2 z (.list ds) → Q z H2) : Q (.ref p) (upd H p (.lst xs)) :=
  q _ _ _ (Gr.new le hp) (.lst upd_same (a.mono (Gr.new (o := .lst xs) le hp).g))
theorem new_tup {G H : Hp} {p : Addr} {xs : List V} {ds : List D} {Q : VK} (le : Le G H) (hp : H p = none) (a : RpA G xs ds) (q : ∀ z G2 H2, Gr G H G2 H2 → Rp G2 z (.tuple ds) → Q z H2) : Q (.ref p) (upd H p (.tup xs)) :=
  q _ _ _ (Gr.new le hp) (.tup upd_same (a.mono (Gr.new (o := .tup xs) le hp).g))
/-! ### what an operation on values must do -/
def OkR (r : R2) (g : D → D → Option D) : Prop := ∀ (G H : Hp) (v w : V) (d e k : D) (Q : VK), Le G H → Rp G v d → Rp G w e → g d e = some k → (∀ z G2 H2, Gr G H G2 H2 → Rp G2 z k → Q z H2) → r v w H Q
def OkU (r : V → Hp → VK → Prop) (g : D → Option D) : Prop := ∀ (G H : Hp) (v : V) (d k : D) (Q : VK), Le G H → Rp G v d → g d = some k → (∀ z G2 H2, Gr G H G2 H2 → Rp G2 z k → Q z H2) → r v H Q
def OkC (r : List V → Hp → VK → Prop) (g : List D → Option D) : Prop := ∀ (G H : Hp) (vs : List V) (ds : List D) (k : D) (Q : VK), Le G H → RpA G vs ds → g ds = some k → (∀ z G2 H2, Gr G H G2 H2 → Rp G2 z k → Q z H2) → r vs H Q

section
variable {X : Cx} {e a b c : Expr} {es : List Expr} {pos : Pos} {fa fb fc fe : FE} {fr : FA} {σ : L2.St} {H : Hp} {Q : VK}
theorem PE.im {t t' : TE} (h : PE X e t) (k : ∀ σ H Q, t' σ H Q → t σ H Q) : PE X e t' := ⟨fun pins s σ H Q I hw => h.run pins s σ H Q I (k σ H Q hw)⟩
theorem PT.im {t t' : TT} (h : PT X e t) (k : ∀ σ H Q, t' σ H Q → t σ H Q) : PT X e t' := ⟨fun pins s σ H Q I hw => h.run pins s σ H Q I (k σ H Q hw)⟩
theorem PW.im {t t' : TT} (h : PW X e t) (k : ∀ σ H Q, t' σ H Q → t σ H Q) : PW X e t' := ⟨fun wh pins s σ H Q I hw => h.run wh pins s σ H Q I (k σ H Q hw)⟩
theorem PA.im {t t' : TA} (h : PA X es t) (k : ∀ σ H Q, t' σ H Q → t σ H Q) : PA X es t' := ⟨fun pos pins s σ H Q I hw => h.run pos pins s σ H Q I (k σ H Q hw)⟩
theorem PO.im {o : Option Expr} {t t' : TO} (h : PO X o t) (k : ∀ σ H Q, t' σ H Q → t σ H Q) : PO X o t' := ⟨fun pins s σ H Q I hw => h.run pins s σ H Q I (k σ H Q hw)⟩

theorem T.cst {d : D} {v : V} (h : ∀ G, Rp G v d) : T (fC d) σ H Q → tC v σ H Q := fun ⟨_, _, G, _, _, s, hf, q⟩ => by
  cases hf
  exact q v G H (Gr.refl s.gr.le) (h G)
theorem T.op {r : R2} {g : D → D → Option D} (h : OkR r g) : T (f2 g fa fb) σ H Q → tOp r (T fa) (T fb) σ H Q := fun ⟨G0, B, G, τ, k, s, hf, q⟩ => by
  obtain ⟨d, hd, hf⟩ := bnd hf
  obtain ⟨e, he, hk⟩ := bnd hf
  exact ⟨G0, B, G, τ, d, s, hd, fun v G1 H1 g1 r1 => ⟨G0, B, G1, τ, e, s.step g1, he, fun w G2 H2 g2 r2 => h G2 H2 v w d e k Q g2.le (r1.mono g2.g) r2 hk fun z G3 H3 g3 r3 => q z G3 H3 ((g1.trans g2).trans g3) r3⟩⟩
theorem T.un {r : V → Hp → VK → Prop} {g : D → Option D} (h : OkU r g) : T (f1 g fa) σ H Q → tUn r (T fa) σ H Q := fun ⟨G0, B, G, τ, k, s, hf, q⟩ => by
  obtain ⟨d, hd, hk⟩ := bnd hf
  exact ⟨G0, B, G, τ, d, s, hd, fun v G1 H1 g1 r1 => h G1 H1 v d k Q g1.le r1 hk fun z G3 H3 g3 r3 => q z G3 H3 (g1.trans g3) r3⟩
theorem T.cb {r : List V → Hp → VK → Prop} {g : List D → Option D} (h : OkC r g) : T (fcall g fr) σ H Q → tCB r (Ta fr) σ H Q := fun ⟨G0, B, G, τ, k, s, hf, q⟩ => by
  obtain ⟨d, hd, hk⟩ := bnd hf
  exact ⟨G0, B, G, τ, d, s, hd, fun v G1 H1 g1 r1 => h G1 H1 v d k Q g1.le r1 hk fun z G3 H3 g3 r3 => q z G3 H3 (g1.trans g3) r3⟩

/-! ### names, constants -/
theorem r_var (i : Nat) {x : Str} (hN : X.N[i]? = some x := by rfl) (hv : Vis X.env.scope x := by first | exact Or.inl rfl | exact Or.inr (Or.inl rfl) | exact Or.inr (Or.inr rfl)) (hd : (x == ("__debug__" : Str)) = false := by decide)
    (hcd : (x == ("__classdict__" : Str)) = false := by decide) : PE X (.Name x pos) (T (fV i)) := PE.im (pe_var hN hv hd hcd) fun σ H Q ⟨_, _, G, τ, d, s, hf, q⟩ => by
  unfold fV at hf
  split at hf
  · cases hf
    rename_i h
    obtain ⟨v, h1, h2⟩ := s.dat i _ h
    exact ⟨v, h1, q v G H (Gr.refl s.gr.le) h2⟩
  · cases hf
theorem r_int {i : Int} {j : Nat} : PE X (.Constant (.int i) j pos) (T (fC (.int i))) := PE.im pe_int fun _ _ _ h => T.cst (fun _ => .int i) h
theorem r_bl {i : Bool} {j : Nat} : PE X (.Constant (.bool i) j pos) (T (fC (.bool i))) := PE.im pe_bl fun _ _ _ h => T.cst (fun _ => .bl i) h
theorem r_non {j : Nat} : PE X (.Constant .none j pos) (T (fC .none)) := PE.im pe_non fun _ _ _ h => T.cst (fun _ => .non) h
theorem r_str {i : Str} {j : Nat} : PE X (.Constant (.str i) j pos) (T (fC (.str i))) := PE.im pe_str fun _ _ _ h => T.cst (fun _ => .str i) h
theorem r_glob {x : Str} {i : Int} {t : Tok} (hg : Gl X x) (hm : X.mg x = some (.int i t)) (hd : (x == ("__debug__" : Str)) = false := by decide) : PE X (.Name x pos) (T (fC (.int i))) :=
  PE.im (pe_glob (v := .int i) hg hm ⟨t, rfl⟩ hd) fun _ _ _ h => T.cst (fun _ => .int i) h

/-! ### operators -/
theorem r_op {op : Operator} {r : R2} {g : D → D → Option D} (ho : OpR X (binaryOp op) r) (hk : OkR r g) (ha : PE X a (T fa)) (hb : PE X b (T fb)) : PE X (.BinOp a op b pos) (T (f2 g fa fb)) :=
  PE.im (pe_op ho ha hb) fun _ _ _ h => T.op hk h
theorem ok_int {g : Int → Int → Int} {gd : D → D → Option D} (h : ∀ d e k, gd d e = some k → ∃ i j, d = .int i ∧ e = .int j ∧ k = .int (g i j)) : OkR (rI0 fun i j => .int (g i j)) gd := by
  intro G H v w d e k Q le rv rw' hk q
  obtain ⟨i, j, rfl, rfl, rfl⟩ := h _ _ _ hk
  cases rv
  cases rw'
  exact ⟨i, j, rfl, rfl, q _ G H (Gr.refl le) (.int _)⟩
theorem ok_add {K : PySem.W.Frag} : OkR (fun x y H Q => rI0 (fun i j => .int (i + j)) x y H Q ∨ rCat x y H Q ∨ rCatA K x y H Q) addD := by
  intro G H v w d e k Q le rv rw' hk q
  unfold addD at hk
  split at hk
  · cases hk
    cases rv
    cases rw'
    exact .inl ⟨_, _, rfl, rfl, q _ G H (Gr.refl le) (.int _)⟩
  · split at hk
    · rename_i hl
      cases hk
      cases rv with
      | lst h1 a1 =>
        cases rw' with
        | lst h2 a2 =>
          refine .inr (.inl ⟨_, _, _, _, rfl, rfl, le.lst h1, le.lst h2, by rw [a1.length, a2.length, sizeLine_eq]; exact hl, fun p hp => ?_⟩)
          exact new_lst le hp (a1.app a2) q
    · cases hk
  · split at hk
    · rename_i hl
      cases hk
      cases rv with
      | tup h1 a1 =>
        cases rw' with
        | tup h2 a2 =>
          refine .inr (.inr ⟨_, _, _, _, rfl, rfl, SqT.of (le.tup h1), SqT.of (le.tup h2), by rw [a1.length, a2.length, sizeLine_eq]; exact hl, fun e => ?_, fun _ e => ?_, fun _ _ p hp => ?_⟩)
          · subst e
            cases a1
            exact q _ _ _ (Gr.refl le) (.tup h2 a2)
          · subst e
            cases a2
            rw [List.append_nil] at q
            exact q _ _ _ (Gr.refl le) (.tup h1 a1)
          · exact new_tup le hp (a1.app a2) q
    · cases hk
  · cases hk
theorem r_add (ha : PE X a (T fa)) (hb : PE X b (T fb)) : PE X (.BinOp a .Add b pos) (T (f2 addD fa fb)) := r_op (op_add.or (op_cat.or op_catA)) ok_add ha hb
theorem ok_sub : OkR (rI0 fun i j => .int (i - j)) subD := ok_int fun d e k h => by
  unfold subD at h
  split at h
  · cases h
    exact ⟨_, _, rfl, rfl, rfl⟩
  · cases h
theorem r_sub (ha : PE X a (T fa)) (hb : PE X b (T fb)) : PE X (.BinOp a .Sub b pos) (T (f2 subD fa fb)) := r_op op_sub ok_sub ha hb
theorem ok_mul : OkR (fun x y H Q => rI CMul (fun i j => .int (i * j)) x y H Q ∨ rRep x y H Q) mulD := by
  intro G H v w d e k Q le rv rw' hk q
  unfold mulD at hk
  split at hk
  · split at hk
    · rename_i hl
      cases hk
      cases rv
      cases rw'
      exact .inl ⟨_, _, rfl, rfl, .inl hl, q _ G H (Gr.refl le) (.int _)⟩
    · cases hk
  · split at hk
    · rename_i hl
      cases hk
      cases rw'
      cases rv with
      | lst h1 a1 =>
        refine .inr ⟨_, _, _, rfl, rfl, le.lst h1, by omega, by omega, ?_, fun p hp => ?_⟩
        · rw [a1.length, sizeLine_eq]
          exact Nat.le_trans (Nat.mul_le_mul hl.2.2 (show _ ≤ 1000 by omega)) (by decide)
        · exact new_lst le hp (a1.rep _) q
    · cases hk
  · cases hk
theorem r_mul (ha : PE X a (T fa)) (hb : PE X b (T fb)) : PE X (.BinOp a .Mult b pos) (T (f2 mulD fa fb)) := r_op (op_mul.or op_rep) ok_mul ha hb
theorem ok_neg : OkU (rU fun i => .int (-i)) negD := by
  intro G H v d k Q le rv hk q
  unfold negD at hk
  split at hk
  · cases hk
    cases rv
    exact ⟨_, rfl, q _ G H (Gr.refl le) (.int _)⟩
  · cases hk
theorem r_neg (ha : PE X a (T fa)) : PE X (.UnaryOp .USub a pos) (T (f1 negD fa)) := PE.im (pe_un un_neg ha) fun _ _ _ h => T.un ok_neg h

/-! ### comparisons -/
theorem ok_cmp {p : Int → Int → Bool} : OkR (rI0 fun i j => .bl (p i j)) (cmpI p) := by
  intro G H v w d e k Q le rv rw' hk q
  unfold cmpI at hk
  split at hk
  · cases hk
    cases rv
    cases rw'
    exact ⟨_, _, rfl, rfl, q _ G H (Gr.refl le) (.bl _)⟩
  · cases hk
mutual
theorem rp_dp {K : PySem.W.Frag} {G H : Hp} (le : Le G H) : ∀ (d : D) (v : V), d.canLay0 = true → Rp G v d → Dp K H v d
  | .none, _, _, h => by cases h; exact .non
  | .bool _, _, _, h => by cases h; exact .bl _
  | .int _, _, _, h => by cases h; exact .int _
  | .str _, _, _, h => by cases h; exact .str _
  | .list ds, _, c, h => by cases h with | lst h1 h2 => exact .lst (SqL.of (le.lst h1)) (rp_dpA le ds _ (by simpa [PyData.canLay0] using c) h2)
  | .tuple ds, _, c, h => by cases h with | tup h1 h2 => exact .tup (SqT.of (le.tup h1)) (rp_dpA le ds _ (by simpa [PyData.canLay0] using c) h2)
  | .dict ds, _, c, h => by simp [PyData.canLay0] at c
theorem rp_dpA {K : PySem.W.Frag} {G H : Hp} (le : Le G H) : ∀ (d : List D) (v : List V), PyData.canLayAll0 d = true → RpA G v d → DpAll K H v d
  | [], _, _, h => by cases h; exact .nil
  | d :: ds, _, c, h => by
    have c' : d.canLay0 = true ∧ PyData.canLayAll0 ds = true := by simpa [PyData.canLayAll0] using c
    cases h with
    | cons h1 h2 => exact .cons (rp_dp le d _ c'.1 h1) (rp_dpA le ds _ c'.2 h2)
end
theorem ok_eq {K : PySem.W.Frag} : OkR (rEqD K) eqD := by
  intro G H v w d e k Q le rv rw' hk q
  unfold eqD at hk
  split at hk
  · rename_i hs
    cases hk
    obtain ⟨s1, s2⟩ := Bool.and_eq_true_iff.mp hs
    exact ⟨d, e, rp_dp le d v (SeqAt.canLay_of_shaped s1) rv, rp_dp le e w (SeqAt.canLay_of_shaped s2) rw', s1, s2, q _ G H (Gr.refl le) (.bl _)⟩
  · cases hk
theorem ok_ne {K : PySem.W.Frag} : OkR (rNeD K) neD := by
  intro G H v w d e k Q le rv rw' hk q
  unfold neD at hk
  split at hk
  · rename_i hs
    cases hk
    obtain ⟨s1, s2⟩ := Bool.and_eq_true_iff.mp hs
    exact ⟨d, e, rp_dp le d v (SeqAt.canLay_of_shaped s1) rv, rp_dp le e w (SeqAt.canLay_of_shaped s2) rw', s1, s2, q _ G H (Gr.refl le) (.bl _)⟩
  · cases hk
theorem r_cmp {op : CmpOp} {r : R2} {g : D → D → Option D} (ho : OpR X (compareOp op) r) (hk : OkR r g) (hm : behindInMarks op b = false) (ha : PE X a (T fa)) (hb : PE X b (T fb)) : PE X (.Compare a [op] [b] pos) (T (f2 g fa fb)) :=
  PE.im (pe_cmpR ho ha hb hm) fun _ _ _ h => T.op hk h
theorem Tt.test {te : TE} (h : Tt (fTb fa) σ H Q') (hk : ∀ Q, T fa σ H Q → te σ H Q) : tTest te σ H Q' := by
  obtain ⟨G0, B, G, τ, b, s, hf, q⟩ := h
  obtain ⟨d, hd, hf⟩ := bnd hf
  refine hk _ ⟨G0, B, G, τ, d, s, hd, fun v G2 H2 g2 r2 => ?_⟩
  split at hf
  · cases hf
    cases r2
    exact ⟨_, rfl, q _ _ g2⟩
  · cases hf
theorem t_cmp {op : CmpOp} {r : R2} {g : D → D → Option D} (ho : OpR X (compareOp op) r) (hk : OkR r g) (hm : behindInMarks op b = false) (ha : PE X a (T fa)) (hb : PE X b (T fb)) : PT X (.Compare a [op] [b] pos) (Tt (fTb (f2 g fa fb))) :=
  PT.im (pt_cmpR ho ha hb hm) fun _ _ _ h => Tt.test h fun _ q => T.op hk q
theorem t_val (h : PE X e (T fa)) (he : ∀ whole, isTrue e X.env whole = (do let v ← whole; standAt e.pos; holding [v] (truthy v)) := by intro _; rfl) : PT X e (Tt (fTb fa)) :=
  PT.im (pt_val h he) fun _ _ _ h => Tt.test h fun _ q => q
theorem T.chain {r r' : R2} {g g' : D → D → Option D} (h : OkR r g) (h' : OkR r' g') : T (fChain g g' fa fb fc) σ H Q → tChain r r' (T fa) (T fb) (T fc) σ H Q := fun ⟨G0, B, G, τ, k, s, hf, q⟩ => by
  obtain ⟨d, hd, hf⟩ := bnd hf
  obtain ⟨e, he, hf⟩ := bnd hf
  obtain ⟨z, hz, hf⟩ := bnd hf
  refine ⟨G0, B, G, τ, d, s, hd, fun v G1 H1 g1 r1 => ⟨G0, B, G1, τ, e, s.step g1, he, fun w G2 H2 g2 r2 => h G2 H2 v w d e z _ g2.le (r1.mono g2.g) r2 hz fun z' G3 H3 g3 r3 => ?_⟩⟩
  split at hf
  · rename_i kb
    cases r3
    refine ⟨kb, rfl, ?_⟩
    cases kb with
    | true =>
      rw [if_pos rfl] at hf ⊢
      obtain ⟨c, hc, hk⟩ := bnd hf
      exact ⟨G0, B, G3, τ, c, ((s.step g1).step g2).step g3, hc, fun u G4 H4 g4 r4 => h' G4 H4 w u e c k Q g4.le ((r2.mono g3.g).mono g4.g) r4 hk fun y G5 H5 g5 r5 => q y G5 H5 ((((g1.trans g2).trans g3).trans g4).trans g5) r5⟩
    | false =>
      rw [if_neg (by decide)] at hf ⊢
      cases hf
      exact q _ _ _ ((g1.trans g2).trans g3) (.bl _)
  · cases hf
theorem r_chain {op op' : CmpOp} {r r' : R2} {g g' : D → D → Option D} (ho : OpR X (compareOp op) r) (ho' : OpR X (compareOp op') r') (hk : OkR r g) (hk' : OkR r' g') (ha : PE X a (T fa)) (hb : PE X b (T fb)) (hc : PE X c (T fc))
    (hm : lastMarks [op, op'] [b, c] = false := by with_unfolding_all rfl) : PE X (.Compare a [op, op'] [b, c] pos) (T (fChain g g' fa fb fc)) :=
  PE.im (pe_chain ho ho' ha hb hc hm) fun _ _ _ h => T.chain hk hk' h
theorem t_chain {op op' : CmpOp} {r r' : R2} {g g' : D → D → Option D} (ho : OpR X (compareOp op) r) (ho' : OpR X (compareOp op') r') (hk : OkR r g) (hk' : OkR r' g') (ha : PE X a (T fa)) (hb : PE X b (T fb)) (hc : PE X c (T fc))
    (hm : lastMarks [op, op'] [b, c] = false := by with_unfolding_all rfl) : PT X (.Compare a [op, op'] [b, c] pos) (Tt (fTb (fChain g g' fa fb fc))) :=
  PT.im (pt_chain ho ho' ha hb hc hm) fun _ _ _ h => Tt.test h fun _ q => T.chain hk hk' q

/-! ### and, or, not, if -/
variable {ga gb : FT} {rest : List Expr}
theorem t_and1 (ha : PT X a (Tt ga)) : PW X (.BoolOp .And [a] pos) (Tt ga) := pw_and1 ha
theorem t_or1 (ha : PT X a (Tt ga)) : PW X (.BoolOp .Or [a] pos) (Tt ga) := pw_or1 ha
theorem t_and (ha : PT X a (Tt ga)) (hb : PW X (.BoolOp .And (b :: rest) pos) (Tt gb)) : PW X (.BoolOp .And (a :: b :: rest) pos) (Tt (fAnd ga gb)) :=
  PW.im (pw_and ha hb) fun σ H Q ⟨G0, B, G, τ, k, s, hf, q⟩ => by
    obtain ⟨d, hd, hf⟩ := bnd hf
    refine ⟨G0, B, G, τ, d, s, hd, fun G1 H1 g1 => ?_⟩
    cases d with
    | true =>
      rw [if_pos rfl] at hf ⊢
      exact ⟨G0, B, G1, τ, k, s.step g1, hf, fun G2 H2 g2 => q _ _ (g1.trans g2)⟩
    | false =>
      rw [if_neg (by decide)] at hf ⊢
      cases hf
      exact q _ _ g1
theorem t_or (ha : PT X a (Tt ga)) (hb : PW X (.BoolOp .Or (b :: rest) pos) (Tt gb)) : PW X (.BoolOp .Or (a :: b :: rest) pos) (Tt (fOr ga gb)) :=
  PW.im (pw_or ha hb) fun σ H Q ⟨G0, B, G, τ, k, s, hf, q⟩ => by
    obtain ⟨d, hd, hf⟩ := bnd hf
    refine ⟨G0, B, G, τ, d, s, hd, fun G1 H1 g1 => ?_⟩
    cases d with
    | true =>
      rw [if_pos rfl] at hf ⊢
      cases hf
      exact q _ _ g1
    | false =>
      rw [if_neg (by decide)] at hf ⊢
      exact ⟨G0, B, G1, τ, k, s.step g1, hf, fun G2 H2 g2 => q _ _ (g1.trans g2)⟩
theorem t_not (ha : PT X a (Tt ga)) : PT X (.UnaryOp .Not a pos) (Tt (fNot ga)) := PT.im (pt_not ha) fun σ H Q ⟨G0, B, G, τ, k, s, hf, q⟩ => by
  obtain ⟨d, hd, hf⟩ := bnd hf
  cases hf
  exact ⟨G0, B, G, τ, d, s, hd, fun G1 H1 g1 => q _ _ g1⟩
theorem r_one {op : BoolOp} (h : PE X a (T fa)) : PE X (.BoolOp op [a] pos) (T fa) := pe_one h
theorem r_and (ha : PE X a (T fa)) (hb : PE X (.BoolOp .And (b :: rest) pos) (T fb)) : PE X (.BoolOp .And (a :: b :: rest) pos) (T (fAndV fa fb)) :=
  PE.im (pe_and ha hb) fun σ H Q ⟨G0, B, G, τ, k, s, hf, q⟩ => by
    obtain ⟨d, hd, hf⟩ := bnd hf
    refine ⟨G0, B, G, τ, d, s, hd, fun v G1 H1 g1 r1 => ?_⟩
    split at hf
    · rename_i kb
      cases r1
      refine ⟨kb, rfl, ?_⟩
      cases kb with
      | true =>
        rw [if_pos rfl] at hf ⊢
        exact ⟨G0, B, G1, τ, k, s.step g1, hf, fun v G2 H2 g2 r2 => q _ _ _ (g1.trans g2) r2⟩
      | false =>
        rw [if_neg (by decide)] at hf ⊢
        cases hf
        exact q _ _ _ g1 (.bl _)
    · cases hf
theorem r_or (ha : PE X a (T fa)) (hb : PE X (.BoolOp .Or (b :: rest) pos) (T fb)) : PE X (.BoolOp .Or (a :: b :: rest) pos) (T (fOrV fa fb)) :=
  PE.im (pe_or ha hb) fun σ H Q ⟨G0, B, G, τ, k, s, hf, q⟩ => by
    obtain ⟨d, hd, hf⟩ := bnd hf
    refine ⟨G0, B, G, τ, d, s, hd, fun v G1 H1 g1 r1 => ?_⟩
    split at hf
    · rename_i kb
      cases r1
      refine ⟨kb, rfl, ?_⟩
      cases kb with
      | true =>
        rw [if_pos rfl] at hf ⊢
        cases hf
        exact q _ _ _ g1 (.bl _)
      | false =>
        rw [if_neg (by decide)] at hf ⊢
        exact ⟨G0, B, G1, τ, k, s.step g1, hf, fun v G2 H2 g2 r2 => q _ _ _ (g1.trans g2) r2⟩
    · cases hf
theorem r_not (ha : PE X a (T fa)) : PE X (.UnaryOp .Not a pos) (T (fNotV fa)) := PE.im (pe_not ha) fun σ H Q ⟨G0, B, G, τ, k, s, hf, q⟩ => by
  obtain ⟨d, hd, hf⟩ := bnd hf
  refine ⟨G0, B, G, τ, d, s, hd, fun v G1 H1 g1 r1 => ?_⟩
  split at hf
  · cases hf
    cases r1
    exact ⟨_, rfl, q _ _ _ g1 (.bl _)⟩
  · cases hf
theorem r_ifx (hc : PT X c (Tt ga)) (ha : PE X a (T fa)) (hb : PE X b (T fb)) : PE X (.IfExp c a b pos) (T (fIf ga fa fb)) := PE.im (pe_ifExp hc ha hb) fun σ H Q ⟨G0, B, G, τ, k, s, hf, q⟩ => by
  obtain ⟨d, hd, hf⟩ := bnd hf
  refine ⟨G0, B, G, τ, d, s, hd, fun G1 H1 g1 => ?_⟩
  cases d with
  | true =>
    rw [if_pos rfl] at hf ⊢
    exact ⟨G0, B, G1, τ, k, s.step g1, hf, fun v G2 H2 g2 r2 => q _ _ _ (g1.trans g2) r2⟩
  | false =>
    rw [if_neg (by decide)] at hf ⊢
    exact ⟨G0, B, G1, τ, k, s.step g1, hf, fun v G2 H2 g2 r2 => q _ _ _ (g1.trans g2) r2⟩

/-! ### arguments, displays -/
theorem a_nil : PA X [] (Ta fAn) := PA.im pa_nil fun σ H Q ⟨G0, B, G, τ, k, s, hf, q⟩ => by
  cases hf
  exact q _ _ _ (Gr.refl s.gr.le) .nil
theorem a_cons (ha : PE X e (T fe)) (hr : PA X es (Ta fr)) (hs : starEach (e :: es) X.env = (false, eval e X.env) :: starEach es X.env := by rfl) : PA X (e :: es) (Ta (fAc fe fr)) := PA.im (pa_cons ha hr hs) fun σ H Q ⟨G0, B, G, τ, k, s, hf, q⟩ => by
  obtain ⟨d, hd, hf⟩ := bnd hf
  obtain ⟨ds, hds, hf⟩ := bnd hf
  cases hf
  exact ⟨G0, B, G, τ, d, s, hd, fun v G1 H1 g1 r1 => ⟨G0, B, G1, τ, ds, s.step g1, hds, fun vs G2 H2 g2 r2 => q _ _ _ (g1.trans g2) (.cons (r1.mono g2.g) r2)⟩⟩
theorem r_tup {k : Nat} (h : PA X es (Ta fr)) : PE X (.Tuple es k pos) (T (fcall mkTup fr)) := PE.im (pe_tup h) fun σ H Q ⟨G0, B, G, τ, k, s, hf, q⟩ => by
  obtain ⟨ds, hd, hf⟩ := bnd hf
  unfold mkTup at hf
  split at hf
  · rename_i hl
    cases hf
    refine ⟨G0, B, G, τ, ds, s, hd, fun vs G1 H1 g1 r1 => ⟨by rw [r1.length, sizeLine_eq]; omega, fun p hp => ?_⟩⟩
    have gr := Gr.new (o := .tup vs) g1.le hp
    exact q _ _ _ (g1.trans gr) (.tup upd_same (r1.mono gr.g))
  · cases hf
theorem r_lst (h : PA X es (Ta fr)) : PE X (.List es pos) (T (fcall mkLst fr)) := PE.im (pe_lst h) fun σ H Q ⟨G0, B, G, τ, k, s, hf, q⟩ => by
  obtain ⟨ds, hd, hf⟩ := bnd hf
  unfold mkLst at hf
  split at hf
  · rename_i hl
    cases hf
    refine ⟨G0, B, G, τ, ds, s, hd, fun vs G1 H1 g1 r1 => ⟨by rw [r1.length, sizeLine_eq]; omega, fun p hp => ?_⟩⟩
    have gr := Gr.new (o := .lst vs) g1.le hp
    exact q _ _ _ (g1.trans gr) (.lst upd_same (r1.mono gr.g))
  · cases hf
theorem o_lst (h : PA X es (Ta fr)) : PE X (.List es pos) (To (fcall mkLst fr)) := PE.im (pe_lst h) fun σ H Q ⟨G0, B, G, τ, k, s, hf, q⟩ => by
  obtain ⟨ds, hd, hf⟩ := bnd hf
  unfold mkLst at hf
  split at hf
  · rename_i hl
    cases hf
    refine ⟨G0, B, G, τ, ds, s, hd, fun vs G1 H1 g1 r1 => ⟨by rw [r1.length, sizeLine_eq]; omega, fun p hp => ?_⟩⟩
    have gr := Gr.newH (o := .lst vs) g1.le hp
    exact q p _ _ (g1.trans gr) (g1.nn hp) (g1.le.nn hp) ⟨vs, upd_same, r1⟩
  · cases hf
theorem o_dic : PE X (.Dict [] [] pos) (To (fC (.dict []))) := PE.im pe_dnewT fun σ H Q ⟨G0, B, G, τ, k, s, hf, q⟩ => by
  cases hf
  intro p hp
  exact q p _ _ (Gr.newH s.gr.le hp) hp (s.gr.le.nn hp) ⟨[], upd_same, .nil⟩

/-! ### subscripts, slices -/
theorem atI_rp {G : Hp} {xs : List V} {ds : List D} (a : RpA G xs ds) {i : Int} {d : D} (h : atI ds i = some d) : ∃ v, atI xs i = some v ∧ Rp G v d := by
  unfold atI at h ⊢
  rw [a.length]
  obtain ⟨j, hj, hd⟩ := bnd h
  obtain ⟨v, h1, h2⟩ := a.get hd
  exact ⟨v, by rw [hj]; exact h1, h2⟩
theorem ok_ix {K : PySem.W.Frag} : OkR (rIx K) ixD := by
  intro G H v w d e k Q le rv rw' hk q
  unfold ixD at hk
  split at hk
  · cases rw'
    cases rv with
    | lst h1 a1 =>
      obtain ⟨x, hx, rx⟩ := atI_rp a1 hk
      exact .inl ⟨_, _, _, x, rfl, rfl, SqL.of (le.lst h1), hx, q _ G H (Gr.refl le) rx⟩
  · cases rw'
    cases rv with
    | tup h1 a1 =>
      obtain ⟨x, hx, rx⟩ := atI_rp a1 hk
      exact .inr (.inl ⟨_, _, _, x, rfl, rfl, SqT.of (le.tup h1), hx, q _ G H (Gr.refl le) rx⟩)
  · cases hk
theorem r_ix (ha : PE X a (T fa)) (hb : PE X b (T fb)) (hs : PlainIx b := by exact fun _ _ => rfl) : PE X (.Subscript a b pos) (T (f2 ixD fa fb)) := PE.im (pe_ix ix_seq ha hb hs) fun _ _ _ h => T.op ok_ix h
theorem p_non : PO X none (Tp fPn) := PO.im po_none fun σ H Q ⟨G0, B, G, τ, k, s, hf, q⟩ => by
  cases hf
  exact q _ _ (Gr.refl s.gr.le)
theorem p_som (h : PE X e (T fa)) : PO X (some e) (Tp (fPs fa)) := PO.im (po_some h) fun σ H Q ⟨G0, B, G, τ, k, s, hf, q⟩ => by
  obtain ⟨d, hd, hf⟩ := bnd hf
  refine ⟨G0, B, G, τ, d, s, hd, fun v G1 H1 g1 r1 => ?_⟩
  split at hf
  · cases hf
    cases r1
    exact ⟨_, rfl, q _ _ g1⟩
  · cases hf
theorem RpA.cut {G : Hp} {xs : List V} {ds : List D} (a : RpA G xs ds) (lo hi : Option Int) : RpA G (cutV xs lo hi) (cutD ds lo hi) := by
  unfold cutV cutD
  rw [a.length]
  exact (a.drop _).take _
theorem SlR.ors {r r' : V → Option Int → Option Int → Hp → VK → Prop} (h : SlR X r) (h' : SlR X r') : SlR X (fun x lo hi H Q => r x lo hi H Q ∨ r' x lo hi H Q) := SlR.or h h'
theorem r_sl {lo hi : Option Expr} {fl fh : FI} {p2 : Pos} (he : PE X e (T fe)) (hl : PO X lo (Tp fl)) (hu : PO X hi (Tp fh)) : PE X (.Subscript e (.Slice lo hi none p2) pos) (T (fSl fe fl fh)) :=
  PE.im (pe_slice (SlR.ors sl_list sl_tupA) he hl hu) fun σ H Q ⟨G0, B, G, τ, k, s, hf, q⟩ => by
    obtain ⟨d, hd, hf⟩ := bnd hf
    obtain ⟨o1, h1, hf⟩ := bnd hf
    obtain ⟨o2, h2, hf⟩ := bnd hf
    refine ⟨G0, B, G, τ, d, s, hd, fun v G1 H1 g1 r1 => ⟨G0, B, G1, τ, o1, s.step g1, h1, fun G2 H2 g2 => ⟨G0, B, G2, τ, o2, (s.step g1).step g2, h2, fun G3 H3 g3 => ?_⟩⟩⟩
    have r3 := (r1.mono g2.g).mono g3.g
    split at hf
    · cases hf
      cases r3 with
      | lst e1 a1 =>
        refine .inl ⟨_, _, rfl, SqL.of (g3.le.lst e1), fun p hp => ?_⟩
        exact new_lst g3.le hp (a1.cut _ _) fun z G4 H4 g4 r4 => q _ _ _ (((g1.trans g2).trans g3).trans g4) r4
    · cases hf
      cases r3 with
      | tup e1 a1 =>
        refine .inr ⟨_, _, rfl, SqT.of (g3.le.tup e1), fun hw => ?_, fun _ p hp => ?_⟩
        · refine q _ _ _ ((g1.trans g2).trans g3) (.tup e1 ?_)
          unfold cutD
          rw [← a1.length, hw.1, hw.2, List.drop_zero, a1.length, Nat.sub_zero, List.take_length]
          exact a1
        · exact new_tup g3.le hp (a1.cut _ _) fun z G4 H4 g4 r4 => q _ _ _ (((g1.trans g2).trans g3).trans g4) r4
    · cases hf

/-! ### calls of built-ins -/
theorem ok_len {K : PySem.W.Frag} : OkC (fun xs H Q => ∃ p ys, xs = [.ref p] ∧ (SqL K H p ys ∨ SqT K H p ys) ∧ Q (.int ys.length) H) lenD := by
  intro G H vs ds k Q le rv hk q
  unfold lenD at hk
  split at hk
  · cases hk
    cases rv with
    | cons a r =>
      cases r
      cases a with
      | lst h1 a1 => exact ⟨_, _, rfl, .inl (SqL.of (le.lst h1)), q _ _ _ (Gr.refl le) (by rw [a1.length]; exact .int _)⟩
  · cases hk
    cases rv with
    | cons a r =>
      cases r
      cases a with
      | tup h1 a1 => exact ⟨_, _, rfl, .inr (SqT.of (le.tup h1)), q _ _ _ (Gr.refl le) (by rw [a1.length]; exact .int _)⟩
  · cases hk
theorem boolsOf_eq : ∀ {ds : List D} {bs : List Bool}, boolsOf ds = some bs → ds = bs.map PyData.bool
  | [], _, h => by cases h; rfl
  | .bool b :: r, _, h => by
    obtain ⟨bs, hb, h⟩ := bnd h
    cases h
    rw [boolsOf_eq hb]
    rfl
  | .none :: _, _, h => by cases h
  | .int _ :: _, _, h => by cases h
  | .str _ :: _, _, h => by cases h
  | .list _ :: _, _, h => by cases h
  | .tuple _ :: _, _, h => by cases h
  | .dict _ :: _, _, h => by cases h
theorem intsOf_eq : ∀ {ds : List D} {bs : List Int}, intsOf ds = some bs → ds = bs.map PyData.int
  | [], _, h => by cases h; rfl
  | .int b :: r, _, h => by
    obtain ⟨bs, hb, h⟩ := bnd h
    cases h
    rw [intsOf_eq hb]
    rfl
  | .none :: _, _, h => by cases h
  | .bool _ :: _, _, h => by cases h
  | .str _ :: _, _, h => by cases h
  | .list _ :: _, _, h => by cases h
  | .tuple _ :: _, _, h => by cases h
  | .dict _ :: _, _, h => by cases h
theorem ok_all {K : PySem.W.Frag} : OkC (rAll K) allD := by
  intro G H vs ds k Q le rv hk q
  unfold allD at hk
  split at hk
  · obtain ⟨bs, hb, hk⟩ := bnd hk
    cases hk
    have e := boolsOf_eq hb
    subst e
    cases rv with
    | cons a r =>
      cases r
      cases a with
      | lst h1 a1 =>
        have e := a1.bools
        subst e
        exact ⟨_, bs, rfl, SqL.of (le.lst h1), q _ _ _ (Gr.refl le) (.bl _)⟩
  · cases hk
theorem ok_sum {K : PySem.W.Frag} : OkC (rSum K) sumD := by
  intro G H vs ds k Q le rv hk q
  unfold sumD at hk
  split at hk
  · obtain ⟨bs, hb, hk⟩ := bnd hk
    cases hk
    have e := intsOf_eq hb
    subst e
    cases rv with
    | cons a r =>
      cases r
      cases a with
      | lst h1 a1 =>
        have e := a1.ints
        subst e
        exact ⟨_, bs, rfl, SqL.of (le.lst h1), q _ _ _ (Gr.refl le) (.int _)⟩
  · cases hk
theorem ok_tuple {K : PySem.W.Frag} : OkC (fun xs H Q => ∃ p ys, xs = [.ref p] ∧ ((SqL K H p ys ∧ ∀ l, H l = none → Q (.ref l) (upd H l (.tup ys))) ∨ (SqT K H p ys ∧ Q (.ref p) H))) tupleD := by
  intro G H vs ds k Q le rv hk q
  unfold tupleD at hk
  split at hk
  · cases hk
    cases rv with
    | cons a r =>
      cases r
      cases a with
      | lst h1 a1 =>
        refine ⟨_, _, rfl, .inl ⟨SqL.of (le.lst h1), fun p hp => ?_⟩⟩
        exact new_tup le hp a1 q
  · cases hk
    cases rv with
    | cons a r =>
      cases r
      cases a with
      | tup h1 a1 => exact ⟨_, _, rfl, .inr ⟨SqT.of (le.tup h1), q _ _ _ (Gr.refl le) (.tup h1 a1)⟩⟩
  · cases hk
variable {x : Str} {p : Pos}
theorem r_cb {id : String} {r : List V → Hp → VK → Prop} {g : List D → Option D} (hc : CallR X (.builtin id) r) (hk : OkC r g) (hg : Gl X x) (hm : X.mg x = none) (hv : bootBuiltins x = some (.builtin id)) (ha : PA X (e :: es) (Ta fr)) (hn : x ≠ "__name__" := by decide) (hdb : (x == ("__debug__" : Str)) = false := by decide)
    (he : starEach (e :: es) X.env = (false, eval e X.env) :: starEach es X.env := by rfl) (hpl : (backTo pos (starEach es X.env)).any (·.1) = false := by rfl) : PE X (.Call (.Name x p) (e :: es) [] pos) (T (fcall g fr)) :=
  PE.im (pe_callB hc hg hm hv ha hn hdb he hpl) fun _ _ _ h => T.cb hk h
theorem r_ct {t : String} {r : List V → Hp → VK → Prop} {g : List D → Option D} (hc : CallR X (.type t) r) (hk : OkC r g) (hg : Gl X x) (hm : X.mg x = none) (hv : bootBuiltins x = some (.type t)) (ha : PA X (e :: es) (Ta fr)) (hn : x ≠ "__name__" := by decide) (hdb : (x == ("__debug__" : Str)) = false := by decide)
    (he : starEach (e :: es) X.env = (false, eval e X.env) :: starEach es X.env := by rfl) (hpl : (backTo pos (starEach es X.env)).any (·.1) = false := by rfl) : PE X (.Call (.Name x p) (e :: es) [] pos) (T (fcall g fr)) :=
  PE.im (pe_callTy hc hg hm hv ha hn hdb he hpl) fun _ _ _ h => T.cb hk h
theorem isi_ty {K : PySem.W.Frag} {G H : Hp} (le : Le G H) {v : V} {d : D} (r : Rp G v d) (hd : ∀ kvs, d ≠ .dict kvs) : TyX K H v (.type (tyD d)) := by
  cases r with
  | non => exact .base .non
  | bl b => exact .base (.bl b)
  | int i => exact .base (.int i)
  | str i => exact .base (.str i)
  | lst h _ => exact .base (.lst (le.lst h))
  | tup h _ => exact .base (.tup (le.tup h))
  | dic h _ => exact absurd rfl (hd _)
def noDic (g : D → Option D) : D → Option D := fun d => match d with
  | .dict _ => none
  | _ => g d
/-- isinstance(e, C), C a built-in class -/
theorem r_isi {cls : Str} {c : String} {pc : Pos} (hg : Gl X "isinstance") (hm : X.mg "isinstance" = none) (hcg : Gl X cls) (hcm : X.mg cls = none) (hcv : bootBuiltins cls = some (.type c)) (he : PE X e (T fe))
    (hn : cls ≠ "__name__" := by decide) (hdb : (cls == ("__debug__" : Str)) = false := by decide)
    (h1 : starEach (e :: [.Name cls pc]) X.env = (false, eval e X.env) :: starEach [.Name cls pc] X.env := by rfl) (h2 : starEach [.Name cls pc] X.env = (false, eval (.Name cls pc) X.env) :: starEach [] X.env := by rfl)
    (hpl : (backTo pos (starEach [.Name cls pc] X.env)).any (·.1) = false := by rfl) : PE X (.Call (.Name "isinstance" p) [e, .Name cls pc] [] pos) (T (f1 (noDic (isiD c)) fe)) :=
  PE.im (pe_callB call_isi hg hm (by decide +kernel) (pa_cons he (pa_cons (pe_bltn (v := .ty c) hcg hcm hcv rfl hn hdb) pa_nil h2) h1) (by decide) (by decide) h1 hpl) fun σ H Q ⟨G0, B, G, τ, k, s, hf, q⟩ => by
    obtain ⟨d, hd, hf⟩ := bnd hf
    refine ⟨G0, B, G, τ, d, s, hd, fun v G1 H1 g1 r1 => ?_⟩
    have nd : ∀ kvs, d ≠ .dict kvs := fun kvs e => by subst e; cases hf
    have hf' : isiD c d = some k := by
      unfold noDic at hf
      split at hf
      · cases hf
      · exact hf
    obtain ⟨b, hb, hf'⟩ := bnd hf'
    cases hf'
    exact ⟨v, .ty c, _, _, b, rfl, .ty c, isi_ty g1.le r1 nd, kit_ty hb, q _ _ _ g1 (.bl _)⟩

/-! ### calls of the text's defs -/
/-- the promise of a def whose mirror is F -/
def spD (F : List D → Option D) : Sp := fun vs H Q _ => ∃ (G : Hp) (ds : List D) (d : D), Le G H ∧ RpA G vs ds ∧ F ds = some d ∧ ∀ v G2 H2, Gr G H G2 H2 → Rp G2 v d → Q v H2
structure Has (P : Program) (w : World) (K : PySem.W.Frag) (mg : Str → Option Value) (base : Heap) (x : Str) (k : Nat) (ps : List Str) (F : List D → Option D) : Prop where
  ex : ∃ (f : Addr) (fd : FuncData), mg x = some (.ref f) ∧ PySem.W.keepIn K (.ref f) = true ∧ Binds K fd ps [] ∧ FnOk P w K mg base CX0 k f fd ps (spD F)
theorem r_call {k : Nat} {ps : List Str} {F : List D → Option D} (h : Has X.prog X.w X.K X.mg X.base x k ps F) {j : Nat} (hr : Room j X.A) (hj : k ≤ j) (hg : Gl X x) (ha : PA X (e :: es) (Ta fr)) (hdb : (x == ("__debug__" : Str)) = false := by decide)
    (he : starEach (e :: es) X.env = (false, eval e X.env) :: starEach es X.env := by rfl) (hpl : (backTo pos (starEach es X.env)).any (·.1) = false := by rfl) : PE X (.Call (.Name x p) (e :: es) [] pos) (T (fcall F fr)) := by
  obtain ⟨f, fd, hm, hk, hb, F⟩ := h.ex
  refine PE.im (pe_call F (hr.mono hj) hg hm hk hb .nil pass0 ha hdb he hpl) fun σ H Q ⟨G0, B, G, τ, k, s, hf, q⟩ => ?_
  obtain ⟨ds, hd, hf⟩ := bnd hf
  refine ⟨G0, B, G, τ, ds, s, hd, fun vs G1 H1 g1 r1 => ?_⟩
  show spD _ (vs ++ []) H1 Q E0
  rw [List.append_nil]
  exact ⟨G1, ds, k, g1.le, r1, hf, fun v G2 H2 g2 r2 => q _ _ _ (g1.trans g2) r2⟩
theorem r_call0 {k : Nat} {F : List D → Option D} (h : Has X.prog X.w X.K X.mg X.base x k [] F) {j : Nat} (hr : Room j X.A) (hj : k ≤ j) (hg : Gl X x) (hdb : (x == ("__debug__" : Str)) = false := by decide) :
    PE X (.Call (.Name x p) [] [] pos) (T (fcall F fAn)) := by
  obtain ⟨f, fd, hm, hk, hb, F⟩ := h.ex
  refine PE.im (pe_call0 F (hr.mono hj) hg hm hk hb .nil pass0 hdb) fun σ H Q ⟨G0, B, G, τ, k, s, hf, q⟩ => ?_
  obtain ⟨ds, hd, hf⟩ := bnd hf
  cases hd
  exact ⟨G, [], k, s.gr.le, .nil, hf, fun v G2 H2 g2 r2 => q _ _ _ g2 r2⟩
end
end SQ
end
section
set_option Elab.async false
set_option linter.all false
set_option maxRecDepth 100000
set_option maxHeartbeats 4000000
/-! Targets, iteration, comprehensions, statements, defs. -/
namespace SQ
open PySem PySem.Spec PyProof.Rows L2

/-! ### targets -/
inductive Pat where
  | nm (i : Nat) | tp (is : List Nat)
def Pat.slots : Pat → List Nat
  | .nm i => [i]
  | .tp is => is
def gNames : List Nat → TGs
  | [] => gNil
  | i :: is => gCons (gName i) (gNames is)
def gPat (K : PySem.W.Frag) : Pat → TG
  | .nm i => gName i
  | .tp is => gTup K is.length (gNames is)
def bindS : List Nat → List D → Store → Option Store
  | [], [], τ => some τ
  | i :: is, d :: ds, τ => bindS is ds (τ.set i (.dat d))
  | _, _, _ => none
def bindP : Pat → D → Store → Option Store
  | .nm i, d, τ => some (τ.set i (.dat d))
  | .tp is, .tuple ds, τ => bindS is ds τ
  | _, _, _ => none
theorem wipe_set1 {σ : L2.St} {x : Option V} {i : Nat} : ∀ vs : List Nat, (L2.wipe (σ.set i x) vs).set i none = (L2.wipe σ vs).set i none
  | [] => by
    show (σ.set i x).set i none = σ.set i none
    rw [List.set_set]
  | u :: us => by
    show ((L2.wipe (σ.set i x) us).set u none).set i none = ((L2.wipe σ us).set u none).set i none
    by_cases e : u = i
    · subst e
      rw [List.set_set, List.set_set, wipe_set1 us]
    · rw [List.set_comm _ _ e, wipe_set1 us, List.set_comm _ _ (fun z => e z.symm)]
theorem wipe_set {σ : L2.St} {x : Option V} {i : Nat} : ∀ {vs : List Nat}, i ∈ vs → L2.wipe (σ.set i x) vs = L2.wipe σ vs
  | [], h => by simp at h
  | u :: us, h => by
    show (L2.wipe (σ.set i x) us).set u none = (L2.wipe σ us).set u none
    by_cases e : i = u
    · subst e
      exact wipe_set1 us
    · rw [wipe_set (by simpa [e] using h)]
theorem wipe_at {σ : L2.St} {i : Nat} : ∀ {vs : List Nat}, i ∈ vs → (L2.wipe σ vs).set i none = L2.wipe σ vs
  | [], h => by simp at h
  | u :: us, h => by
    show ((L2.wipe σ us).set u none).set i none = (L2.wipe σ us).set u none
    by_cases e : i = u
    · subst e
      rw [List.set_set]
    · rw [List.set_comm _ _ (fun z => e z.symm), wipe_at (by simpa [e] using h)]
theorem wipe_sub {σ : L2.St} {vs : List Nat} : ∀ {ws : List Nat}, (∀ i ∈ ws, i ∈ vs) → L2.wipe (L2.wipe σ vs) ws = L2.wipe σ vs
  | [], _ => rfl
  | u :: us, h => by
    show (L2.wipe (L2.wipe σ vs) us).set u none = L2.wipe σ vs
    rw [wipe_sub fun i hi => h i (List.mem_cons_of_mem _ hi), wipe_at (h u List.mem_cons_self)]
theorem wipe_wipe (σ : L2.St) (vs : List Nat) : L2.wipe (L2.wipe σ vs) vs = L2.wipe σ vs := wipe_sub fun _ h => h
section
variable {G0 B G H : Hp} {σ : L2.St} {τ τ' : Store} {K : PySem.W.Frag} {Q : L2.St → Hp → Prop}
theorem gNames_ok : ∀ {is : List Nat} {vs : List V} {ds : List D} {σ : L2.St} {τ : Store}, SR G0 B G H σ τ → RpA G vs ds → bindS is ds τ = some τ' →
    (∀ σ', SR G0 B G H σ' τ' → (∀ ws : List Nat, (∀ i ∈ is, i ∈ ws) → L2.wipe σ' ws = L2.wipe σ ws) → Q σ' H) → gNames is vs σ H Q
  | [], _, [], σ, τ, s, r, h, q => by
    cases r
    cases h
    exact ⟨rfl, q σ s fun _ _ => rfl⟩
  | [], _, _ :: _, σ, τ, s, r, h, q => by cases h
  | i :: is, _, [], σ, τ, s, r, h, q => by cases h
  | i :: is, _, d :: ds, σ, τ, s, r, h, q => by
    cases r with
    | cons r1 r2 =>
      refine ⟨_, _, rfl, ?_⟩
      refine gNames_ok (is := is) (s.set_dat i r1) r2 h fun σ' s' hw => q σ' s' fun ws hws => ?_
      rw [hw ws fun j hj => hws j (List.mem_cons_of_mem _ hj)]
      exact wipe_set (hws i List.mem_cons_self)
theorem bindS_len : ∀ {is : List Nat} {ds : List D} {τ τ' : Store}, bindS is ds τ = some τ' → ds.length = is.length
  | [], [], _, _, _ => rfl
  | [], _ :: _, _, _, h => by cases h
  | _ :: _, [], _, _, h => by cases h
  | i :: is, d :: ds, _, _, h => by
    have ih := bindS_len (is := is) (ds := ds) h
    rw [List.length_cons, List.length_cons, ih]
theorem gPat_ok {p : Pat} {v : V} {d : D} (s : SR G0 B G H σ τ) (r : Rp G v d) (h : bindP p d τ = some τ')
    (q : ∀ σ', SR G0 B G H σ' τ' → (∀ ws : List Nat, (∀ i ∈ p.slots, i ∈ ws) → L2.wipe σ' ws = L2.wipe σ ws) → Q σ' H) : gPat K p v σ H Q := by
  cases p with
  | nm i =>
    cases h
    exact q _ (s.set_dat i r) fun ws hws => wipe_set (hws i List.mem_cons_self)
  | tp is =>
    cases d with
    | tuple ds =>
      cases r with
      | @tup a xs _ h1 h2 =>
        have hl : xs.length = is.length := by
          rw [h2.length]
          exact bindS_len h
        exact ⟨_, _, rfl, SqT.of (s.gr.le.tup h1), hl, gNames_ok s h2 h q⟩
    | none => cases h
    | bool _ => cases h
    | int _ => cases h
    | str _ => cases h
    | list _ => cases h
    | dict _ => cases h
end
section
variable {X : Cx} {pos : Pos}
theorem g_nm (i : Nat) {x : Str} (hN : X.N.Nodup) (hi : X.N[i]? = some x := by rfl) (hx : Loc X.env.scope x := by first | exact Or.inl rfl | exact Or.inr rfl) (hf : X.fn x = true ∨ X.env.scope.names.lookup x = some .local := by first | exact .inl rfl | exact .inr rfl) : PG X (.Name x pos) (gPat X.K (.nm i)) := pg_name hN hi hx hf
theorem gs_nil : PGs X [] (gNames []) := pgs_nil
theorem gs_cons {e : Expr} {es : List Expr} {i : Nat} {is : List Nat} (h1 : PG X e (gPat X.K (.nm i))) (h2 : PGs X es (gNames is))
    (hs : (assignEach (e :: es) X.env).map (·.2) = assign e X.env :: (assignEach es X.env).map (·.2) := by rfl) : PGs X (e :: es) (gNames (i :: is)) := pgs_cons h1 h2 hs
theorem g_tp {es : List Expr} {k : Nat} {is : List Nat} (hc : X.calm = true) (h : PGs X es (gNames is)) (hn : (assignEach es X.env).length = is.length := by rfl) (hst : (assignEach es X.env).findIdx? (·.1) = none := by rfl) :
    PG X (.Tuple es k pos) (gPat X.K (.tp is)) := pg_tup hc h hn hst
end

/-! ### what is walked -/
def Sx (lk : Option (Addr × Obj × HO)) (H : Hp) : Prop := ∀ d ob u, lk = some (d, ob, u) → H d = some (.frz ob u)
structure Yl (J : It) (G : Hp) (lk : Option (Addr × Obj × HO)) (ds : List D) : Prop where
  go : ∀ i G' H', Same G G' → Le G' H' → Sx lk H' → i < ds.length → J.go i H'
  yl : ∀ i d G' H' x H'', Same G G' → Le G' H' → Sx lk H' → ds[i]? = some d → J.yld i H' x H'' → ∃ G'', Gr G' H' G'' H'' ∧ Rp G'' x d
  st : ∀ G' H', Same G G' → Le G' H' → Sx lk H' → J.stop ds.length H'
def Ti (f : FA) : TI := fun σ H R => ∃ (G0 B G : Hp) (τ : Store) (ds : List D), SR G0 B G H σ τ ∧ f τ = some ds ∧ ∀ J G2 H2 lk, Gr G H G2 H2 → Yl J G2 lk ds → Sx lk H2 → R J H2
theorem Sx.gr {lk : Option (Addr × Obj × HO)} {G H G2 H2 : Hp} (s : Sx lk H) (r : Gr G H G2 H2) : Sx lk H2 := fun d ob u e => r.hs (s d ob u e) fun kvs z => by cases z
theorem Sx.no {H : Hp} : Sx none H := fun _ _ _ e => by cases e
section
variable {X : Cx} {tg e a b c : Expr} {es : List Expr} {pos : Pos} {fe fa fb : FE} {fr : FA}
theorem PI.im {t t' : TI} (h : PI X tg e t) (k : ∀ σ H R, t' σ H R → t σ H R) : PI X tg e t' := ⟨fun pins s σ H R I hw => h.run pins s σ H R I (k σ H R hw)⟩
theorem PI.or {t t' : TI} (h : PI X tg e t) (h' : PI X tg e t') : PI X tg e (fun σ H R => t σ H R ∨ t' σ H R) := ⟨fun pins s σ H R I hw => by
  rcases hw with hw | hw
  · exact h.run pins s σ H R I hw
  · exact h'.run pins s σ H R I hw⟩
/-- the items of a list or of a tuple -/
def fItems (f : FE) : FA := fun τ => (f τ).bind fun
  | .list ds => some ds
  | .tuple ds => some ds
  | _ => none
theorem yl_list {K : PySem.W.Frag} {G : Hp} {a : Addr} {xs : List V} {ds : List D} (h : G a = some (.lst xs)) (r : RpA G xs ds) : Yl (Itl K a) G none ds := by
  refine ⟨fun i G' H' sm le _ hi => ?_, fun i d G' H' x H'' sm le _ hd y => ?_, fun G' H' sm le _ => ?_⟩
  · obtain ⟨x, hx, _⟩ := r.get (List.getElem?_eq_getElem hi)
    exact ⟨xs, x, SqL.of (le.lst (sm _ _ h)), hx⟩
  · obtain ⟨e, y⟩ := y
    subst e
    have hx := y xs (SqL.of (le.lst (sm _ _ h)))
    obtain ⟨z, hz, rz⟩ := r.get hd
    rw [hx] at hz
    cases hz
    exact ⟨G', Gr.refl le, rz.mono sm⟩
  · exact ⟨xs, SqL.of (le.lst (sm _ _ h)), by rw [r.length]; exact Nat.le_refl _⟩
theorem yl_tup {K : PySem.W.Frag} {G : Hp} {a : Addr} {xs : List V} {ds : List D} (h : G a = some (.tup xs)) (r : RpA G xs ds) : Yl (Itt K a) G none ds := by
  refine ⟨fun i G' H' sm le _ hi => ?_, fun i d G' H' x H'' sm le _ hd y => ?_, fun G' H' sm le _ => ?_⟩
  · obtain ⟨x, hx, _⟩ := r.get (List.getElem?_eq_getElem hi)
    exact ⟨xs, x, SqT.of (le.tup (sm _ _ h)), hx⟩
  · obtain ⟨e, y⟩ := y
    subst e
    have hx := y xs (SqT.of (le.tup (sm _ _ h)))
    obtain ⟨z, hz, rz⟩ := r.get hd
    rw [hx] at hz
    cases hz
    exact ⟨G', Gr.refl le, rz.mono sm⟩
  · exact ⟨xs, SqT.of (le.tup (sm _ _ h)), by rw [r.length]; exact Nat.le_refl _⟩
theorem i_seq (h : PE X e (T fe)) : PI X tg e (Ti (fItems fe)) := by
  refine ⟨fun pins s σ H R I hw => ?_⟩
  obtain ⟨G0, B, G, τ, ds, sr, hf, q⟩ := hw
  obtain ⟨d, hd, hf⟩ := bnd hf
  split at hf
  · cases hf
    refine (pi_list h).run pins s σ H R I ⟨G0, B, G, τ, _, sr, hd, fun v G2 H2 g2 r2 => ?_⟩
    cases r2 with
    | lst h1 a1 => exact ⟨_, rfl, ⟨_, SqL.of (g2.le.lst h1)⟩, q _ G2 H2 none g2 (yl_list h1 a1) Sx.no⟩
  · cases hf
    refine (pi_tup h).run pins s σ H R I ⟨G0, B, G, τ, _, sr, hd, fun v G2 H2 g2 r2 => ?_⟩
    cases r2 with
    | tup h1 a1 => exact ⟨_, rfl, ⟨_, SqT.of (g2.le.tup h1)⟩, q _ G2 H2 none g2 (yl_tup h1 a1) Sx.no⟩
  · cases hf
def rngD (lo hi : Int) : List D := (List.range (hi - lo).toNat).map fun (i : Nat) => PyData.int (lo + (i : Int))
def fRng1 (f : FE) : FA := fun τ => (f τ).bind fun
  | .int j => if -1000000 ≤ j ∧ j ≤ 1000000 then some (rngD 0 j) else none
  | _ => none
def fRng2 (f g : FE) : FA := fun τ => (f τ).bind fun a => (g τ).bind fun b => match a, b with
  | .int i, .int j => if -1000000 ≤ i ∧ i ≤ 1000000 ∧ -1000000 ≤ j ∧ j ≤ 1000000 then some (rngD i j) else none
  | _, _ => none
theorem yl_rng {G : Hp} {lo hi : Int} {n : Nat} (hn : n = (hi - lo).toNat) : Yl (Itr lo n) G none (rngD lo hi) := by
  subst hn
  have hl : (rngD lo hi).length = (hi - lo).toNat := by unfold rngD; rw [List.length_map, List.length_range]
  refine ⟨fun i G' H' _ _ _ h => by rw [hl] at h; exact h, fun i d G' H' x H'' sm le _ hd y => ?_, fun G' H' _ _ _ => by rw [hl]; exact Nat.le_refl _⟩
  obtain ⟨e, y⟩ := y
  subst e y
  refine ⟨G', Gr.refl le, ?_⟩
  unfold rngD at hd
  rw [List.getElem?_map] at hd
  cases hr : (List.range (hi - lo).toNat)[i]? with
  | none => rw [hr] at hd; cases hd
  | some k =>
    rw [hr] at hd
    cases hd
    have ek : k = i := by
      have := (List.getElem?_eq_some_iff.mp hr).2
      rw [List.getElem_range] at this
      exact this.symm
    subst ek
    exact .int _
theorem i_rng1 {p : Pos} (hg : Gl X "range") (hm : X.mg "range" = none) (ha : PE X a (T fa)) (h1 : starEach (a :: []) X.env = (false, eval a X.env) :: starEach [] X.env := by rfl) (hs : starEach [a] X.env = [(false, eval a X.env)] := by rfl) : PI X tg (.Call (.Name "range" p) [a] [] pos) (Ti (fRng1 fa)) :=
  PI.im (pi_range1 hg hm (pa_cons ha pa_nil h1) hs) fun σ H R ⟨G0, B, G, τ, ds, sr, hf, q⟩ => by
    obtain ⟨d, hd, hf⟩ := bnd hf
    refine ⟨G0, B, G, τ, d, sr, hd, fun v G2 H2 g2 r2 => ?_⟩
    split at hf
    · split at hf
      · cases hf
        cases r2
        exact ⟨_, rfl, by omega, by omega, q _ G2 H2 none g2 (yl_rng (by omega)) Sx.no⟩
      · cases hf
    · cases hf
theorem i_rng2 {p : Pos} (hg : Gl X "range") (hm : X.mg "range" = none) (ha : PE X a (T fa)) (hb : PE X b (T fb)) (h1 : starEach (a :: [b]) X.env = (false, eval a X.env) :: starEach [b] X.env := by rfl) (h2 : starEach (b :: []) X.env = (false, eval b X.env) :: starEach [] X.env := by rfl)
    (hs : starEach [a, b] X.env = [(false, eval a X.env), (false, eval b X.env)] := by rfl) (hs2 : starEach [b] X.env = [(false, eval b X.env)] := by rfl) : PI X tg (.Call (.Name "range" p) [a, b] [] pos) (Ti (fRng2 fa fb)) :=
  PI.im (pi_range2 hg hm (pa_cons ha (pa_cons hb pa_nil h2) h1) hs hs2) fun σ H R ⟨G0, B, G, τ, ds, sr, hf, q⟩ => by
    obtain ⟨d, hd, hf⟩ := bnd hf
    obtain ⟨d', hd', hf⟩ := bnd hf
    refine ⟨G0, B, G, τ, d, sr, hd, fun v G2 H2 g2 r2 => ⟨G0, B, G2, τ, d', sr.step g2, hd', fun v' G3 H3 g3 r3 => ?_⟩⟩
    split at hf
    · split at hf
      · cases hf
        cases r2
        cases r3
        exact ⟨_, _, rfl, by omega, q _ G3 H3 none (g2.trans g3) (yl_rng rfl) Sx.no⟩
      · cases hf
    · cases hf
end

/-! ### comprehensions -/
def fYes : FT := fun _ => some true
theorem pts_yes {X : Cx} : PTs X [] (Tt fYes) := ⟨fun pins s σ H Q I hw => pts_nil.run pins s σ H Q I (by
  obtain ⟨G0, B, G, τ, b, sr, hf, q⟩ := hw
  cases hf
  exact q G H (Gr.refl sr.gr.le))⟩
theorem pts_if {X : Cx} {c : Expr} {f : FT} (h : PT X c (Tt f)) : PTs X [c] (Tt f) := pts_one h
def lcL (p : Pat) (ft : FT) (fe : FE) (τ : Store) : List D → Option (List D)
  | [] => some []
  | d :: ds => (bindP p d τ).bind fun τ1 => (ft τ1).bind fun b => if b = true then (fe τ1).bind fun r => (lcL p ft fe τ ds).bind fun rs => some (r :: rs) else lcL p ft fe τ ds
def fLc (vs : List Nat) (fi : FA) (p : Pat) (ft : FT) (fe : FE) : FE := fun τ => (fi τ).bind fun ds => if ds.length ≤ 16777216 then (lcL p ft fe (wipeS τ vs) ds).bind fun rs => some (.list rs) else none
theorem T.lc {K : PySem.W.Frag} {fi : FA} {p : Pat} {ft : FT} {fe : FE} {vs : List Nat} (hp : ∀ i ∈ p.slots, i ∈ vs) {σ : L2.St} {H : Hp} {Q : VK} : T (fLc vs fi p ft fe) σ H Q → tLc (Ti fi) (gPat K p) (Tt ft) (T fe) vs σ H Q := by
  rintro ⟨G0, B, G, τ, k, sr, hf, q⟩
  obtain ⟨ds, hd, hf⟩ := bnd hf
  split at hf
  case isFalse => cases hf
  rename_i hlen
  obtain ⟨rs, hrs, hf⟩ := bnd hf
  cases hf
  refine ⟨G0, B, G, τ, ds, sr, hd, fun J G1 H1 lk g1 yl sx D hD => ?_⟩
  have s1 := (sr.step g1).wipe vs
  have hn := s1.own_ne hD
  have hDB : B D = none := (sr.step g1).gr.nn hD
  have hDG : G1 D = none := g1.le.nn hD
  refine ⟨fun i m H' => m = ds.length - i ∧ i ≤ ds.length ∧ ∃ (G' : Hp) (accD rest : List PyData), Gr G1 H1 G' H' ∧ SR G0 B G' H' (L2.wipe σ vs) (wipeS τ vs) ∧ OwnAt G' H' D (.list accD) ∧ G' D = none ∧ accD.length ≤ i ∧ lcL p ft fe (wipeS τ vs) (ds.drop i) = some rest ∧ accD ++ rest = rs,
    ⟨ds.length, by simp, Nat.zero_le _, G1, [], rs, Gr.newH g1.le hD, s1.mutX hDG hDB hn, ⟨[], upd_same, .nil⟩, hDG, Nat.le_refl _, by simpa using hrs, rfl⟩, ?_⟩
  rintro i m H' ⟨rfl, hi, G', accD, rest, gr, s', ow, hGD, hla, hL, happ⟩
  have sx' := sx.gr gr
  by_cases hlt : i < ds.length
  · refine .inr ⟨yl.go i G' H' gr.g gr.le sx' hlt, fun H' => ∃ (G' : Hp) (accD rest : List PyData), Gr G1 H1 G' H' ∧ SR G0 B G' H' (L2.wipe σ vs) (wipeS τ vs) ∧ OwnAt G' H' D (.list accD) ∧ G' D = none ∧ accD.length ≤ i + 1 ∧ lcL p ft fe (wipeS τ vs) (ds.drop (i + 1)) = some rest ∧ accD ++ rest = rs,
      fun H' h => ⟨ds.length - (i + 1), by omega, rfl, hlt, h⟩, fun x H2 y => ?_⟩
    have hdi : ds[i]? = some ds[i] := List.getElem?_eq_getElem hlt
    obtain ⟨G2, g2, r2⟩ := yl.yl i _ G' H' x H2 gr.g gr.le sx' hdi y
    rw [List.drop_eq_getElem_cons hlt] at hL
    obtain ⟨τ1, hb, hL⟩ := bnd hL
    obtain ⟨b, hbt, hL⟩ := bnd hL
    obtain ⟨ow2, hGD2⟩ := ow.step g2 hGD
    refine gPat_ok (s'.step g2) r2 hb fun σ' sσ hw => ⟨?_, ?_⟩
    · rw [hw vs hp]
      exact wipe_wipe σ vs
    · refine ⟨G0, B, G2, τ1, b, sσ, hbt, fun G3 H3 g3 => ?_⟩
      obtain ⟨ow3, hGD3⟩ := ow2.step g3 hGD2
      cases b with
      | false =>
        rw [if_neg (by decide)] at hL ⊢
        exact ⟨G3, accD, rest, (gr.trans g2).trans g3, (s'.step g2).step g3, ow3, hGD3, by omega, hL, happ⟩
      | true =>
        rw [if_pos rfl] at hL ⊢
        obtain ⟨r, hr, hL⟩ := bnd hL
        obtain ⟨rest', hrest, hL⟩ := bnd hL
        cases hL
        refine ⟨G0, B, G3, τ1, r, sσ.step g3, hr, fun v G4 H4 g4 r4 => ?_⟩
        obtain ⟨ow4, hGD4⟩ := ow3.step g4 hGD3
        obtain ⟨acc, hacc, racc⟩ := ow4
        have gg := ((gr.trans g2).trans g3).trans g4
        refine ⟨acc, hacc, by rw [racc.length, sizeLine_eq]; omega, G4, accD ++ [r], rest', gg.mut hGD4 hD, ((s'.step g2).step g3 |>.step g4).mutX hGD4 hDB hn, ⟨acc ++ [v], upd_same, racc.app (.cons r4 .nil)⟩, hGD4, by rw [List.length_append]; exact Nat.succ_le_succ hla, hrest, by rw [← happ]; simp⟩
  · have e : i = ds.length := by omega
    subst e
    rw [List.drop_length] at hL
    cases hL
    rw [List.append_nil] at happ
    subst happ
    obtain ⟨acc, hacc, racc⟩ := ow
    have cm := gr.commit hD hGD hacc
    refine .inl ⟨yl.st G' H' gr.g gr.le sx', q _ _ _ (g1.trans cm) (.lst upd_same (racc.mono fun a o z => ?_))⟩
    rw [upd_ne (ne_of_none z hGD)]
    exact z
section
variable {X : Cx} {elt tg iter : Expr} {ifs : List Expr} {scope : Scope} {own : List (Str × Nat)} {pos : Pos} {fi : FA} {p : Pat} {ft : FT} {fe : FE}
theorem r_lc (hc : X.calm = true) (hN : X.N.Nodup) (hi : PI X tg iter (Ti fi)) (ok : BlkOk X.N X.env.scope scope own) (hp : ∀ i ∈ p.slots, i ∈ own.map (·.2))
    (hg : ∀ (s : Shared) (H : Hp) (C : Addr) (cl : List (Str × Addr)) (fp : List Addr), PG (X.blk s H scope (compEnvC scope cl C X.env) fp) tg (gPat X.K p)) (ht : ∀ (s : Shared) (H : Hp) (C : Addr) (cl : List (Str × Addr)) (fp : List Addr), PTs (X.blk s H scope (compEnvC scope cl C X.env) fp) ifs (Tt ft))
    (he : ∀ (s : Shared) (H : Hp) (C : Addr) (cl : List (Str × Addr)) (fp : List Addr), PE (X.blk s H scope (compEnvC scope cl C X.env) fp) elt (T fe)) (hs : ∀ x, foldedSetIterable iter X.env x = pure x := by intro _; rfl) :
    PE X (.ListComp elt [⟨tg, iter, ifs, 0⟩] scope pos) (T (fLc (own.map (·.2)) fi p ft fe)) :=
  PE.im (pe_lc hc hN hi ok hg ht he hs) fun _ _ _ h => T.lc hp h
end

/-! ### statements -/
inductive Out where
  | nx (τ : Store) | rt (d : D)
abbrev FS := Store → Option Out
def Ts (F : FS) : TS := fun E σ H => ∃ (G0 B G : Hp) (τ : Store) (o : Out), SR G0 B G H σ τ ∧ F τ = some o ∧ (∀ τ' σ' G' H', o = .nx τ' → SR G0 B G' H' σ' τ' → E.nx σ' H') ∧ (∀ d v G' H', o = .rt d → Gr G0 B G' H' → Rp G' v d → E.rt v H')
def sNext : FS := fun τ => some (.nx τ)
def sSeq (F F' : FS) : FS := fun τ => (F τ).bind fun
  | .nx τ' => F' τ'
  | .rt d => some (.rt d)
def sSet (i : Nat) (f : FE) : FS := fun τ => (f τ).bind fun d => some (.nx (τ.set i (.dat d)))
def sSetO (i : Nat) (f : FE) : FS := fun τ => (f τ).bind fun d => some (.nx (τ.set i (.own d)))
def sAsg (p : Pat) (f : FE) : FS := fun τ => (f τ).bind fun d => (bindP p d τ).bind fun τ' => some (.nx τ')
def slk (k : Bool) (d : D) : SL := if k = true then .own d else .dat d
def sPar (i j : Nat) (k k' : Bool) (f g : FE) : FS := fun τ => (f τ).bind fun d => (g τ).bind fun e => some (.nx ((τ.set i (slk k d)).set j (slk k' e)))
def sRet (f : FE) : FS := fun τ => (f τ).bind fun d => some (.rt d)
def sIf (c : FT) (F F' : FS) : FS := fun τ => (c τ).bind fun b => if b = true then F τ else F' τ
def sNever : FS := fun _ => none
def sDrop (f : FE) : FS := fun τ => (f τ).bind fun _ => some (.nx τ)
def sApp (i : Nat) (f : FE) : FS := fun τ => (f τ).bind fun d => match τ[i]? with
  | some (.own (.list ds)) => if ds.length < 1000000 then some (.nx (τ.set i (.own (.list (ds ++ [d]))))) else none
  | _ => none
def sCommit (i : Nat) (F : FS) : FS := fun τ => match τ[i]? with
  | some (.own d) => F (τ.set i (.dat d))
  | _ => none
def forL (p : Pat) (F : FS) : List D → FS
  | [], τ => some (.nx τ)
  | d :: ds, τ => (bindP p d τ).bind fun τ1 => (F τ1).bind fun
    | .nx τ2 => forL p F ds τ2
    | .rt r => some (.rt r)
def sFor (fi : FA) (p : Pat) (F : FS) : FS := fun τ => (fi τ).bind fun ds => forL p F ds τ
section
variable {X : Cx} {st : Stmt} {sts : List Stmt} {e a b c : Expr} {pos : Pos} {fa fb fe : FE} {F F' : FS}
theorem PS.im {t t' : TS} (h : PS X st t) (k : ∀ E σ H, t' E σ H → t E σ H) : PS X st t' := ⟨fun pins s σ H D I hw => h.run pins s σ H D I (k D σ H hw)⟩
theorem PSs.im {t t' : TS} (h : PSs X sts t) (k : ∀ E σ H, t' E σ H → t E σ H) : PSs X sts t' := ⟨fun pins s σ H D I hw => h.run pins s σ H D I (k D σ H hw)⟩
theorem q_nil : PSs X [] (Ts sNext) := PSs.im pss_nil fun E σ H ⟨G0, B, G, τ, o, sr, hf, q, _⟩ => by
  cases hf
  exact q τ σ G H rfl sr
theorem Ts.seq {E : Ends} {σ : L2.St} {H : Hp} : Ts (sSeq F F') E σ H → tSeq (Ts F) (Ts F') E σ H := fun ⟨G0, B, G, τ, o, sr, hf, q, qr⟩ => by
  obtain ⟨o1, h1, hf⟩ := bnd hf
  refine ⟨G0, B, G, τ, o1, sr, h1, fun τ' σ' G' H' e s' => ?_, fun d v G' H' e g r => ?_⟩
  · subst e
    exact ⟨G0, B, G', τ', o, s', hf, q, qr⟩
  · subst e
    cases hf
    exact qr d v G' H' rfl g r
theorem q_cons (h1 : PS X st (Ts F)) (h2 : PSs X sts (Ts F')) : PSs X (st :: sts) (Ts (sSeq F F')) := PSs.im (pss_cons h1 h2) fun _ _ _ h => Ts.seq h
theorem q_one (h1 : PS X st (Ts F)) : PSs X [st] (Ts F) := pss_one h1
theorem q_set (i : Nat) {x : Str} {pos' : Pos} (hN : X.N.Nodup) (he : PE X e (T fe)) (hi : X.N[i]? = some x := by rfl) (hx : Loc X.env.scope x := by first | exact Or.inl rfl | exact Or.inr rfl) (hs : swapsWith e (some (.Name x pos')) pos.line X.env = pure false := by rfl)
    (hf : X.fn x = true ∨ X.env.scope.names.lookup x = some .local := by first | exact .inl rfl | exact .inr rfl) : PS X (.Assign [.Name x pos'] e pos) (Ts (sSet i fe)) := PS.im (ps_set hN hi hx he hs hf) fun E σ H ⟨G0, B, G, τ, o, sr, hf, q, qr⟩ => by
  obtain ⟨d, hd, hf⟩ := bnd hf
  cases hf
  exact ⟨G0, B, G, τ, d, sr, hd, fun v G2 H2 g2 r2 => q _ _ G2 H2 rfl ((sr.step g2).set_dat i r2)⟩
theorem q_setO (i : Nat) {x : Str} {pos' : Pos} (hN : X.N.Nodup) (he : PE X e (To fe)) (hi : X.N[i]? = some x := by rfl) (hx : Loc X.env.scope x := by first | exact Or.inl rfl | exact Or.inr rfl) (hs : swapsWith e (some (.Name x pos')) pos.line X.env = pure false := by rfl)
    (hf : X.fn x = true ∨ X.env.scope.names.lookup x = some .local := by first | exact .inl rfl | exact .inr rfl) : PS X (.Assign [.Name x pos'] e pos) (Ts (sSetO i fe)) := PS.im (ps_set hN hi hx he hs hf) fun E σ H ⟨G0, B, G, τ, o, sr, hf, q, qr⟩ => by
  obtain ⟨d, hd, hf⟩ := bnd hf
  cases hf
  refine ⟨G0, B, G, τ, d, sr, hd, fun p G2 H2 g2 hp hg ow => q _ _ G2 H2 rfl ((sr.step g2).set_own i ow hg (sr.gr.nn hp) (sr.own_ne hp))⟩
/-- y = [..] on one line, y a plain local -/
theorem q_setLc (i : Nat) {y : Str} {py : Pos} {elt tg iter : Expr} {ifs : List Expr} {scope : Scope} {own : List (Str × Nat)} {spos : Pos} {fi : FA} {p : Pat} {ft : FT} (hc : X.calm = true) (hN : X.N.Nodup) (hi : PI X tg iter (Ti fi)) (ok : BlkOk X.N X.env.scope scope own) (hp : ∀ i ∈ p.slots, i ∈ own.map (·.2))
    (hsw : swapsWith (.ListComp elt [⟨tg, iter, ifs, 0⟩] scope pos) (some (.Name y py)) spos.line X.env = pure true)
    (hg : ∀ (s : Shared) (H : Hp) (C : Addr) (cl : List (Str × Addr)) (fp : List Addr), PG (X.blk s H scope (compEnvC scope cl C X.env) fp) tg (gPat X.K p)) (ht : ∀ (s : Shared) (H : Hp) (C : Addr) (cl : List (Str × Addr)) (fp : List Addr), PTs (X.blk s H scope (compEnvC scope cl C X.env) fp) ifs (Tt ft))
    (he : ∀ (s : Shared) (H : Hp) (C : Addr) (cl : List (Str × Addr)) (fp : List Addr), PE (X.blk s H scope (compEnvC scope cl C X.env) fp) elt (T fe)) (hy : X.N[i]? = some y := by rfl) (hyl : X.env.scope.names.lookup y = some .local := by rfl) (hs : ∀ x, foldedSetIterable iter X.env x = pure x := by intro _; rfl) :
    PS X (.Assign [.Name y py] (.ListComp elt [⟨tg, iter, ifs, 0⟩] scope pos) spos) (Ts (sSet i (fLc (own.map (·.2)) fi p ft fe))) :=
  PS.im (ps_setLc hc hN hy hyl hsw hi ok hg ht he hs) fun E σ H ⟨G0, B, G, τ, o, sr, hf, q, qr⟩ => by
    obtain ⟨d, hd, hf⟩ := bnd hf
    cases hf
    exact T.lc hp ⟨G0, B, G, τ, d, sr, hd, fun v G2 H2 g2 r2 => q _ _ G2 H2 rfl ((sr.step g2).set_dat i r2)⟩
theorem q_asg {tg : Expr} {p : Pat} (he : PE X e (T fe)) (hg : PG X tg (gPat X.K p)) (hs : swapsWithSole [tg] e pos.line X.env = pure false := by rfl) (hw : swappedStores [tg] e X.env = pure none := by rfl)
    (h1 : (assignEach [tg] X.env).map (·.2) = [assign tg X.env] := by rfl) : PS X (.Assign [tg] e pos) (Ts (sAsg p fe)) := PS.im (ps_asg he hg hs hw h1) fun E σ H ⟨G0, B, G, τ, o, sr, hf, q, qr⟩ => by
  obtain ⟨d, hd, hf⟩ := bnd hf
  obtain ⟨τ', hb, hf⟩ := bnd hf
  cases hf
  exact ⟨G0, B, G, τ, d, sr, hd, fun v G2 H2 g2 r2 => gPat_ok (sr.step g2) r2 hb fun σ' s' _ => q _ _ G2 H2 rfl s'⟩
theorem q_ret (he : PE X e (T fe)) : PS X (.Return (some e) pos) (Ts (sRet fe)) := PS.im (ps_ret he) fun E σ H ⟨G0, B, G, τ, o, sr, hf, q, qr⟩ => by
  obtain ⟨d, hd, hf⟩ := bnd hf
  cases hf
  exact ⟨G0, B, G, τ, d, sr, hd, fun v G2 H2 g2 r2 => qr d v G2 H2 rfl (sr.gr.trans g2) r2⟩
theorem q_drop (he : PE X e (T fe)) (hs : swapsWith e none pos.line X.env = pure false := by rfl) : PS X (.Expr e pos) (Ts (sDrop fe)) := PS.im (ps_expr he hs) fun E σ H ⟨G0, B, G, τ, o, sr, hf, q, qr⟩ => by
  obtain ⟨d, hd, hf⟩ := bnd hf
  cases hf
  exact ⟨G0, B, G, τ, d, sr, hd, fun v G2 H2 g2 r2 => q _ _ G2 H2 rfl (sr.step g2)⟩
theorem q_if {xs ys : List Stmt} {ft : FT} (hc : PT X c (Tt ft)) (ha : PSs X xs (Ts F)) (hb : PSs X ys (Ts F')) : PS X (.If c xs ys pos) (Ts (sIf ft F F')) := PS.im (ps_if hc ha hb) fun E σ H ⟨G0, B, G, τ, o, sr, hf, q, qr⟩ => by
  obtain ⟨d, hd, hf⟩ := bnd hf
  refine ⟨G0, B, G, τ, d, sr, hd, fun G2 H2 g2 => ?_⟩
  cases d with
  | true =>
    rw [if_pos rfl] at hf ⊢
    exact ⟨G0, B, G2, τ, o, sr.step g2, hf, q, qr⟩
  | false =>
    rw [if_neg (by decide)] at hf ⊢
    exact ⟨G0, B, G2, τ, o, sr.step g2, hf, q, qr⟩
theorem q_never : PSs X sts (Ts sNever) := PSs.im pss_never fun E σ H ⟨G0, B, G, τ, o, sr, hf, q, _⟩ => by cases hf
theorem q_commit (i : Nat) (h : PS X st (Ts F)) : PS X st (Ts (sCommit i F)) := PS.im h fun E σ H ⟨G0, B, G, τ, o, sr, hf, q, qr⟩ => by
  unfold sCommit at hf
  split at hf
  · rename_i d hd
    obtain ⟨G', s', _⟩ := sr.commit hd
    exact ⟨G0, B, G', _, o, s', hf, q, qr⟩
  · cases hf
theorem q_for {tg iter : Expr} {body : List Stmt} {fi : FA} {p : Pat} (hp : PassesOwn (model X.prog X.w) X.A X.env X.xe) (hc : X.calm = true) (hi : PI X tg iter (Ti fi)) (hg : PG X tg (gPat X.K p)) (hb : PSs X body (Ts F))
    (hs : ∀ x, foldedSetIterable iter X.env x = pure x := by intro _; rfl) : PS X (.For tg iter body [] pos) (Ts (sFor fi p F)) := PS.im (ps_for hp hc hi hg hb hs) fun E σ H ⟨G0, B, G, τ, o, sr, hf, q, qr⟩ => by
  obtain ⟨ds, hd, hf⟩ := bnd hf
  refine ⟨G0, B, G, τ, ds, sr, hd, fun J G2 H2 lk g2 yl sx => ?_⟩
  obtain ⟨B', s', hB, hBn, hgr⟩ := (sr.step g2).rebase
  have sxB : Sx lk B' := fun d ob u e => hB _ _ (sx d ob u e) fun _ _ => ⟨(fun z => by cases z), (fun z => by cases z)⟩
  refine ⟨fun i m σ H => m = ds.length - i ∧ i ≤ ds.length ∧ ∃ (G : Hp) (τ : Store), SR G2 B' G H σ τ ∧ forL p F (ds.drop i) τ = some o, ⟨ds.length, by simp, Nat.zero_le _, G2, τ, s', by simpa using hf⟩, ?_⟩
  rintro i m σ1 H1 ⟨rfl, hil, G1, τ1, s1, hL⟩
  have sx1 := sxB.gr s1.gr
  by_cases hlt : i < ds.length
  · refine .inr ⟨yl.go i G1 H1 s1.gr.g s1.gr.le sx1 hlt, fun σ' H' => ∃ (G : Hp) (τ : Store), SR G2 B' G H' σ' τ ∧ forL p F (ds.drop (i + 1)) τ = some o, fun σ' H' h => ⟨ds.length - (i + 1), by omega, rfl, hlt, h⟩, fun x H3 y => ?_⟩
    obtain ⟨G3, g3, r3⟩ := yl.yl i _ G1 H1 x H3 s1.gr.g s1.gr.le sx1 (List.getElem?_eq_getElem hlt) y
    rw [List.drop_eq_getElem_cons hlt] at hL
    obtain ⟨τ2, hb2, hL⟩ := bnd hL
    obtain ⟨o2, ho2, hL⟩ := bnd hL
    refine gPat_ok (s1.step g3) r3 hb2 fun σ3 s3 _ => ⟨G2, B', G3, τ2, o2, s3, ho2, fun τ' σ' G' H' e s' => ?_, fun d v G' H' e g r => ?_⟩
    · subst e
      exact ⟨G', τ', s', hL⟩
    · subst e
      cases hL
      exact qr d v G' H' rfl (hgr _ _ g) r
  · have e : i = ds.length := by omega
    subst e
    rw [List.drop_length] at hL
    cases hL
    refine .inl ⟨yl.st G1 H1 s1.gr.g s1.gr.le sx1, q τ1 σ1 G1 H1 rfl ⟨hgr _ _ s1.gr, s1.dat, fun i d h => ?_, s1.one, s1.len⟩⟩
    obtain ⟨a, k1, k2, k3, k4⟩ := s1.own i d h
    exact ⟨a, k1, k2, k3, hBn a k4⟩
/-- list.append on an own list -/
theorem q_app (i : Nat) {x : Str} {px apos cpos : Pos} (he : PE X e (T fe)) (hi : X.N[i]? = some x := by rfl) (hv : Vis X.env.scope x := by first | exact Or.inl rfl | exact Or.inr (Or.inl rfl) | exact Or.inr (Or.inr rfl)) (hd : (x == ("__debug__" : Str)) = false := by decide)
    (hcd : (x == ("__classdict__" : Str)) = false := by decide) {pl : PE X (.Call (.Attribute (.Name x px) "append" apos) [e] [] cpos) (tBM X.K "list" rAppend (tVar i) (tCons (T fe) tNil))} (hs : swapsWith (.Call (.Attribute (.Name x px) "append" apos) [e] [] cpos) none pos.line X.env = pure false := by rfl) :
    PS X (.Expr (.Call (.Attribute (.Name x px) "append" apos) [e] [] cpos) pos) (Ts (sApp i fe)) := PS.im (ps_expr pl hs) fun E σ H ⟨G0, B, G, τ, o, sr, hf, q, qr⟩ => by
  obtain ⟨d, hd, hf⟩ := bnd hf
  split at hf
  · rename_i ds hds
    split at hf
    · rename_i hl
      cases hf
      obtain ⟨a, h1, h2, h3, h4⟩ := sr.own i _ hds
      obtain ⟨xs, hx, rx⟩ := id h2
      refine ⟨_, h1, .inl ⟨rfl, xs, SqL.of hx⟩, G0, B, G, τ, d, sr, hd, fun v G2 H2 g2 r2 => ?_⟩
      obtain ⟨⟨xs', hx', rx'⟩, hg2⟩ := h2.step g2 h3
      exact ⟨a, xs', v, rfl, rfl, hx', by rw [rx'.length, sizeLine_eq]; omega, q _ _ G2 _ rfl ((sr.step g2).mut hds h1 ⟨xs' ++ [v], upd_same, rx'.app (.cons r2 .nil)⟩)⟩
    · cases hf
  · cases hf
end
end SQ
end
section
set_option Elab.async false
set_option linter.all false
set_option maxRecDepth 100000
set_option maxHeartbeats 4000000
/-! enumerate of tuples, dicts with tuple keys walked, stored, read; two names at once; defs. -/
namespace SQ
open PySem PySem.Spec PyProof.Rows L2

/-! ### enumerate(tuple) -/
theorem meets_enumerate_newT (l : Addr) (items : Array Value) (n : Nat) (dct : Option Addr) (sl : Array (Option Value)) :
    Meets (Builtin.«enumerate.__new__» ⟨[.type "enumerate", .ref l], []⟩) (fun _ R s => s.heap.get? l = some { cls := .type "tuple", dict := dct, data := .seq items n, slots := sl } ∧
      R (.ok (.ret (.ref (s.heap.push { cls := .type "tuple_iterator", data := .fields #[.ref l, .int 0 0] }).objs.size)))
        { s with heap := (s.heap.push { cls := .type "tuple_iterator", data := .fields #[.ref l, .int 0 0] }).push { cls := .type "enumerate", data := .fields #[.none, .bool false, .ref s.heap.objs.size, rawInt 0, .none, .none] } }) :=
  .of_wp fun prog w A R s h => by
    obtain ⟨hp, g, d, tk, os⟩ := s; obtain ⟨hl, h⟩ := h
    have hsub := sub_enumerate
    have hL : Heap.IsTuple (Shared.heap ⟨hp, g, d, tk, os⟩) l items := ⟨_, hl, rfl, n, rfl⟩
    wp_walk using PySem.AutoSeq1.wpAny_loadPart' hl
    refine wpAny_stack_any fun st => wpAny_pure ?_
    split
    · rename_i c _ _ _ _ _
      cases (c == Value.type "enumerate")
      · wp_walk using PySem.AutoSeq1.wpAny_loadPart' hl, wpAny_pyIter_tuple hL
        exact ⟨_, rfl, h⟩
      · wp_walk using PySem.AutoSeq1.wpAny_loadPart' hl, wpAny_pyIter_tuple hL
        exact ⟨_, rfl, h⟩
    · wp_walk using PySem.AutoSeq1.wpAny_loadPart' hl, wpAny_pyIter_tuple hL
      exact ⟨_, rfl, h⟩
theorem call_enumerate_tuple {prog : Program} {w : World} {A : Around} {E : Value → Shared → Prop} {s : Shared} {l : Addr} {items : Array Value} {Q : Value → Shared → Prop} (hL : s.heap.IsTuple l items)
    (h : ∀ h', IsEnum h' (s.heap.objs.size + 1) s.heap.objs.size 0 .none → h'.IsTupleIter s.heap.objs.size l 0 → h'.objs.size = s.heap.objs.size + 2 →
      (∀ b o, s.heap.get? b = some o → h'.get? b = some o) → Q (.ref (s.heap.objs.size + 1)) { s with heap := h' }) :
    wpAny (model prog w) A (call (.type "enumerate") [.ref l]) Q E s := by
  obtain ⟨⟨c, dct, dt, sl⟩, hl, hc, n, hd⟩ := hL
  replace hc : c = .type "tuple" := hc
  replace hd : dt = .seq items n := hd
  subst hc hd
  refine callType_new F.called_enumerate (by decide) (F.typeCall_enumerate_1 _) (F.newCall_enumerate_1 _) (fun obj => F.args_object_init_2 obj _) F.entry_enumerate_new
    (meets_enumerate_newT l items n dct sl) ⟨hl, ?_⟩
  have hz : (s.heap.push { cls := .type "tuple_iterator", data := .fields #[.ref l, .int 0 0] }).objs.size = s.heap.objs.size + 1 := Heap.size_push ..
  show _ ∧ _
  rw [hz]
  have he : IsEnum ((s.heap.push { cls := .type "tuple_iterator", data := .fields #[.ref l, .int 0 0] }).push
      { cls := .type "enumerate", data := .fields #[.none, .bool false, .ref s.heap.objs.size, rawInt 0, .none, .none] }) (s.heap.objs.size + 1) s.heap.objs.size 0 .none := by
    have := Heap.get?_push_size (s.heap.push { cls := .type "tuple_iterator", data := .fields #[.ref l, .int 0 0] })
      (o := { cls := .type "enumerate", data := .fields #[.none, .bool false, .ref s.heap.objs.size, rawInt 0, .none, .none] }) rfl
    rw [hz] at this; exact this
  refine ⟨⟨_, he, rfl⟩, h _ he ⟨_, Heap.get?_push_of_some _ (Heap.get?_push_size _ rfl), rfl, rfl⟩ (by rw [Heap.size_push, hz]) fun b o x => Heap.get?_push_of_some _ (Heap.get?_push_of_some _ x)⟩
theorem wpAny_pyNext_enum_endT {prog : Program} {w : World} {A : Around} {E : Value → Shared → Prop} {s : Shared} {e it l : Addr} {i : Nat} {items : Array Value} {old : Value} {Q : Option Value → Shared → Prop} (hh : A.handled = none)
    (he : IsEnum s.heap e it i old) (hit : s.heap.IsTupleIter it l i) (hl : s.heap.IsTuple l items) (hx : items[i]? = none)
    (hQ : ∀ h', Heap.ExtBut it s.heap h' → Q none { s with heap := h' }) : wpAny (model prog w) A (pyNext (.ref e)) Q E s := by
  have hT : s.TypeIs (.ref e) "enumerate" := ⟨_, he, rfl⟩
  unfold pyNext
  refine wpAny_bind (wpAny_attempt (wpAny_callSpecial?_slot (name := Str.ofString "__next__") hT F.slot_enumerate_next
    (wpAny_call_entry F.slot_enumerate_next hT F.entry_enumerate_next ?_ (F.args_enumerate_next_1 _))))
  show wpAny _ _ (field (.ref e) 2 >>= _) _ _ _
  refine wpAny_bind (wpAny_field he rfl (x := .ref it) rfl ?_)
  refine wpAny_bind (wpAny_nextOf_tuple_end hh hit hl hx fun h' x he' hx' => ?_)
  obtain ⟨o, ho, hc⟩ := hx'
  refine wpAny_bind (wpAny_isInstance (T := "StopIteration") (b := true) ⟨o, ho, hc⟩ isSubtype_stop ?_)
  exact wpAny_pure (hQ _ he')
def IteT (K : PySem.W.Frag) (a : Addr) : It :=
  ⟨fun i H => ∃ (xs : List V) (x : V), SqT K H a xs ∧ xs[i]? = some x, fun i H v H' => ∃ T x, v = .ref T ∧ H T = none ∧ H' = upd H T (.tup [.int (i : Nat), x]) ∧ ∀ xs, SqT K H a xs → xs[i]? = some x, fun i H => ∃ xs : List V, SqT K H a xs ∧ xs.length ≤ i⟩
theorem turn_enumT {P : Program} {w : World} {K : PySem.W.Frag} {elts : List Expr} {kk : Nat} {tpos : Pos} (a e it : Addr) (hai : a ≠ it) (hae : a ≠ e) :
    Turn P w K (.Tuple elts kk tpos) (IteT K a) [e, it] e (fun i h => (∃ old, IsEnum h e it ((i : Nat) : Int) old) ∧ h.IsTupleIter it a i ∧ e ≠ it) where
  mem := by simp
  obj := fun i h st b hb => by
    obtain ⟨⟨old, he⟩, ⟨o, ho, hc, hd⟩, _⟩ := st
    have e' : b = e ∨ b = it := by simpa using hb
    rcases e' with z | z
    · rw [z]; exact ⟨_, he, fun v q => nomatch q⟩
    · rw [z]; exact ⟨o, ho, fun v q => by rw [hd] at q; cases q⟩
  keep := fun i h h' st k => let ⟨⟨old, he⟩, hi, hne⟩ := st; ⟨⟨old, k e (by simp) _ he⟩, hi.at fun o q => k it (by simp) o q, hne⟩
  item := by
    intro X hP hw hK hc i pins s σ H E I hf st hg
    subst hP hw hK
    obtain ⟨⟨old, he⟩, hit, hne⟩ := st
    obtain ⟨xs, x, hq, hx⟩ := hg
    obtain ⟨its, rv, p, hz⟩ := I.tuple hq
    obtain ⟨u, hu, ru⟩ := rv.get hx
    have hel : e < s.heap.objs.size := Heap.lt_size he
    have hil : it < s.heap.objs.size := by obtain ⟨_, q, _⟩ := hit; exact Heap.lt_size q
    have hlt : i < its.toArray.size := by
      rw [List.size_toArray]
      exact (List.getElem?_eq_some_iff.mp hu).1
    refine wpAny_pyNext_enum_itemD (Draws.tuple (prog := X.prog) (w := X.w) (A := X.A.in1) (I.ok.hd hc) it a hai its.toArray) he (i := i) ⟨hit, p⟩ hlt hne (by simp [hne, Ne.symm hae]) fun y h' tk hP' ho hs' hT hsz hk => ?_
    have ey : y = u := by
      have q : its.toArray[i]? = some y := hP'
      rw [List.getElem?_toArray, hu] at q
      exact (Option.some.inj q).symm
    subst ey
    refine ⟨_, rfl, wpAny_letOwnedTupleGo_enum (s := { s with heap := h', toks := tk + 1 }) ho fun h'' he' sb => ?_⟩
    have hT2 : h''.get? s.heap.objs.size = some { cls := .type "tuple", data := .seq #[.int i tk, y] } := (sb.2 _ (Nat.ne_of_gt hel)).trans hT
    have new : ObjOk X.prog X.w (upd H s.heap.objs.size (.tup [.int (i : Nat), x])) h'' s.heap.objs.size (.tup [.int (i : Nat), x]) :=
      ⟨by show 2 ≤ sizeLine; decide, [.int i tk, y], .cons ⟨_, rfl⟩ (.cons ru .nil), ⟨_, hT2, rfl, _, rfl⟩⟩
    have I1 : Inv X pins σ (upd H s.heap.objs.size (.tup [.int (i : Nat), x])) { s with heap := h'', toks := tk + 1 } :=
      I.turnedNew (ch := [e, it]) (fun b o hb q => (sb.2 b (fun z => hb (by simp [z]))).trans (hk b o (fun z => hb (by simp [z])) (fun z => hb (by simp [z])) q)) hf (Nat.le_refl _) new
    refine ⟨.ref s.heap.objs.size, _, I1, rfl, ⟨_, x, rfl, I.hok.fresh (Nat.le_refl _), rfl, fun ys hy => by rw [I.tuple_inj hy hq]; exact hx⟩, ⟨⟨y, ?_⟩, hs'.1.at fun o q => (sb.2 it (Ne.symm hne)).trans q, hne⟩, fun b hb => ?_⟩
    · have e1 : ((i + 1 : Nat) : Int) = (i : Int) + 1 := by omega
      rw [e1]; exact he'
    · have hb' : b < s.heap.objs.size := by
        have e' : b = e ∨ b = it := by simpa using hb
        rcases e' with z | z
        · rw [z]; exact hel
        · rw [z]; exact hil
      rw [upd_ne (Nat.ne_of_lt hb')]
      exact (hf b hb).1
  done := by
    intro X hP hw hK hc i pins s σ H E I hf st hg
    subst hP hw hK
    obtain ⟨⟨old, he⟩, hit, hne⟩ := st
    obtain ⟨xs, hq, hx⟩ := hg
    obtain ⟨its, rv, p, hz⟩ := I.tuple hq
    have hl := rv.length
    have hi : i = i := rfl
    refine wpAny_pyNext_enum_endT (I.ok.hd hc) he hit p (by simp; omega) fun h' eb => ⟨rfl, ?_⟩
    obtain ⟨f0, f1, f2, f3, f4, f5⟩ := hf it (by simp)
    exact I.turned (t' := s.toks) (fun b o hb q => eb b o hb q) f0 f1 f3 f4 f5
  self := fun A i s Q E st h => let ⟨⟨_, he⟩, _⟩ := st; wpAny_pyIter_enum he h
def iEnumT (K : PySem.W.Frag) (ta : TA) : TI := fun σ H R => ta σ H fun vs H1 => ∃ a xs, vs = [.ref a] ∧ SqT K H1 a xs ∧ R (IteT K a) H1
theorem pi_enumT {X : Cx} {e : Expr} {ta : TA} {p pos tpos : Pos} {elts : List Expr} {kk : Nat} (hg : Gl X "enumerate") (hm : X.mg "enumerate" = none) (ha : PA X [e] ta) (hs : starEach [e] X.env = [(false, eval e X.env)] := by rfl) :
    PI X (.Tuple elts kk tpos) (.Call (.Name "enumerate" p) [e] [] pos) (iEnumT X.K ta) := by
  refine ⟨fun pins s σ H R I h => ?_⟩
  refine Call_ (ld_blt I hg hm boot_enumerate (PyProof.Rows.callWith_type1 (thn (ha.run pos pins s σ H _ I h) fun us s1 ⟨vs, H1, I1, r1, q1⟩ => ?_) hs rfl))
  obtain ⟨a, xs, ex, hq, q⟩ := q1
  subst ex
  cases r1 with
  | cons r rr =>
    cases rr
    cases r
    obtain ⟨its, rv, p', hz⟩ := I1.tuple hq
    have hal : a < s1.heap.objs.size := by obtain ⟨o, ho, _⟩ := id p'; exact Heap.lt_size ho
    refine call_enumerate_tuple (show s1.heap.IsTuple a its.toArray from p') fun h' he hit hsz hk => wpAny_pyIter_enum he ?_
    have I2 : Inv X pins σ H1 { s1 with heap := h' } := I1.kept (t' := s1.toks) hk
    refine ⟨s1.heap.objs.size + 1, [s1.heap.objs.size + 1, s1.heap.objs.size], _, _, H1, rfl, I2, turn_enumT a (s1.heap.objs.size + 1) s1.heap.objs.size (Nat.ne_of_lt hal) (Nat.ne_of_lt (Nat.lt_succ_of_lt hal)), ⟨⟨.none, he⟩, hit, Nat.succ_ne_self _⟩, fun b hb => ?_, q⟩
    have e' : b = s1.heap.objs.size + 1 ∨ b = s1.heap.objs.size := by simpa using hb
    have hle : s1.heap.objs.size ≤ b := by
      rcases e' with z | z
      · rw [z]; exact Nat.le_add_right _ _
      · rw [z]; exact Nat.le_refl _
    exact I1.fpOk hle (I1.hok.fresh hle)
def enumD (ds : List D) : List D := (List.range ds.length).zipWith (fun (i : Nat) d => .tuple [.int (i : Int), d]) ds
theorem enumD_get {ds : List D} {i : Nat} {d : D} (h : (enumD ds)[i]? = some d) : ∃ e, ds[i]? = some e ∧ d = .tuple [.int (i : Int), e] := by
  unfold enumD at h
  rw [List.getElem?_zipWith] at h
  cases hd : ds[i]? with
  | none => rw [hd] at h; cases hr : (List.range ds.length)[i]? <;> (rw [hr] at h; cases h)
  | some e =>
    have hl : i < ds.length := (List.getElem?_eq_some_iff.mp hd).1
    rw [hd, List.getElem?_range hl] at h
    cases h
    exact ⟨e, rfl, rfl⟩
theorem enumD_len (ds : List D) : (enumD ds).length = ds.length := by
  unfold enumD
  rw [List.length_zipWith, List.length_range, Nat.min_self]
theorem new_pair {G H H' : Hp} {T : Addr} {x y : V} {d e : D} (le : Le G H) (hT : H T = none) (rx : Rp G x d) (ry : Rp G y e) (eH : H' = upd H T (.tup [x, y])) : ∃ G'', Gr G H G'' H' ∧ Rp G'' (.ref T) (.tuple [d, e]) := by
  subst eH
  have gr := Gr.new (o := .tup [x, y]) le hT
  exact ⟨_, gr, .tup upd_same (.cons (rx.mono gr.g) (.cons (ry.mono gr.g) .nil))⟩
theorem yl_enumL {K : PySem.W.Frag} {G : Hp} {a : Addr} {xs : List V} {ds : List D} (h : G a = some (.lst xs)) (r : RpA G xs ds) : Yl (Ite K a) G none (enumD ds) := by
  refine ⟨fun i G' H' sm le _ hi => ?_, fun i d G' H' x H'' sm le _ hd y => ?_, fun G' H' sm le _ => ?_⟩
  · rw [enumD_len] at hi
    obtain ⟨x, hx, _⟩ := r.get (List.getElem?_eq_getElem hi)
    exact ⟨xs, x, SqL.of (le.lst (sm _ _ h)), hx⟩
  · obtain ⟨T, z, rfl, hT, eH, y⟩ := y
    obtain ⟨e, he, rfl⟩ := enumD_get hd
    have hx := y xs (SqL.of (le.lst (sm _ _ h)))
    obtain ⟨z', hz, rz⟩ := r.get he
    rw [hx] at hz
    cases hz
    exact new_pair le hT (.int _) (rz.mono sm) eH
  · exact ⟨xs, SqL.of (le.lst (sm _ _ h)), by rw [enumD_len, r.length]; exact Nat.le_refl _⟩
theorem yl_enumT {K : PySem.W.Frag} {G : Hp} {a : Addr} {xs : List V} {ds : List D} (h : G a = some (.tup xs)) (r : RpA G xs ds) : Yl (IteT K a) G none (enumD ds) := by
  refine ⟨fun i G' H' sm le _ hi => ?_, fun i d G' H' x H'' sm le _ hd y => ?_, fun G' H' sm le _ => ?_⟩
  · rw [enumD_len] at hi
    obtain ⟨x, hx, _⟩ := r.get (List.getElem?_eq_getElem hi)
    exact ⟨xs, x, SqT.of (le.tup (sm _ _ h)), hx⟩
  · obtain ⟨T, z, rfl, hT, eH, y⟩ := y
    obtain ⟨e, he, rfl⟩ := enumD_get hd
    have hx := y xs (SqT.of (le.tup (sm _ _ h)))
    obtain ⟨z', hz, rz⟩ := r.get he
    rw [hx] at hz
    cases hz
    exact new_pair le hT (.int _) (rz.mono sm) eH
  · exact ⟨xs, SqT.of (le.tup (sm _ _ h)), by rw [enumD_len, r.length]; exact Nat.le_refl _⟩
def fEnum (f : FE) : FA := fun τ => (f τ).bind fun
  | .list ds => some (enumD ds)
  | .tuple ds => some (enumD ds)
  | _ => none
section
variable {X : Cx} {tg e a b c e2 : Expr} {es : List Expr} {pos : Pos} {fe fa fb : FE} {fr : FA}
theorem i_enum {elts : List Expr} {kk : Nat} {tpos p : Pos} (hg : Gl X "enumerate") (hm : X.mg "enumerate" = none) (h : PE X e (T fe)) (h1 : starEach (e :: []) X.env = (false, eval e X.env) :: starEach [] X.env := by rfl) (hs : starEach [e] X.env = [(false, eval e X.env)] := by rfl) :
    PI X (.Tuple elts kk tpos) (.Call (.Name "enumerate" p) [e] [] pos) (Ti (fEnum fe)) := by
  have hpa := pa_cons h pa_nil h1
  refine ⟨fun pins s σ H R I hw => ?_⟩
  obtain ⟨G0, B, G, τ, ds, sr, hf, q⟩ := hw
  obtain ⟨d, hd, hf⟩ := bnd hf
  split at hf
  · cases hf
    refine (pi_enum hg hm hpa hs).run pins s σ H R I ⟨G0, B, G, τ, _, sr, hd, fun v G2 H2 g2 r2 => ?_⟩
    cases r2 with
    | lst h1 a1 => exact ⟨_, _, rfl, SqL.of (g2.le.lst h1), q _ G2 H2 none g2 (yl_enumL h1 a1) Sx.no⟩
  · cases hf
    refine (pi_enumT hg hm hpa hs).run pins s σ H R I ⟨G0, B, G, τ, _, sr, hd, fun v G2 H2 g2 r2 => ?_⟩
    cases r2 with
    | tup h1 a1 => exact ⟨_, _, rfl, SqT.of (g2.le.tup h1), q _ G2 H2 none g2 (yl_enumT h1 a1) Sx.no⟩
  · cases hf
/-! ### zip -/
def zipD (ds es : List D) : List D := ds.zipWith (fun d e => .tuple [d, e]) es
def fZip (f g : FE) : FA := fun τ => (f τ).bind fun a => (g τ).bind fun b => match a, b with
  | .list ds, .list es => some (zipD ds es)
  | .tuple ds, .tuple es => some (zipD ds es)
  | _, _ => none
theorem zipD_get {ds es : List D} {i : Nat} {d : D} (h : (zipD ds es)[i]? = some d) : ∃ x y, ds[i]? = some x ∧ es[i]? = some y ∧ d = .tuple [x, y] := by
  unfold zipD at h
  rw [List.getElem?_zipWith] at h
  cases h1 : ds[i]? with
  | none => rw [h1] at h; cases h2 : es[i]? <;> (rw [h2] at h; cases h)
  | some x => cases h2 : es[i]? with
    | none => rw [h1, h2] at h; cases h
    | some y => rw [h1, h2] at h; cases h; exact ⟨x, y, rfl, rfl, rfl⟩
theorem yl_zipL {K : PySem.W.Frag} {G : Hp} {a b : Addr} {xs ys : List V} {ds es : List D} (h : G a = some (.lst xs)) (r : RpA G xs ds) (h' : G b = some (.lst ys)) (r' : RpA G ys es) : Yl (Itz K a b) G none (zipD ds es) := by
  have hlen : (zipD ds es).length = min ds.length es.length := List.length_zipWith
  refine ⟨fun i G' H' sm le _ hi => ?_, fun i d G' H' x H'' sm le _ hd y => ?_, fun G' H' sm le _ => ?_⟩
  · obtain ⟨x, hx, _⟩ := r.get (List.getElem?_eq_getElem (show i < ds.length by omega))
    obtain ⟨y, hy, _⟩ := r'.get (List.getElem?_eq_getElem (show i < es.length by omega))
    exact ⟨xs, ys, x, y, SqL.of (le.lst (sm _ _ h)), SqL.of (le.lst (sm _ _ h')), hx, hy⟩
  · obtain ⟨T, z, z', rfl, hT, eH, y1, y2⟩ := y
    obtain ⟨e, e', he, he', rfl⟩ := zipD_get hd
    have hx := y1 xs (SqL.of (le.lst (sm _ _ h)))
    have hy := y2 ys (SqL.of (le.lst (sm _ _ h')))
    obtain ⟨_, hz, rz⟩ := r.get he
    rw [hx] at hz
    cases hz
    obtain ⟨_, hz, rz'⟩ := r'.get he'
    rw [hy] at hz
    cases hz
    exact new_pair le hT (rz.mono sm) (rz'.mono sm) eH
  · exact ⟨xs, ys, SqL.of (le.lst (sm _ _ h)), SqL.of (le.lst (sm _ _ h')), by rw [hlen, r.length, r'.length]; omega⟩
theorem yl_zipT {K : PySem.W.Frag} {G : Hp} {a b : Addr} {xs ys : List V} {ds es : List D} (h : G a = some (.tup xs)) (r : RpA G xs ds) (h' : G b = some (.tup ys)) (r' : RpA G ys es) : Yl (RZ.ItzT K a b) G none (zipD ds es) := by
  have hlen : (zipD ds es).length = min ds.length es.length := List.length_zipWith
  refine ⟨fun i G' H' sm le _ hi => ?_, fun i d G' H' x H'' sm le _ hd y => ?_, fun G' H' sm le _ => ?_⟩
  · obtain ⟨x, hx, _⟩ := r.get (List.getElem?_eq_getElem (show i < ds.length by omega))
    obtain ⟨y, hy, _⟩ := r'.get (List.getElem?_eq_getElem (show i < es.length by omega))
    exact ⟨xs, ys, x, y, SqT.of (le.tup (sm _ _ h)), SqT.of (le.tup (sm _ _ h')), hx, hy⟩
  · obtain ⟨T, z, z', rfl, hT, eH, y1, y2⟩ := y
    obtain ⟨e, e', he, he', rfl⟩ := zipD_get hd
    have hx := y1 xs (SqT.of (le.tup (sm _ _ h)))
    have hy := y2 ys (SqT.of (le.tup (sm _ _ h')))
    obtain ⟨_, hz, rz⟩ := r.get he
    rw [hx] at hz
    cases hz
    obtain ⟨_, hz, rz'⟩ := r'.get he'
    rw [hy] at hz
    cases hz
    exact new_pair le hT (rz.mono sm) (rz'.mono sm) eH
  · exact ⟨xs, ys, SqT.of (le.tup (sm _ _ h)), SqT.of (le.tup (sm _ _ h')), by rw [hlen, r.length, r'.length]; omega⟩
theorem i_zip {elts : List Expr} {kk : Nat} {tpos p : Pos} (hg : Gl X "zip") (hm : X.mg "zip" = none) (h : PE X e (T fa)) (h' : PE X e2 (T fb)) (h1 : starEach (e :: [e2]) X.env = (false, eval e X.env) :: starEach [e2] X.env := by rfl) (h2 : starEach (e2 :: []) X.env = (false, eval e2 X.env) :: starEach [] X.env := by rfl)
    (hpl : (backTo pos (starEach [e2] X.env)).any (·.1) = false := by rfl) : PI X (.Tuple elts kk tpos) (.Call (.Name "zip" p) [e, e2] [] pos) (Ti (fZip fa fb)) :=
  PI.im (RZ.pi_zipA hg hm (pa_cons h (pa_cons h' pa_nil h2) h1) h1 hpl) fun σ H R ⟨G0, B, G, τ, ds, sr, hf, q⟩ => by
    obtain ⟨d, hd, hf⟩ := bnd hf
    obtain ⟨d', hd', hf⟩ := bnd hf
    refine ⟨G0, B, G, τ, d, sr, hd, fun v G2 H2 g2 r2 => ⟨G0, B, G2, τ, d', sr.step g2, hd', fun v' G3 H3 g3 r3 => ?_⟩⟩
    have r2' := r2.mono g3.g
    split at hf
    · cases hf
      cases r2' with
      | lst a1 b1 => cases r3 with
        | lst a2 b2 => exact ⟨_, _, _, _, rfl, .inl ⟨SqL.of (g3.le.lst a1), SqL.of (g3.le.lst a2), q _ G3 H3 none (g2.trans g3) (yl_zipL a1 b1 a2 b2) Sx.no⟩⟩
    · cases hf
      cases r2' with
      | tup a1 b1 => cases r3 with
        | tup a2 b2 => exact ⟨_, _, _, _, rfl, .inr ⟨SqT.of (g3.le.tup a1), SqT.of (g3.le.tup a2), q _ G3 H3 none (g2.trans g3) (yl_zipT a1 b1 a2 b2) Sx.no⟩⟩
    · cases hf
end
end SQ
end
section
set_option Elab.async false
set_option linter.all false
set_option maxRecDepth 100000
set_option maxHeartbeats 4000000
/-! Dicts with tuple keys; two names at once; defs. -/
namespace SQ
open PySem PySem.Spec PyProof.Rows L2

/-! ### tables -/
def keyOf : D → Option (List Int)
  | .tuple ds => intsOf ds
  | _ => none
def lookD : List (D × D) → List Int → Option D
  | [], _ => none
  | (k, d) :: r, ks => if keyOf k = some ks then some d else lookD r ks
def hasD : List (D × D) → List Int → Bool
  | [], _ => false
  | (k, _) :: r, ks => decide (keyOf k = some ks) || hasD r ks
def replD : List (D × D) → List Int → D → List (D × D)
  | [], _, _ => []
  | (k, d) :: r, ks, e => (if keyOf k = some ks then (k, e) else (k, d)) :: replD r ks e
def putD (des : List (D × D)) (ks : List Int) (d : D) : List (D × D) := if hasD des ks = true then replD des ks d else des ++ [(.tuple (ks.map PyData.int), d)]
theorem intsOf_map : ∀ ks : List Int, intsOf (ks.map PyData.int) = some ks
  | [] => rfl
  | k :: r => by
    show (intsOf (r.map PyData.int)).bind _ = _
    rw [intsOf_map r]
    rfl
theorem keyOf_tup (ks : List Int) : keyOf (.tuple (ks.map PyData.int)) = some ks := intsOf_map ks
theorem inl_inj : ∀ {a b : List Int}, (a.map Sum.inl : List Key) = b.map Sum.inl → a = b
  | [], [], _ => rfl
  | [], _ :: _, h => by cases h
  | _ :: _, [], h => by cases h
  | a :: as, b :: bs, h => by
    rw [List.map_cons, List.map_cons] at h
    injection h with h1 h2
    injection h1 with h1
    rw [h1, inl_inj h2]
theorem kV_inl (ks : List Int) : (ks.map Sum.inl : List Key).map kV = ks.map V.int := by
  rw [List.map_map]
  rfl
theorem lookD_ok {G : Hp} {ks : List Int} : ∀ {kvs : List (List Key × V)} {des : List (D × D)} {d : D}, RpD G kvs des → lookD des ks = some d → ∃ v, valV kvs (ks.map Sum.inl : List Key) = some v ∧ Rp G v d
  | _, [], _, _, h => by cases h
  | _, _ :: _, d, .cons (ks := js) (v := v) (kvs := kvs) (d := e) (des := r) r1 r2, h => by
    unfold lookD at h
    rw [keyOf_tup] at h
    by_cases e1 : js = ks
    · subst e1
      rw [if_pos rfl] at h
      cases h
      exact ⟨v, valV_pos (p := (js.map Sum.inl, v)) rfl, r1⟩
    · rw [if_neg (fun z => e1 (Option.some.inj z))] at h
      obtain ⟨w, h1, h2⟩ := lookD_ok r2 h
      exact ⟨w, by rw [valV_neg (p := (js.map Sum.inl, v)) (fun z => e1 (inl_inj z))]; exact h1, h2⟩
theorem hasD_any {G : Hp} {ks : List Int} : ∀ {kvs : List (List Key × V)} {des : List (D × D)}, RpD G kvs des → hasD des ks = kvs.any fun kv => decide (kv.1 = (ks.map Sum.inl : List Key))
  | _, [], .nil => rfl
  | _, _ :: _, .cons (ks := js) (v := v) (kvs := kvs) (d := e) (des := r) r1 r2 => by
    rw [List.any_cons, ← hasD_any r2]
    show (decide (keyOf (.tuple (js.map PyData.int)) = some ks) || hasD r ks) = _
    rw [keyOf_tup]
    congr 1
    by_cases e1 : js = ks
    · subst e1
      rw [decide_eq_true rfl, decide_eq_true rfl]
    · rw [decide_eq_false (fun z => e1 (Option.some.inj z)), decide_eq_false (fun z => e1 (inl_inj z))]
theorem replD_ok {G : Hp} {ks : List Int} {y : V} {d : D} (ry : Rp G y d) : ∀ {kvs : List (List Key × V)} {des : List (D × D)}, RpD G kvs des → RpD G (kvs.map fun kv => if kv.1 = (ks.map Sum.inl : List Key) then (kv.1, y) else kv) (replD des ks d)
  | _, [], .nil => .nil
  | _, _ :: _, .cons (ks := js) (v := v) (kvs := kvs) (d := e) (des := r) r1 r2 => by
    have ih := replD_ok (ks := ks) ry r2
    rw [List.map_cons]
    show RpD G _ ((if keyOf (.tuple (js.map PyData.int)) = some ks then _ else _) :: _)
    rw [keyOf_tup]
    by_cases e1 : js = ks
    · subst e1
      rw [if_pos rfl, if_pos rfl]
      exact .cons ry ih
    · rw [if_neg (fun z => e1 (Option.some.inj z)), if_neg (fun z => e1 (inl_inj z))]
      exact .cons r1 ih
theorem RpD.snoc {G : Hp} {ks : List Int} {y : V} {d : D} (ry : Rp G y d) : ∀ {kvs : List (List Key × V)} {des : List (D × D)}, RpD G kvs des → RpD G (kvs ++ [(ks.map Sum.inl, y)]) (des ++ [(.tuple (ks.map PyData.int), d)])
  | _, [], .nil => .cons ry .nil
  | _, _ :: _, .cons r1 r2 => .cons r1 (RpD.snoc ry r2)
theorem putD_ok {G : Hp} {ks : List Int} {y : V} {d : D} (ry : Rp G y d) {kvs : List (List Key × V)} {des : List (D × D)} (r : RpD G kvs des) : RpD G (putK kvs (ks.map Sum.inl) y) (putD des ks d) := by
  unfold putK putD
  rw [hasD_any r]
  split
  · exact replD_ok ry r
  · exact r.snoc ry
theorem key_at {G H : Hp} (le : Le G H) {v : V} {d : D} {ks : List Int} (r : Rp G v d) (h : keyOf d = some ks) : ∃ b, v = .ref b ∧ H b = some (.tup ((ks.map Sum.inl : List Key).map kV)) := by
  unfold keyOf at h
  split at h
  · have e := intsOf_eq h
    subst e
    cases r with
    | tup h1 a1 =>
      have e := a1.ints
      subst e
      exact ⟨_, rfl, by rw [kV_inl]; exact le.tup h1⟩
  · cases h

def getD2 : D → D → Option D
  | .dict des, k => (keyOf k).bind fun ks => lookD des ks
  | _, _ => none
def fGet (fd fk : FE) : FE := f2 getD2 fd fk
/-- x[k], x a slot's own dict -/
def fGetO (i : Nat) (fk : FE) : FE := fun τ => match τ[i]? with
  | some (.own d) => (fk τ).bind fun k => getD2 d k
  | _ => none
def sPut (i : Nat) (fk fv : FE) : FS := fun τ => (fv τ).bind fun d => (fk τ).bind fun k => (keyOf k).bind fun ks => match τ[i]? with
  | some (.own (.dict des)) => if des.length < 1000000 then some (.nx (τ.set i (.own (.dict (putD des ks d))))) else none
  | _ => none
section
variable {X : Cx} {tg e a b c e2 : Expr} {es : List Expr} {pos : Pos} {fe fa fb fd fk fv : FE} {fr : FA}
theorem dget_of {G H : Hp} (le : Le G H) {x y : V} {dx k r : D} (rx : Rp G x dx) (ry : Rp G y k) (h : getD2 dx k = some r) : ∃ a v, x = .ref a ∧ DGet H a y (some v) ∧ Rp G v r := by
  unfold getD2 at h
  split at h
  · obtain ⟨ks, hk, h⟩ := bnd h
    cases rx with
    | dic h1 a1 =>
      obtain ⟨b, rfl, hb⟩ := key_at le ry hk
      obtain ⟨v, hv, rv⟩ := lookD_ok a1 h
      exact ⟨_, v, rfl, .inr ⟨_, _, b, le.dic h1, rfl, hb, hv.symm⟩, rv⟩
  · cases h
theorem r_get (hu : X.A.units + 1 < cLine) (ha : PE X a (T fd)) (hb : PE X b (T fk)) (hs : NoSl b := by exact fun _ _ => rfl) : PE X (.Subscript a b pos) (T (fGet fd fk)) := PE.im (pe_dget hu ha hb hs) fun σ H Q ⟨G0, B, G, τ, k, sr, hf, q⟩ => by
  obtain ⟨d, hd, hf⟩ := bnd hf
  obtain ⟨e, he, hf⟩ := bnd hf
  refine ⟨G0, B, G, τ, d, sr, hd, fun v G1 H1 g1 r1 => ⟨G0, B, G1, τ, e, sr.step g1, he, fun w G2 H2 g2 r2 => ?_⟩⟩
  obtain ⟨a, z, ea, hg, rz⟩ := dget_of g2.le (r1.mono g2.g) r2 hf
  exact ⟨a, z, ea, hg, q _ _ _ (g1.trans g2) rz⟩
theorem r_getO (i : Nat) {x : Str} {px : Pos} (hu : X.A.units + 1 < cLine) (hb : PE X b (T fk)) (hi : X.N[i]? = some x := by rfl) (hv : Vis X.env.scope x := by first | exact Or.inl rfl | exact Or.inr (Or.inl rfl) | exact Or.inr (Or.inr rfl)) (hd : (x == ("__debug__" : Str)) = false := by decide)
    (hcd : (x == ("__classdict__" : Str)) = false := by decide) (hs : NoSl b := by exact fun _ _ => rfl) : PE X (.Subscript (.Name x px) b pos) (T (fGetO i fk)) := PE.im (pe_dget hu (pe_var hi hv hd hcd) hb hs) fun σ H Q ⟨G0, B, G, τ, k, sr, hf, q⟩ => by
  unfold fGetO at hf
  split at hf
  · rename_i d hd
    obtain ⟨kk, hk, hf⟩ := bnd hf
    obtain ⟨a, h1, h2, h3, h4⟩ := sr.own i _ hd
    refine ⟨_, h1, G0, B, G, τ, kk, sr, hk, fun w G2 H2 g2 r2 => ?_⟩
    obtain ⟨ow, hg2⟩ := h2.step g2 h3
    unfold getD2 at hf
    split at hf
    · obtain ⟨ks, hks, hf⟩ := bnd hf
      obtain ⟨kvs, hkv, rkv⟩ := ow
      obtain ⟨b, rfl, hb⟩ := key_at g2.le r2 hks
      obtain ⟨v, hv, rv⟩ := lookD_ok rkv hf
      exact ⟨a, v, rfl, .inr ⟨_, _, b, .inl hkv, rfl, hb, hv.symm⟩, q _ _ _ g2 rv⟩
    · cases hf
  · cases hf
theorem q_put (i : Nat) {x : Str} {px pos' : Pos} (hu : X.A.units + 1 < cLine) (hb : PE X b (T fk)) (hv : PE X e (T fv)) (hi : X.N[i]? = some x := by rfl) (hvs : Vis X.env.scope x := by first | exact Or.inl rfl | exact Or.inr (Or.inl rfl) | exact Or.inr (Or.inr rfl)) (hd : (x == ("__debug__" : Str)) = false := by decide)
    (hcd : (x == ("__classdict__" : Str)) = false := by decide) (hs : swapsWith e (some (.Subscript (.Name x px) b pos')) pos.line X.env = pure false := by rfl) :
    PS X (.Assign [.Subscript (.Name x px) b pos'] e pos) (Ts (sPut i fk fv)) := PS.im (ps_dput hu (pe_var hi hvs hd hcd) hb hv hs) fun E σ H ⟨G0, B, G, τ, o, sr, hf, q, qr⟩ => by
  obtain ⟨d, hd, hf⟩ := bnd hf
  obtain ⟨k, hk, hf⟩ := bnd hf
  obtain ⟨ks, hks, hf⟩ := bnd hf
  split at hf
  · rename_i des hτ
    split at hf
    · rename_i hl
      cases hf
      refine ⟨G0, B, G, τ, d, sr, hd, fun v G1 H1 g1 r1 => ?_⟩
      obtain ⟨a, h1, h2, h3, h4⟩ := (sr.step g1).own i _ hτ
      refine ⟨_, h1, G0, B, G1, τ, k, sr.step g1, hk, fun w G2 H2 g2 r2 => ?_⟩
      obtain ⟨⟨kvs, hkv, rkv⟩, hg2⟩ := h2.step g2 h3
      obtain ⟨b, rfl, hb⟩ := key_at g2.le r2 hks
      refine ⟨a, _, rfl, DPut.t hkv hb (by rw [rkv.length, sizeLine_eq]; omega), q _ _ G2 _ rfl (((sr.step g1).step g2).mut hτ h1 ⟨_, upd_same, putD_ok (r1.mono g2.g) rkv⟩)⟩
    · cases hf
  · cases hf

/-! ### dicts walked: they are locked for good -/
def fKeys (f : FE) : FA := fun τ => (f τ).bind fun
  | .dict des => some (des.map (·.1))
  | _ => none
def fItms (f : FE) : FA := fun τ => (f τ).bind fun
  | .dict des => some (des.map fun p => .tuple [p.1, p.2])
  | _ => none
theorem RpD.get {G : Hp} : ∀ {kvs : List (List Key × V)} {des : List (D × D)} {i : Nat} {k e : D}, RpD G kvs des → des[i]? = some (k, e) → ∃ (ks : List Int) (v : V), k = .tuple (ks.map PyData.int) ∧ kvs[i]? = some (ks.map Sum.inl, v) ∧ Rp G v e
  | _, [], _, _, _, _, h => by simp at h
  | _, _ :: _, 0, _, _, .cons a _, h => by
    simp at h
    obtain ⟨rfl, rfl⟩ := h
    exact ⟨_, _, rfl, rfl, a⟩
  | _, _ :: _, i + 1, _, _, .cons _ b, h => by
    obtain ⟨ks, v, h1, h2, h3⟩ := RpD.get (i := i) b (by simpa using h)
    exact ⟨ks, v, h1, by simpa using h2, h3⟩
theorem yl_keys {G : Hp} {d : Addr} {o : Obj} {kvs : List (List Key × V)} {des : List (D × D)} (r : RpD G kvs des) : Yl (Itkt d o kvs) G (some (d, o, .dT kvs)) (des.map (·.1)) := by
  refine ⟨fun i G' H' sm le sx hi => ⟨sx _ _ _ rfl, by rw [r.length]; simpa using hi⟩, fun i k G' H' x H'' sm le sx hd y => ?_, fun G' H' sm le sx => ⟨sx _ _ _ rfl, by rw [List.length_map, r.length]; exact Nat.le_refl _⟩⟩
  obtain ⟨e, k', v, q, hk, rfl, hq⟩ := y
  subst e
  rw [List.getElem?_map] at hd
  cases hde : des[i]? with
  | none => rw [hde] at hd; cases hd
  | some p =>
    rw [hde] at hd
    cases hd
    obtain ⟨ks, w, e1, e2, rw'⟩ := r.get hde
    rw [hk] at e2
    cases e2
    rw [kV_inl] at hq
    obtain ⟨G2, g2, hG2⟩ := Gr.tupG le hq
    refine ⟨G2, g2, ?_⟩
    show Rp G2 (V.ref q) p.1
    rw [e1]
    exact .tup hG2 (RpA.of_ints ks)
theorem i_keys (he : PE X e (T fe)) : PI X tg e (Ti (fKeys fe)) := by
  refine ⟨fun pins s σ H R I hw => ?_⟩
  obtain ⟨G0, B, G, τ, ds, sr, hf, q⟩ := hw
  obtain ⟨d, hd, hf⟩ := bnd hf
  split at hf
  · rename_i des
    cases hf
    refine thn (he.run pins s σ H (fun v H1 => ∃ a kvs G1, v = .ref a ∧ Gr G H G1 H1 ∧ G1 a = some (.dT kvs) ∧ RpD G1 kvs des) I ⟨G0, B, G, τ, _, sr, hd, fun v G1 H1 g1 r1 => ?_⟩) fun u s1 ⟨x, H1, I1, rx, a, kvs, G1, ex, g1, hG, rkv⟩ => ?_
    · cases r1 with
      | dic h1 a1 => exact ⟨_, _, G1, rfl, g1, h1, a1⟩
    · subst ex
      obtain rfl : u = Value.ref a := rx
      obtain ⟨o, H2, g2, I2, hfz⟩ : ∃ o H2, Gr G1 H1 G1 H2 ∧ Inv X pins σ H2 s1 ∧ H2 a = some (.frz o (.dT kvs)) := by
        rcases g1.le.dic hG with z | ⟨o, z⟩
        · obtain ⟨o, I2⟩ := I1.lock z trivial
          exact ⟨o, _, Gr.lock g1.le hG z, I2, upd_same⟩
        · exact ⟨o, H1, Gr.refl g1.le, I1, z⟩
      obtain ⟨hs, hgd, hx, es, ep, hdt, hsz, ent⟩ := I2.frzT hfz
      refine iter_keys hs hgd hx hdt (pi_one (tk := s1.toks) I2 _ (turn_keysT _ hdt) ⟨_, Heap.get?_push_size _ rfl, rfl, ?_⟩ (q _ G1 H2 _ (g1.trans g2) (yl_keys rkv) fun d' ob u' e' => by cases e'; exact hfz))
      rw [hsz] <;> rfl
  · cases hf
end

/-! ### d.items() of tuple keys, walked -/
def ItiT (d : Addr) (o : Obj) (kvs : List (List Key × V)) : It :=
  ⟨fun i H => H d = some (.frz o (.dT kvs)) ∧ i < kvs.length, fun i H x H' => ∃ (T : Addr) (k : List Key) (v : V) (q : Addr), kvs[i]? = some (k, v) ∧ x = .ref T ∧ H q = some (.tup (k.map kV)) ∧ H T = none ∧ H' = upd H T (.tup [.ref q, v]), fun i H => H d = some (.frz o (.dT kvs)) ∧ kvs.length ≤ i⟩
theorem frzTv {X : Cx} {pins : List (Addr × Obj)} {σ : L2.St} {H : Hp} {s : Shared} {d : Addr} {o : Obj} {kvs : List (List Key × V)} (I : Inv X pins σ H s) (h : H d = some (.frz o (.dT kvs))) :
    (d == sysModules) = false ∧ s.heap.get? d = some o ∧ o.ExactDict ∧ ∃ (es : Array DictEntry) (ep : Nat), o.data = .dict es ep ∧ es.size = kvs.length ∧
      ∀ (i : Nat) (k : List Key) (v : V), kvs[i]? = some (k, v) → ∃ (en : DictEntry) (q : Addr), es[i]? = some en ∧ en.key = .ref q ∧ H q = some (.tup (k.map kV)) ∧ RelV v en.val := by
  obtain ⟨hd, z, hs, xs, pr, o', es, ep, ho, hx, hdt, he, _⟩ := I.hok d _ h
  rw [hd] at ho
  cases ho
  refine ⟨hs, hd, hx, es, ep, hdt, ?_, fun i k v e => ?_⟩
  · have l1 : es.size = xs.length := size_of_entries he
    have l2 : kvs.length = xs.length := Paired.length pr
    omega
  · obtain ⟨b, hb, e1, e2, e3⟩ := paired_get pr e
    have q := entry_at he i
    rw [hb] at q
    exact ⟨_, b.2.1, q, rfl, e2, e3⟩
theorem turn_itemsT {P : Program} {w : World} {K : PySem.W.Frag} {d : Addr} {o : Obj} {es : Array DictEntry} {ep : Nat} {kvs : List (List Key × V)} {elts : List Expr} {kk : Nat} {tpos : Pos} (it : Addr) (hod : o.data = .dict es ep) :
    Turn P w K (.Tuple elts kk tpos) (ItiT d o kvs) [it] it (fun i h => ∃ ok ov, IsItemIter h it d i kvs.length ep ok ov) where
  mem := by simp
  obj := fun i h st b hb => by
    have e : b = it := by simpa using hb
    subst e
    obtain ⟨ok, ov, e⟩ := st
    exact ⟨_, e, fun v z => nomatch z⟩
  keep := fun i h h' st k => let ⟨ok, ov, e⟩ := st; ⟨ok, ov, k it (by simp) _ e⟩
  item := by
    intro X hP hw hK hc i pins s σ H E I hf st hg
    subst hP hw hK
    obtain ⟨hd, hi⟩ := hg
    obtain ⟨hs, hgd, hx, es', ep', hdt, hsz, ent⟩ := frzTv I hd
    obtain ⟨rfl, rfl⟩ := dict_ep hod hdt
    obtain ⟨⟨k, v⟩, hkv⟩ : ∃ p, kvs[i]? = some p := ⟨kvs[i], List.getElem?_eq_getElem hi⟩
    obtain ⟨en, q, hen, hkey, hq, hval⟩ := ent i k v hkv
    obtain ⟨ok, ov, he⟩ := st
    have hlt : it < s.heap.objs.size := Heap.lt_size he
    have hie : i < es'.size := by omega
    have een : es'[i] = en := by
      rw [Array.getElem?_eq_getElem hie] at hen
      exact Option.some.inj hen
    rw [← hsz] at he
    refine DT.nextI he ⟨o, hgd, hx, hdt⟩ hie fun h' ho hT hz hk => ?_
    rw [een] at ho hT
    refine ⟨_, rfl, wpAny_letOwnedTupleGo_items (s := { s with heap := h' }) ho fun h'' he' sb => ?_⟩
    have hT2 : h''.get? s.heap.objs.size = some { cls := .type "tuple", data := .seq #[en.key, en.val] } := (sb.2 _ (Nat.ne_of_gt hlt)).trans hT
    have new : ObjOk X.prog X.w (upd H s.heap.objs.size (.tup [.ref q, v])) h'' s.heap.objs.size (.tup [.ref q, v]) :=
      ⟨by show 2 ≤ sizeLine; decide, [en.key, en.val], .cons hkey (.cons hval .nil), ⟨_, hT2, rfl, _, rfl⟩⟩
    have I1 : Inv X pins σ (upd H s.heap.objs.size (.tup [.ref q, v])) { s with heap := h'' } :=
      I.turnedNew (t' := s.toks) (ch := [it]) (fun b ob hb e => (sb.2 b (by simpa using hb)).trans (hk b ob (by simpa using hb) e)) hf (Nat.le_refl _) new
    refine ⟨.ref s.heap.objs.size, _, I1, rfl, ⟨_, k, v, q, hkv, rfl, hq, I.hok.fresh (Nat.le_refl _), rfl⟩, ⟨en.key, en.val, ?_⟩, fun b hb => ?_⟩
    · rw [← hsz]; exact he'
    · have e : b = it := by simpa using hb
      rw [e, upd_ne (Nat.ne_of_lt hlt)]
      exact (hf it (by simp)).1
  done := by
    intro X hP hw hK hc i pins s σ H E I hf st hg
    subst hP hw hK
    obtain ⟨hd, hi⟩ := hg
    obtain ⟨f0, f1, f2, f3, f4, f5⟩ := hf it (by simp)
    obtain ⟨hs, hgd, hx, es', ep', hdt, hsz, ent⟩ := frzTv I hd
    obtain ⟨rfl, rfl⟩ := dict_ep hod hdt
    obtain ⟨ok, ov, he⟩ := st
    rw [← hsz] at he
    exact DT.endI (I.ok.hd hc) he ⟨o, hgd, hx, hdt⟩ (by omega) fun h' eb => ⟨rfl, I.turned (t' := s.toks) (fun b ob hb e => eb b ob hb e) f0 f1 f3 f4 f5⟩
  self := fun A i s Q E st h => let ⟨_, _, e⟩ := st; PySem.W.kcp_self e h
theorem yl_items {G : Hp} {d : Addr} {o : Obj} {kvs : List (List Key × V)} {des : List (D × D)} (r : RpD G kvs des) : Yl (ItiT d o kvs) G (some (d, o, .dT kvs)) (des.map fun p => .tuple [p.1, p.2]) := by
  refine ⟨fun i G' H' sm le sx hi => ⟨sx _ _ _ rfl, by rw [r.length]; simpa using hi⟩, fun i k G' H' x H'' sm le sx hd y => ?_, fun G' H' sm le sx => ⟨sx _ _ _ rfl, by rw [List.length_map, r.length]; exact Nat.le_refl _⟩⟩
  obtain ⟨T, k', v, q, hk, rfl, hq, hT, eH⟩ := y
  rw [List.getElem?_map] at hd
  cases hde : des[i]? with
  | none => rw [hde] at hd; cases hd
  | some p =>
    rw [hde] at hd
    cases hd
    obtain ⟨ks, w, e1, e2, rw'⟩ := r.get hde
    rw [hk] at e2
    cases e2
    rw [kV_inl] at hq
    obtain ⟨G2, g2, hG2⟩ := Gr.tupG le hq
    have rk : Rp G2 (.ref q) p.1 := by
      rw [e1]
      exact .tup hG2 (RpA.of_ints ks)
    obtain ⟨G3, g3, r3⟩ := new_pair g2.le hT rk ((rw'.mono sm).mono g2.g) eH
    exact ⟨G3, g2.trans g3, r3⟩
section
variable {X : Cx} {e : Expr} {fe : FE} {apos cpos : Pos}
theorem i_items {elts : List Expr} {kk : Nat} {tpos : Pos} (he : PE X e (T fe)) (hbase : attributeBase e "items" X.env (eval e X.env) = eval e X.env := by rfl) (hline : (apos.endLine == cpos.line) = true := by rfl) :
    PI X (.Tuple elts kk tpos) (.Call (.Attribute e "items" apos) [] [] cpos) (Ti (fItms fe)) := by
  refine ⟨fun pins s σ H R I hw => ?_⟩
  obtain ⟨G0, B, G, τ, ds, sr, hf, q⟩ := hw
  obtain ⟨d, hd, hf⟩ := bnd hf
  split at hf
  · rename_i des
    cases hf
    refine wpAny_Call_method (T := "dict") (id := "dict.items") hbase rfl hline F.plainAttrs_dict F.slot_dict_items F.type_dict_items (thn (he.run pins s σ H (fun v H1 => ∃ a kvs G1, v = .ref a ∧ Gr G H G1 H1 ∧ G1 a = some (.dT kvs) ∧ RpD G1 kvs des) I ⟨G0, B, G, τ, _, sr, hd, fun v G1 H1 g1 r1 => ?_⟩) fun u s1 ⟨x, H1, I1, rx, a, kvs, G1, ex, g1, hG, rkv⟩ => ?_)
    · cases r1 with
      | dic h1 a1 => exact ⟨_, _, G1, rfl, g1, h1, a1⟩
    · subst ex
      obtain rfl : u = Value.ref a := rx
      obtain ⟨o, H2, g2, I2, hfz⟩ : ∃ o H2, Gr G1 H1 G1 H2 ∧ Inv X pins σ H2 s1 ∧ H2 a = some (.frz o (.dT kvs)) := by
        rcases g1.le.dic hG with z | ⟨o, z⟩
        · obtain ⟨o, I2⟩ := I1.lock z trivial
          exact ⟨o, _, Gr.lock g1.le hG z, I2, upd_same⟩
        · exact ⟨o, H1, Gr.refl g1.le, I1, z⟩
      obtain ⟨hs, hgd, hx, es, ep, hdt, hsz, ent⟩ := frzTv I2 hfz
      have hraw : DT.Raw s1.heap a es ep := ⟨o, hgd, hx, hdt⟩
      refine ⟨hraw.typeIs, ?_, ?_⟩
      · intro oo ho
        cases ho
        exact ⟨o, hgd, hx.2.1⟩
      have I3 : Inv X pins σ H2 { s1 with heap := s1.heap.push { cls := .type "dict_items", data := .fields #[.ref a] } } := I2.kept (t' := s1.toks) fun b ob q => Heap.get?_push_of_some _ q
      have fin : wpAny (model X.prog X.w) X.A (pyIter (.ref s1.heap.objs.size)) (PIE X pins σ (.Tuple elts kk tpos) R) X.xe { s1 with heap := s1.heap.push { cls := .type "dict_items", data := .fields #[.ref a] } } := by
        refine DT.iterI (d := a) (es := es) (ep := ep) ⟨_, Heap.get?_push_size _ rfl, rfl, rfl⟩ (hraw.push _) (pi_one (tk := s1.toks) I3 _ (turn_itemsT _ hdt) ⟨.none, .none, ?_⟩ (q _ G1 H2 _ (g1.trans g2) (yl_items rkv) fun d' ob u' e' => by cases e'; exact hfz))
        rw [← hsz]
        exact Heap.get?_push_size _ rfl
      show wpAny _ _ (callWith cpos (.builtin "dict.items") [.ref a] [] []) _ X.xe s1
      exact method_meetsIn F.slot_dict_items F.entry_dict_items rfl (PySem.evalArgs_none ⟨rfl, hraw.typeIs, F.args_dict_items_1 _, _, DT.meetsItems (es := es) (ep := ep) hs, ⟨hraw, fin⟩⟩)
  · cases hf
end

/-! ### two names at once -/
def Tk (k : Bool) (f : FE) : TE := if k = true then To f else T f
section
variable {X : Cx} {a b : Expr} {pos : Pos} {fa fb : FE}
theorem SR.set_k {G0 B G H G2 H2 : Hp} {σ : L2.St} {τ : Store} (s : SR G0 B G H σ τ) (g : Gr G H G2 H2) : True := trivial
/-- a, b = x, y with plain local names; k, k': whether the value is new and one's own -/
theorem q_par (i j : Nat) (k k' : Bool) {x y : Str} {px py pt : Pos} {kt k2 pt2} (hc : X.calm = true) (hN : X.N.Nodup) (ha : PE X a (Tk k fa)) (hb : PE X b (Tk k' fb)) (hw : swappedStores [.Tuple [.Name x px, .Name y py] kt pt] (.Tuple [a, b] k2 pt2) X.env = pure (some [x, y]))
    (h1 : starEach (a :: [b]) X.env = (false, eval a X.env) :: starEach [b] X.env := by rfl) (h2 : starEach (b :: []) X.env = (false, eval b X.env) :: starEach [] X.env := by rfl)
    (hi : X.N[i]? = some x := by rfl) (hj : X.N[j]? = some y := by rfl) (hij : i ≠ j := by decide) (hx : X.env.scope.names.lookup x = some .local := by rfl) (hy : X.env.scope.names.lookup y = some .local := by rfl)
    (hs : swapsWithSole [.Tuple [.Name x px, .Name y py] kt pt] (.Tuple [a, b] k2 pt2) pos.line X.env = pure false := by rfl) :
    PS X (.Assign [.Tuple [.Name x px, .Name y py] kt pt] (.Tuple [a, b] k2 pt2) pos) (Ts (sPar i j k k' fa fb)) :=
  PS.im (ps_par hc hN hi hj hij hx hy (pa_cons ha (pa_cons hb pa_nil h2) h1) hw hs) fun E σ H ⟨G0, B, G, τ, o, sr, hf, q, qr⟩ => by
    obtain ⟨d, hd, hf⟩ := bnd hf
    obtain ⟨e, he, hf⟩ := bnd hf
    cases hf
    have snd : ∀ (v : V) (G1 H1 : Hp) (τ1 : Store) (σ1 : L2.St), SR G0 B G1 H1 σ τ → (∀ G2 H2, Gr G1 H1 G2 H2 → SR G0 B G2 H2 (σ.set i (some v)) (τ.set i (slk k d))) → Tk k' fb σ H1 (fun y H3 => E.nx ((σ.set i (some v)).set j (some y)) H3) := fun v G1 H1 _ _ s1 h1 => by
      cases k' with
      | false =>
        refine ⟨G0, B, G1, τ, e, s1, he, fun w G2 H2 g2 r2 => ?_⟩
        exact q _ _ G2 H2 rfl ((h1 G2 H2 g2).set_dat j r2)
      | true =>
        refine ⟨G0, B, G1, τ, e, s1, he, fun p G2 H2 g2 hp hg ow => ?_⟩
        have s2 := h1 G2 H2 g2
        refine q _ _ G2 H2 rfl (s2.set_own j ow hg (s1.gr.nn hp) fun l e' a' t1 t2 => ?_)
        have s2' := h1 G1 H1 (Gr.refl s1.gr.le)
        exact s2'.own_ne hp l e' a' t1 t2
    cases k with
    | false =>
      refine ⟨G0, B, G, τ, d, sr, hd, fun v G1 H1 g1 r1 => ?_⟩
      have := snd v G1 H1 τ σ (sr.step g1) fun G2 H2 g2 => ((sr.step g1).step g2).set_dat i (r1.mono g2.g)
      cases k' with
      | false =>
        obtain ⟨z0, z1, z2, z3, z4, z5, z6, z7⟩ := this
        exact ⟨z0, z1, z2, z3, z4, z5, z6, fun w G2 H2 g2 r2 => ⟨v, w, rfl, z7 w G2 H2 g2 r2⟩⟩
      | true =>
        obtain ⟨z0, z1, z2, z3, z4, z5, z6, z7⟩ := this
        exact ⟨z0, z1, z2, z3, z4, z5, z6, fun w G2 H2 g2 hp hg ow => ⟨v, .ref w, rfl, z7 w G2 H2 g2 hp hg ow⟩⟩
    | true =>
      refine ⟨G0, B, G, τ, d, sr, hd, fun p G1 H1 g1 hp hg ow => ?_⟩
      have s1 := sr.step g1
      have := snd (.ref p) G1 H1 τ σ s1 fun G2 H2 g2 => by
        obtain ⟨ow2, hg2⟩ := ow.step g2 hg
        exact (s1.step g2).set_own i ow2 hg2 (sr.gr.nn hp) fun l e' a' t1 t2 => sr.own_ne hp l e' a' t1 t2
      cases k' with
      | false =>
        obtain ⟨z0, z1, z2, z3, z4, z5, z6, z7⟩ := this
        exact ⟨z0, z1, z2, z3, z4, z5, z6, fun w G2 H2 g2 r2 => ⟨.ref p, w, rfl, z7 w G2 H2 g2 r2⟩⟩
      | true =>
        obtain ⟨z0, z1, z2, z3, z4, z5, z6, z7⟩ := this
        exact ⟨z0, z1, z2, z3, z4, z5, z6, fun w G2 H2 g2 hp hg ow => ⟨.ref p, .ref w, rfl, z7 w G2 H2 g2 hp hg ow⟩⟩
end

/-! ### defs -/
def runF (n m : Nat) (F : FS) : List D → Option D := fun ds => if ds.length = m then (F (ds.map SL.dat ++ List.replicate (n - ds.length) SL.no)).bind fun
  | .rt d => some d
  | .nx _ => some .none else none
theorem sr_start {G H : Hp} (le : Le G H) {vs : List V} {ds : List D} (r : RpA G vs ds) (N : List Str) : SR G H G H (L2.start N vs) (ds.map SL.dat ++ List.replicate (N.length - ds.length) SL.no) := by
  refine ⟨Gr.refl le, fun i d h => ?_, fun i d h => ?_, fun i j d e a h => ?_, ?_⟩
  · by_cases hi : i < ds.length
    · rw [List.getElem?_append_left (by simpa using hi), List.getElem?_map, List.getElem?_eq_getElem hi] at h
      cases h
      obtain ⟨v, hv, rv⟩ := r.get (List.getElem?_eq_getElem hi)
      refine ⟨v, ?_, rv⟩
      unfold L2.start
      rw [List.getElem?_append_left (by rw [List.length_map, r.length]; exact hi), List.getElem?_map, hv]
      rfl
    · rw [List.getElem?_append_right (by simpa using Nat.le_of_not_lt hi)] at h
      have := List.mem_of_getElem? h
      rw [List.mem_replicate] at this
      cases this.2
  · have := List.mem_of_getElem? h
    rcases List.mem_append.mp this with z | z
    · obtain ⟨x, _, z⟩ := List.mem_map.mp z
      cases z
    · rw [List.mem_replicate] at z
      cases z.2
  · have := List.mem_of_getElem? h
    rcases List.mem_append.mp this with z | z
    · obtain ⟨x, _, z⟩ := List.mem_map.mp z
      cases z
    · rw [List.mem_replicate] at z
      cases z.2
  · unfold L2.start
    rw [List.length_append, List.length_append, List.length_map, List.length_map, List.length_replicate, List.length_replicate, r.length]
/-- where a def stands -/
structure At (K : PySem.W.Frag) (mg : Str → Option Value) (x : Str) (st : Stmt) (ps : List Str) : Prop where
  ex : ∃ (f : Addr) (fd : FuncData), Fun K x x st f fd ∧ mg x = some (.ref f) ∧ Binds K fd ps []
theorem has_of {P : Program} {w : World} {K : PySem.W.Frag} {mg : Str → Option Value} {base : Heap} {x : Str} {st : Stmt} {N ps : List Str} {k : Nat} {F : FS} (E : At K mg x st ps) (S : FnScope N ps (defScope st))
    (hb : ∀ (f : Addr) (cdv : Value) (A : Around) (outer : List Env) (s : Shared) (H : Hp) (E : XK), Room k (A.deeper (envOfC x (defScope st) s.heap.objs.size f cdv)) → PSs (cxOf CX0 P w K mg base N x (defScope st) f cdv A outer s H E).nox (defBody st) (Ts F)) :
    Has P w K mg base x (k + 1) ps (runF N.length ps.length F) := by
  obtain ⟨f, fd, FN, hm, bd⟩ := E.ex
  refine ⟨f, fd, hm, FN.kp, bd, FN.ok S (fun vs H Q E h => ?_) (fun cdv A outer s H vs Q E hr h => ⟨Ts F, hb f cdv A outer s H E hr, ?_⟩)⟩
  · obtain ⟨G, ds, d, le, r, hf, q⟩ := h
    unfold runF at hf
    split at hf
    · rename_i hl
      rw [r.length, hl]
    · cases hf
  · obtain ⟨G, ds, d, le, r, hf, q⟩ := h
    unfold runF at hf
    split at hf
    · obtain ⟨o, ho, hf⟩ := bnd hf
      refine ⟨G, H, G, _, o, sr_start le r N, ho, fun τ' σ' G' H' e s' => ?_, fun d' v G' H' e g r' => ?_⟩
      · subst e
        cases hf
        exact q _ G' H' s'.gr .non
      · subst e
        cases hf
        exact q _ G' H' g r'
    · cases hf
end SQ
end
section
set_option Elab.async false
set_option linter.all false
set_option maxRecDepth 100000
set_option maxHeartbeats 4000000
namespace SQ
open PySem PySem.Spec PyProof.Rows L2
def topS (i : Nat) : Stmt := PySem.Challenge.pw_signsquared_k60_whole_fewest_cells_and_p.main.body.getD i (.Pass ⟨0, 0, 0, 0⟩)
theorem ok_lt : OkR (rI0 fun i j => .bl (decide (i < j))) (cmpI ltI) := ok_cmp
theorem ok_le : OkR (rI0 fun i j => .bl (decide (i ≤ j))) (cmpI leI) := ok_cmp
theorem ok_gt : OkR (rI0 fun i j => .bl (decide (j < i))) (cmpI gtI) := ok_cmp
theorem ok_ge : OkR (rI0 fun i j => .bl (decide (j ≤ i))) (cmpI geI) := ok_cmp
/-- built-in names that the text does not bind -/
structure Bl (mg : Str → Option Value) : Prop where
  len_ : mg "len" = none
  all_ : mg "all" = none
  sum_ : mg "sum" = none
  tuple_ : mg "tuple" = none
  isinstance_ : mg "isinstance" = none
  int_ : mg "int" = none
  bool_ : mg "bool" = none
  str_ : mg "str" = none
  range_ : mg "range" = none
  zip_ : mg "zip" = none
  enumerate_ : mg "enumerate" = none
  sorted_ : mg "sorted" = none
  dict_ : mg "dict" = none
  min_ : mg "min" = none
  max_ : mg "max" = none
  list_ : mg "list" = none
  abs_ : mg "abs" = none
end SQ
end
section
set_option Elab.async false
set_option linter.all false
set_option maxRecDepth 100000
set_option maxHeartbeats 4000000
namespace SQ
open PySem PySem.Spec PyProof.Rows L2
/-! ### x in (..) of flat things -/
def flatD : D → Bool
  | .none => true | .bool _ => true | .int _ => true | .str _ => true | _ => false
def inD (d : D) : D → Option D
  | .tuple ds => if (flatD d && ds.all flatD) = true then some (.bool (ds.any fun y => PyData.eqv y d)) else none
  | _ => none
def notInD (d : D) : D → Option D
  | .tuple ds => if (flatD d && ds.all flatD) = true then some (.bool (!ds.any fun y => PyData.eqv y d)) else none
  | _ => none
theorem flat_rp {G : Hp} {v : V} {d : D} (r : Rp G v d) (h : flatD d = true) : flatV v = true := by
  cases r <;> first | rfl | cases h
theorem flat_all {G : Hp} : ∀ {vs : List V} {ds : List D}, RpA G vs ds → ds.all flatD = true → vs.all flatV = true
  | _, _, .nil, _ => rfl
  | _, _, .cons a b, h => by
    rw [List.all_cons, Bool.and_eq_true] at h ⊢
    exact ⟨flat_rp a h.1, flat_all b h.2⟩
theorem eq_flat {G : Hp} {v w : V} {d e : D} (r : Rp G v d) (q : Rp G w e) (h : flatD d = true) (h' : flatD e = true) : eqV v w = PyData.eqv d e := by
  cases r <;> first | (cases h; done) | (cases q <;> first | rfl | (cases h'; done) | simp [eqV, PyData.eqv])
theorem any_flat {G : Hp} {v : V} {d : D} (q : Rp G v d) (h : flatD d = true) : ∀ {vs : List V} {ds : List D}, RpA G vs ds → ds.all flatD = true → inV v vs = ds.any fun y => PyData.eqv y d
  | _, _, .nil, _ => rfl
  | _, _, .cons a b, h' => by
    rw [List.all_cons, Bool.and_eq_true] at h'
    have ih := any_flat q h b h'.2
    unfold inV at ih ⊢
    rw [List.any_cons, List.any_cons, eq_flat a q h'.1 h, ih]
theorem ok_in {K : PySem.W.Frag} : OkR (rIn K false) inD := by
  intro G H v w d e k Q le rv rw' hk q
  unfold inD at hk
  split at hk
  · split at hk
    · rename_i hf
      cases hk
      rw [Bool.and_eq_true] at hf
      cases rw' with
      | tup h1 a1 => exact ⟨_, _, rfl, .inr (SqT.of (le.tup h1)), flat_rp rv hf.1, flat_all a1 hf.2, by rw [any_flat rv hf.1 a1 hf.2]; exact q _ G H (Gr.refl le) (.bl _)⟩
    · cases hk
  · cases hk
theorem ok_notIn {K : PySem.W.Frag} : OkR (rIn K true) notInD := by
  intro G H v w d e k Q le rv rw' hk q
  unfold notInD at hk
  split at hk
  · split at hk
    · rename_i hf
      cases hk
      rw [Bool.and_eq_true] at hf
      cases rw' with
      | tup h1 a1 => exact ⟨_, _, rfl, .inr (SqT.of (le.tup h1)), flat_rp rv hf.1, flat_all a1 hf.2, by rw [any_flat rv hf.1 a1 hf.2]; exact q _ G H (Gr.refl le) (.bl _)⟩
    · cases hk
  · cases hk
/-! ### xs[::-1], tuple(range(n)) -/
def revD : D → Option D
  | .list xs => some (.list xs.reverse)
  | _ => none
def tupRngD : D → Option D
  | .int n => if 0 ≤ n ∧ n ≤ 1000 then some (.tuple (rngD 0 n)) else none
  | _ => none
section
variable {X : Cx} {e a b : Expr} {pos : Pos} {fe fa fb : FE}
theorem r_rev {k : Nat} {p1 p2 p3 : Pos} (he : PE X e (T fe)) : PE X (.Subscript e (.Slice none none (some (.UnaryOp .USub (.Constant (.int 1) k p1) p2)) p3) pos) (T (f1 revD fe)) := PE.im (pe_revL he) fun σ H Q ⟨G0, B, G, τ, k, s, hf, q⟩ => by
  obtain ⟨d, hd, hk⟩ := bnd hf
  unfold revD at hk
  split at hk
  · cases hk
    refine ⟨G0, B, G, τ, _, s, hd, fun v G1 H1 g1 r1 => ?_⟩
    cases r1 with
    | lst h1 a1 => exact ⟨_, _, rfl, SqL.of (g1.le.lst h1), fun p hp => new_lst g1.le hp a1.rev fun z G4 H4 g4 r4 => q _ _ _ (g1.trans g4) r4⟩
  · cases hk
theorem rgV_rp {G : Hp} (n : Int) : RpA G (rgV 0 n) (rngD 0 n) := by
  unfold rgV rngD
  generalize List.range (n - 0).toNat = l
  induction l with
  | nil => exact .nil
  | cons x r ih => exact .cons (.int _) ih
theorem r_tupRng {p pp pos2 : Pos} (hg : Gl X "tuple") (hm : X.mg "tuple" = none) (hg2 : Gl X "range") (hm2 : X.mg "range" = none) (ha : PE X a (T fa)) (hc : X.calm = true := by rfl) (na : starEach [a] X.env = (false, eval a X.env) :: starEach [] X.env := by rfl)
    (na2 : starEach [.Call (.Name "range" pp) [a] [] pos2] X.env = (false, eval (.Call (.Name "range" pp) [a] [] pos2) X.env) :: starEach [] X.env := by rfl) :
    PE X (.Call (.Name "tuple" p) [.Call (.Name "range" pp) [a] [] pos2] [] pos) (T (f1 tupRngD fa)) := PE.im (pe_tupRg hc hg hm (prg_1 hg2 hm2 ha na) na2) fun σ H Q ⟨G0, B, G, τ, k, s, hf, q⟩ => by
  obtain ⟨d, hd, hk⟩ := bnd hf
  unfold tupRngD at hk
  split at hk
  · split at hk
    · rename_i hn
      cases hk
      refine ⟨G0, B, G, τ, _, s, hd, fun v G1 H1 g1 r1 => ?_⟩
      cases r1
      exact ⟨_, rfl, RgOk.of_le (by decide) (by omega) (by decide) hn.1, fun p hp => new_tup g1.le hp (rgV_rp _) fun z G4 H4 g4 r4 => q _ _ _ (g1.trans g4) r4⟩
    · cases hk
  · cases hk
end
/-! ### tuple * int -/
theorem tuple_mulW1 (l : Addr) (items : Array Value) (n : Nat) (dd : Option Addr) (sl : Array (Option Value)) (u : Tok) :
    Meets (Builtin.«tuple.__mul__» ⟨[.ref l, .int 1 u], []⟩) (fun _ R s => s.heap.get? l = some { cls := .type "tuple", dict := dd, data := .seq items n, slots := sl } ∧
      R (.ok (.ret (Value.ref l))) s) :=
  .of_wp fun prog w A R s h => by
    obtain ⟨hp, g, d, tk, os⟩ := s
    obtain ⟨hl, h⟩ := h
    have f1 := AutoSeq1.idx_int
    wp_walk using PySem.AutoSeq1.wpAny_loadPart' hl
    exact ⟨_, rfl, h⟩
def mulT : D → D → Option D
  | .tuple xs, .int k => if k = 1 then some (.tuple xs) else if 2 ≤ k ∧ k ≤ 1000 ∧ xs.length ≤ 1000 ∧ xs ≠ [] then some (.tuple (List.replicate k.toNat xs).flatten) else none
  | _, _ => none
def rRep1 (K : PySem.W.Frag) : R2 := fun x y H Q => ∃ l xs, x = .ref l ∧ y = .int 1 ∧ SqT K H l xs ∧ Q (.ref l) H
theorem op_rep1 {X : Cx} : OpR X (binaryOp .Mult) (rRep1 X.K) := by
  intro pins s σ H x y v u Q I rx ry h
  obtain ⟨l, xs, rfl, rfl, hT, q⟩ := h
  cases rx
  obtain ⟨t, rfl⟩ := ry
  obtain ⟨its, r, ⟨⟨cls, dd, data, sl⟩, ho, hc, n, hd⟩, hs⟩ := I.tuple hT
  simp only at hc hd
  subst hc hd
  refine wpAny_binaryOp_repeat_ref (T := "tuple") (U := "int") (by decide) ⟨_, ho, rfl⟩ (fun s' => typeIs_int s' 1 t) noFill_tuple_mul F.fills_int_mul F.slot_int_rmul repeat_tuple F.slot_int_index.lookup
    (call_meets F.slot_int_rmul (typeIs_int s 1 t) F.entry_int_rmul (F.args_int_rmul_2 _ _) (int_rmul_tuple 1 t l its.toArray n dd sl)
      ⟨ho, rfl, ⟨_, ho, rfl⟩, call_meets F.slot_tuple_mul ⟨_, ho, rfl⟩ F.entry_tuple_mul (F.args_tuple_mul_2 _ _) (tuple_mulW1 l its.toArray n dd sl t) ⟨ho, ?_⟩⟩)
  exact ⟨.ref l, H, I, rfl, q⟩
theorem ok_mulT {K : PySem.W.Frag} : OkR (fun x y H Q => rRep1 K x y H Q ∨ rRepT K x y H Q) mulT := by
  intro G H v w d e k Q le rv rw' hk q
  unfold mulT at hk
  split at hk
  · cases rw'
    cases rv with
    | tup h1 a1 =>
      split at hk
      · rename_i h
        subst h
        cases hk
        exact .inl ⟨_, _, rfl, rfl, SqT.of (le.tup h1), q _ _ _ (Gr.refl le) (.tup h1 a1)⟩
      · split at hk
        · rename_i h
          cases hk
          obtain ⟨h2, h3, h4, h5⟩ := h
          refine .inr ⟨_, _, _, rfl, rfl, SqT.of (le.tup h1), fun e => h5 ?_, h2, h3, by rw [a1.length]; exact h4, fun p hp => new_tup le hp (a1.rep _) q⟩
          subst e
          cases a1
          rfl
        · cases hk
  · cases hk
theorem r_mulT {X : Cx} {a b : Expr} {pos : Pos} {fa fb : FE} (ha : PE X a (T fa)) (hb : PE X b (T fb)) : PE X (.BinOp a .Mult b pos) (T (f2 mulT fa fb)) := r_op (op_rep1.or op_repT) ok_mulT ha hb

/-! ### sum, min, max of tuples -/
def sumTD : List D → Option D
  | [.tuple xs] => (intsOf xs).bind fun bs => some (.int bs.sum)
  | _ => none
def rSumT (K : PySem.W.Frag) : List V → Hp → VK → Prop := fun vs H Q => ∃ (a : Addr) (ns : List Int), vs = [V.ref a] ∧ SqT K H a (ns.map V.int) ∧ Q (.int ns.sum) H
theorem cr_sumT {X : Cx} (hc : X.calm = true) : CallR X (.builtin "sum") (rSumT X.K) := by
  intro pins s σ H vs us Q I r h
  obtain ⟨a, ns, rfl, hs, q⟩ := h
  obtain ⟨its, rv, hl, _⟩ := I.tuple hs
  rw [Vals.ref1 r]
  have hi := rv.ints
  obtain ⟨xs, hx⟩ := hi.allInts.items
  have hn : numsOf its.toArray.toList = ns := hi.numsOf
  have hl' : s.heap.IsTuple a its.toArray := hl
  rw [hx] at hl' hn
  rw [nums_intItems] at hn
  refine PySem.W.ktm_sumG (I.ok.hd hc) hl' fun h' tk t' hk => ?_
  rw [preSum_eq, List.take_of_length_le (by simp), hn]
  exact ⟨.int ns.sum, H, I.kept (t' := tk) hk, ⟨t', rfl⟩, q⟩
theorem ok_sumT {K : PySem.W.Frag} : OkC (rSumT K) sumTD := by
  intro G H vs ds k Q le rv hk q
  unfold sumTD at hk
  split at hk
  · obtain ⟨bs, hb, hk⟩ := bnd hk
    cases hk
    have e := intsOf_eq hb
    subst e
    cases rv with
    | cons a r =>
      cases r
      cases a with
      | tup h1 a1 =>
        have e := a1.ints
        subst e
        exact ⟨_, bs, rfl, SqT.of (le.tup h1), q _ _ _ (Gr.refl le) (.int _)⟩
  · cases hk
def minD : List D → Option D
  | [.tuple xs] => (intsOf xs).bind fun
    | [] => none
    | b :: bs => some (.int (bs.foldl min b))
  | _ => none
def maxD : List D → Option D
  | [.tuple xs] => (intsOf xs).bind fun
    | [] => none
    | b :: bs => some (.int (bs.foldl max b))
  | _ => none
theorem reads_ints {h : Heap} : ∀ {us : List Value} {ns : List Int}, IntsAre us ns → ∃ as, ReadsAll h us (ns.map PyData.int) as
  | _, _, .nil => ⟨_, .nil⟩
  | _, _, .cons n t r => by
    obtain ⟨as, q⟩ := reads_ints r
    exact ⟨_, .cons (.int n t) q⟩
theorem alike_ints1 (ns : List Int) : PySem.W.AlikeAll (ns.map PyData.int) := by
  refine ⟨fun x hx y hy => ?_, fun x hx e => ?_⟩
  · obtain ⟨a, _, rfl⟩ := List.mem_map.mp hx
    obtain ⟨b, _, rfl⟩ := List.mem_map.mp hy
    simp [PySem.W.alike]
  · obtain ⟨a, _, rfl⟩ := List.mem_map.mp hx
    cases e
def rMinT (K : PySem.W.Frag) : List V → Hp → VK → Prop := fun vs H Q => ∃ (a : Addr) (n : Int) (ns : List Int), vs = [V.ref a] ∧ SqT K H a ((n :: ns).map V.int) ∧ Q (.int (ns.foldl min n)) H
def rMaxT (K : PySem.W.Frag) : List V → Hp → VK → Prop := fun vs H Q => ∃ (a : Addr) (n : Int) (ns : List Int), vs = [V.ref a] ∧ SqT K H a ((n :: ns).map V.int) ∧ Q (.int (ns.foldl max n)) H
theorem cr_minT {X : Cx} (hc : X.calm = true) (hu : X.A.units + 64 < cLine) : CallR X (.builtin "min") (rMinT X.K) := by
  intro pins s σ H vs us Q I r h
  obtain ⟨a, n, ns, rfl, hs, q⟩ := h
  obtain ⟨its, rv, hl, _⟩ := I.tuple hs
  rw [Vals.ref1 r]
  have hi := rv.ints
  obtain ⟨as, hr⟩ := reads_ints (h := s.heap) hi
  refine PySem.W.min_tuple_data (I.ok.hd hc) (vs := its.toArray) hl hr (alike_ints1 (n :: ns)) (by rw [show (PyData.int n :: ns.map PyData.int) = (n :: ns).map PyData.int from rfl, PySem.W.depth_ints]; omega) fun i v h' tk bs hv hrd hk => ?_
  rw [PySem.W.minD_ints] at hrd
  cases hrd
  exact ⟨.int _, H, I.kept (t' := tk) hk, ⟨_, rfl⟩, q⟩
theorem cr_maxT {X : Cx} (hc : X.calm = true) (hu : X.A.units + 64 < cLine) : CallR X (.builtin "max") (rMaxT X.K) := by
  intro pins s σ H vs us Q I r h
  obtain ⟨a, n, ns, rfl, hs, q⟩ := h
  obtain ⟨its, rv, hl, _⟩ := I.tuple hs
  rw [Vals.ref1 r]
  have hi := rv.ints
  obtain ⟨as, hr⟩ := reads_ints (h := s.heap) hi
  refine PySem.W.max_tuple_data (I.ok.hd hc) (vs := its.toArray) hl hr (alike_ints1 (n :: ns)) (by rw [show (PyData.int n :: ns.map PyData.int) = (n :: ns).map PyData.int from rfl, PySem.W.depth_ints]; omega) fun i v h' tk bs hv hrd hk => ?_
  rw [PySem.W.maxD_ints] at hrd
  cases hrd
  exact ⟨.int _, H, I.kept (t' := tk) hk, ⟨_, rfl⟩, q⟩
theorem ok_min {K : PySem.W.Frag} : OkC (rMinT K) minD := by
  intro G H vs ds k Q le rv hk q
  unfold minD at hk
  split at hk
  · obtain ⟨bs, hb, hk2⟩ := bnd hk
    have e := intsOf_eq hb
    subst e
    cases rv with
    | cons a r =>
      cases r
      cases a with
      | tup h1 a1 =>
        have e := a1.ints
        subst e
        cases bs with
        | nil => cases hk2
        | cons b bs =>
          cases hk2
          exact ⟨_, b, bs, rfl, SqT.of (le.tup h1), q _ _ _ (Gr.refl le) (.int _)⟩
  · cases hk
theorem ok_max {K : PySem.W.Frag} : OkC (rMaxT K) maxD := by
  intro G H vs ds k Q le rv hk q
  unfold maxD at hk
  split at hk
  · obtain ⟨bs, hb, hk2⟩ := bnd hk
    have e := intsOf_eq hb
    subst e
    cases rv with
    | cons a r =>
      cases r
      cases a with
      | tup h1 a1 =>
        have e := a1.ints
        subst e
        cases bs with
        | nil => cases hk2
        | cons b bs =>
          cases hk2
          exact ⟨_, b, bs, rfl, SqT.of (le.tup h1), q _ _ _ (Gr.refl le) (.int _)⟩
  · cases hk

/-! ### xs.index(y), y in xs -/
def idxD : List D → D → Nat → Option Nat
  | [], _, _ => none
  | x :: xs, y, i => if PyData.eqv x y = true then some i else idxD xs y (i + 1)
def indexD : D → D → Option D
  | .list xs, y => if (SeqAt.shaped (.list xs) && SeqAt.shaped y) = true then (idxD xs y 0).bind fun i => some (.int (i : Int)) else none
  | _, _ => none
theorem idxD_ok : ∀ {xs : List D} {y : D} {i j : Nat}, idxD xs y i = some j → ∃ m z, j = i + m ∧ xs[m]? = some z ∧ PyData.eqv z y = true ∧ ∀ (l : Nat) (z' : D), l < m → xs[l]? = some z' → PyData.eqv z' y = false
  | [], _, _, _, h => by cases h
  | x :: xs, y, i, j, h => by
    unfold idxD at h
    split at h
    · rename_i e
      cases h
      exact ⟨0, x, rfl, rfl, e, fun l z' hl => absurd hl (by omega)⟩
    · rename_i e
      obtain ⟨m, z, h1, h2, h3, h4⟩ := idxD_ok h
      refine ⟨m + 1, z, by omega, by simpa using h2, h3, fun l z' hl hz => ?_⟩
      cases l with
      | zero =>
        simp at hz
        subst hz
        simpa using e
      | succ l => exact h4 l z' (by omega) (by simpa using hz)
section
variable {X : Cx} {a b : Expr} {pos ap : Pos} {fa fb : FE} {k : Nat}
theorem r_index (hr : Room k X.A) (ha : PE X a (T fa)) (hb : PE X b (T fb))
    {pl : PE X (.Call (.Attribute a "index" ap) [b] [] pos) (tBM X.K "list" (rIndexD X.K) (T fa) (tCons (T fb) tNil))} : PE X (.Call (.Attribute a "index" ap) [b] [] pos) (T (f2 indexD fa fb)) :=
  PE.im pl fun σ H Q ⟨G0, B, G, τ, k, s, hf, q⟩ => by
    obtain ⟨d, hd, hf⟩ := bnd hf
    obtain ⟨e, he, hk⟩ := bnd hf
    refine ⟨G0, B, G, τ, d, s, hd, fun v G1 H1 g1 r1 => ?_⟩
    unfold indexD at hk
    split at hk
    · split at hk
      · rename_i hs
        rw [Bool.and_eq_true] at hs
        obtain ⟨i, hi, hk⟩ := bnd hk
        cases hk
        obtain ⟨m, z, e1, e2, e3, e4⟩ := idxD_ok hi
        have r1' := r1
        cases r1 with
        | lst h1 a1 =>
          refine ⟨.inl ⟨rfl, _, SqL.of (g1.le.lst h1)⟩, G0, B, G1, τ, e, s.step g1, he, fun w G2 H2 g2 r2 => ?_⟩
          refine ⟨_, w, e, _, m, z, rfl, rfl, rp_dp g2.le _ _ (SeqAt.canLay_of_shaped hs.1) (r1'.mono g2.g), rp_dp g2.le _ _ (SeqAt.canLay_of_shaped hs.2) r2, hs.1, hs.2, e2, e3, e4, ?_⟩
          rw [Nat.zero_add] at e1
          subst e1
          exact q _ _ _ (g1.trans g2) (.int _)
      · cases hk
    · cases hk
end
end SQ
end
section
set_option Elab.async false
set_option linter.all false
set_option maxRecDepth 100000
set_option maxHeartbeats 4000000
namespace SQ
open PySem PySem.Spec PyProof.Rows L2
/-! ### sorting -/
section
variable {α : Type}
def insS (le : α → α → Bool) (x : α) : List α → List α
  | [] => [x]
  | y :: r => if le x y = true then x :: y :: r else y :: insS le x r
def isort (le : α → α → Bool) : List α → List α
  | [] => []
  | x :: r => insS le x (isort le r)
variable {le : α → α → Bool}
theorem insS_mem {x z : α} : ∀ {l : List α}, z ∈ insS le x l → z = x ∨ z ∈ l
  | [], h => .inl (List.mem_singleton.mp h)
  | y :: r, h => by
    unfold insS at h
    split at h
    · exact List.mem_cons.mp h
    · rcases List.mem_cons.mp h with e | h
      · exact .inr (e ▸ List.mem_cons_self)
      · exact (insS_mem h).imp id (List.mem_cons_of_mem _)
theorem insS_pw (T : PySem.W.TotalLe le) {x : α} : ∀ {l : List α}, l.Pairwise (fun a b => le a b = true) → (insS le x l).Pairwise (fun a b => le a b = true)
  | [], _ => List.pairwise_singleton _ _
  | y :: r, h => by
    unfold insS
    obtain ⟨h1, h2⟩ := List.pairwise_cons.mp h
    split
    · rename_i e
      refine List.pairwise_cons.mpr ⟨fun z hz => ?_, h⟩
      rcases List.mem_cons.mp hz with rfl | hz
      · exact e
      · exact T.trans _ _ _ e (h1 z hz)
    · rename_i e
      refine List.pairwise_cons.mpr ⟨fun z hz => ?_, insS_pw T h2⟩
      rcases insS_mem hz with rfl | hz
      · exact (T.total z y).resolve_left e
      · exact h1 z hz
theorem isort_pw (T : PySem.W.TotalLe le) : ∀ l : List α, (isort le l).Pairwise (fun a b => le a b = true)
  | [] => List.Pairwise.nil
  | _ :: r => insS_pw T (isort_pw T r)
theorem insS_filter (T : PySem.W.TotalLe le) {x c : α} : ∀ l : List α, (insS le x l).filter (PySem.W.sameRank le c) = (x :: l).filter (PySem.W.sameRank le c)
  | [] => rfl
  | y :: r => by
    unfold insS
    split
    · rfl
    · rename_i e
      have ih := insS_filter T (x := x) (c := c) r
      have nb : ¬ (PySem.W.sameRank le c x = true ∧ PySem.W.sameRank le c y = true) := fun ⟨h1, h2⟩ => by
        unfold PySem.W.sameRank at h1 h2
        rw [Bool.and_eq_true] at h1 h2
        exact e (T.trans _ _ _ h1.2 h2.1)
      cases hx : PySem.W.sameRank le c x <;> cases hy : PySem.W.sameRank le c y
      · simp [List.filter_cons, hx, hy] at ih ⊢
        exact ih
      · simp [List.filter_cons, hx, hy] at ih ⊢
        exact ih
      · simp [List.filter_cons, hx, hy] at ih ⊢
        exact ih
      · exact absurd ⟨hx, hy⟩ nb
theorem isort_filter (T : PySem.W.TotalLe le) (c : α) : ∀ l : List α, (isort le l).filter (PySem.W.sameRank le c) = l.filter (PySem.W.sameRank le c)
  | [] => rfl
  | x :: r => by
    show (insS le x (isort le r)).filter _ = _
    rw [insS_filter T, List.filter_cons, List.filter_cons, isort_filter T c r]
theorem isort_eq (T : PySem.W.TotalLe le) (l : List α) : isort le l = l.mergeSort le := PySem.W.sort_unique T (isort_pw T l) fun c => isort_filter T c l
end
def rowOk (d : D) : Bool := match keyOf d with
  | some (_ :: _) => true
  | _ => false
def pairOk : D → Bool
  | .tuple [a, b] => (keyOf a).isSome && (keyOf b).isSome
  | _ => false
def sortOk (ds : List D) : Bool := ds.all rowOk || ds.all pairOk
def leD : D → D → Bool := PySem.W.dataLe false id
def sortedD : List D → Option D
  | [.list ds] => if sortOk ds = true then some (.list (isort leD ds)) else none
  | [.dict des] => if (des.map (·.1)).all rowOk = true then some (.list (isort leD (des.map (·.1)))) else none
  | _ => none
theorem key_eq {d : D} {ks : List Int} (h : keyOf d = some ks) : d = .tuple (ks.map PyData.int) := by
  unfold keyOf at h
  split at h
  · rw [intsOf_eq h]
  · cases h
theorem rowOk_eq {d : D} (h : rowOk d = true) : ∃ (x : Int) (r : List Int), d = .tuple (.int x :: r.map PyData.int) := by
  unfold rowOk at h
  split at h
  · rename_i x r e
    exact ⟨x, r, key_eq e⟩
  · cases h
theorem pairOk_eq {d : D} (h : pairOk d = true) : ∃ a b : List Int, d = .tuple [.tuple (a.map .int), .tuple (b.map .int)] := by
  unfold pairOk at h
  split at h
  · rw [Bool.and_eq_true, Option.isSome_iff_exists, Option.isSome_iff_exists] at h
    obtain ⟨⟨a, ha⟩, b, hb⟩ := h
    exact ⟨a, b, by rw [key_eq ha, key_eq hb]⟩
  · cases h
theorem sortOk_facts {ds : List D} (h : sortOk ds = true) : PySem.W.AllAlike ds ∧ PySem.W.Sortable ds ∧ ∀ d ∈ ds, d.depth ≤ 2 := by
  unfold sortOk at h
  rw [Bool.or_eq_true, List.all_eq_true, List.all_eq_true] at h
  rcases h with h | h
  · refine ⟨fun d hd e he => ?_, .inl fun d hd => ?_, fun d hd => ?_⟩
    · obtain ⟨x, r, rfl⟩ := rowOk_eq (h d hd)
      obtain ⟨y, t, rfl⟩ := rowOk_eq (h e he)
      have z := PySem.W.alike_ints (x :: r) (y :: t)
      exact z
    · obtain ⟨x, r, rfl⟩ := rowOk_eq (h d hd)
      exact ⟨_, _, rfl⟩
    · obtain ⟨x, r, rfl⟩ := rowOk_eq (h d hd)
      have z := PySem.W.depth_ints (x :: r)
      show PyData.depthAll _ + 1 ≤ 2
      rw [show (PyData.int x :: r.map PyData.int) = (x :: r).map PyData.int from rfl, z]
      omega
  · refine ⟨fun d hd e he => ?_, .inl fun d hd => ?_, fun d hd => ?_⟩
    · obtain ⟨x, r, rfl⟩ := pairOk_eq (h d hd)
      obtain ⟨y, t, rfl⟩ := pairOk_eq (h e he)
      have z1 := PySem.W.alike_ints x y
      have z2 := PySem.W.alike_ints r t
      simp [PySem.W.alike, PySem.W.alikeAll, z1, z2]
    · obtain ⟨x, r, rfl⟩ := pairOk_eq (h d hd)
      exact ⟨_, _, rfl⟩
    · obtain ⟨x, r, rfl⟩ := pairOk_eq (h d hd)
      have z1 := PySem.W.depth_ints x
      have z2 := PySem.W.depth_ints r
      simp [PyData.depth, PyData.depthAll, z1, z2]
theorem leD_total : PySem.W.TotalLe leD := PySem.W.sortLe_total (listOrd itemOrd) false fun b => PySem.W.keyToks (id b)
/-- things paired with their data, sorted by the data -/
def sortP {α : Type} (ps : List (α × D)) : List (α × D) := ps.mergeSort (PySem.W.dataLe false Prod.snd)
theorem sortP_snd {α : Type} (ps : List (α × D)) : (sortP ps).map Prod.snd = isort leD (ps.map Prod.snd) := by
  rw [isort_eq leD_total]
  exact PySem.W.sort_maps Prod.snd fun a _ b _ => rfl
theorem sortP_mem {α : Type} {ps : List (α × D)} {p : α × D} (h : p ∈ sortP ps) : p ∈ ps := (List.mergeSort_perm _ _).mem_iff.mp h
theorem sortP_len {α : Type} (ps : List (α × D)) : (sortP ps).length = ps.length := (List.mergeSort_perm _ _).length_eq
theorem rpA_pairs {G : Hp} : ∀ {ps : List (V × D)}, (∀ p ∈ ps, Rp G p.1 p.2) → RpA G (ps.map Prod.fst) (ps.map Prod.snd)
  | [], _ => .nil
  | p :: r, h => .cons (h p List.mem_cons_self) (rpA_pairs fun q hq => h q (List.mem_cons_of_mem _ hq))
theorem rpA_zip {G : Hp} : ∀ {xs : List V} {ds : List D}, RpA G xs ds → ∀ p ∈ xs.zip ds, Rp G p.1 p.2
  | _, _, .nil, _, h => by cases h
  | _, _, .cons a b, p, h => by
    rw [List.zip_cons_cons] at h
    rcases List.mem_cons.mp h with rfl | h
    · exact a
    · exact rpA_zip b p h
theorem zip_snd {α β : Type} : ∀ {xs : List α} {ds : List β}, xs.length = ds.length → (xs.zip ds).map Prod.snd = ds
  | [], [], _ => rfl
  | _ :: xs, _ :: ds, h => by
    rw [List.zip_cons_cons, List.map_cons, zip_snd (by simpa using h)]
  | [], _ :: _, h => by cases h
  | _ :: _, [], h => by cases h
theorem zip_fst {α β : Type} : ∀ {xs : List α} {ds : List β}, xs.length = ds.length → (xs.zip ds).map Prod.fst = xs
  | [], [], _ => rfl
  | _ :: xs, _ :: ds, h => by
    rw [List.zip_cons_cons, List.map_cons, zip_fst (by simpa using h)]
  | [], _ :: _, h => by cases h
  | _ :: _, [], h => by cases h
theorem each_vals {ps : List (V × D)} : ∀ {us : List Value}, Vals (ps.map Prod.fst) us → PySem.W.EachIs (fun u (b : V × D) => RelV b.1 u) us ps := by
  induction ps with
  | nil => intro us h; cases h; exact .nil
  | cons p r ih =>
    intro us h
    cases h with
    | cons a b => exact .cons a (ih b)
theorem vals_each {ps : List (V × D)} {us : List Value} (h : PySem.W.EachIs (fun u (b : V × D) => RelV b.1 u) us ps) : Vals (ps.map Prod.fst) us := by
  induction h with
  | nil => exact .nil
  | cons a b ih => exact .cons a ih
def rSortL (K : PySem.W.Frag) : List V → Hp → VK → Prop := fun vs H Q => ∃ (a : Addr) (xs : List V) (ds : List D), vs = [.ref a] ∧ SqL K H a xs ∧ DpAll K H xs ds ∧ xs.length = ds.length ∧ sortOk ds = true ∧
  ∀ p, H p = none → Q (.ref p) (upd H p (.lst ((sortP (xs.zip ds)).map Prod.fst)))
theorem cr_sortL {X : Cx} (hc : X.calm = true) (hu : X.A.units + 64 < cLine) : CallR X (.builtin "sorted") (rSortL X.K) := by
  intro pins s σ H vs us Q I r h
  obtain ⟨a, xs, ds, rfl, hs, hd, hlen, ok, q⟩ := h
  obtain ⟨its, rv, hl, hsz⟩ := I.list hs
  rw [Vals.ref1 r]
  obtain ⟨as, hr⟩ := Dp.readsAll I ds xs its hd rv
  obtain ⟨k1, k2, k3⟩ := sortOk_facts ok
  have e1 : (xs.zip ds).map Prod.snd = ds := zip_snd hlen
  have e2 : (xs.zip ds).map Prod.fst = xs := zip_fst hlen
  have ea := each_vals (ps := xs.zip ds) (us := its) (by rw [e2]; exact rv)
  have er : PySem.W.EachIs (fun v (b : V × D) => ∃ as, Reads s.heap v b.2 as) its (xs.zip ds) := PySem.W.readsAll_each (as := as) Prod.snd (by rw [e1]; exact hr)
  refine PySem.W.sorted_data (enc := fun b : V × D => b.2) hl.isList ea er (by rw [e1]; exact k1) (by rw [e1]; exact k2) (by rw [← e2, List.length_map] at hsz; exact hsz) (fun b hb => ?_) fun out h1 h2 => ?_
  · have z := k3 b.2 (by rw [← e1]; exact List.mem_map_of_mem hb)
    omega
  · obtain ⟨ep, he'⟩ := PyProof.Rows.sortedAll_at s.heap its out.toArray
    have rv' := vals_each h2
    have hz : ((sortP (xs.zip ds)).map Prod.fst).length ≤ sizeLine := by rw [List.length_map, sortP_len, ← List.length_map (f := Prod.fst), e2]; exact hsz
    exact ⟨.ref _, upd H (s.heap.objs.size + 1) (.lst ((sortP (xs.zip ds)).map Prod.fst)), I.laid (t' := s.toks) (fun _ _ => PyProof.Rows.sortedAll_old) (Nat.le_succ _) ⟨hz, out, ep, rv', he'⟩, rfl, q _ (I.hok.fresh (Nat.le_succ _))⟩
theorem row_lay {d : D} (h : rowOk d = true) : d.canLay0 = true := by
  obtain ⟨x, r, rfl⟩ := rowOk_eq h
  have : ∀ l : List Int, PyData.canLayAll0 (l.map PyData.int) = true := fun l => by
    induction l with
    | nil => simp [PyData.canLayAll0]
    | cons a l ih => simp [PyData.canLayAll0, PyData.canLay0, ih]
  have z := this (x :: r)
  simpa [PyData.canLay0] using z
theorem pair_lay {d : D} (h : pairOk d = true) : d.canLay0 = true := by
  obtain ⟨x, r, rfl⟩ := pairOk_eq h
  have : ∀ l : List Int, PyData.canLayAll0 (l.map PyData.int) = true := fun l => by
    induction l with
    | nil => simp [PyData.canLayAll0]
    | cons a l ih => simp [PyData.canLayAll0, PyData.canLay0, ih]
  simp [PyData.canLay0, PyData.canLayAll0, this]
theorem lay_all {ds : List D} (h : ∀ d ∈ ds, d.canLay0 = true) : PyData.canLayAll0 ds = true := by
  induction ds with
  | nil => simp [PyData.canLayAll0]
  | cons d r ih =>
    simp [PyData.canLayAll0]
    exact ⟨h d List.mem_cons_self, ih fun e he => h e (List.mem_cons_of_mem _ he)⟩
theorem sort_lay {ds : List D} (h : sortOk ds = true) : PyData.canLayAll0 ds = true := by
  unfold sortOk at h
  rw [Bool.or_eq_true, List.all_eq_true, List.all_eq_true] at h
  rcases h with h | h
  · exact lay_all fun d hd => row_lay (h d hd)
  · exact lay_all fun d hd => pair_lay (h d hd)

/-! ### sorted(d), tuple keys -/
def rSortK (K : PySem.W.Frag) : List V → Hp → VK → Prop := fun vs H Q => ∃ (a : Addr) (kvs : List (List Key × V)) (ds : List D), vs = [.ref a] ∧ Rd H a (.dT kvs) ∧ ds.all rowOk = true ∧ kvs.length = ds.length ∧
  (∀ (bs : List Addr), IsKeys H kvs bs → DpAll K H (bs.map V.ref) ds) ∧
  ∀ p bs, H p = none → IsKeys H kvs bs → Q (.ref p) (upd H p (.lst ((sortP ((bs.map V.ref).zip ds)).map Prod.fst)))
theorem cr_sortK {X : Cx} (hc : X.calm = true) (hu : X.A.units + 64 < cLine) : CallR X (.builtin "sorted") (rSortK X.K) := by
  intro pins s σ H xs us Q I r h
  obtain ⟨d, kvs, ds, rfl, hd, rok, hlen, hdp, q⟩ := h
  obtain ⟨u, rfl, rx⟩ := r.one
  cases rx
  obtain ⟨z, hs, ks, pr, o, es, ep, ho, hx, hdt, he, hn⟩ := (show ObjOk X.prog X.w H s.heap d (.dT kvs) from hd.ok I.hok)
  have l1 : es.size = ks.length := size_of_entries he
  have l2 : kvs.length = ks.length := Paired.length pr
  refine Calls.call_function_entry PyProof.Rows.kind_sorted PyProof.Rows.plain_sorted PyProof.Rows.entry_sorted (PyProof.Rows.args_sorted1 _) ?_
  unfold Builtin.«sorted»
  refine wpAny_bind (m := checkCount "sorted" 1 1 _) (wpAny_pure ?_)
  refine wpAny_bind (PySem.W.kdu_collect (A := X.A.in1) (kdl_raw hs hx hdt) (I.ok.hd hc) ho (by omega) fun h' tk acc kp it => ?_)
  have ea : acc.toList = ks.map fun x => Value.ref x.2.1 := by
    have hl : acc.toList.length = ks.length := by rw [Array.length_toList, it.1]; exact l1
    refine List.ext_getElem? fun j => ?_
    cases hb : ks[j]? with
    | none =>
      rw [List.getElem?_map, hb, List.getElem?_eq_none (by have := List.getElem?_eq_none_iff.mp hb; omega)]
      rfl
    | some b =>
      have hj : j < acc.toList.length := by rw [hl]; exact (List.getElem?_eq_some_iff.mp hb).1
      obtain ⟨en, hen, hv⟩ := it.2 j acc.toList[j] (by rw [← Array.getElem?_toList]; exact List.getElem?_eq_getElem hj)
      have qe := entry_at he j
      rw [hen, hb] at qe
      have e2 : en = entryOfKey (tupleKind (mixKind X.prog X.w)) b := Option.some.inj qe
      rw [List.getElem?_map, hb, List.getElem?_eq_getElem hj, hv, e2]
      rfl
  have eb : acc.toList = (ks.map fun x => x.2.1).map Value.ref := by rw [ea, List.map_map]; all_goals rfl
  have isk : IsKeys H kvs (ks.map fun x => x.2.1) := isKeys_of pr
  generalize hbs : (ks.map fun x => x.2.1) = bs at eb isk
  have hbl : bs.length = ds.length := by rw [← hbs, List.length_map, ← l2, hlen]
  have rv : Vals (bs.map V.ref) acc.toList := by rw [eb]; exact vals_refs _
  have I1 : Inv X pins σ H { s with heap := h', toks := tk } := I.kept kp
  obtain ⟨as, hr⟩ := Dp.readsAll I1 ds _ _ (hdp bs isk) rv
  have ok : sortOk ds = true := by unfold sortOk; rw [rok]; rfl
  obtain ⟨k1, k2, k3⟩ := sortOk_facts ok
  have hml : (bs.map V.ref).length = ds.length := by rw [List.length_map]; exact hbl
  have e1 : ((bs.map V.ref).zip ds).map Prod.snd = ds := zip_snd hml
  have e2 : ((bs.map V.ref).zip ds).map Prod.fst = bs.map V.ref := zip_fst hml
  have hal : acc.toList.length ≤ sizeLine := by rw [← rv.length, hml, ← hlen]; exact z
  refine wpAny_bind (wpAny_newList ?_ hal)
  have hoL : (h'.push (seqObj "list" acc.toList.toArray 0)).get? h'.objs.size = some (seqObj "list" acc.toList.toArray 0) := Heap.get?_push_size _ rfl
  show wpAny _ _ _ _ _ { s with heap := h'.push (seqObj "list" acc.toList.toArray 0), toks := tk }
  have ev := each_vals (ps := (bs.map V.ref).zip ds) (us := acc.toList) (by rw [e2]; exact rv)
  have none_as : ∀ (dd : D) (v : Value) (as' : List Addr), rowOk dd = true → Reads h' v dd as' → as' = [] := fun dd v as' hd rr => by
    obtain ⟨x, t, rfl⟩ := rowOk_eq hd
    have rowints : ∀ (l : List Int) (vs : List Value) (as : List Addr), ReadsAll h' vs (l.map PyData.int) as → as = [] := fun l => by
      induction l with
      | nil => intro vs as h; cases h; rfl
      | cons a l ih =>
        intro vs as h
        cases h with
        | cons g1 g2 =>
          cases g1
          rw [ih _ _ g2]
          rfl
    cases rr with
    | tuple g1 g2 g3 g4 => exact rowints (x :: t) _ _ g4
  have er : PySem.W.EachIs (fun v (b : V × D) => ∃ as, Reads (h'.push (seqObj "list" acc.toList.toArray 0)) v b.2 as ∧ h'.objs.size ∉ as) acc.toList ((bs.map V.ref).zip ds) := by
    have e0 : PySem.W.EachIs (fun v (b : V × D) => ∃ as, Reads h' v b.2 as) acc.toList ((bs.map V.ref).zip ds) := PySem.W.readsAll_each (as := as) Prod.snd (by rw [e1]; exact hr)
    refine (PySem.W.each_mem e0).mono fun v b ⟨⟨as', r'⟩, hb⟩ => ?_
    have hrow : rowOk b.2 = true := List.all_eq_true.mp rok b.2 (by rw [← e1]; exact List.mem_map_of_mem hb)
    have := none_as b.2 v as' hrow r'
    subst this
    exact ⟨[], PyProof.Rows.Reads.keeps (fun _ _ g => Heap.get?_push_of_some _ g) r', List.not_mem_nil⟩
  refine wpAny_bind (wpAny_holding ?_)
  refine PySem.W.list_sort_data (s := { s with heap := h'.push (seqObj "list" acc.toList.toArray 0), toks := tk }) (enc := fun b : V × D => b.2) hoL ev er (by rw [e1]; exact k1) (by rw [e1]; exact k2) (by rw [← List.length_map (f := Prod.snd), e1, ← hml, rv.length]; exact hal) (fun b hb => ?_) fun out g1 g2 => ?_
  · have z := k3 b.2 (by rw [← e1]; exact List.mem_map_of_mem hb)
    show X.A.units + 1 + 1 + _ < _
    omega
  · obtain ⟨e', he'⟩ := PyProof.Rows.sortedHeap_at (vs := acc.toList) (out := out.toArray) hoL
    have rv' := vals_each g2
    have hz : ((sortP ((bs.map V.ref).zip ds)).map Prod.fst).length ≤ sizeLine := by rw [List.length_map, sortP_len, ← List.length_map (f := Prod.fst), e2, rv.length]; exact hal
    refine wpAny_pure ⟨_, rfl, .ref h'.objs.size, upd H h'.objs.size (.lst ((sortP ((bs.map V.ref).zip ds)).map Prod.fst)), I1.laid (t' := tk) (fun b u e => ?_) (Nat.le_refl _)
      (show ObjOk X.prog X.w _ _ _ (.lst _) from ⟨hz, out, e', rv', he'⟩), rfl, q _ bs (I1.hok.fresh (Nat.le_refl _)) isk⟩
    have hb : b < h'.objs.size := Heap.lt_size e
    rw [PyProof.Rows.sortedHeap_old (Nat.ne_of_lt hb) (by rw [size_push']; exact Nat.lt_succ_of_lt hb)]
    exact Heap.get?_push_of_some _ e
theorem cr_sortedX {X : Cx} (hc : X.calm = true) (hu : X.A.units + 64 < cLine) : CallR X (.builtin "sorted") (fun vs H Q => rSortL X.K vs H Q ∨ rSortK X.K vs H Q) := (cr_sortL hc hu).or (cr_sortK hc hu)
/-- all the keys of a dict come to be known -/
theorem keys_known {G0 H : Hp} : ∀ {kvs : List (List Key × V)} {des : List (D × D)} {bs : List Addr} {G : Hp}, Le G H → RpD G0 kvs des → IsKeys H kvs bs → ∃ G2, Gr G H G2 H ∧ RpA G2 (bs.map V.ref) (des.map (·.1))
  | _, _, _, G, le, .nil, .nil => ⟨G, Gr.refl le, .nil⟩
  | _, _, _, G, le, .cons (ks := ks) r1 r2, .cons (b := b) h1 h2 => by
    obtain ⟨G1, g1, hG1⟩ := Gr.tupG le (xs := ks.map V.int) (q := b) (by rw [← kV_inl]; exact h1)
    obtain ⟨G2, g2, a2⟩ := keys_known g1.le r2 h2
    exact ⟨G2, g1.trans g2, .cons (.tup (g2.g _ _ hG1) (RpA.of_ints ks)) a2⟩
theorem ok_sorted {K : PySem.W.Frag} : OkC (fun vs H Q => rSortL K vs H Q ∨ rSortK K vs H Q) sortedD := by
  intro G H vs ds k Q le rv hk q
  unfold sortedD at hk
  split at hk
  · rename_i ds
    split at hk
    · rename_i ok
      cases hk
      cases rv with
      | cons a r =>
        cases r
        cases a with
        | lst h1 a1 =>
          rename_i xs
          refine .inl ⟨_, xs, ds, rfl, SqL.of (le.lst h1), rp_dpA le ds _ (sort_lay ok) a1, a1.length, ok, fun p hp => ?_⟩
          refine new_lst le hp ?_ q
          have z := sortP_snd (xs.zip ds)
          rw [zip_snd a1.length] at z
          rw [← z]
          exact rpA_pairs fun p hp => rpA_zip a1 p (sortP_mem hp)
    · cases hk
  · rename_i des
    split at hk
    · rename_i ok
      cases hk
      cases rv with
      | cons a r =>
        cases r
        cases a with
        | dic h1 a1 =>
          rename_i kvs
          have hall : PyData.canLayAll0 (des.map (·.1)) = true := lay_all fun d hd => row_lay (List.all_eq_true.mp ok d hd)
          refine .inr ⟨_, kvs, des.map (·.1), rfl, le.dic h1, ok, by rw [a1.length, List.length_map], fun bs isk => ?_, fun p bs hp isk => ?_⟩
          · obtain ⟨G2, g2, a2⟩ := keys_known le a1 isk
            exact rp_dpA g2.le _ _ hall a2
          · obtain ⟨G2, g2, a2⟩ := keys_known le a1 isk
            refine new_lst g2.le hp ?_ fun z G3 H3 g3 r3 => q z G3 H3 (g2.trans g3) r3
            have z := sortP_snd ((bs.map V.ref).zip (des.map (·.1)))
            rw [zip_snd a2.length] at z
            rw [← z]
            exact rpA_pairs fun p hp => rpA_zip a2 p (sortP_mem hp)
    · cases hk
  · cases hk
end SQ
end
section
set_option Elab.async false
set_option linter.all false
set_option maxRecDepth 100000
set_option maxHeartbeats 4000000
namespace SQ
open PySem PySem.Spec PyProof.Rows L2
theorem hu65 {A : Around} {k : Nat} (hr : Room k A) : A.units + 65 < cLine := by
  have := hr.un
  omega
/-! ### dict(pairs), tuple keys -/
structure Pr where
  t : Addr
  k : List Key
  b : Addr
  v : V
def putAll (l : List Pr) (acc : List (List Key × V)) : List (List Key × V) := l.foldl (fun acc t => putK acc t.k t.v) acc
def PrAt (K : PySem.W.Frag) (H : Hp) (t : Pr) : Prop := SqT K H t.t [.ref t.b, t.v] ∧ H t.b = some (.tup (t.k.map kV))
def rDictP (K : PySem.W.Frag) : List V → Hp → VK → Prop := fun vs H Q => ∃ (a : Addr) (l : List Pr), vs = [.ref a] ∧ SqL K H a (l.map fun t => V.ref t.t) ∧ (∀ t ∈ l, PrAt K H t) ∧
  ∀ p, H p = none → Q (.ref p) (upd H p (.dT (putAll l [])))
abbrev PrIs (h : Heap) (t : Pr) (p : List Key × Addr × Value) : Prop := t.k = p.1 ∧ t.b = p.2.1 ∧ RelV t.v p.2.2 ∧ h.IsTuple t.t #[.ref p.2.1, p.2.2]
theorem pr_vals {X : Cx} {pins : List (Addr × Obj)} {σ : L2.St} {H : Hp} {s : Shared} (I : Inv X pins σ H s) : ∀ {l : List Pr}, (∀ t ∈ l, PrAt X.K H t) → ∃ ps, Paired (PrIs s.heap) l ps
  | [], _ => ⟨[], .nil⟩
  | t :: r, h => by
    obtain ⟨ps, h2⟩ := pr_vals I (l := r) fun q hq => h q (List.mem_cons_of_mem _ hq)
    obtain ⟨h3, h4⟩ := h t List.mem_cons_self
    obtain ⟨its, rv, it, _⟩ := I.tuple h3
    cases rv with
    | cons a b =>
      cases b with
      | cons b c =>
        cases c
        cases a
        exact ⟨_ :: ps, .cons (b := (t.k, t.b, _)) ⟨rfl, rfl, b, it⟩ h2⟩
theorem kt_all {H : Hp} {h : Heap} : ∀ {l : List Pr} {ps : List (List Key × Addr × Value)} {kvs : List (List Key × V)} {xs : List (List Key × Addr × Value)}, Paired (PrIs h) l ps → (∀ t ∈ l, H t.b = some (.tup (t.k.map kV))) → KT H kvs xs →
    KT H (putAll l kvs) (storedAllH xs ps)
  | _, _, _, _, .nil, _, r => r
  | _, _, _, _, .cons (a := t) (b := p) h1 h2, hk, r => by
    obtain ⟨e1, e2, e3, _⟩ := h1
    have z := r.put t.k (b := t.b) (hk t List.mem_cons_self) e3
    have ih := kt_all h2 (fun q hq => hk q (List.mem_cons_of_mem _ hq)) z
    rw [e1, e2] at ih
    unfold putAll at ih ⊢
    rw [List.foldl_cons, e1]
    exact ih
theorem refs_of : ∀ {l : List Pr} {its : List Value}, Vals (l.map fun t => V.ref t.t) its → its = l.map fun t => Value.ref t.t
  | [], _, h => by cases h; rfl
  | _ :: _, _, h => by
    cases h with
    | cons a b =>
      cases a
      rw [refs_of b]
      rfl
theorem cr_dictX {X : Cx} (hc : X.calm = true) (hu : X.A.units + 1 < cLine) (hu2 : X.A.units + 64 < cLine) : CallR X (.type "dict") (rDictP X.K) := by
  intro pins s σ H vs us Q I r h
  obtain ⟨a, l, rfl, hs, hp, q⟩ := h
  obtain ⟨its, rv, hl, hsz⟩ := I.list hs
  rw [Vals.ref1 r]
  obtain ⟨ps, hps⟩ := pr_vals I hp
  have hlen : l.length = ps.length := Paired.length hps
  have ei := refs_of rv
  let ps' : List (Value × Value) := ps.map fun p => (.ref p.2.1, p.2.2)
  have hlen' : ps'.length = ps.length := List.length_map _
  let Ts : Nat → Addr := fun j => match l[j]? with
    | some t => t.t
    | none => 0
  have hsz' : l.length ≤ sizeLine := by rw [List.length_map] at hsz; exact hsz
  have hps_at : ∀ (j : Nat) (p : List Key × Addr × Value), ps[j]? = some p → ∃ t, l[j]? = some t ∧ PrIs s.heap t p := fun j p e => by
    have hj : j < l.length := by rw [hlen]; exact (List.getElem?_eq_some_iff.mp e).1
    obtain ⟨b, e', hb⟩ := paired_get hps (List.getElem?_eq_getElem hj)
    rw [e] at e'
    cases e'
    exact ⟨l[j], List.getElem?_eq_getElem hj, hb⟩
  have items : PairItems s.heap its.toArray Ts ps' := by
    refine ⟨by rw [hlen', ← hlen, ei]; simp, fun j k v e => ?_⟩
    rw [List.getElem?_map] at e
    cases hpj : ps[j]? with
    | none => rw [hpj] at e; cases e
    | some p =>
      rw [hpj] at e
      cases e
      obtain ⟨t, ht, e1, e2, e3, e4⟩ := hps_at j p hpj
      have hT : Ts j = t.t := by
        show (match l[j]? with | some t => t.t | none => 0) = _
        rw [ht]
      rw [hT]
      refine ⟨?_, .inl e4⟩
      rw [ei]
      simp [ht]
  have plain : PlainSeq "list" s.heap a its.toArray := by
    obtain ⟨o, n, ho, hc', hd, hdat⟩ := hl
    exact ⟨o, n, ho, hc', hd, hdat⟩
  have isz : its.length = ps'.length := by rw [hlen', ← hlen, ei, List.length_map]
  have kp0 : ∀ (h' : Heap), (∀ b o, b ≠ s.heap.objs.size → b ∉ ([] : List Addr) → s.heap.get? b = some o → h'.get? b = some o) → ∀ b o, s.heap.get? b = some o → h'.get? b = some o := fun h' hk b o e => hk b o (Nat.ne_of_lt (Heap.lt_size e)) List.not_mem_nil e
  refine call_dict_pairsH (knd := tupleKind (mixKind X.prog X.w)) (PairArg.list a its.toArray Ts ps') (I.ok.hd hc) (show X.A.units + 1 + 1 < cLine by omega) ⟨plain, items⟩ (ps := ps) ⟨hlen'.symm, fun i key v e => ?_⟩ (fun h' hk x hx => ?_) (by rw [hlen', ← hlen]; exact hsz') fun h' tk hd' hk => ?_
  · replace e : ps'[i]? = some (key, v) := e
    rw [List.getElem?_map] at e
    cases hpj : ps[i]? with
    | none => rw [hpj] at e; cases e
    | some p =>
      rw [hpj] at e
      cases e
      exact ⟨p.1, p.2.1, rfl, rfl⟩
  · have I1 : Inv X pins σ H { s with heap := h', toks := s.toks } := I.kept (t' := s.toks) (kp0 h' hk)
    obtain ⟨j, hj⟩ := List.mem_iff_getElem?.mp hx
    obtain ⟨t, ht, e1, e2, e3, e4⟩ := hps_at j x hj
    rw [← e1, ← e2]
    exact key_of I1.hok (hp t (List.mem_of_getElem? ht)).2
  · have kp : ∀ b o, s.heap.get? b = some o → h'.get? b = some o := fun b o e => hk b o List.not_mem_nil e
    have fr : H s.heap.objs.size = none := I.hok.fresh (Nat.le_refl _)
    obtain ⟨o, es, ep, ho, hx, hdt, he, his, hn⟩ := hd'
    have kt : KT (upd H s.heap.objs.size (.dT (putAll l []))) (putAll l []) (storedAllH [] ps) := kt_all hps (fun t ht => by
      have e := (hp t ht).2
      rw [upd_ne (ne_of_none e fr)]
      exact e) Paired.nil
    have hkl : (putAll l []).length ≤ sizeLine := by
      rw [Paired.length kt]
      have := storedAllH_length ps ([] : List (List Key × Addr × Value))
      simp at this
      omega
    refine ⟨.ref s.heap.objs.size, _, I.laid (t' := tk) (o := .dT (putAll l [])) kp (Nat.le_refl _) ?_, rfl, q _ fr⟩
    refine ⟨hkl, ?_, storedAllH [] ps, kt, o, es, ep, ho, hx, hdt, he, hn⟩
    have big := I.big
    exact beq_false_of_ne (Nat.ne_of_gt big)
/-! what it is on data -/
def pairKV : D → Option (List Int × D)
  | .tuple [k, v] => (keyOf k).bind fun ks => some (ks, v)
  | _ => none
def dictGo : List D → List (D × D) → Option (List (D × D))
  | [], acc => some acc
  | p :: r, acc => (pairKV p).bind fun q => dictGo r (putD acc q.1 q.2)
def dictD : List D → Option D
  | [.list ps] => (dictGo ps []).bind fun des => some (.dict des)
  | _ => none
theorem dictGo_ok {K : PySem.W.Frag} {G H : Hp} (le : Le G H) : ∀ {ps : List D} {xs : List V} {acc des : List (D × D)} {kvs : List (List Key × V)}, RpA G xs ps → dictGo ps acc = some des → RpD G kvs acc →
    ∃ l : List Pr, xs = l.map (fun t => V.ref t.t) ∧ (∀ t ∈ l, PrAt K H t) ∧ RpD G (putAll l kvs) des
  | [], _, _, _, kvs, .nil, h, r => by cases h; exact ⟨[], rfl, (fun t h => by cases h), r⟩
  | p :: ps, _, acc, des, kvs, .cons a1 a2, h, r => by
    obtain ⟨⟨ks, d⟩, hq, hgo⟩ := bnd h
    unfold pairKV at hq
    split at hq
    · obtain ⟨ks', hks, hq⟩ := bnd hq
      cases hq
      cases a1 with
      | tup t1 t2 =>
        cases t2 with
        | cons u1 u2 =>
          cases u2 with
          | cons u3 u4 =>
            cases u4
            obtain ⟨b, rfl, hb⟩ := key_at le u1 hks
            obtain ⟨l, e1, e2, e3⟩ := dictGo_ok (K := K) le a2 hgo (putD_ok u3 r)
            refine ⟨⟨_, ks.map Sum.inl, b, _⟩ :: l, by rw [e1]; rfl, fun t ht => ?_, e3⟩
            rcases List.mem_cons.mp ht with rfl | ht
            · exact ⟨SqT.of (le.tup t1), hb⟩
            · exact e2 t ht
    · cases hq
theorem ok_dict {K : PySem.W.Frag} : OkC (rDictP K) dictD := by
  intro G H vs ds k Q le rv hk q
  unfold dictD at hk
  split at hk
  · rename_i ps
    obtain ⟨des, hd, hk⟩ := bnd hk
    cases hk
    cases rv with
    | cons a r =>
      cases r
      cases a with
      | lst h1 a1 =>
        obtain ⟨l, rfl, e2, e3⟩ := dictGo_ok (K := K) le a1 hd .nil
        refine ⟨_, l, rfl, SqL.of (le.lst h1), e2, fun p hp => ?_⟩
        have gr := Gr.new (o := .dT (putAll l [])) le hp
        exact q _ _ _ gr (.dic upd_same (e3.mono gr.g))
  · cases hk
end SQ
end
section
set_option Elab.async false
set_option linter.all false
set_option maxRecDepth 100000
set_option maxHeartbeats 4000000
namespace SQ
open PySem PySem.Spec PyProof.Rows L2
def Body_is_whole : FS := (sRet (fAndV (f1 (noDic (isiD "int")) (fV 0)) (fAndV (fNotV (f1 (noDic (isiD "bool")) (fV 0))) (fChain (cmpI leI) (cmpI leI) (fV 1) (fV 0) (fV 2)))))
def M_is_whole : List D → Option D := runF 3 3 Body_is_whole
def Body_turns_well : FS := (sSeq (sSet 1 (fC (.int 0)))
    (sSeq (sFor (fItems (fV 0)) (.nm 2) (sSeq (sSet 1 (f2 addD (fV 1) (fV 2)))
    (sIf (fNot (fTb (fChain (cmpI leI) (cmpI leI) (fC (.int 0)) (fV 1) (fC (.int 1))))) (sRet (fC (.bool false))) sNext)))
    (sRet (f2 eqD (fV 1) (fC (.int 1))))))
def M_turns_well : List D → Option D := runF 3 1 Body_turns_well
def Body_fits_line : FS := (sRet (fAndV (f1 (noDic (isiD "tuple")) (fV 0)) (fAndV (f2 eqD (fcall lenD (fAc (fV 0) fAn)) (fV 1)) (fcall allD (fAc (fLc [2] (fItems (fV 0)) (.nm 2) fYes (fcall M_is_whole (fAc (fV 2) (fAc (f1 negD (fC (.int 1))) (fAc (fC (.int 1)) fAn))))) fAn)))))
def M_fits_line : List D → Option D := runF 3 2 Body_fits_line
def Body_columns_of : FS := (sRet (fLc [1] (fRng1 (fcall lenD (fAc (fV 0) fAn))) (.nm 1) fYes (fcall tupleD (fAc (fLc [2] (fItems (fV 0)) (.nm 2) fYes (f2 ixD (fV 2) (fV 1))) fAn))))
def M_columns_of : List D → Option D := runF 3 1 Body_columns_of
def Body_fits_square : FS := (sSeq (sIf (fOr (fNot (fTb (f1 (noDic (isiD "tuple")) (fV 0)))) (fNot (fTb (fChain (cmpI leI) (cmpI leI) (fC (.int 1)) (fcall lenD (fAc (fV 0) fAn)) (fC (.int 12)))))) (sRet (fC (.bool false))) sNext)
    (sSeq (sIf (fNot (fTb (fcall allD (fAc (fLc [1] (fItems (fV 0)) (.nm 1) fYes (fcall M_fits_line (fAc (fV 1) (fAc (fcall lenD (fAc (fV 0) fAn)) fAn)))) fAn)))) (sRet (fC (.bool false))) sNext)
    (sRet (fAndV (fcall allD (fAc (fLc [1] (fItems (fV 0)) (.nm 1) fYes (fcall M_turns_well (fAc (fV 1) fAn))) fAn)) (fcall allD (fAc (fLc [1] (fItems (fcall M_columns_of (fAc (fV 0) fAn))) (.nm 1) fYes (fcall M_turns_well (fAc (fV 1) fAn))) fAn))))))
def M_fits_square : List D → Option D := runF 2 1 Body_fits_square
def Body_lots_of : FS := (sSeq (sSet 2 (fcall mkLst (fAc (fcall mkTup fAn) fAn)))
    (sSeq (sFor (fRng1 (fV 1)) (.nm 3) (sSeq (sSet 4 (fcall mkLst fAn))
    (sSeq (sFor (fItems (fV 2)) (.nm 5) (sSet 4 (f2 addD (fV 4) (fLc [6] (fRng2 (fIf (fTb (f2 neD (fV 5) (fcall mkTup fAn))) (f2 addD (f2 ixD (fV 5) (f1 negD (fC (.int 1)))) (fC (.int 1))) (fC (.int 0))) (fV 0)) (.nm 6) fYes (f2 addD (fV 5) (fcall mkTup (fAc (fV 6) fAn)))))))
    (sSet 2 (fV 4)))))
    (sRet (fV 2))))
def M_lots_of : List D → Option D := runF 7 2 Body_lots_of
def Body_cells_of : FS := (sSeq (sSet 1 (fcall mkLst fAn))
    (sSeq (sFor (fRng1 (fV 0)) (.nm 2) (sSet 1 (f2 addD (fV 1) (fLc [3] (fRng1 (fV 0)) (.nm 3) fYes (fcall mkTup (fAc (fV 2) (fAc (fV 3) fAn)))))))
    (sRet (fV 1))))
def M_cells_of : List D → Option D := runF 4 1 Body_cells_of
def Body_points_within : FS := (sSeq (sSet 1 (fcall mkLst fAn))
    (sSeq (sFor (fRng2 (fC (.int 1)) (fV 0)) (.nm 2) (sSet 1 (f2 addD (fV 1) (fLc [3] (fRng2 (fC (.int 1)) (fV 0)) (.nm 3) fYes (fcall mkTup (fAc (fV 2) (fAc (fV 3) fAn)))))))
    (sRet (fV 1))))
def M_points_within : List D → Option D := runF 4 1 Body_points_within
def Body_fewest_spots : FS := (sSeq (sFor (fRng1 (f2 addD (fcall lenD (fAc (fV 2) fAn)) (fC (.int 1)))) (.nm 3) (sFor (fItems (fcall M_lots_of (fAc (fcall lenD (fAc (fV 2) fAn)) (fAc (fV 3) fAn)))) (.nm 4) (sSeq (sSet 5 (fLc [7] (fItems (fV 4)) (.nm 7) fYes (f2 ixD (fV 2) (fV 7))))
    (sSeq (sSet 6 (fLc [8, 9] (fItems (fV 5)) (.tp [8, 9]) fYes (f2 ixD (f2 ixD (fV 0) (fV 8)) (fV 9))))
    (sIf (fTb (f2 eqD (fLc [10] (fItems (fV 1)) (.nm 10) (fTb (f2 eqD (fLc [8, 9] (fItems (fV 5)) (.tp [8, 9]) fYes (f2 ixD (f2 ixD (fV 10) (fV 8)) (fV 9))) (fV 6))) (fV 10)) (fcall mkLst fAn))) (sRet (fcall tupleD (fAc (fV 5) fAn))) sNext)))))
    (sRet (fcall tupleD (fAc (fV 2) fAn))))
def M_fewest_spots : List D → Option D := runF 11 3 Body_fewest_spots
abbrev s_is_whole : Stmt := topS 10
theorem sc_is_whole : FnScope ["value", "low", "high"] ["value", "low", "high"] (defScope s_is_whole) := ⟨rfl, rfl, rfl, by decide +kernel, rfl, by decide +kernel, by decide +kernel⟩
theorem ok_is_whole {P : Program} {w : World} {K : PySem.W.Frag} {mg : Str → Option Value} {base : Heap} (E : At K mg "is_whole" s_is_whole ["value", "low", "high"]) (B : Bl mg) : Has P w K mg base "is_whole" 1 ["value", "low", "high"] M_is_whole :=
  has_of E sc_is_whole fun f cdv A outer s H E hr => (q_one (q_ret (r_and (r_isi (by rfl) B.isinstance_ (by rfl) B.int_ (by decide +kernel) (r_var 0)) (r_and (r_not (r_isi (by rfl) B.isinstance_ (by rfl) B.bool_ (by decide +kernel) (r_var 0))) (r_one (r_chain op_le op_le ok_le ok_le (r_var 1) (r_var 0) (r_var 2)))))))
abbrev s_turns_well : Stmt := topS 11
theorem sc_turns_well : FnScope ["line", "total", "one"] ["line"] (defScope s_turns_well) := ⟨rfl, rfl, rfl, by decide +kernel, rfl, by decide +kernel, by decide +kernel⟩
theorem ok_turns_well {P : Program} {w : World} {K : PySem.W.Frag} {mg : Str → Option Value} {base : Heap} (E : At K mg "turns_well" s_turns_well ["line"]) (B : Bl mg) : Has P w K mg base "turns_well" 1 ["line"] M_turns_well :=
  has_of E sc_turns_well fun f cdv A outer s H E hr => (q_cons (q_set 1 sc_turns_well.nd r_int)
    (q_cons (q_for PassesOwn.never rfl (i_seq (r_var 0)) (g_nm 2 sc_turns_well.nd) (q_cons (q_set 1 sc_turns_well.nd (r_add (r_var 1) (r_var 2)))
    (q_one (q_if (t_not (t_chain op_le op_le ok_le ok_le r_int (r_var 1) r_int)) (q_one (q_ret r_bl)) q_nil))))
    (q_one (q_ret (r_cmp (op_eqD hr.units) ok_eq (nomark _) (r_var 1) r_int)))))
abbrev s_fits_line : Stmt := topS 12
theorem sc_fits_line : FnScope ["value", "sides", "one"] ["value", "sides"] (defScope s_fits_line) := ⟨rfl, rfl, rfl, by decide +kernel, rfl, by decide +kernel, by decide +kernel⟩
theorem ok_fits_line {P : Program} {w : World} {K : PySem.W.Frag} {mg : Str → Option Value} {base : Heap} (E : At K mg "fits_line" s_fits_line ["value", "sides"]) (B : Bl mg) (h_is_whole : Has P w K mg base "is_whole" 1 ["value", "low", "high"] M_is_whole) : Has P w K mg base "fits_line" 2 ["value", "sides"] M_fits_line :=
  has_of E sc_fits_line fun f cdv A outer s H E hr => (q_one (q_ret (r_and (r_isi (by rfl) B.isinstance_ (by rfl) B.tuple_ (by decide +kernel) (r_var 0)) (r_and (r_cmp (op_eqD hr.units) ok_eq (nomark _) (r_cb call_len_seq ok_len (by rfl) B.len_ (by decide +kernel) (a_cons (r_var 0) a_nil)) (r_var 1)) (r_one (r_cb (cr_all rfl) ok_all (by rfl) B.all_ (by decide +kernel) (a_cons (r_lc rfl sc_fits_line.nd (i_seq (r_var 0)) (blkOk_by (own := [("one", 2)]) (by kernel_rfl)) (p := (.nm 2)) (by decide) (fun _ _ _ _ _ => (g_nm 2 sc_fits_line.nd)) (fun _ _ _ _ _ => pts_yes) (fun _ _ _ _ _ => (r_call h_is_whole hr (by decide) (by rfl) (a_cons (r_var 2) (a_cons (r_neg r_int) (a_cons r_int a_nil)))))) a_nil)))))))
abbrev s_columns_of : Stmt := topS 13
theorem sc_columns_of : FnScope ["square", "at", "line"] ["square"] (defScope s_columns_of) := ⟨rfl, rfl, rfl, by decide +kernel, rfl, by decide +kernel, by decide +kernel⟩
theorem ok_columns_of {P : Program} {w : World} {K : PySem.W.Frag} {mg : Str → Option Value} {base : Heap} (E : At K mg "columns_of" s_columns_of ["square"]) (B : Bl mg) : Has P w K mg base "columns_of" 1 ["square"] M_columns_of :=
  has_of E sc_columns_of fun f cdv A outer s H E hr => (q_one (q_ret (r_lc rfl sc_columns_of.nd (i_rng1 (by rfl) B.range_ (r_cb call_len_seq ok_len (by rfl) B.len_ (by decide +kernel) (a_cons (r_var 0) a_nil))) (blkOk_by (own := [("at", 1)]) (by kernel_rfl)) (p := (.nm 1)) (by decide) (fun _ _ _ _ _ => (g_nm 1 sc_columns_of.nd)) (fun _ _ _ _ _ => pts_yes) (fun _ _ _ _ _ => (r_ct call_tuple_of ok_tuple (by rfl) B.tuple_ (by decide +kernel) (a_cons (r_lc rfl sc_columns_of.nd (i_seq (r_var 0)) (blkOk_by (own := [("line", 2)]) (by kernel_rfl)) (p := (.nm 2)) (by decide) (fun _ _ _ _ _ => (g_nm 2 sc_columns_of.nd)) (fun _ _ _ _ _ => pts_yes) (fun _ _ _ _ _ => (r_ix (r_var 2) (r_var 1)))) a_nil))))))
abbrev s_fits_square : Stmt := topS 14
theorem sc_fits_square : FnScope ["value", "line"] ["value"] (defScope s_fits_square) := ⟨rfl, rfl, rfl, by decide +kernel, rfl, by decide +kernel, by decide +kernel⟩
theorem ok_fits_square {P : Program} {w : World} {K : PySem.W.Frag} {mg : Str → Option Value} {base : Heap} (E : At K mg "fits_square" s_fits_square ["value"]) (B : Bl mg) {tSIDES : Tok} (cSIDES : mg "SIDES" = some (.int 12 tSIDES)) (h_fits_line : Has P w K mg base "fits_line" 2 ["value", "sides"] M_fits_line) (h_turns_well : Has P w K mg base "turns_well" 1 ["line"] M_turns_well) (h_columns_of : Has P w K mg base "columns_of" 1 ["square"] M_columns_of) : Has P w K mg base "fits_square" 3 ["value"] M_fits_square :=
  has_of E sc_fits_square fun f cdv A outer s H E hr => (q_cons (q_if (PW.pt (t_or (t_not (t_val (r_isi (by rfl) B.isinstance_ (by rfl) B.tuple_ (by decide +kernel) (r_var 0)))) (t_or1 (t_not (t_chain op_le op_le ok_le ok_le r_int (r_cb call_len_seq ok_len (by rfl) B.len_ (by decide +kernel) (a_cons (r_var 0) a_nil)) (r_glob (by rfl) cSIDES)))))) (q_one (q_ret r_bl)) q_nil)
    (q_cons (q_if (t_not (t_val (r_cb (cr_all rfl) ok_all (by rfl) B.all_ (by decide +kernel) (a_cons (r_lc rfl sc_fits_square.nd (i_seq (r_var 0)) (blkOk_by (own := [("line", 1)]) (by kernel_rfl)) (p := (.nm 1)) (by decide) (fun _ _ _ _ _ => (g_nm 1 sc_fits_square.nd)) (fun _ _ _ _ _ => pts_yes) (fun _ _ _ _ _ => (r_call h_fits_line hr (by decide) (by rfl) (a_cons (r_var 1) (a_cons (r_cb call_len_seq ok_len (by rfl) B.len_ (by decide +kernel) (a_cons (r_var 0) a_nil)) a_nil))))) a_nil)))) (q_one (q_ret r_bl)) q_nil)
    (q_one (q_ret (r_and (r_cb (cr_all rfl) ok_all (by rfl) B.all_ (by decide +kernel) (a_cons (r_lc rfl sc_fits_square.nd (i_seq (r_var 0)) (blkOk_by (own := [("line", 1)]) (by kernel_rfl)) (p := (.nm 1)) (by decide) (fun _ _ _ _ _ => (g_nm 1 sc_fits_square.nd)) (fun _ _ _ _ _ => pts_yes) (fun _ _ _ _ _ => (r_call h_turns_well hr (by decide) (by rfl) (a_cons (r_var 1) a_nil)))) a_nil)) (r_one (r_cb (cr_all rfl) ok_all (by rfl) B.all_ (by decide +kernel) (a_cons (r_lc rfl sc_fits_square.nd (i_seq (r_call h_columns_of hr (by decide) (by rfl) (a_cons (r_var 0) a_nil))) (blkOk_by (own := [("line", 1)]) (by kernel_rfl)) (p := (.nm 1)) (by decide) (fun _ _ _ _ _ => (g_nm 1 sc_fits_square.nd)) (fun _ _ _ _ _ => pts_yes) (fun _ _ _ _ _ => (r_call h_turns_well hr (by decide) (by rfl) (a_cons (r_var 1) a_nil)))) a_nil))))))))
abbrev s_lots_of : Stmt := topS 38
theorem sc_lots_of : FnScope ["many", "some", "found", "turn", "longer", "lot", "one"] ["many", "some"] (defScope s_lots_of) := ⟨rfl, rfl, rfl, by decide +kernel, rfl, by decide +kernel, by decide +kernel⟩
theorem ok_lots_of {P : Program} {w : World} {K : PySem.W.Frag} {mg : Str → Option Value} {base : Heap} (E : At K mg "lots_of" s_lots_of ["many", "some"]) (B : Bl mg) : Has P w K mg base "lots_of" 1 ["many", "some"] M_lots_of :=
  has_of E sc_lots_of fun f cdv A outer s H E hr => (q_cons (q_set 2 sc_lots_of.nd (r_lst (a_cons (r_tup a_nil) a_nil)))
    (q_cons (q_for PassesOwn.never rfl (i_rng1 (by rfl) B.range_ (r_var 1)) (g_nm 3 sc_lots_of.nd) (q_cons (q_set 4 sc_lots_of.nd (r_lst a_nil))
    (q_cons (q_for PassesOwn.never rfl (i_seq (r_var 2)) (g_nm 5 sc_lots_of.nd) (q_one (q_set 4 sc_lots_of.nd (r_add (r_var 4) (r_lc rfl sc_lots_of.nd (i_rng2 (by rfl) B.range_ (r_ifx (t_cmp (op_neD hr.units) ok_ne (nomark _) (r_var 5) (r_tup a_nil)) (r_add (r_ix (r_var 5) (r_neg r_int)) r_int) r_int) (r_var 0)) (blkOk_by (own := [("one", 6)]) (by kernel_rfl)) (p := (.nm 6)) (by decide) (fun _ _ _ _ _ => (g_nm 6 sc_lots_of.nd)) (fun _ _ _ _ _ => pts_yes) (fun _ _ _ _ _ => (r_add (r_var 5) (r_tup (a_cons (r_var 6) a_nil)))))))))
    (q_one (q_set 2 sc_lots_of.nd (r_var 4))))))
    (q_one (q_ret (r_var 2)))))
abbrev s_cells_of : Stmt := topS 41
theorem sc_cells_of : FnScope ["sides", "found", "row", "column"] ["sides"] (defScope s_cells_of) := ⟨rfl, rfl, rfl, by decide +kernel, rfl, by decide +kernel, by decide +kernel⟩
theorem ok_cells_of {P : Program} {w : World} {K : PySem.W.Frag} {mg : Str → Option Value} {base : Heap} (E : At K mg "cells_of" s_cells_of ["sides"]) (B : Bl mg) : Has P w K mg base "cells_of" 1 ["sides"] M_cells_of :=
  has_of E sc_cells_of fun f cdv A outer s H E hr => (q_cons (q_set 1 sc_cells_of.nd (r_lst a_nil))
    (q_cons (q_for PassesOwn.never rfl (i_rng1 (by rfl) B.range_ (r_var 0)) (g_nm 2 sc_cells_of.nd) (q_one (q_set 1 sc_cells_of.nd (r_add (r_var 1) (r_lc rfl sc_cells_of.nd (i_rng1 (by rfl) B.range_ (r_var 0)) (blkOk_by (own := [("column", 3)]) (by kernel_rfl)) (p := (.nm 3)) (by decide) (fun _ _ _ _ _ => (g_nm 3 sc_cells_of.nd)) (fun _ _ _ _ _ => pts_yes) (fun _ _ _ _ _ => (r_tup (a_cons (r_var 2) (a_cons (r_var 3) a_nil)))))))))
    (q_one (q_ret (r_var 1)))))
abbrev s_points_within : Stmt := topS 42
theorem sc_points_within : FnScope ["sides", "found", "row", "column"] ["sides"] (defScope s_points_within) := ⟨rfl, rfl, rfl, by decide +kernel, rfl, by decide +kernel, by decide +kernel⟩
theorem ok_points_within {P : Program} {w : World} {K : PySem.W.Frag} {mg : Str → Option Value} {base : Heap} (E : At K mg "points_within" s_points_within ["sides"]) (B : Bl mg) : Has P w K mg base "points_within" 1 ["sides"] M_points_within :=
  has_of E sc_points_within fun f cdv A outer s H E hr => (q_cons (q_set 1 sc_points_within.nd (r_lst a_nil))
    (q_cons (q_for PassesOwn.never rfl (i_rng2 (by rfl) B.range_ r_int (r_var 0)) (g_nm 2 sc_points_within.nd) (q_one (q_set 1 sc_points_within.nd (r_add (r_var 1) (r_lc rfl sc_points_within.nd (i_rng2 (by rfl) B.range_ r_int (r_var 0)) (blkOk_by (own := [("column", 3)]) (by kernel_rfl)) (p := (.nm 3)) (by decide) (fun _ _ _ _ _ => (g_nm 3 sc_points_within.nd)) (fun _ _ _ _ _ => pts_yes) (fun _ _ _ _ _ => (r_tup (a_cons (r_var 2) (a_cons (r_var 3) a_nil)))))))))
    (q_one (q_ret (r_var 1)))))
abbrev s_fewest_spots : Stmt := topS 43
theorem sc_fewest_spots : FnScope ["table", "tables", "spots", "some", "lot", "chosen", "mine", "at", "row", "column", "other"] ["table", "tables", "spots"] (defScope s_fewest_spots) := ⟨rfl, rfl, rfl, by decide +kernel, rfl, by decide +kernel, by decide +kernel⟩
theorem ok_fewest_spots {P : Program} {w : World} {K : PySem.W.Frag} {mg : Str → Option Value} {base : Heap} (E : At K mg "fewest_spots" s_fewest_spots ["table", "tables", "spots"]) (B : Bl mg) (h_lots_of : Has P w K mg base "lots_of" 1 ["many", "some"] M_lots_of) : Has P w K mg base "fewest_spots" 2 ["table", "tables", "spots"] M_fewest_spots :=
  has_of E sc_fewest_spots fun f cdv A outer s H E hr => (q_cons (q_for PassesOwn.never rfl (i_rng1 (by rfl) B.range_ (r_add (r_cb call_len_seq ok_len (by rfl) B.len_ (by decide +kernel) (a_cons (r_var 2) a_nil)) r_int)) (g_nm 3 sc_fewest_spots.nd) (q_one (q_for PassesOwn.never rfl (i_seq (r_call h_lots_of hr (by decide) (by rfl) (a_cons (r_cb call_len_seq ok_len (by rfl) B.len_ (by decide +kernel) (a_cons (r_var 2) a_nil)) (a_cons (r_var 3) a_nil)))) (g_nm 4 sc_fewest_spots.nd) (q_cons (q_set 5 sc_fewest_spots.nd (r_lc rfl sc_fewest_spots.nd (i_seq (r_var 4)) (blkOk_by (own := [("at", 7)]) (by kernel_rfl)) (p := (.nm 7)) (by decide) (fun _ _ _ _ _ => (g_nm 7 sc_fewest_spots.nd)) (fun _ _ _ _ _ => pts_yes) (fun _ _ _ _ _ => (r_ix (r_var 2) (r_var 7)))))
    (q_cons (q_set 6 sc_fewest_spots.nd (r_lc rfl sc_fewest_spots.nd (i_seq (r_var 5)) (blkOk_by (own := [("row", 8), ("column", 9)]) (by kernel_rfl)) (p := (.tp [8, 9])) (by decide) (fun _ _ _ _ _ => (g_tp rfl (gs_cons (g_nm 8 sc_fewest_spots.nd) (gs_cons (g_nm 9 sc_fewest_spots.nd) gs_nil)))) (fun _ _ _ _ _ => pts_yes) (fun _ _ _ _ _ => (r_ix (r_ix (r_var 0) (r_var 8)) (r_var 9)))))
    (q_one (q_if (t_cmp (op_eqD hr.units) ok_eq (nomark _) (r_lc rfl sc_fewest_spots.nd (i_seq (r_var 1)) (blkOk_by (own := [("other", 10)]) (by kernel_rfl)) (p := (.nm 10)) (by decide) (fun _ _ _ _ _ => (g_nm 10 sc_fewest_spots.nd)) (fun _ _ _ _ _ => (pts_if (t_cmp (op_eqD hr.units) ok_eq (nomark _) (r_lc rfl sc_fewest_spots.nd (i_seq (r_var 5)) (blkOk_by (own := [("row", 8), ("column", 9)]) (by kernel_rfl)) (p := (.tp [8, 9])) (by decide) (fun _ _ _ _ _ => (g_tp rfl (gs_cons (g_nm 8 sc_fewest_spots.nd) (gs_cons (g_nm 9 sc_fewest_spots.nd) gs_nil)))) (fun _ _ _ _ _ => pts_yes) (fun _ _ _ _ _ => (r_ix (r_ix (r_var 10) (r_var 8)) (r_var 9)))) (r_var 6)))) (fun _ _ _ _ _ => (r_var 10))) (r_lst a_nil)) (q_one (q_ret (r_ct call_tuple_of ok_tuple (by rfl) B.tuple_ (by decide +kernel) (a_cons (r_var 5) a_nil)))) q_nil)))))))
    (q_one (q_ret (r_ct call_tuple_of ok_tuple (by rfl) B.tuple_ (by decide +kernel) (a_cons (r_var 2) a_nil)))))
end SQ
end
section
set_option Elab.async false
set_option linter.all false
set_option maxRecDepth 100000
set_option maxHeartbeats 4000000
namespace SQ
open PySem PySem.Spec PyProof.Rows L2
def Body_need_square : FS := (sIf (fNot (fTb (fcall M_fits_square (fAc (fV 0) fAn)))) sNever sNext)
def M_need_square : List D → Option D := runF 1 1 Body_need_square
def Body_need_sides : FS := (sIf (fNot (fTb (fcall M_is_whole (fAc (fV 0) (fAc (fC (.int 1)) (fAc (fC (.int 12)) fAn)))))) sNever sNext)
def M_need_sides : List D → Option D := runF 1 1 Body_need_sides
def Body_need_few : FS := (sIf (fTb (f2 (cmpI gtI) (fV 0) (fV 1))) sNever sNext)
def M_need_few : List D → Option D := runF 2 2 Body_need_few
def Body_fits_fact : FS := (sSeq (sIf (fOr (fNot (fTb (f1 (noDic (isiD "tuple")) (fV 1)))) (fOr (fTb (f2 neD (fcall lenD (fAc (fV 1) fAn)) (fC (.int 4)))) (fNot (fTb (f1 (noDic (isiD "str")) (f2 ixD (fV 1) (fC (.int 0)))))))) (sRet (fC (.bool false))) sNext)
    (sSeq (sAsg (.tp [3, 4, 5, 6]) (fV 1))
    (sSeq (sSet 2 (f2 subD (fV 0) (fC (.int 1))))
    (sSeq (sIf (fTb (f2 eqD (fV 3) (fC (.str "cell")))) (sRet (fAndV (fcall M_is_whole (fAc (fV 4) (fAc (fC (.int 0)) (fAc (fV 2) fAn)))) (fAndV (fcall M_is_whole (fAc (fV 5) (fAc (fC (.int 0)) (fAc (fV 2) fAn)))) (fcall M_is_whole (fAc (fV 6) (fAc (f1 negD (fC (.int 1))) (fAc (fC (.int 1)) fAn))))))) sNext)
    (sSeq (sIf (fTb (f2 eqD (fV 3) (fC (.str "along")))) (sRet (fAndV (fcall M_is_whole (fAc (fV 4) (fAc (fC (.int 0)) (fAc (fV 2) fAn)))) (fAndV (fcall M_is_whole (fAc (fV 5) (fAc (fC (.int 0)) (fAc (fV 0) fAn)))) (fcall M_is_whole (fAc (fV 6) (fAc (fC (.int 0)) (fAc (fC (.int 1)) fAn))))))) sNext)
    (sSeq (sIf (fTb (f2 eqD (fV 3) (fC (.str "down")))) (sRet (fAndV (fcall M_is_whole (fAc (fV 4) (fAc (fC (.int 0)) (fAc (fV 0) fAn)))) (fAndV (fcall M_is_whole (fAc (fV 5) (fAc (fC (.int 0)) (fAc (fV 2) fAn)))) (fcall M_is_whole (fAc (fV 6) (fAc (fC (.int 0)) (fAc (fC (.int 1)) fAn))))))) sNext)
    (sSeq (sIf (fOr (fNot (fTb (fcall M_is_whole (fAc (fV 4) (fAc (fC (.int 0)) (fAc (fV 0) fAn)))))) (fNot (fTb (fcall M_is_whole (fAc (fV 5) (fAc (fC (.int 0)) (fAc (fV 0) fAn))))))) (sRet (fC (.bool false))) sNext)
    (sSeq (sIf (fTb (f2 eqD (fV 3) (fC (.str "corner")))) (sRet (fcall M_is_whole (fAc (fV 6) (fAc (fC (.int 0)) (fAc (fC (.int 12)) fAn))))) sNext)
    (sRet (fAndV (f2 inD (fV 3) (fcall mkTup (fAc (fC (.str "least")) (fAc (fC (.str "most")) fAn)))) (fcall M_is_whole (fAc (fV 6) (fAc (f1 negD (fC (.int 40))) (fAc (fC (.int 40)) fAn))))))))))))))
def M_fits_fact : List D → Option D := runF 7 2 Body_fits_fact
def Body_fit_facts : FS := (sRet (fAndV (f1 (noDic (isiD "tuple")) (fV 1)) (fAndV (f2 (cmpI leI) (fcall lenD (fAc (fV 1) fAn)) (fC (.int 40))) (fcall allD (fAc (fLc [2] (fItems (fV 1)) (.nm 2) fYes (fcall M_fits_fact (fAc (fV 0) (fAc (fV 2) fAn)))) fAn)))))
def M_fit_facts : List D → Option D := runF 3 2 Body_fit_facts
def Body_need_facts : FS := (sIf (fNot (fTb (fcall M_fit_facts (fAc (fV 0) (fAc (fV 1) fAn))))) sNever sNext)
def M_need_facts : List D → Option D := runF 2 2 Body_need_facts
def Body_line_goes : FS := (sSeq (sFor (fItems (fV 2)) (.tp [3, 4, 5, 6]) (sSeq (sIf (fAnd (fTb (f2 eqD (fV 3) (fC (.str "cell")))) (fAnd (fTb (f2 eqD (fV 4) (fV 1))) (fTb (f2 neD (f2 ixD (fV 0) (fV 5)) (fV 6))))) (sRet (fC (.bool false))) sNext)
    (sIf (fAnd (fTb (f2 eqD (fV 3) (fC (.str "along")))) (fAnd (fTb (f2 eqD (fV 4) (fV 1))) (fTb (f2 neD (fcall sumD (fAc (fSl (fV 0) fPn (fPs (fV 5))) fAn)) (fV 6))))) (sRet (fC (.bool false))) sNext)))
    (sRet (fC (.bool true))))
def M_line_goes : List D → Option D := runF 7 3 Body_line_goes
def Body_state_goes : FS := (sSeq (sFor (fItems (fV 2)) (.tp [3, 4, 5, 6]) (sSeq (sIf (fAnd (fTb (f2 eqD (fV 4) (fV 1))) (fAnd (fTb (f2 eqD (fV 3) (fC (.str "down")))) (fTb (f2 neD (f2 ixD (fV 0) (fV 5)) (fV 6))))) (sRet (fC (.bool false))) sNext)
    (sIf (fAnd (fTb (f2 eqD (fV 4) (fV 1))) (fTb (f2 notInD (fV 3) (fcall mkTup (fAc (fC (.str "cell")) (fAc (fC (.str "along")) (fAc (fC (.str "down")) fAn))))))) (sSeq (sSet 7 (fcall sumD (fAc (fSl (fV 0) fPn (fPs (fV 5))) fAn)))
    (sSeq (sSet 8 (f2 subD (f2 addD (fV 4) (fV 5)) (f2 mulD (fC (.int 2)) (fV 7))))
    (sSeq (sIf (fOr (fAnd (fTb (f2 eqD (fV 3) (fC (.str "corner")))) (fTb (f2 neD (fV 7) (fV 6)))) (fAnd (fTb (f2 eqD (fV 3) (fC (.str "least")))) (fTb (f2 (cmpI ltI) (fV 8) (fV 6))))) (sRet (fC (.bool false))) sNext)
    (sIf (fAnd (fTb (f2 eqD (fV 3) (fC (.str "most")))) (fTb (f2 (cmpI gtI) (fV 8) (fV 6)))) (sRet (fC (.bool false))) sNext)))) sNext)))
    (sRet (fC (.bool true))))
def M_state_goes : List D → Option D := runF 9 3 Body_state_goes
def Body_need_told : FS := (sSeq (sDrop (fcall M_need_sides (fAc (fV 0) fAn)))
    (sSeq (sDrop (fcall M_need_facts (fAc (fV 0) (fAc (fV 1) fAn))))
    (sDrop (fcall M_need_few (fAc (fV 0) (fAc (fV 2) fAn))))))
def M_need_told : List D → Option D := runF 3 3 Body_need_told
def Body_heights_of : FS := (sSeq (sSet 1 (fcall lenD (fAc (fV 0) fAn)))
    (sSeq (sPar 2 3 false true (f2 mulD (fcall mkLst (fAc (fC (.int 0)) fAn)) (f2 addD (fV 1) (fC (.int 1)))) (fcall mkLst (fAc (f1 tupRngD (f2 addD (fV 1) (fC (.int 1)))) fAn)))
    (sSeq (sFor (fEnum (fV 0)) (.tp [4, 5]) (sSeq (sPar 6 7 false true (fC (.int 0)) (fcall mkLst (fAc (fC (.int 0)) fAn)))
    (sSeq (sFor (fEnum (fV 5)) (.tp [8, 9]) (sSeq (sSet 6 (f2 addD (fV 6) (fV 9)))
    (sApp 7 (f2 addD (f2 ixD (fV 2) (f2 addD (fV 8) (fC (.int 1)))) (fV 6)))))
    (sSeq (sCommit 7 (sSet 2 (fV 7)))
    (sApp 3 (fcall tupleD (fAc (fLc [8, 9] (fEnum (fV 2)) (.tp [8, 9]) fYes (f2 subD (f2 addD (f2 addD (fV 4) (fC (.int 1))) (fV 8)) (f2 mulD (fC (.int 2)) (fV 9)))) fAn)))))))
    (sCommit 3 (sRet (fcall tupleD (fAc (fV 3) fAn)))))))
def M_heights_of : List D → Option D := runF 10 1 Body_heights_of
def Body_w_lines : FS := (sSeq (sSet 1 (fcall mkLst (fAc (fcall mkTup (fAc (fcall mkTup fAn) (fAc (fC (.int 0)) fAn))) fAn)))
    (sSeq (sFor (fRng1 (fV 0)) (.nm 2) (sSeq (sSet 3 (fcall mkLst fAn))
    (sSeq (sFor (fItems (fV 1)) (.tp [4, 5]) (sSet 3 (f2 addD (fV 3) (fLc [6] (fItems (fcall mkTup (fAc (f1 negD (fC (.int 1))) (fAc (fC (.int 0)) (fAc (fC (.int 1)) fAn))))) (.nm 6) (fTb (fChain (cmpI leI) (cmpI leI) (fC (.int 0)) (f2 addD (fV 5) (fV 6)) (fC (.int 1)))) (fcall mkTup (fAc (f2 addD (fV 4) (fcall mkTup (fAc (fV 6) fAn))) (fAc (f2 addD (fV 5) (fV 6)) fAn)))))))
    (sSet 1 (fV 3)))))
    (sRet (fLc [4, 5] (fItems (fV 1)) (.tp [4, 5]) (fTb (f2 eqD (fV 5) (fC (.int 1)))) (fV 4)))))
def M_w_lines : List D → Option D := runF 7 1 Body_w_lines
def Body_w_all : FS := (sSeq (sSet 1 (fcall mkLst (fAc (fcall mkTup (fAc (fcall mkTup fAn) (fAc (f2 mulT (fcall mkTup (fAc (fC (.int 0)) fAn)) (fV 0)) fAn))) fAn)))
    (sSeq (sFor (fRng1 (fV 0)) (.nm 2) (sSeq (sSetO 3 (fcall mkLst fAn))
    (sSeq (sFor (fItems (fV 1)) (.tp [4, 5]) (sFor (fItems (fcall M_w_lines (fAc (fV 0) fAn))) (.nm 6) (sSeq (sSet 7 (fcall tupleD (fAc (fLc [8, 9] (fZip (fV 5) (fV 6)) (.tp [8, 9]) fYes (f2 addD (fV 8) (fV 9))) fAn)))
    (sIf (fAnd (fTb (f2 (cmpI geI) (fcall minD (fAc (fV 7) fAn)) (fC (.int 0)))) (fTb (f2 (cmpI leI) (fcall maxD (fAc (fV 7) fAn)) (fC (.int 1))))) (sApp 3 (fcall mkTup (fAc (f2 addD (fV 4) (fcall mkTup (fAc (fV 6) fAn))) (fAc (fV 7) fAn)))) sNext))))
    (sCommit 3 (sSet 1 (fV 3))))))
    (sRet (fLc [4, 5] (fItems (fV 1)) (.tp [4, 5]) (fTb (f2 eqD (fV 5) (f2 mulT (fcall mkTup (fAc (fC (.int 1)) fAn)) (fV 0)))) (fV 4)))))
def M_w_all : List D → Option D := runF 10 1 Body_w_all
def Body_w_corner : FS := (sRet (fcall sumD (fAc (fLc [3] (fItems (fSl (fV 0) fPn (fPs (fV 1)))) (.nm 3) fYes (fcall sumTD (fAc (fSl (fV 3) fPn (fPs (fV 2))) fAn))) fAn)))
def M_w_corner : List D → Option D := runF 4 3 Body_w_corner
def Body_w_known : FS := (sSeq (sSet 0 (fcall mkTup (fAc (fcall mkTup (fAc (fC (.int 0)) (fAc (fC (.int 1)) (fAc (fC (.int 0)) fAn)))) (fAc (fcall mkTup (fAc (fC (.int 1)) (fAc (f1 negD (fC (.int 1))) (fAc (fC (.int 1)) fAn)))) (fAc (fcall mkTup (fAc (fC (.int 0)) (fAc (fC (.int 1)) (fAc (fC (.int 0)) fAn)))) fAn)))))
    (sSeq (sSet 1 (fcall mkTup (fAc (fcall mkTup (fAc (fC (.int 0)) (fAc (fC (.int 1)) (fAc (fC (.int 0)) fAn)))) (fAc (fcall mkTup (fAc (fC (.int 0)) (fAc (fC (.int 0)) (fAc (fC (.int 1)) fAn)))) (fAc (fcall mkTup (fAc (fC (.int 1)) (fAc (fC (.int 0)) (fAc (fC (.int 0)) fAn)))) fAn)))))
    (sSeq (sAsg (.tp [2, 3]) (fcall mkTup (fAc (fcall mkTup (fAc (fcall mkTup (fAc (fC (.int 1)) (fAc (fC (.int 0)) (fAc (fC (.int 0)) fAn)))) (fAc (fcall mkTup (fAc (fC (.int 0)) (fAc (fC (.int 1)) (fAc (fC (.int 0)) fAn)))) (fAc (fcall mkTup (fAc (fC (.int 0)) (fAc (fC (.int 0)) (fAc (fC (.int 1)) fAn)))) fAn)))) (fAc (fcall mkTup (fAc (fcall mkTup (fAc (fC (.int 0)) (fAc (fC (.int 0)) (fAc (fC (.int 1)) fAn)))) (fAc (fcall mkTup (fAc (fC (.int 0)) (fAc (fC (.int 1)) (fAc (fC (.int 0)) fAn)))) (fAc (fcall mkTup (fAc (fC (.int 1)) (fAc (fC (.int 0)) (fAc (fC (.int 0)) fAn)))) fAn)))) fAn))))
    (sRet (fcall mkTup (fAc (fV 0) (fAc (fV 1) (fAc (fV 2) (fAc (fV 3) (fAc (fcall mkTup (fAc (fcall mkTup (fAc (fC (.int 0)) (fAc (fC (.int 1)) (fAc (fC (.int 0)) (fAc (fC (.int 0)) fAn))))) (fAc (fcall mkTup (fAc (fC (.int 1)) (fAc (f1 negD (fC (.int 1))) (fAc (fC (.int 0)) (fAc (fC (.int 1)) fAn))))) (fAc (fcall mkTup (fAc (fC (.int 0)) (fAc (fC (.int 0)) (fAc (fC (.int 1)) (fAc (fC (.int 0)) fAn))))) (fAc (fcall mkTup (fAc (fC (.int 0)) (fAc (fC (.int 1)) (fAc (fC (.int 0)) (fAc (fC (.int 0)) fAn))))) fAn))))) fAn))))))))))
def M_w_known : List D → Option D := runF 4 0 Body_w_known
def Body_w_lots : FS := (sSeq (sSet 2 (fcall mkLst (fAc (fcall mkTup fAn) fAn)))
    (sSeq (sFor (fRng1 (fV 1)) (.nm 3) (sSeq (sSet 4 (fcall mkLst fAn))
    (sSeq (sFor (fItems (fV 2)) (.nm 5) (sSeq (sSet 6 (fIf (fTb (f2 neD (fV 5) (fcall mkTup fAn))) (f2 addD (f2 indexD (fV 0) (f2 ixD (fV 5) (f1 negD (fC (.int 1))))) (fC (.int 1))) (fC (.int 0))))
    (sSet 4 (f2 addD (fV 4) (fLc [7] (fItems (fSl (fV 0) (fPs (fV 6)) fPn)) (.nm 7) fYes (f2 addD (fV 5) (fcall mkTup (fAc (fV 7) fAn))))))))
    (sSet 2 (fV 4)))))
    (sRet (fV 2))))
def M_w_lots : List D → Option D := runF 8 2 Body_w_lots
def Body_w_fewest : FS := (sSeq (sFor (fRng1 (f2 addD (fcall lenD (fAc (fV 2) fAn)) (fC (.int 1)))) (.nm 3) (sFor (fItems (fcall M_w_lots (fAc (fV 2) (fAc (fV 3) fAn)))) (.nm 4) (sIf (fTb (f2 eqD (fLc [5] (fItems (fV 1)) (.nm 5) (fTb (f2 eqD (fLc [6, 7] (fItems (fV 4)) (.tp [6, 7]) (fTb (f2 neD (f2 ixD (f2 ixD (fV 5) (fV 6)) (fV 7)) (f2 ixD (f2 ixD (fV 0) (fV 6)) (fV 7)))) (fC (.int 1))) (fcall mkLst fAn))) (fV 5)) (fcall mkLst fAn))) (sRet (fV 4)) sNext)))
    (sRet (fC .none)))
def M_w_fewest : List D → Option D := runF 8 3 Body_w_fewest
def Body_w_heights : FS := (sSeq (sSet 1 (fcall lenD (fAc (fV 0) fAn)))
    (sSeq (sSetO 2 (fcall mkLst fAn))
    (sSeq (sFor (fRng1 (f2 addD (fV 1) (fC (.int 1)))) (.nm 3) (sApp 2 (fcall tupleD (fAc (fLc [4] (fRng1 (f2 addD (fV 1) (fC (.int 1)))) (.nm 4) fYes (f2 subD (f2 addD (fV 3) (fV 4)) (f2 mulD (fC (.int 2)) (fcall M_w_corner (fAc (fV 0) (fAc (fV 3) (fAc (fV 4) fAn))))))) fAn))))
    (sCommit 2 (sRet (fcall tupleD (fAc (fV 2) fAn)))))))
def M_w_heights : List D → Option D := runF 5 1 Body_w_heights
def Body_w_spots : FS := (sSeq (sSet 2 (fcall mkLst fAn))
    (sSeq (sFor (fRng2 (fV 0) (fV 1)) (.nm 3) (sSet 2 (f2 addD (fV 2) (fLc [4] (fRng2 (fV 0) (fV 1)) (.nm 4) fYes (fcall mkTup (fAc (fV 3) (fAc (fV 4) fAn)))))))
    (sRet (fV 2))))
def M_w_spots : List D → Option D := runF 5 2 Body_w_spots
abbrev s_need_square : Stmt := topS 15
theorem sc_need_square : FnScope ["value"] ["value"] (defScope s_need_square) := ⟨rfl, rfl, rfl, by decide +kernel, rfl, by decide +kernel, by decide +kernel⟩
theorem ok_need_square {P : Program} {w : World} {K : PySem.W.Frag} {mg : Str → Option Value} {base : Heap} (E : At K mg "need_square" s_need_square ["value"]) (B : Bl mg) (h_fits_square : Has P w K mg base "fits_square" 3 ["value"] M_fits_square) : Has P w K mg base "need_square" 4 ["value"] M_need_square :=
  has_of E sc_need_square fun f cdv A outer s H E hr => (q_one (q_if (t_not (t_val (r_call h_fits_square hr (by decide) (by rfl) (a_cons (r_var 0) a_nil)))) q_never q_nil))
abbrev s_need_sides : Stmt := topS 16
theorem sc_need_sides : FnScope ["value"] ["value"] (defScope s_need_sides) := ⟨rfl, rfl, rfl, by decide +kernel, rfl, by decide +kernel, by decide +kernel⟩
theorem ok_need_sides {P : Program} {w : World} {K : PySem.W.Frag} {mg : Str → Option Value} {base : Heap} (E : At K mg "need_sides" s_need_sides ["value"]) (B : Bl mg) {tSIDES : Tok} (cSIDES : mg "SIDES" = some (.int 12 tSIDES)) (h_is_whole : Has P w K mg base "is_whole" 1 ["value", "low", "high"] M_is_whole) : Has P w K mg base "need_sides" 2 ["value"] M_need_sides :=
  has_of E sc_need_sides fun f cdv A outer s H E hr => (q_one (q_if (t_not (t_val (r_call h_is_whole hr (by decide) (by rfl) (a_cons (r_var 0) (a_cons r_int (a_cons (r_glob (by rfl) cSIDES) a_nil)))))) q_never q_nil))
abbrev s_need_few : Stmt := topS 17
theorem sc_need_few : FnScope ["many", "limit"] ["many", "limit"] (defScope s_need_few) := ⟨rfl, rfl, rfl, by decide +kernel, rfl, by decide +kernel, by decide +kernel⟩
theorem ok_need_few {P : Program} {w : World} {K : PySem.W.Frag} {mg : Str → Option Value} {base : Heap} (E : At K mg "need_few" s_need_few ["many", "limit"]) (B : Bl mg) : Has P w K mg base "need_few" 1 ["many", "limit"] M_need_few :=
  has_of E sc_need_few fun f cdv A outer s H E hr => (q_one (q_if (t_cmp op_gt ok_gt (nomark _) (r_var 0) (r_var 1)) q_never q_nil))
abbrev s_fits_fact : Stmt := topS 24
theorem sc_fits_fact : FnScope ["sides", "value", "last", "word", "row", "column", "number"] ["sides", "value"] (defScope s_fits_fact) := ⟨rfl, rfl, rfl, by decide +kernel, rfl, by decide +kernel, by decide +kernel⟩
theorem ok_fits_fact {P : Program} {w : World} {K : PySem.W.Frag} {mg : Str → Option Value} {base : Heap} (E : At K mg "fits_fact" s_fits_fact ["sides", "value"]) (B : Bl mg) {tFAR : Tok} (cFAR : mg "FAR" = some (.int 40 tFAR)) (h_is_whole : Has P w K mg base "is_whole" 1 ["value", "low", "high"] M_is_whole) : Has P w K mg base "fits_fact" 2 ["sides", "value"] M_fits_fact :=
  has_of E sc_fits_fact fun f cdv A outer s H E hr => (q_cons (q_if (PW.pt (t_or (t_not (t_val (r_isi (by rfl) B.isinstance_ (by rfl) B.tuple_ (by decide +kernel) (r_var 1)))) (t_or (t_cmp (op_neD hr.units) ok_ne (nomark _) (r_cb call_len_seq ok_len (by rfl) B.len_ (by decide +kernel) (a_cons (r_var 1) a_nil)) r_int) (t_or1 (t_not (t_val (r_isi (by rfl) B.isinstance_ (by rfl) B.str_ (by decide +kernel) (r_ix (r_var 1) r_int)))))))) (q_one (q_ret r_bl)) q_nil)
    (q_cons (q_asg (r_var 1) (g_tp rfl (gs_cons (g_nm 3 sc_fits_fact.nd) (gs_cons (g_nm 4 sc_fits_fact.nd) (gs_cons (g_nm 5 sc_fits_fact.nd) (gs_cons (g_nm 6 sc_fits_fact.nd) gs_nil))))))
    (q_cons (q_set 2 sc_fits_fact.nd (r_sub (r_var 0) r_int))
    (q_cons (q_if (t_cmp (op_eqD hr.units) ok_eq (nomark _) (r_var 3) r_str) (q_one (q_ret (r_and (r_call h_is_whole hr (by decide) (by rfl) (a_cons (r_var 4) (a_cons r_int (a_cons (r_var 2) a_nil)))) (r_and (r_call h_is_whole hr (by decide) (by rfl) (a_cons (r_var 5) (a_cons r_int (a_cons (r_var 2) a_nil)))) (r_one (r_call h_is_whole hr (by decide) (by rfl) (a_cons (r_var 6) (a_cons (r_neg r_int) (a_cons r_int a_nil))))))))) q_nil)
    (q_cons (q_if (t_cmp (op_eqD hr.units) ok_eq (nomark _) (r_var 3) r_str) (q_one (q_ret (r_and (r_call h_is_whole hr (by decide) (by rfl) (a_cons (r_var 4) (a_cons r_int (a_cons (r_var 2) a_nil)))) (r_and (r_call h_is_whole hr (by decide) (by rfl) (a_cons (r_var 5) (a_cons r_int (a_cons (r_var 0) a_nil)))) (r_one (r_call h_is_whole hr (by decide) (by rfl) (a_cons (r_var 6) (a_cons r_int (a_cons r_int a_nil))))))))) q_nil)
    (q_cons (q_if (t_cmp (op_eqD hr.units) ok_eq (nomark _) (r_var 3) r_str) (q_one (q_ret (r_and (r_call h_is_whole hr (by decide) (by rfl) (a_cons (r_var 4) (a_cons r_int (a_cons (r_var 0) a_nil)))) (r_and (r_call h_is_whole hr (by decide) (by rfl) (a_cons (r_var 5) (a_cons r_int (a_cons (r_var 2) a_nil)))) (r_one (r_call h_is_whole hr (by decide) (by rfl) (a_cons (r_var 6) (a_cons r_int (a_cons r_int a_nil))))))))) q_nil)
    (q_cons (q_if (PW.pt (t_or (t_not (t_val (r_call h_is_whole hr (by decide) (by rfl) (a_cons (r_var 4) (a_cons r_int (a_cons (r_var 0) a_nil)))))) (t_or1 (t_not (t_val (r_call h_is_whole hr (by decide) (by rfl) (a_cons (r_var 5) (a_cons r_int (a_cons (r_var 0) a_nil))))))))) (q_one (q_ret r_bl)) q_nil)
    (q_cons (q_if (t_cmp (op_eqD hr.units) ok_eq (nomark _) (r_var 3) r_str) (q_one (q_ret (r_call h_is_whole hr (by decide) (by rfl) (a_cons (r_var 6) (a_cons r_int (a_cons r_int a_nil)))))) q_nil)
    (q_one (q_ret (r_and (r_cmp op_in_seq ok_in (by with_unfolding_all rfl) (r_var 3) (r_tup (a_cons r_str (a_cons r_str a_nil)))) (r_one (r_call h_is_whole hr (by decide) (by rfl) (a_cons (r_var 6) (a_cons (r_neg (r_glob (by rfl) cFAR)) (a_cons (r_glob (by rfl) cFAR) a_nil))))))))))))))))
abbrev s_fit_facts : Stmt := topS 25
theorem sc_fit_facts : FnScope ["sides", "value", "fact"] ["sides", "value"] (defScope s_fit_facts) := ⟨rfl, rfl, rfl, by decide +kernel, rfl, by decide +kernel, by decide +kernel⟩
theorem ok_fit_facts {P : Program} {w : World} {K : PySem.W.Frag} {mg : Str → Option Value} {base : Heap} (E : At K mg "fit_facts" s_fit_facts ["sides", "value"]) (B : Bl mg) {tFACTS : Tok} (cFACTS : mg "FACTS" = some (.int 40 tFACTS)) (h_fits_fact : Has P w K mg base "fits_fact" 2 ["sides", "value"] M_fits_fact) : Has P w K mg base "fit_facts" 3 ["sides", "value"] M_fit_facts :=
  has_of E sc_fit_facts fun f cdv A outer s H E hr => (q_one (q_ret (r_and (r_isi (by rfl) B.isinstance_ (by rfl) B.tuple_ (by decide +kernel) (r_var 1)) (r_and (r_cmp op_le ok_le (nomark _) (r_cb call_len_seq ok_len (by rfl) B.len_ (by decide +kernel) (a_cons (r_var 1) a_nil)) (r_glob (by rfl) cFACTS)) (r_one (r_cb (cr_all rfl) ok_all (by rfl) B.all_ (by decide +kernel) (a_cons (r_lc rfl sc_fit_facts.nd (i_seq (r_var 1)) (blkOk_by (own := [("fact", 2)]) (by kernel_rfl)) (p := (.nm 2)) (by decide) (fun _ _ _ _ _ => (g_nm 2 sc_fit_facts.nd)) (fun _ _ _ _ _ => pts_yes) (fun _ _ _ _ _ => (r_call h_fits_fact hr (by decide) (by rfl) (a_cons (r_var 0) (a_cons (r_var 2) a_nil))))) a_nil)))))))
abbrev s_need_facts : Stmt := topS 26
theorem sc_need_facts : FnScope ["sides", "value"] ["sides", "value"] (defScope s_need_facts) := ⟨rfl, rfl, rfl, by decide +kernel, rfl, by decide +kernel, by decide +kernel⟩
theorem ok_need_facts {P : Program} {w : World} {K : PySem.W.Frag} {mg : Str → Option Value} {base : Heap} (E : At K mg "need_facts" s_need_facts ["sides", "value"]) (B : Bl mg) (h_fit_facts : Has P w K mg base "fit_facts" 3 ["sides", "value"] M_fit_facts) : Has P w K mg base "need_facts" 4 ["sides", "value"] M_need_facts :=
  has_of E sc_need_facts fun f cdv A outer s H E hr => (q_one (q_if (t_not (t_val (r_call h_fit_facts hr (by decide) (by rfl) (a_cons (r_var 0) (a_cons (r_var 1) a_nil))))) q_never q_nil))
abbrev s_line_goes : Stmt := topS 27
theorem sc_line_goes : FnScope ["line", "at", "facts", "word", "row", "column", "number"] ["line", "at", "facts"] (defScope s_line_goes) := ⟨rfl, rfl, rfl, by decide +kernel, rfl, by decide +kernel, by decide +kernel⟩
theorem ok_line_goes {P : Program} {w : World} {K : PySem.W.Frag} {mg : Str → Option Value} {base : Heap} (E : At K mg "line_goes" s_line_goes ["line", "at", "facts"]) (B : Bl mg) : Has P w K mg base "line_goes" 1 ["line", "at", "facts"] M_line_goes :=
  has_of E sc_line_goes fun f cdv A outer s H E hr => (q_cons (q_for PassesOwn.never rfl (i_seq (r_var 2)) (g_tp rfl (gs_cons (g_nm 3 sc_line_goes.nd) (gs_cons (g_nm 4 sc_line_goes.nd) (gs_cons (g_nm 5 sc_line_goes.nd) (gs_cons (g_nm 6 sc_line_goes.nd) gs_nil))))) (q_cons (q_if (PW.pt (t_and (t_cmp (op_eqD hr.units) ok_eq (nomark _) (r_var 3) r_str) (t_and (t_cmp (op_eqD hr.units) ok_eq (nomark _) (r_var 4) (r_var 1)) (t_and1 (t_cmp (op_neD hr.units) ok_ne (nomark _) (r_ix (r_var 0) (r_var 5)) (r_var 6)))))) (q_one (q_ret r_bl)) q_nil)
    (q_one (q_if (PW.pt (t_and (t_cmp (op_eqD hr.units) ok_eq (nomark _) (r_var 3) r_str) (t_and (t_cmp (op_eqD hr.units) ok_eq (nomark _) (r_var 4) (r_var 1)) (t_and1 (t_cmp (op_neD hr.units) ok_ne (nomark _) (r_cb (cr_sum rfl) ok_sum (by rfl) B.sum_ (by decide +kernel) (a_cons (r_sl (r_var 0) p_non (p_som (r_var 5))) a_nil)) (r_var 6)))))) (q_one (q_ret r_bl)) q_nil))))
    (q_one (q_ret r_bl)))
abbrev s_state_goes : Stmt := topS 28
theorem sc_state_goes : FnScope ["state", "at", "facts", "word", "row", "column", "number", "total", "height"] ["state", "at", "facts"] (defScope s_state_goes) := ⟨rfl, rfl, rfl, by decide +kernel, rfl, by decide +kernel, by decide +kernel⟩
theorem ok_state_goes {P : Program} {w : World} {K : PySem.W.Frag} {mg : Str → Option Value} {base : Heap} (E : At K mg "state_goes" s_state_goes ["state", "at", "facts"]) (B : Bl mg) : Has P w K mg base "state_goes" 1 ["state", "at", "facts"] M_state_goes :=
  has_of E sc_state_goes fun f cdv A outer s H E hr => (q_cons (q_for PassesOwn.never rfl (i_seq (r_var 2)) (g_tp rfl (gs_cons (g_nm 3 sc_state_goes.nd) (gs_cons (g_nm 4 sc_state_goes.nd) (gs_cons (g_nm 5 sc_state_goes.nd) (gs_cons (g_nm 6 sc_state_goes.nd) gs_nil))))) (q_cons (q_if (PW.pt (t_and (t_cmp (op_eqD hr.units) ok_eq (nomark _) (r_var 4) (r_var 1)) (t_and (t_cmp (op_eqD hr.units) ok_eq (nomark _) (r_var 3) r_str) (t_and1 (t_cmp (op_neD hr.units) ok_ne (nomark _) (r_ix (r_var 0) (r_var 5)) (r_var 6)))))) (q_one (q_ret r_bl)) q_nil)
    (q_one (q_if (PW.pt (t_and (t_cmp (op_eqD hr.units) ok_eq (nomark _) (r_var 4) (r_var 1)) (t_and1 (t_cmp op_notIn_seq ok_notIn (by with_unfolding_all rfl) (r_var 3) (r_tup (a_cons r_str (a_cons r_str (a_cons r_str a_nil)))))))) (q_cons (q_set 7 sc_state_goes.nd (r_cb (cr_sum rfl) ok_sum (by rfl) B.sum_ (by decide +kernel) (a_cons (r_sl (r_var 0) p_non (p_som (r_var 5))) a_nil)))
    (q_cons (q_set 8 sc_state_goes.nd (r_sub (r_add (r_var 4) (r_var 5)) (r_mul r_int (r_var 7))))
    (q_cons (q_if (PW.pt (t_or (PW.pt (t_and (t_cmp (op_eqD hr.units) ok_eq (nomark _) (r_var 3) r_str) (t_and1 (t_cmp (op_neD hr.units) ok_ne (nomark _) (r_var 7) (r_var 6))))) (t_or1 (PW.pt (t_and (t_cmp (op_eqD hr.units) ok_eq (nomark _) (r_var 3) r_str) (t_and1 (t_cmp op_lt ok_lt (nomark _) (r_var 8) (r_var 6)))))))) (q_one (q_ret r_bl)) q_nil)
    (q_one (q_if (PW.pt (t_and (t_cmp (op_eqD hr.units) ok_eq (nomark _) (r_var 3) r_str) (t_and1 (t_cmp op_gt ok_gt (nomark _) (r_var 8) (r_var 6))))) (q_one (q_ret r_bl)) q_nil))))) q_nil))))
    (q_one (q_ret r_bl)))
abbrev s_need_told : Stmt := topS 33
theorem sc_need_told : FnScope ["sides", "facts", "limit"] ["sides", "facts", "limit"] (defScope s_need_told) := ⟨rfl, rfl, rfl, by decide +kernel, rfl, by decide +kernel, by decide +kernel⟩
theorem ok_need_told {P : Program} {w : World} {K : PySem.W.Frag} {mg : Str → Option Value} {base : Heap} (E : At K mg "need_told" s_need_told ["sides", "facts", "limit"]) (B : Bl mg) (h_need_sides : Has P w K mg base "need_sides" 2 ["value"] M_need_sides) (h_need_facts : Has P w K mg base "need_facts" 4 ["sides", "value"] M_need_facts) (h_need_few : Has P w K mg base "need_few" 1 ["many", "limit"] M_need_few) : Has P w K mg base "need_told" 5 ["sides", "facts", "limit"] M_need_told :=
  has_of E sc_need_told fun f cdv A outer s H E hr => (q_cons (q_drop (r_call h_need_sides hr (by decide) (by rfl) (a_cons (r_var 0) a_nil)))
    (q_cons (q_drop (r_call h_need_facts hr (by decide) (by rfl) (a_cons (r_var 0) (a_cons (r_var 1) a_nil))))
    (q_one (q_drop (r_call h_need_few hr (by decide) (by rfl) (a_cons (r_var 0) (a_cons (r_var 2) a_nil)))))))
abbrev s_heights_of : Stmt := topS 36
theorem sc_heights_of : FnScope ["square", "sides", "sums", "found", "row", "line", "total", "later", "column", "one"] ["square"] (defScope s_heights_of) := ⟨rfl, rfl, rfl, by decide +kernel, rfl, by decide +kernel, by decide +kernel⟩
theorem ok_heights_of {P : Program} {w : World} {K : PySem.W.Frag} {mg : Str → Option Value} {base : Heap} (E : At K mg "heights_of" s_heights_of ["square"]) (B : Bl mg) : Has P w K mg base "heights_of" 1 ["square"] M_heights_of :=
  has_of E sc_heights_of fun f cdv A outer s H E hr => (q_cons (q_set 1 sc_heights_of.nd (r_cb call_len_seq ok_len (by rfl) B.len_ (by decide +kernel) (a_cons (r_var 0) a_nil)))
    (q_cons (q_par 2 3 false true rfl sc_heights_of.nd (r_mul (r_lst (a_cons r_int a_nil)) (r_add (r_var 1) r_int)) (o_lst (a_cons (r_tupRng (by rfl) B.tuple_ (by rfl) B.range_ (r_add (r_var 1) r_int)) a_nil)) (by rfl))
    (q_cons (q_for PassesOwn.never rfl (i_enum (by rfl) B.enumerate_ (r_var 0)) (g_tp rfl (gs_cons (g_nm 4 sc_heights_of.nd) (gs_cons (g_nm 5 sc_heights_of.nd) gs_nil))) (q_cons (q_par 6 7 false true rfl sc_heights_of.nd r_int (o_lst (a_cons r_int a_nil)) (by rfl))
    (q_cons (q_for PassesOwn.never rfl (i_enum (by rfl) B.enumerate_ (r_var 5)) (g_tp rfl (gs_cons (g_nm 8 sc_heights_of.nd) (gs_cons (g_nm 9 sc_heights_of.nd) gs_nil))) (q_cons (q_set 6 sc_heights_of.nd (r_add (r_var 6) (r_var 9)))
    (q_one (q_app 7 (r_add (r_ix (r_var 2) (r_add (r_var 8) r_int)) (r_var 6)) (pl := pe_bm PySem.F.plainAttrs_list PySem.F.slot_list_append PySem.F.type_list_append mt_append (pe_var (i := 7) rfl (by first | exact Or.inl rfl | exact Or.inr (Or.inl rfl))) (pa_cons (r_add (r_ix (r_var 2) (r_add (r_var 8) r_int)) (r_var 6)) pa_nil))))))
    (q_cons (q_commit 7 (q_set 2 sc_heights_of.nd (r_var 7)))
    (q_one (q_app 3 (r_ct call_tuple_of ok_tuple (by rfl) B.tuple_ (by decide +kernel) (a_cons (r_lc rfl sc_heights_of.nd (i_enum (by rfl) B.enumerate_ (r_var 2)) (blkOk_by (own := [("column", 8), ("one", 9)]) (by kernel_rfl)) (p := (.tp [8, 9])) (by decide) (fun _ _ _ _ _ => (g_tp rfl (gs_cons (g_nm 8 sc_heights_of.nd) (gs_cons (g_nm 9 sc_heights_of.nd) gs_nil)))) (fun _ _ _ _ _ => pts_yes) (fun _ _ _ _ _ => (r_sub (r_add (r_add (r_var 4) r_int) (r_var 8)) (r_mul r_int (r_var 9))))) a_nil)) (pl := pe_bm PySem.F.plainAttrs_list PySem.F.slot_list_append PySem.F.type_list_append mt_append (pe_var (i := 3) rfl (by first | exact Or.inl rfl | exact Or.inr (Or.inl rfl))) (pa_cons (r_ct call_tuple_of ok_tuple (by rfl) B.tuple_ (by decide +kernel) (a_cons (r_lc rfl sc_heights_of.nd (i_enum (by rfl) B.enumerate_ (r_var 2)) (blkOk_by (own := [("column", 8), ("one", 9)]) (by kernel_rfl)) (p := (.tp [8, 9])) (by decide) (fun _ _ _ _ _ => (g_tp rfl (gs_cons (g_nm 8 sc_heights_of.nd) (gs_cons (g_nm 9 sc_heights_of.nd) gs_nil)))) (fun _ _ _ _ _ => pts_yes) (fun _ _ _ _ _ => (r_sub (r_add (r_add (r_var 4) r_int) (r_var 8)) (r_mul r_int (r_var 9))))) a_nil)) pa_nil))))))))
    (q_one (q_commit 3 (q_ret (r_ct call_tuple_of ok_tuple (by rfl) B.tuple_ (by decide +kernel) (a_cons (r_var 3) a_nil))))))))
abbrev s_w_lines : Stmt := topS 50
theorem sc_w_lines : FnScope ["_law_wide", "_law_found", "_law_turn", "_law_longer", "_law_line", "_law_total", "_law_sign"] ["_law_wide"] (defScope s_w_lines) := ⟨rfl, rfl, rfl, by decide +kernel, rfl, by decide +kernel, by decide +kernel⟩
theorem ok_w_lines {P : Program} {w : World} {K : PySem.W.Frag} {mg : Str → Option Value} {base : Heap} (E : At K mg "_law_lines" s_w_lines ["_law_wide"]) (B : Bl mg) : Has P w K mg base "_law_lines" 1 ["_law_wide"] M_w_lines :=
  has_of E sc_w_lines fun f cdv A outer s H E hr => (q_cons (q_set 1 sc_w_lines.nd (r_lst (a_cons (r_tup (a_cons (r_tup a_nil) (a_cons r_int a_nil))) a_nil)))
    (q_cons (q_for PassesOwn.never rfl (i_rng1 (by rfl) B.range_ (r_var 0)) (g_nm 2 sc_w_lines.nd) (q_cons (q_set 3 sc_w_lines.nd (r_lst a_nil))
    (q_cons (q_for PassesOwn.never rfl (i_seq (r_var 1)) (g_tp rfl (gs_cons (g_nm 4 sc_w_lines.nd) (gs_cons (g_nm 5 sc_w_lines.nd) gs_nil))) (q_one (q_set 3 sc_w_lines.nd (r_add (r_var 3) (r_lc rfl sc_w_lines.nd (i_seq (r_tup (a_cons (r_neg r_int) (a_cons r_int (a_cons r_int a_nil))))) (blkOk_by (own := [("_law_sign", 6)]) (by kernel_rfl)) (p := (.nm 6)) (by decide) (fun _ _ _ _ _ => (g_nm 6 sc_w_lines.nd)) (fun _ _ _ _ _ => (pts_if (t_chain op_le op_le ok_le ok_le r_int (r_add (r_var 5) (r_var 6)) r_int))) (fun _ _ _ _ _ => (r_tup (a_cons (r_add (r_var 4) (r_tup (a_cons (r_var 6) a_nil))) (a_cons (r_add (r_var 5) (r_var 6)) a_nil)))))))))
    (q_one (q_set 1 sc_w_lines.nd (r_var 3))))))
    (q_one (q_ret (r_lc rfl sc_w_lines.nd (i_seq (r_var 1)) (blkOk_by (own := [("_law_line", 4), ("_law_total", 5)]) (by kernel_rfl)) (p := (.tp [4, 5])) (by decide) (fun _ _ _ _ _ => (g_tp rfl (gs_cons (g_nm 4 sc_w_lines.nd) (gs_cons (g_nm 5 sc_w_lines.nd) gs_nil)))) (fun _ _ _ _ _ => (pts_if (t_cmp (op_eqD hr.units) ok_eq (nomark _) (r_var 5) r_int))) (fun _ _ _ _ _ => (r_var 4)))))))
abbrev s_w_all : Stmt := topS 51
theorem sc_w_all : FnScope ["_law_wide", "_law_found", "_law_turn", "_law_longer", "_law_rows_so", "_law_sums_so", "_law_line", "_law_later", "_law_one_so", "_law_sign"] ["_law_wide"] (defScope s_w_all) := ⟨rfl, rfl, rfl, by decide +kernel, rfl, by decide +kernel, by decide +kernel⟩
theorem ok_w_all {P : Program} {w : World} {K : PySem.W.Frag} {mg : Str → Option Value} {base : Heap} (E : At K mg "_law_all" s_w_all ["_law_wide"]) (B : Bl mg) (h_w_lines : Has P w K mg base "_law_lines" 1 ["_law_wide"] M_w_lines) : Has P w K mg base "_law_all" 2 ["_law_wide"] M_w_all :=
  has_of E sc_w_all fun f cdv A outer s H E hr => (q_cons (q_set 1 sc_w_all.nd (r_lst (a_cons (r_tup (a_cons (r_tup a_nil) (a_cons (r_mulT (r_tup (a_cons r_int a_nil)) (r_var 0)) a_nil))) a_nil)))
    (q_cons (q_for PassesOwn.never rfl (i_rng1 (by rfl) B.range_ (r_var 0)) (g_nm 2 sc_w_all.nd) (q_cons (q_setO 3 sc_w_all.nd (o_lst a_nil))
    (q_cons (q_for PassesOwn.never rfl (i_seq (r_var 1)) (g_tp rfl (gs_cons (g_nm 4 sc_w_all.nd) (gs_cons (g_nm 5 sc_w_all.nd) gs_nil))) (q_one (q_for PassesOwn.never rfl (i_seq (r_call h_w_lines hr (by decide) (by rfl) (a_cons (r_var 0) a_nil))) (g_nm 6 sc_w_all.nd) (q_cons (q_set 7 sc_w_all.nd (r_ct call_tuple_of ok_tuple (by rfl) B.tuple_ (by decide +kernel) (a_cons (r_lc rfl sc_w_all.nd (i_zip (by rfl) B.zip_ (r_var 5) (r_var 6)) (blkOk_by (own := [("_law_one_so", 8), ("_law_sign", 9)]) (by kernel_rfl)) (p := (.tp [8, 9])) (by decide) (fun _ _ _ _ _ => (g_tp rfl (gs_cons (g_nm 8 sc_w_all.nd) (gs_cons (g_nm 9 sc_w_all.nd) gs_nil)))) (fun _ _ _ _ _ => pts_yes) (fun _ _ _ _ _ => (r_add (r_var 8) (r_var 9)))) a_nil)))
    (q_one (q_if (PW.pt (t_and (t_cmp op_ge ok_ge (nomark _) (r_cb (cr_minT rfl hr.units) ok_min (by rfl) B.min_ (by decide +kernel) (a_cons (r_var 7) a_nil)) r_int) (t_and1 (t_cmp op_le ok_le (nomark _) (r_cb (cr_maxT rfl hr.units) ok_max (by rfl) B.max_ (by decide +kernel) (a_cons (r_var 7) a_nil)) r_int)))) (q_one (q_app 3 (r_tup (a_cons (r_add (r_var 4) (r_tup (a_cons (r_var 6) a_nil))) (a_cons (r_var 7) a_nil))) (pl := pe_bm PySem.F.plainAttrs_list PySem.F.slot_list_append PySem.F.type_list_append mt_append (pe_var (i := 3) rfl (by first | exact Or.inl rfl | exact Or.inr (Or.inl rfl))) (pa_cons (r_tup (a_cons (r_add (r_var 4) (r_tup (a_cons (r_var 6) a_nil))) (a_cons (r_var 7) a_nil))) pa_nil)))) q_nil))))))
    (q_one (q_commit 3 (q_set 1 sc_w_all.nd (r_var 3)))))))
    (q_one (q_ret (r_lc rfl sc_w_all.nd (i_seq (r_var 1)) (blkOk_by (own := [("_law_rows_so", 4), ("_law_sums_so", 5)]) (by kernel_rfl)) (p := (.tp [4, 5])) (by decide) (fun _ _ _ _ _ => (g_tp rfl (gs_cons (g_nm 4 sc_w_all.nd) (gs_cons (g_nm 5 sc_w_all.nd) gs_nil)))) (fun _ _ _ _ _ => (pts_if (t_cmp (op_eqD hr.units) ok_eq (nomark _) (r_var 5) (r_mulT (r_tup (a_cons r_int a_nil)) (r_var 0))))) (fun _ _ _ _ _ => (r_var 4)))))))
abbrev s_w_corner : Stmt := topS 52
theorem sc_w_corner : FnScope ["_law_some", "_law_high", "_law_left", "_law_line"] ["_law_some", "_law_high", "_law_left"] (defScope s_w_corner) := ⟨rfl, rfl, rfl, by decide +kernel, rfl, by decide +kernel, by decide +kernel⟩
theorem ok_w_corner {P : Program} {w : World} {K : PySem.W.Frag} {mg : Str → Option Value} {base : Heap} (E : At K mg "_law_corner" s_w_corner ["_law_some", "_law_high", "_law_left"]) (B : Bl mg) : Has P w K mg base "_law_corner" 1 ["_law_some", "_law_high", "_law_left"] M_w_corner :=
  has_of E sc_w_corner fun f cdv A outer s H E hr => (q_one (q_ret (r_cb (cr_sum rfl) ok_sum (by rfl) B.sum_ (by decide +kernel) (a_cons (r_lc rfl sc_w_corner.nd (i_seq (r_sl (r_var 0) p_non (p_som (r_var 1)))) (blkOk_by (own := [("_law_line", 3)]) (by kernel_rfl)) (p := (.nm 3)) (by decide) (fun _ _ _ _ _ => (g_nm 3 sc_w_corner.nd)) (fun _ _ _ _ _ => pts_yes) (fun _ _ _ _ _ => (r_cb (cr_sumT rfl) ok_sumT (by rfl) B.sum_ (by decide +kernel) (a_cons (r_sl (r_var 3) p_non (p_som (r_var 2))) a_nil)))) a_nil))))
abbrev s_w_known : Stmt := topS 57
theorem sc_w_known : FnScope ["_law_middle", "_law_three", "_law_unit", "_law_last"] [] (defScope s_w_known) := ⟨rfl, rfl, rfl, by decide +kernel, rfl, by decide +kernel, by decide +kernel⟩
theorem ok_w_known {P : Program} {w : World} {K : PySem.W.Frag} {mg : Str → Option Value} {base : Heap} (E : At K mg "_law_known" s_w_known []) (B : Bl mg) : Has P w K mg base "_law_known" 1 [] M_w_known :=
  has_of E sc_w_known fun f cdv A outer s H E hr => (q_cons (q_set 0 sc_w_known.nd (r_tup (a_cons (r_tup (a_cons r_int (a_cons r_int (a_cons r_int a_nil)))) (a_cons (r_tup (a_cons r_int (a_cons (r_neg r_int) (a_cons r_int a_nil)))) (a_cons (r_tup (a_cons r_int (a_cons r_int (a_cons r_int a_nil)))) a_nil)))))
    (q_cons (q_set 1 sc_w_known.nd (r_tup (a_cons (r_tup (a_cons r_int (a_cons r_int (a_cons r_int a_nil)))) (a_cons (r_tup (a_cons r_int (a_cons r_int (a_cons r_int a_nil)))) (a_cons (r_tup (a_cons r_int (a_cons r_int (a_cons r_int a_nil)))) a_nil)))))
    (q_cons (q_asg (r_tup (a_cons (r_tup (a_cons (r_tup (a_cons r_int (a_cons r_int (a_cons r_int a_nil)))) (a_cons (r_tup (a_cons r_int (a_cons r_int (a_cons r_int a_nil)))) (a_cons (r_tup (a_cons r_int (a_cons r_int (a_cons r_int a_nil)))) a_nil)))) (a_cons (r_tup (a_cons (r_tup (a_cons r_int (a_cons r_int (a_cons r_int a_nil)))) (a_cons (r_tup (a_cons r_int (a_cons r_int (a_cons r_int a_nil)))) (a_cons (r_tup (a_cons r_int (a_cons r_int (a_cons r_int a_nil)))) a_nil)))) a_nil))) (g_tp rfl (gs_cons (g_nm 2 sc_w_known.nd) (gs_cons (g_nm 3 sc_w_known.nd) gs_nil))))
    (q_one (q_ret (r_tup (a_cons (r_var 0) (a_cons (r_var 1) (a_cons (r_var 2) (a_cons (r_var 3) (a_cons (r_tup (a_cons (r_tup (a_cons r_int (a_cons r_int (a_cons r_int (a_cons r_int a_nil))))) (a_cons (r_tup (a_cons r_int (a_cons (r_neg r_int) (a_cons r_int (a_cons r_int a_nil))))) (a_cons (r_tup (a_cons r_int (a_cons r_int (a_cons r_int (a_cons r_int a_nil))))) (a_cons (r_tup (a_cons r_int (a_cons r_int (a_cons r_int (a_cons r_int a_nil))))) a_nil))))) a_nil)))))))))))
abbrev s_w_lots : Stmt := topS 58
theorem sc_w_lots : FnScope ["_law_spots_so", "_law_few_so", "_law_found", "_law_turn", "_law_longer", "_law_lot_so", "_law_start", "_law_spot"] ["_law_spots_so", "_law_few_so"] (defScope s_w_lots) := ⟨rfl, rfl, rfl, by decide +kernel, rfl, by decide +kernel, by decide +kernel⟩
theorem ok_w_lots {P : Program} {w : World} {K : PySem.W.Frag} {mg : Str → Option Value} {base : Heap} (E : At K mg "_law_lots" s_w_lots ["_law_spots_so", "_law_few_so"]) (B : Bl mg) : Has P w K mg base "_law_lots" 1 ["_law_spots_so", "_law_few_so"] M_w_lots :=
  has_of E sc_w_lots fun f cdv A outer s H E hr => (q_cons (q_set 2 sc_w_lots.nd (r_lst (a_cons (r_tup a_nil) a_nil)))
    (q_cons (q_for PassesOwn.never rfl (i_rng1 (by rfl) B.range_ (r_var 1)) (g_nm 3 sc_w_lots.nd) (q_cons (q_set 4 sc_w_lots.nd (r_lst a_nil))
    (q_cons (q_for PassesOwn.never rfl (i_seq (r_var 2)) (g_nm 5 sc_w_lots.nd) (q_cons (q_set 6 sc_w_lots.nd (r_ifx (t_cmp (op_neD hr.units) ok_ne (nomark _) (r_var 5) (r_tup a_nil)) (r_add (r_index hr (r_var 0) (r_ix (r_var 5) (r_neg r_int)) (pl := pe_bm PySem.F.plainAttrs_list PySem.F.slot_list_index PySem.F.type_list_index (mt_indexD (hu65 hr)) (r_var 0) (pa_cons (r_ix (r_var 5) (r_neg r_int)) pa_nil))) r_int) r_int))
    (q_one (q_set 4 sc_w_lots.nd (r_add (r_var 4) (r_lc rfl sc_w_lots.nd (i_seq (r_sl (r_var 0) (p_som (r_var 6)) p_non)) (blkOk_by (own := [("_law_spot", 7)]) (by kernel_rfl)) (p := (.nm 7)) (by decide) (fun _ _ _ _ _ => (g_nm 7 sc_w_lots.nd)) (fun _ _ _ _ _ => pts_yes) (fun _ _ _ _ _ => (r_add (r_var 5) (r_tup (a_cons (r_var 7) a_nil))))))))))
    (q_one (q_set 2 sc_w_lots.nd (r_var 4))))))
    (q_one (q_ret (r_var 2)))))
abbrev s_w_fewest : Stmt := topS 59
theorem sc_w_fewest : FnScope ["_law_mine", "_law_others", "_law_spots_so", "_law_few_so", "_law_lot_so", "_law_table", "_law_x", "_law_y"] ["_law_mine", "_law_others", "_law_spots_so"] (defScope s_w_fewest) := ⟨rfl, rfl, rfl, by decide +kernel, rfl, by decide +kernel, by decide +kernel⟩
theorem ok_w_fewest {P : Program} {w : World} {K : PySem.W.Frag} {mg : Str → Option Value} {base : Heap} (E : At K mg "_law_fewest" s_w_fewest ["_law_mine", "_law_others", "_law_spots_so"]) (B : Bl mg) (h_w_lots : Has P w K mg base "_law_lots" 1 ["_law_spots_so", "_law_few_so"] M_w_lots) : Has P w K mg base "_law_fewest" 2 ["_law_mine", "_law_others", "_law_spots_so"] M_w_fewest :=
  has_of E sc_w_fewest fun f cdv A outer s H E hr => (q_cons (q_for PassesOwn.never rfl (i_rng1 (by rfl) B.range_ (r_add (r_cb call_len_seq ok_len (by rfl) B.len_ (by decide +kernel) (a_cons (r_var 2) a_nil)) r_int)) (g_nm 3 sc_w_fewest.nd) (q_one (q_for PassesOwn.never rfl (i_seq (r_call h_w_lots hr (by decide) (by rfl) (a_cons (r_var 2) (a_cons (r_var 3) a_nil)))) (g_nm 4 sc_w_fewest.nd) (q_one (q_if (t_cmp (op_eqD hr.units) ok_eq (nomark _) (r_lc rfl sc_w_fewest.nd (i_seq (r_var 1)) (blkOk_by (own := [("_law_table", 5)]) (by kernel_rfl)) (p := (.nm 5)) (by decide) (fun _ _ _ _ _ => (g_nm 5 sc_w_fewest.nd)) (fun _ _ _ _ _ => (pts_if (t_cmp (op_eqD hr.units) ok_eq (nomark _) (r_lc rfl sc_w_fewest.nd (i_seq (r_var 4)) (blkOk_by (own := [("_law_x", 6), ("_law_y", 7)]) (by kernel_rfl)) (p := (.tp [6, 7])) (by decide) (fun _ _ _ _ _ => (g_tp rfl (gs_cons (g_nm 6 sc_w_fewest.nd) (gs_cons (g_nm 7 sc_w_fewest.nd) gs_nil)))) (fun _ _ _ _ _ => (pts_if (t_cmp (op_neD hr.units) ok_ne (nomark _) (r_ix (r_ix (r_var 5) (r_var 6)) (r_var 7)) (r_ix (r_ix (r_var 0) (r_var 6)) (r_var 7))))) (fun _ _ _ _ _ => r_int)) (r_lst a_nil)))) (fun _ _ _ _ _ => (r_var 5))) (r_lst a_nil)) (q_one (q_ret (r_var 4))) q_nil)))))
    (q_one (q_ret r_non)))
abbrev s_w_heights : Stmt := topS 60
theorem sc_w_heights : FnScope ["_law_some", "_law_wide", "_law_found", "_law_high", "_law_left"] ["_law_some"] (defScope s_w_heights) := ⟨rfl, rfl, rfl, by decide +kernel, rfl, by decide +kernel, by decide +kernel⟩
theorem ok_w_heights {P : Program} {w : World} {K : PySem.W.Frag} {mg : Str → Option Value} {base : Heap} (E : At K mg "_law_heights" s_w_heights ["_law_some"]) (B : Bl mg) (h_w_corner : Has P w K mg base "_law_corner" 1 ["_law_some", "_law_high", "_law_left"] M_w_corner) : Has P w K mg base "_law_heights" 2 ["_law_some"] M_w_heights :=
  has_of E sc_w_heights fun f cdv A outer s H E hr => (q_cons (q_set 1 sc_w_heights.nd (r_cb call_len_seq ok_len (by rfl) B.len_ (by decide +kernel) (a_cons (r_var 0) a_nil)))
    (q_cons (q_setO 2 sc_w_heights.nd (o_lst a_nil))
    (q_cons (q_for PassesOwn.never rfl (i_rng1 (by rfl) B.range_ (r_add (r_var 1) r_int)) (g_nm 3 sc_w_heights.nd) (q_one (q_app 2 (r_ct call_tuple_of ok_tuple (by rfl) B.tuple_ (by decide +kernel) (a_cons (r_lc rfl sc_w_heights.nd (i_rng1 (by rfl) B.range_ (r_add (r_var 1) r_int)) (blkOk_by (own := [("_law_left", 4)]) (by kernel_rfl)) (p := (.nm 4)) (by decide) (fun _ _ _ _ _ => (g_nm 4 sc_w_heights.nd)) (fun _ _ _ _ _ => pts_yes) (fun _ _ _ _ _ => (r_sub (r_add (r_var 3) (r_var 4)) (r_mul r_int (r_call h_w_corner hr (by decide) (by rfl) (a_cons (r_var 0) (a_cons (r_var 3) (a_cons (r_var 4) a_nil)))))))) a_nil)) (pl := pe_bm PySem.F.plainAttrs_list PySem.F.slot_list_append PySem.F.type_list_append mt_append (pe_var (i := 2) rfl (by first | exact Or.inl rfl | exact Or.inr (Or.inl rfl))) (pa_cons (r_ct call_tuple_of ok_tuple (by rfl) B.tuple_ (by decide +kernel) (a_cons (r_lc rfl sc_w_heights.nd (i_rng1 (by rfl) B.range_ (r_add (r_var 1) r_int)) (blkOk_by (own := [("_law_left", 4)]) (by kernel_rfl)) (p := (.nm 4)) (by decide) (fun _ _ _ _ _ => (g_nm 4 sc_w_heights.nd)) (fun _ _ _ _ _ => pts_yes) (fun _ _ _ _ _ => (r_sub (r_add (r_var 3) (r_var 4)) (r_mul r_int (r_call h_w_corner hr (by decide) (by rfl) (a_cons (r_var 0) (a_cons (r_var 3) (a_cons (r_var 4) a_nil)))))))) a_nil)) pa_nil)))))
    (q_one (q_commit 2 (q_ret (r_ct call_tuple_of ok_tuple (by rfl) B.tuple_ (by decide +kernel) (a_cons (r_var 2) a_nil))))))))
abbrev s_w_spots : Stmt := topS 61
theorem sc_w_spots : FnScope ["_law_low", "_law_wide", "_law_found", "_law_x", "_law_y"] ["_law_low", "_law_wide"] (defScope s_w_spots) := ⟨rfl, rfl, rfl, by decide +kernel, rfl, by decide +kernel, by decide +kernel⟩
theorem ok_w_spots {P : Program} {w : World} {K : PySem.W.Frag} {mg : Str → Option Value} {base : Heap} (E : At K mg "_law_spots" s_w_spots ["_law_low", "_law_wide"]) (B : Bl mg) : Has P w K mg base "_law_spots" 1 ["_law_low", "_law_wide"] M_w_spots :=
  has_of E sc_w_spots fun f cdv A outer s H E hr => (q_cons (q_set 2 sc_w_spots.nd (r_lst a_nil))
    (q_cons (q_for PassesOwn.never rfl (i_rng2 (by rfl) B.range_ (r_var 0) (r_var 1)) (g_nm 3 sc_w_spots.nd) (q_one (q_set 2 sc_w_spots.nd (r_add (r_var 2) (r_lc rfl sc_w_spots.nd (i_rng2 (by rfl) B.range_ (r_var 0) (r_var 1)) (blkOk_by (own := [("_law_y", 4)]) (by kernel_rfl)) (p := (.nm 4)) (by decide) (fun _ _ _ _ _ => (g_nm 4 sc_w_spots.nd)) (fun _ _ _ _ _ => pts_yes) (fun _ _ _ _ _ => (r_tup (a_cons (r_var 3) (a_cons (r_var 4) a_nil)))))))))
    (q_one (q_ret (r_var 2)))))
end SQ
end
section
set_option Elab.async false
set_option linter.all false
set_option maxRecDepth 100000
set_option maxHeartbeats 4000000
namespace SQ
open PySem PySem.Spec PyProof.Rows L2
def Body_lines_behind : FS := (sSeq (sSet 1 (fcall mkLst (fAc (fcall mkTup (fAc (fcall mkTup fAn) (fAc (fcall mkTup fAn) (fAc (fC (.int 0)) fAn)))) fAn)))
    (sSeq (sFor (fItems (fV 0)) (.nm 2) (sSeq (sSet 3 (fcall mkLst fAn))
    (sSeq (sFor (fItems (fV 1)) (.tp [4, 5, 6]) (sSet 3 (f2 addD (fV 3) (fLc [8] (fItems (fcall mkTup (fAc (f1 negD (fC (.int 1))) (fAc (fC (.int 0)) (fAc (fC (.int 1)) fAn))))) (.nm 8) fYes (fcall mkTup (fAc (f2 addD (fV 4) (fcall mkTup (fAc (fV 8) fAn))) (fAc (f2 addD (fV 5) (fcall mkTup (fAc (f2 addD (fV 2) (fV 8)) fAn))) (fAc (f2 addD (fV 6) (fV 8)) fAn))))))))
    (sSet 1 (fLc [7] (fItems (fV 3)) (.nm 7) (fAnd (fTb (fChain (cmpI leI) (cmpI leI) (fC (.int 0)) (f2 ixD (f2 ixD (fV 7) (fC (.int 1))) (f1 negD (fC (.int 1)))) (fC (.int 1)))) (fTb (fChain (cmpI leI) (cmpI leI) (fC (.int 0)) (f2 ixD (fV 7) (fC (.int 2))) (fC (.int 1))))) (fV 7))))))
    (sRet (fcall sortedD (fAc (fLc [4, 5, 6] (fItems (fV 1)) (.tp [4, 5, 6]) (fTb (f2 eqD (fV 6) (fC (.int 1)))) (fcall mkTup (fAc (fV 4) (fAc (fV 5) fAn)))) fAn)))))
def M_lines_behind : List D → Option D := runF 9 1 Body_lines_behind
def Body_told_web : FS := (sSeq (sSet 2 (f2 mulT (fcall mkTup (fAc (fC (.int 0)) fAn)) (fV 0)))
    (sSeq (sPar 4 5 false false (fcall mkLst fAn) (fIf (fTb (fcall M_state_goes (fAc (fV 2) (fAc (fC (.int 0)) (fAc (fV 1) fAn))))) (fcall mkLst (fAc (fV 2) fAn)) (fcall mkLst fAn)))
    (sSeq (sFor (fRng1 (fV 0)) (.nm 3) (sSeq (sPar 7 8 true true (fC (.dict [])) (fC (.dict [])))
    (sSeq (sFor (fItems (fV 5)) (.nm 6) (sSeq (sPut 7 (fV 6) (fcall mkLst fAn))
    (sFor (fItems (fcall M_lines_behind (fAc (fV 6) fAn))) (.tp [9, 10]) (sIf (fAnd (fTb (fcall M_line_goes (fAc (fV 9) (fAc (fV 3) (fAc (fV 1) fAn))))) (fTb (fcall M_state_goes (fAc (fV 10) (fAc (f2 addD (fV 3) (fC (.int 1))) (fAc (fV 1) fAn)))))) (sSeq (sPut 7 (fV 6) (f2 addD (fGetO 7 (fV 6)) (fcall mkLst (fAc (fcall mkTup (fAc (fV 9) (fAc (fV 10) fAn))) fAn))))
    (sPut 8 (fV 10) (fC (.bool true)))) sNext))))
    (sCommit 7 (sCommit 8 (sPar 4 5 false false (f2 addD (fV 4) (fcall mkLst (fAc (fV 7) fAn))) (fcall sortedD (fAc (fV 8) fAn))))))))
    (sRet (f2 addD (fV 4) (fcall mkLst (fAc (fcall dictD (fAc (fLc [6] (fItems (fV 5)) (.nm 6) fYes (fcall mkTup (fAc (fV 6) (fAc (fcall mkLst fAn) fAn)))) fAn)) fAn)))))))
def M_told_web : List D → Option D := runF 11 2 Body_told_web
def Body_told_counts : FS := (sSeq (sSet 1 (fcall mkLst (fAc (fcall dictD (fAc (fLc [4] (fKeys (f2 ixD (fV 0) (f1 negD (fC (.int 1))))) (.nm 4) fYes (fcall mkTup (fAc (fV 4) (fAc (fC (.int 1)) fAn)))) fAn)) fAn)))
    (sSeq (sFor (fItems (f1 revD (fSl (fV 0) fPn (fPs (f1 negD (fC (.int 1))))))) (.nm 2) (sSeq (sSetO 3 (fC (.dict [])))
    (sSeq (sFor (fKeys (fV 2)) (.nm 4) (sPut 3 (fV 4) (fcall sumD (fAc (fLc [5, 6] (fItems (fGet (fV 2) (fV 4))) (.tp [5, 6]) fYes (fGet (f2 ixD (fV 1) (fC (.int 0))) (fV 6))) fAn))))
    (sCommit 3 (sSet 1 (f2 addD (fcall mkLst (fAc (fV 3) fAn)) (fV 1)))))))
    (sRet (fV 1))))
def M_told_counts : List D → Option D := runF 7 1 Body_told_counts
def Body_told_many : FS := (sRet (fcall sumD (fAc (fLc [2, 3] (fItms (f2 ixD (fcall M_told_counts (fAc (fcall M_told_web (fAc (fV 0) (fAc (fV 1) fAn))) fAn)) (fC (.int 0)))) (.tp [2, 3]) fYes (fV 3)) fAn)))
def M_told_many : List D → Option D := runF 4 2 Body_told_many
def Body_told_list : FS := (sSeq (sSet 2 (fcall M_told_web (fAc (fV 0) (fAc (fV 1) fAn))))
    (sSeq (sSet 3 (fcall M_told_counts (fAc (fV 2) fAn)))
    (sSeq (sSet 4 (fLc [7] (fKeys (f2 ixD (fV 2) (fC (.int 0)))) (.nm 7) fYes (fcall mkTup (fAc (fcall mkTup fAn) (fAc (fV 7) fAn)))))
    (sSeq (sFor (fRng1 (fV 0)) (.nm 5) (sSeq (sSet 6 (fcall mkLst fAn))
    (sSeq (sFor (fItems (fV 4)) (.tp [8, 7]) (sSeq (sSet 9 (fLc [10, 11] (fItems (fGet (f2 ixD (fV 2) (fV 5)) (fV 7))) (.tp [10, 11]) (fTb (f2 (cmpI gtI) (fGet (f2 ixD (fV 3) (f2 addD (fV 5) (fC (.int 1)))) (fV 11)) (fC (.int 0)))) (fcall mkTup (fAc (fV 10) (fAc (fV 11) fAn)))))
    (sSet 6 (f2 addD (fV 6) (fLc [10, 11] (fItems (fV 9)) (.tp [10, 11]) fYes (fcall mkTup (fAc (f2 addD (fV 8) (fcall mkTup (fAc (fV 10) fAn))) (fAc (fV 11) fAn))))))))
    (sSet 4 (fV 6)))))
    (sRet (fLc [8, 7] (fItems (fV 4)) (.tp [8, 7]) fYes (fV 8)))))))
def M_told_list : List D → Option D := runF 12 2 Body_told_list
def Body_count_told : FS := (sSeq (sDrop (fcall M_need_told (fAc (fV 0) (fAc (fV 1) (fAc (fC (.int 8)) fAn)))))
    (sRet (fcall M_told_many (fAc (fV 0) (fAc (fV 1) fAn)))))
def M_count_told : List D → Option D := runF 2 2 Body_count_told
def Body_fewest_cells : FS := (sSeq (sDrop (fcall M_need_square (fAc (fV 0) fAn)))
    (sSeq (sDrop (fcall M_need_few (fAc (fcall lenD (fAc (fV 0) fAn)) (fAc (fC (.int 4)) fAn))))
    (sSeq (sSet 1 (fLc [2] (fItems (fcall M_told_list (fAc (fcall lenD (fAc (fV 0) fAn)) (fAc (fcall mkTup fAn) fAn)))) (.nm 2) (fTb (f2 neD (fV 2) (fV 0))) (fV 2)))
    (sRet (fcall M_fewest_spots (fAc (fV 0) (fAc (fV 1) (fAc (fcall M_cells_of (fAc (fcall lenD (fAc (fV 0) fAn)) fAn)) fAn))))))))
def M_fewest_cells : List D → Option D := runF 3 1 Body_fewest_cells
def Body_fewest_points : FS := (sSeq (sDrop (fcall M_need_square (fAc (fV 0) fAn)))
    (sSeq (sDrop (fcall M_need_few (fAc (fcall lenD (fAc (fV 0) fAn)) (fAc (fC (.int 4)) fAn))))
    (sSeq (sSet 1 (fLc [2] (fItems (fcall M_told_list (fAc (fcall lenD (fAc (fV 0) fAn)) (fAc (fcall mkTup fAn) fAn)))) (.nm 2) (fTb (f2 neD (fV 2) (fV 0))) (fcall M_heights_of (fAc (fV 2) fAn))))
    (sRet (fcall M_fewest_spots (fAc (fcall M_heights_of (fAc (fV 0) fAn)) (fAc (fV 1) (fAc (fcall M_points_within (fAc (fcall lenD (fAc (fV 0) fAn)) fAn)) fAn))))))))
def M_fewest_points : List D → Option D := runF 3 1 Body_fewest_points
def Body_w_right : FS := (sSeq (sSet 3 (fLc [7] (fItems (fV 1)) (.nm 7) (fTb (f2 neD (fV 7) (fV 2))) (fV 7)))
    (sSeq (sSet 4 (fcall M_fewest_cells (fAc (fV 2) fAn)))
    (sSeq (sIf (fTb (f2 neD (fV 4) (fcall M_w_fewest (fAc (fV 2) (fAc (fV 3) (fAc (fcall M_w_spots (fAc (fC (.int 0)) (fAc (fV 0) fAn))) fAn)))))) (sRet (fC (.bool false))) sNext)
    (sSeq (sSet 5 (fLc [7] (fItems (fV 3)) (.nm 7) fYes (fcall M_w_heights (fAc (fV 7) fAn))))
    (sSeq (sIf (fTb (f2 neD (fcall M_fewest_points (fAc (fV 2) fAn)) (fcall M_w_fewest (fAc (fcall M_w_heights (fAc (fV 2) fAn)) (fAc (fV 5) (fAc (fcall M_w_spots (fAc (fC (.int 1)) (fAc (fV 0) fAn))) fAn)))))) (sRet (fC (.bool false))) sNext)
    (sSeq (sSet 6 (fcall tupleD (fAc (fLc [8, 9] (fItems (fV 4)) (.tp [8, 9]) fYes (fcall mkTup (fAc (fC (.str "cell")) (fAc (fV 8) (fAc (fV 9) (fAc (f2 ixD (f2 ixD (fV 2) (fV 8)) (fV 9)) fAn)))))) fAn)))
    (sRet (f2 eqD (fcall M_count_told (fAc (fV 0) (fAc (fV 6) fAn))) (fC (.int 1))))))))))
def M_w_right : List D → Option D := runF 10 3 Body_w_right
abbrev s_lines_behind : Stmt := topS 19
theorem sc_lines_behind : FnScope ["state", "found", "one", "longer", "line", "later", "total", "way", "sign"] ["state"] (defScope s_lines_behind) := ⟨rfl, rfl, rfl, by decide +kernel, rfl, by decide +kernel, by decide +kernel⟩
theorem ok_lines_behind {P : Program} {w : World} {K : PySem.W.Frag} {mg : Str → Option Value} {base : Heap} (E : At K mg "lines_behind" s_lines_behind ["state"]) (B : Bl mg) : Has P w K mg base "lines_behind" 1 ["state"] M_lines_behind :=
  has_of E sc_lines_behind fun f cdv A outer s H E hr => (q_cons (q_set 1 sc_lines_behind.nd (r_lst (a_cons (r_tup (a_cons (r_tup a_nil) (a_cons (r_tup a_nil) (a_cons r_int a_nil)))) a_nil)))
    (q_cons (q_for PassesOwn.never rfl (i_seq (r_var 0)) (g_nm 2 sc_lines_behind.nd) (q_cons (q_set 3 sc_lines_behind.nd (r_lst a_nil))
    (q_cons (q_for PassesOwn.never rfl (i_seq (r_var 1)) (g_tp rfl (gs_cons (g_nm 4 sc_lines_behind.nd) (gs_cons (g_nm 5 sc_lines_behind.nd) (gs_cons (g_nm 6 sc_lines_behind.nd) gs_nil)))) (q_one (q_set 3 sc_lines_behind.nd (r_add (r_var 3) (r_lc rfl sc_lines_behind.nd (i_seq (r_tup (a_cons (r_neg r_int) (a_cons r_int (a_cons r_int a_nil))))) (blkOk_by (own := [("sign", 8)]) (by kernel_rfl)) (p := (.nm 8)) (by decide) (fun _ _ _ _ _ => (g_nm 8 sc_lines_behind.nd)) (fun _ _ _ _ _ => pts_yes) (fun _ _ _ _ _ => (r_tup (a_cons (r_add (r_var 4) (r_tup (a_cons (r_var 8) a_nil))) (a_cons (r_add (r_var 5) (r_tup (a_cons (r_add (r_var 2) (r_var 8)) a_nil))) (a_cons (r_add (r_var 6) (r_var 8)) a_nil))))))))))
    (q_one (q_setLc 1 rfl sc_lines_behind.nd (i_seq (r_var 3)) (blkOk_by (own := [("way", 7)]) (by kernel_rfl)) (p := (.nm 7)) (by decide) (sw_true rfl rfl rfl (by decide +kernel)) (fun _ _ _ _ _ => (g_nm 7 sc_lines_behind.nd)) (fun _ _ _ _ _ => (pts_if (PW.pt (t_and (t_chain op_le op_le ok_le ok_le r_int (r_ix (r_ix (r_var 7) r_int) (r_neg r_int)) r_int) (t_and1 (t_chain op_le op_le ok_le ok_le r_int (r_ix (r_var 7) r_int) r_int)))))) (fun _ _ _ _ _ => (r_var 7)))))))
    (q_one (q_ret (r_cb (cr_sortedX rfl hr.units) ok_sorted (by rfl) B.sorted_ (by decide +kernel) (a_cons (r_lc rfl sc_lines_behind.nd (i_seq (r_var 1)) (blkOk_by (own := [("line", 4), ("later", 5), ("total", 6)]) (by kernel_rfl)) (p := (.tp [4, 5, 6])) (by decide) (fun _ _ _ _ _ => (g_tp rfl (gs_cons (g_nm 4 sc_lines_behind.nd) (gs_cons (g_nm 5 sc_lines_behind.nd) (gs_cons (g_nm 6 sc_lines_behind.nd) gs_nil))))) (fun _ _ _ _ _ => (pts_if (t_cmp (op_eqD hr.units) ok_eq (nomark _) (r_var 6) r_int))) (fun _ _ _ _ _ => (r_tup (a_cons (r_var 4) (a_cons (r_var 5) a_nil))))) a_nil))))))
abbrev s_told_web : Stmt := topS 29
theorem sc_told_web : FnScope ["sides", "facts", "start", "at", "levels", "states", "state", "level", "later", "line", "there"] ["sides", "facts"] (defScope s_told_web) := ⟨rfl, rfl, rfl, by decide +kernel, rfl, by decide +kernel, by decide +kernel⟩
theorem ok_told_web {P : Program} {w : World} {K : PySem.W.Frag} {mg : Str → Option Value} {base : Heap} (E : At K mg "told_web" s_told_web ["sides", "facts"]) (B : Bl mg) (h_state_goes : Has P w K mg base "state_goes" 1 ["state", "at", "facts"] M_state_goes) (h_lines_behind : Has P w K mg base "lines_behind" 1 ["state"] M_lines_behind) (h_line_goes : Has P w K mg base "line_goes" 1 ["line", "at", "facts"] M_line_goes) : Has P w K mg base "told_web" 2 ["sides", "facts"] M_told_web :=
  has_of E sc_told_web fun f cdv A outer s H E hr => (q_cons (q_set 2 sc_told_web.nd (r_mulT (r_tup (a_cons r_int a_nil)) (r_var 0)))
    (q_cons (q_par 4 5 false false rfl sc_told_web.nd (r_lst a_nil) (r_ifx (t_val (r_call h_state_goes hr (by decide) (by rfl) (a_cons (r_var 2) (a_cons r_int (a_cons (r_var 1) a_nil))))) (r_lst (a_cons (r_var 2) a_nil)) (r_lst a_nil)) (by rfl))
    (q_cons (q_for PassesOwn.never rfl (i_rng1 (by rfl) B.range_ (r_var 0)) (g_nm 3 sc_told_web.nd) (q_cons (q_par 7 8 true true rfl sc_told_web.nd o_dic o_dic (by rfl))
    (q_cons (q_for PassesOwn.never rfl (i_seq (r_var 5)) (g_nm 6 sc_told_web.nd) (q_cons (q_put 7 (hu_of hr) (r_var 6) (r_lst a_nil))
    (q_one (q_for PassesOwn.never rfl (i_seq (r_call h_lines_behind hr (by decide) (by rfl) (a_cons (r_var 6) a_nil))) (g_tp rfl (gs_cons (g_nm 9 sc_told_web.nd) (gs_cons (g_nm 10 sc_told_web.nd) gs_nil))) (q_one (q_if (PW.pt (t_and (t_val (r_call h_line_goes hr (by decide) (by rfl) (a_cons (r_var 9) (a_cons (r_var 3) (a_cons (r_var 1) a_nil))))) (t_and1 (t_val (r_call h_state_goes hr (by decide) (by rfl) (a_cons (r_var 10) (a_cons (r_add (r_var 3) r_int) (a_cons (r_var 1) a_nil)))))))) (q_cons (q_put 7 (hu_of hr) (r_var 6) (r_add (r_getO 7 (hu_of hr) (r_var 6)) (r_lst (a_cons (r_tup (a_cons (r_var 9) (a_cons (r_var 10) a_nil))) a_nil))))
    (q_one (q_put 8 (hu_of hr) (r_var 10) r_bl))) q_nil))))))
    (q_one (q_commit 7 (q_commit 8 (q_par 4 5 false false rfl sc_told_web.nd (r_add (r_var 4) (r_lst (a_cons (r_var 7) a_nil))) (r_cb (cr_sortedX rfl hr.units) ok_sorted (by rfl) B.sorted_ (by decide +kernel) (a_cons (r_var 8) a_nil)) (by rfl))))))))
    (q_one (q_ret (r_add (r_var 4) (r_lst (a_cons (r_ct (cr_dictX rfl (hu_of hr) hr.units) ok_dict (by rfl) B.dict_ (by decide +kernel) (a_cons (r_lc rfl sc_told_web.nd (i_seq (r_var 5)) (blkOk_by (own := [("state", 6)]) (by kernel_rfl)) (p := (.nm 6)) (by decide) (fun _ _ _ _ _ => (g_nm 6 sc_told_web.nd)) (fun _ _ _ _ _ => pts_yes) (fun _ _ _ _ _ => (r_tup (a_cons (r_var 6) (a_cons (r_lst a_nil) a_nil))))) a_nil)) a_nil))))))))
abbrev s_told_counts : Stmt := topS 30
theorem sc_told_counts : FnScope ["levels", "counts", "level", "here", "state", "line", "there"] ["levels"] (defScope s_told_counts) := ⟨rfl, rfl, rfl, by decide +kernel, rfl, by decide +kernel, by decide +kernel⟩
theorem ok_told_counts {P : Program} {w : World} {K : PySem.W.Frag} {mg : Str → Option Value} {base : Heap} (E : At K mg "told_counts" s_told_counts ["levels"]) (B : Bl mg) : Has P w K mg base "told_counts" 1 ["levels"] M_told_counts :=
  has_of E sc_told_counts fun f cdv A outer s H E hr => (q_cons (q_set 1 sc_told_counts.nd (r_lst (a_cons (r_ct (cr_dictX rfl (hu_of hr) hr.units) ok_dict (by rfl) B.dict_ (by decide +kernel) (a_cons (r_lc rfl sc_told_counts.nd (i_keys (r_ix (r_var 0) (r_neg r_int))) (blkOk_by (own := [("state", 4)]) (by kernel_rfl)) (p := (.nm 4)) (by decide) (fun _ _ _ _ _ => (g_nm 4 sc_told_counts.nd)) (fun _ _ _ _ _ => pts_yes) (fun _ _ _ _ _ => (r_tup (a_cons (r_var 4) (a_cons r_int a_nil))))) a_nil)) a_nil)))
    (q_cons (q_for PassesOwn.never rfl (i_seq (r_rev (r_sl (r_var 0) p_non (p_som (r_neg r_int))))) (g_nm 2 sc_told_counts.nd) (q_cons (q_setO 3 sc_told_counts.nd o_dic)
    (q_cons (q_for PassesOwn.never rfl (i_keys (r_var 2)) (g_nm 4 sc_told_counts.nd) (q_one (q_put 3 (hu_of hr) (r_var 4) (r_cb (cr_sum rfl) ok_sum (by rfl) B.sum_ (by decide +kernel) (a_cons (r_lc rfl sc_told_counts.nd (i_seq (r_get (hu_of hr) (r_var 2) (r_var 4))) (blkOk_by (own := [("line", 5), ("there", 6)]) (by kernel_rfl)) (p := (.tp [5, 6])) (by decide) (fun _ _ _ _ _ => (g_tp rfl (gs_cons (g_nm 5 sc_told_counts.nd) (gs_cons (g_nm 6 sc_told_counts.nd) gs_nil)))) (fun _ _ _ _ _ => pts_yes) (fun _ _ _ _ _ => (r_get (hu_of hr) (r_ix (r_var 1) r_int) (r_var 6)))) a_nil)))))
    (q_one (q_commit 3 (q_set 1 sc_told_counts.nd (r_add (r_lst (a_cons (r_var 3) a_nil)) (r_var 1))))))))
    (q_one (q_ret (r_var 1)))))
abbrev s_told_many : Stmt := topS 31
theorem sc_told_many : FnScope ["sides", "facts", "state", "much"] ["sides", "facts"] (defScope s_told_many) := ⟨rfl, rfl, rfl, by decide +kernel, rfl, by decide +kernel, by decide +kernel⟩
theorem ok_told_many {P : Program} {w : World} {K : PySem.W.Frag} {mg : Str → Option Value} {base : Heap} (E : At K mg "told_many" s_told_many ["sides", "facts"]) (B : Bl mg) (h_told_counts : Has P w K mg base "told_counts" 1 ["levels"] M_told_counts) (h_told_web : Has P w K mg base "told_web" 2 ["sides", "facts"] M_told_web) : Has P w K mg base "told_many" 3 ["sides", "facts"] M_told_many :=
  has_of E sc_told_many fun f cdv A outer s H E hr => (q_one (q_ret (r_cb (cr_sum rfl) ok_sum (by rfl) B.sum_ (by decide +kernel) (a_cons (r_lc rfl sc_told_many.nd (i_items (r_ix (r_call h_told_counts hr (by decide) (by rfl) (a_cons (r_call h_told_web hr (by decide) (by rfl) (a_cons (r_var 0) (a_cons (r_var 1) a_nil))) a_nil)) r_int)) (blkOk_by (own := [("state", 2), ("much", 3)]) (by kernel_rfl)) (p := (.tp [2, 3])) (by decide) (fun _ _ _ _ _ => (g_tp rfl (gs_cons (g_nm 2 sc_told_many.nd) (gs_cons (g_nm 3 sc_told_many.nd) gs_nil)))) (fun _ _ _ _ _ => pts_yes) (fun _ _ _ _ _ => (r_var 3))) a_nil))))
abbrev s_told_list : Stmt := topS 32
theorem sc_told_list : FnScope ["sides", "facts", "levels", "counts", "found", "at", "longer", "state", "square", "some", "line", "there"] ["sides", "facts"] (defScope s_told_list) := ⟨rfl, rfl, rfl, by decide +kernel, rfl, by decide +kernel, by decide +kernel⟩
theorem ok_told_list {P : Program} {w : World} {K : PySem.W.Frag} {mg : Str → Option Value} {base : Heap} (E : At K mg "told_list" s_told_list ["sides", "facts"]) (B : Bl mg) (h_told_web : Has P w K mg base "told_web" 2 ["sides", "facts"] M_told_web) (h_told_counts : Has P w K mg base "told_counts" 1 ["levels"] M_told_counts) : Has P w K mg base "told_list" 3 ["sides", "facts"] M_told_list :=
  has_of E sc_told_list fun f cdv A outer s H E hr => (q_cons (q_set 2 sc_told_list.nd (r_call h_told_web hr (by decide) (by rfl) (a_cons (r_var 0) (a_cons (r_var 1) a_nil))))
    (q_cons (q_set 3 sc_told_list.nd (r_call h_told_counts hr (by decide) (by rfl) (a_cons (r_var 2) a_nil)))
    (q_cons (q_setLc 4 rfl sc_told_list.nd (i_keys (r_ix (r_var 2) r_int)) (blkOk_by (own := [("state", 7)]) (by kernel_rfl)) (p := (.nm 7)) (by decide) (sw_true rfl rfl rfl (by decide +kernel)) (fun _ _ _ _ _ => (g_nm 7 sc_told_list.nd)) (fun _ _ _ _ _ => pts_yes) (fun _ _ _ _ _ => (r_tup (a_cons (r_tup a_nil) (a_cons (r_var 7) a_nil)))))
    (q_cons (q_for PassesOwn.never rfl (i_rng1 (by rfl) B.range_ (r_var 0)) (g_nm 5 sc_told_list.nd) (q_cons (q_set 6 sc_told_list.nd (r_lst a_nil))
    (q_cons (q_for PassesOwn.never rfl (i_seq (r_var 4)) (g_tp rfl (gs_cons (g_nm 8 sc_told_list.nd) (gs_cons (g_nm 7 sc_told_list.nd) gs_nil))) (q_cons (q_setLc 9 rfl sc_told_list.nd (i_seq (r_get (hu_of hr) (r_ix (r_var 2) (r_var 5)) (r_var 7))) (blkOk_by (own := [("line", 10), ("there", 11)]) (by kernel_rfl)) (p := (.tp [10, 11])) (by decide) (sw_true rfl rfl rfl (by decide +kernel)) (fun _ _ _ _ _ => (g_tp rfl (gs_cons (g_nm 10 sc_told_list.nd) (gs_cons (g_nm 11 sc_told_list.nd) gs_nil)))) (fun _ _ _ _ _ => (pts_if (t_cmp op_gt ok_gt (nomark _) (r_get (hu_of hr) (r_ix (r_var 3) (r_add (r_var 5) r_int)) (r_var 11)) r_int))) (fun _ _ _ _ _ => (r_tup (a_cons (r_var 10) (a_cons (r_var 11) a_nil)))))
    (q_one (q_set 6 sc_told_list.nd (r_add (r_var 6) (r_lc rfl sc_told_list.nd (i_seq (r_var 9)) (blkOk_by (own := [("line", 10), ("there", 11)]) (by kernel_rfl)) (p := (.tp [10, 11])) (by decide) (fun _ _ _ _ _ => (g_tp rfl (gs_cons (g_nm 10 sc_told_list.nd) (gs_cons (g_nm 11 sc_told_list.nd) gs_nil)))) (fun _ _ _ _ _ => pts_yes) (fun _ _ _ _ _ => (r_tup (a_cons (r_add (r_var 8) (r_tup (a_cons (r_var 10) a_nil))) (a_cons (r_var 11) a_nil))))))))))
    (q_one (q_set 4 sc_told_list.nd (r_var 6))))))
    (q_one (q_ret (r_lc rfl sc_told_list.nd (i_seq (r_var 4)) (blkOk_by (own := [("square", 8), ("state", 7)]) (by kernel_rfl)) (p := (.tp [8, 7])) (by decide) (fun _ _ _ _ _ => (g_tp rfl (gs_cons (g_nm 8 sc_told_list.nd) (gs_cons (g_nm 7 sc_told_list.nd) gs_nil)))) (fun _ _ _ _ _ => pts_yes) (fun _ _ _ _ _ => (r_var 8)))))))))
abbrev s_count_told : Stmt := topS 34
theorem sc_count_told : FnScope ["sides", "facts"] ["sides", "facts"] (defScope s_count_told) := ⟨rfl, rfl, rfl, by decide +kernel, rfl, by decide +kernel, by decide +kernel⟩
theorem ok_count_told {P : Program} {w : World} {K : PySem.W.Frag} {mg : Str → Option Value} {base : Heap} (E : At K mg "count_told" s_count_told ["sides", "facts"]) (B : Bl mg) {tWIDE : Tok} (cWIDE : mg "WIDE" = some (.int 8 tWIDE)) (h_need_told : Has P w K mg base "need_told" 5 ["sides", "facts", "limit"] M_need_told) (h_told_many : Has P w K mg base "told_many" 3 ["sides", "facts"] M_told_many) : Has P w K mg base "count_told" 6 ["sides", "facts"] M_count_told :=
  has_of E sc_count_told fun f cdv A outer s H E hr => (q_cons (q_drop (r_call h_need_told hr (by decide) (by rfl) (a_cons (r_var 0) (a_cons (r_var 1) (a_cons (r_glob (by rfl) cWIDE) a_nil)))))
    (q_one (q_ret (r_call h_told_many hr (by decide) (by rfl) (a_cons (r_var 0) (a_cons (r_var 1) a_nil))))))
abbrev s_fewest_cells : Stmt := topS 44
theorem sc_fewest_cells : FnScope ["square", "others", "other"] ["square"] (defScope s_fewest_cells) := ⟨rfl, rfl, rfl, by decide +kernel, rfl, by decide +kernel, by decide +kernel⟩
theorem ok_fewest_cells {P : Program} {w : World} {K : PySem.W.Frag} {mg : Str → Option Value} {base : Heap} (E : At K mg "fewest_cells" s_fewest_cells ["square"]) (B : Bl mg) {tSMALL : Tok} (cSMALL : mg "SMALL" = some (.int 4 tSMALL)) (h_need_square : Has P w K mg base "need_square" 4 ["value"] M_need_square) (h_need_few : Has P w K mg base "need_few" 1 ["many", "limit"] M_need_few) (h_told_list : Has P w K mg base "told_list" 3 ["sides", "facts"] M_told_list) (h_fewest_spots : Has P w K mg base "fewest_spots" 2 ["table", "tables", "spots"] M_fewest_spots) (h_cells_of : Has P w K mg base "cells_of" 1 ["sides"] M_cells_of) : Has P w K mg base "fewest_cells" 5 ["square"] M_fewest_cells :=
  has_of E sc_fewest_cells fun f cdv A outer s H E hr => (q_cons (q_drop (r_call h_need_square hr (by decide) (by rfl) (a_cons (r_var 0) a_nil)))
    (q_cons (q_drop (r_call h_need_few hr (by decide) (by rfl) (a_cons (r_cb call_len_seq ok_len (by rfl) B.len_ (by decide +kernel) (a_cons (r_var 0) a_nil)) (a_cons (r_glob (by rfl) cSMALL) a_nil))))
    (q_cons (q_setLc 1 rfl sc_fewest_cells.nd (i_seq (r_call h_told_list hr (by decide) (by rfl) (a_cons (r_cb call_len_seq ok_len (by rfl) B.len_ (by decide +kernel) (a_cons (r_var 0) a_nil)) (a_cons (r_tup a_nil) a_nil)))) (blkOk_by (own := [("other", 2)]) (by kernel_rfl)) (p := (.nm 2)) (by decide) (sw_true rfl rfl rfl (by decide +kernel)) (fun _ _ _ _ _ => (g_nm 2 sc_fewest_cells.nd)) (fun _ _ _ _ _ => (pts_if (t_cmp (op_neD hr.units) ok_ne (nomark _) (r_var 2) (r_var 0)))) (fun _ _ _ _ _ => (r_var 2)))
    (q_one (q_ret (r_call h_fewest_spots hr (by decide) (by rfl) (a_cons (r_var 0) (a_cons (r_var 1) (a_cons (r_call h_cells_of hr (by decide) (by rfl) (a_cons (r_cb call_len_seq ok_len (by rfl) B.len_ (by decide +kernel) (a_cons (r_var 0) a_nil)) a_nil)) a_nil)))))))))
abbrev s_fewest_points : Stmt := topS 45
theorem sc_fewest_points : FnScope ["square", "others", "other"] ["square"] (defScope s_fewest_points) := ⟨rfl, rfl, rfl, by decide +kernel, rfl, by decide +kernel, by decide +kernel⟩
theorem ok_fewest_points {P : Program} {w : World} {K : PySem.W.Frag} {mg : Str → Option Value} {base : Heap} (E : At K mg "fewest_points" s_fewest_points ["square"]) (B : Bl mg) {tSMALL : Tok} (cSMALL : mg "SMALL" = some (.int 4 tSMALL)) (h_need_square : Has P w K mg base "need_square" 4 ["value"] M_need_square) (h_need_few : Has P w K mg base "need_few" 1 ["many", "limit"] M_need_few) (h_told_list : Has P w K mg base "told_list" 3 ["sides", "facts"] M_told_list) (h_heights_of : Has P w K mg base "heights_of" 1 ["square"] M_heights_of) (h_fewest_spots : Has P w K mg base "fewest_spots" 2 ["table", "tables", "spots"] M_fewest_spots) (h_points_within : Has P w K mg base "points_within" 1 ["sides"] M_points_within) : Has P w K mg base "fewest_points" 5 ["square"] M_fewest_points :=
  has_of E sc_fewest_points fun f cdv A outer s H E hr => (q_cons (q_drop (r_call h_need_square hr (by decide) (by rfl) (a_cons (r_var 0) a_nil)))
    (q_cons (q_drop (r_call h_need_few hr (by decide) (by rfl) (a_cons (r_cb call_len_seq ok_len (by rfl) B.len_ (by decide +kernel) (a_cons (r_var 0) a_nil)) (a_cons (r_glob (by rfl) cSMALL) a_nil))))
    (q_cons (q_setLc 1 rfl sc_fewest_points.nd (i_seq (r_call h_told_list hr (by decide) (by rfl) (a_cons (r_cb call_len_seq ok_len (by rfl) B.len_ (by decide +kernel) (a_cons (r_var 0) a_nil)) (a_cons (r_tup a_nil) a_nil)))) (blkOk_by (own := [("other", 2)]) (by kernel_rfl)) (p := (.nm 2)) (by decide) (sw_true rfl rfl rfl (by decide +kernel)) (fun _ _ _ _ _ => (g_nm 2 sc_fewest_points.nd)) (fun _ _ _ _ _ => (pts_if (t_cmp (op_neD hr.units) ok_ne (nomark _) (r_var 2) (r_var 0)))) (fun _ _ _ _ _ => (r_call h_heights_of hr (by decide) (by rfl) (a_cons (r_var 2) a_nil))))
    (q_one (q_ret (r_call h_fewest_spots hr (by decide) (by rfl) (a_cons (r_call h_heights_of hr (by decide) (by rfl) (a_cons (r_var 0) a_nil)) (a_cons (r_var 1) (a_cons (r_call h_points_within hr (by decide) (by rfl) (a_cons (r_cb call_len_seq ok_len (by rfl) B.len_ (by decide +kernel) (a_cons (r_var 0) a_nil)) a_nil)) a_nil)))))))))
abbrev s_w_right : Stmt := topS 62
theorem sc_w_right : FnScope ["_law_wide", "_law_every", "_law_some", "_law_others", "_law_cells_so", "_law_tables", "_law_facts_so", "_law_there", "_law_x", "_law_y"] ["_law_wide", "_law_every", "_law_some"] (defScope s_w_right) := ⟨rfl, rfl, rfl, by decide +kernel, rfl, by decide +kernel, by decide +kernel⟩
theorem ok_w_right {P : Program} {w : World} {K : PySem.W.Frag} {mg : Str → Option Value} {base : Heap} (E : At K mg "_law_right" s_w_right ["_law_wide", "_law_every", "_law_some"]) (B : Bl mg) (h_fewest_cells : Has P w K mg base "fewest_cells" 5 ["square"] M_fewest_cells) (h_w_fewest : Has P w K mg base "_law_fewest" 2 ["_law_mine", "_law_others", "_law_spots_so"] M_w_fewest) (h_w_spots : Has P w K mg base "_law_spots" 1 ["_law_low", "_law_wide"] M_w_spots) (h_w_heights : Has P w K mg base "_law_heights" 2 ["_law_some"] M_w_heights) (h_fewest_points : Has P w K mg base "fewest_points" 5 ["square"] M_fewest_points) (h_count_told : Has P w K mg base "count_told" 6 ["sides", "facts"] M_count_told) : Has P w K mg base "_law_right" 7 ["_law_wide", "_law_every", "_law_some"] M_w_right :=
  has_of E sc_w_right fun f cdv A outer s H E hr => (q_cons (q_setLc 3 rfl sc_w_right.nd (i_seq (r_var 1)) (blkOk_by (own := [("_law_there", 7)]) (by kernel_rfl)) (p := (.nm 7)) (by decide) (sw_true rfl rfl rfl (by decide +kernel)) (fun _ _ _ _ _ => (g_nm 7 sc_w_right.nd)) (fun _ _ _ _ _ => (pts_if (t_cmp (op_neD hr.units) ok_ne (nomark _) (r_var 7) (r_var 2)))) (fun _ _ _ _ _ => (r_var 7)))
    (q_cons (q_set 4 sc_w_right.nd (r_call h_fewest_cells hr (by decide) (by rfl) (a_cons (r_var 2) a_nil)))
    (q_cons (q_if (t_cmp (op_neD hr.units) ok_ne (nomark _) (r_var 4) (r_call h_w_fewest hr (by decide) (by rfl) (a_cons (r_var 2) (a_cons (r_var 3) (a_cons (r_call h_w_spots hr (by decide) (by rfl) (a_cons r_int (a_cons (r_var 0) a_nil))) a_nil))))) (q_one (q_ret r_bl)) q_nil)
    (q_cons (q_setLc 5 rfl sc_w_right.nd (i_seq (r_var 3)) (blkOk_by (own := [("_law_there", 7)]) (by kernel_rfl)) (p := (.nm 7)) (by decide) (sw_true rfl rfl rfl (by decide +kernel)) (fun _ _ _ _ _ => (g_nm 7 sc_w_right.nd)) (fun _ _ _ _ _ => pts_yes) (fun _ _ _ _ _ => (r_call h_w_heights hr (by decide) (by rfl) (a_cons (r_var 7) a_nil))))
    (q_cons (q_if (t_cmp (op_neD hr.units) ok_ne (nomark _) (r_call h_fewest_points hr (by decide) (by rfl) (a_cons (r_var 2) a_nil)) (r_call h_w_fewest hr (by decide) (by rfl) (a_cons (r_call h_w_heights hr (by decide) (by rfl) (a_cons (r_var 2) a_nil)) (a_cons (r_var 5) (a_cons (r_call h_w_spots hr (by decide) (by rfl) (a_cons r_int (a_cons (r_var 0) a_nil))) a_nil))))) (q_one (q_ret r_bl)) q_nil)
    (q_cons (q_set 6 sc_w_right.nd (r_ct call_tuple_of ok_tuple (by rfl) B.tuple_ (by decide +kernel) (a_cons (r_lc rfl sc_w_right.nd (i_seq (r_var 4)) (blkOk_by (own := [("_law_x", 8), ("_law_y", 9)]) (by kernel_rfl)) (p := (.tp [8, 9])) (by decide) (fun _ _ _ _ _ => (g_tp rfl (gs_cons (g_nm 8 sc_w_right.nd) (gs_cons (g_nm 9 sc_w_right.nd) gs_nil)))) (fun _ _ _ _ _ => pts_yes) (fun _ _ _ _ _ => (r_tup (a_cons r_str (a_cons (r_var 8) (a_cons (r_var 9) (a_cons (r_ix (r_ix (r_var 2) (r_var 8)) (r_var 9)) a_nil))))))) a_nil)))
    (q_one (q_ret (r_cmp (op_eqD hr.units) ok_eq (nomark _) (r_call h_count_told hr (by decide) (by rfl) (a_cons (r_var 0) (a_cons (r_var 6) a_nil))) r_int)))))))))
end SQ
end
section
set_option Elab.async false
set_option linter.all false
set_option maxRecDepth 100000
set_option maxHeartbeats 4000000
namespace SQ
open PySem PySem.Spec PyProof.Rows L2
/-! ### the drawer: its cart, a lump, any of a row -/
def lumpI (x y n : Int) : Int × Int × Int :=
  if 0 < x then (x / n, y, x % n)
  else (x, (y * 40639 + 4447) % 2147480969, ((((y * 40639 + 4447) % 2147480969) * (((y * 40639 + 4447) % 2147480969) / 41 + 139)) % 2147480881) / 64 % n)
theorem lumpI_pos {x y n : Int} (h : 0 < n) : 0 ≤ (lumpI x y n).2.2 ∧ (lumpI x y n).2.2 < n := by
  unfold lumpI
  split <;> exact ⟨Int.emod_nonneg _ (by omega), Int.emod_lt_of_pos _ h⟩
def spLump : Sp := fun vs H Q _ => ∃ (a : Addr) (x y n : Int), vs = [.ref a, .int n] ∧ H a = some (.lst [.int x, .int y]) ∧ 0 < n ∧ n < 1000000 ∧ Q (.int (lumpI x y n).2.2) (upd H a (.lst [.int (lumpI x y n).1, .int (lumpI x y n).2.1]))
abbrev s_lump : Stmt := topS 48
theorem sc_lump : FnScope ["_law_cart_here", "_law_size_so", "_law_part", "_law_far"] ["_law_cart_here", "_law_size_so"] (defScope s_lump) := ⟨rfl, rfl, rfl, by decide +kernel, rfl, by decide +kernel, by decide +kernel⟩
section
variable {P : Program} {w : World} {K : PySem.W.Frag} {mg : Str → Option Value} {base : Heap}
theorem fn_lump {f : Addr} {fd : FuncData} (F : Fun K "_law_lump" "_law_lump" s_lump f fd) (mi : mg "int" = none) : FnOk P w K mg base CX0 1 f fd ["_law_cart_here", "_law_size_so"] spLump := by
  refine F.ok sc_lump (fun vs H Q E h => ?_) (fun cdv A outer s H vs Q E hr h => ?_)
  · obtain ⟨a, x, y, n, rfl, _⟩ := h
    rfl
  · obtain ⟨a, x, y, n, rfl, ha, hn, hn2, q⟩ := h
    refine ⟨_, pss_cons (ps_if (pt_cmpR op_gt (pe_ix ix_list (pv 0) pe_int (fun _ _ => rfl)) pe_int (nomark _))
        (pss_cons (ps_set (i := 2) sc_lump.nd rfl (.inl rfl) (pe_op op_mod (pe_callTy call_int1 (by rfl) mi (by decide +kernel) (pa_cons (pe_ix ix_list (pv 0) pe_int (fun _ _ => rfl)) pa_nil)) (pv 1)))
        (pss_cons (ps_asg (pe_op op_fdiv (pe_ix ix_list (pv 0) pe_int (fun _ _ => rfl)) (pv 1)) (pg_sub (pv 0) pe_int set_list))
        (pss_one (ps_ret (pv 2))))) pss_nil)
      (pss_cons (ps_asg (pe_op op_mod (pe_callTy call_int1 (by rfl) mi (by decide +kernel) (pa_cons (pe_op op_add (pe_op op_mul (pe_ix ix_list (pv 0) pe_int (fun _ _ => rfl)) pe_int) pe_int) pa_nil)) pe_int) (pg_sub (pv 0) pe_int set_list))
      (pss_cons (ps_set (i := 3) sc_lump.nd rfl (.inl rfl) (pe_op op_mod (pe_callTy call_int1 (by rfl) mi (by decide +kernel) (pa_cons (pe_op op_mul (pe_ix ix_list (pv 0) pe_int (fun _ _ => rfl)) (pe_op op_add (pe_op op_fdiv (pe_ix ix_list (pv 0) pe_int (fun _ _ => rfl)) pe_int) pe_int)) pa_nil)) pe_int))
      (pss_one (ps_ret (pe_op op_mod (pe_callTy call_int1 (by rfl) mi (by decide +kernel) (pa_cons (pe_op op_fdiv (pv 3) pe_int) pa_nil)) (pv 1)))))), ?_⟩
    refine ⟨.ref a, rfl, a, _, 0, .int x, rfl, rfl, SqL.of ha, rfl, x, 0, rfl, rfl, _, rfl, ?_⟩
    unfold lumpI at q
    by_cases hx : 0 < x
    · rw [if_pos hx] at q
      rw [if_pos (decide_eq_true hx)]
      refine ⟨.ref a, rfl, a, _, 0, .int x, rfl, rfl, SqL.of ha, rfl, .inl ⟨x, rfl, ?_⟩⟩
      refine ⟨.int n, rfl, x, n, rfl, rfl, hn, ?_⟩
      refine ⟨.ref a, rfl, a, _, 0, .int x, rfl, rfl, SqL.of ha, rfl, .int n, rfl, x, n, rfl, rfl, ⟨hn, by omega⟩, ?_⟩
      refine ⟨.ref a, rfl, a, _, 0, 0, rfl, rfl, ha, rfl, ?_⟩
      exact ⟨_, rfl, q⟩
    · rw [if_neg hx] at q
      rw [if_neg (by rw [decide_eq_true_eq]; exact hx)]
      have hz0 : 0 ≤ (y * 40639 + 4447) % 2147480969 := Int.emod_nonneg _ (by decide)
      have hz1 : (y * 40639 + 4447) % 2147480969 < 2147480969 := Int.emod_lt_of_pos _ (by decide)
      refine ⟨.ref a, rfl, a, _, 1, .int y, rfl, rfl, SqL.of ha, rfl, y, 40639, rfl, rfl, .inr ⟨by decide, by decide⟩, _, _, rfl, rfl, .inl ⟨_, rfl, ?_⟩⟩
      refine ⟨_, _, rfl, rfl, (by show (0 : Int) < 2147480969; decide), ?_⟩
      refine ⟨.ref a, rfl, a, _, 1, 1, rfl, rfl, ha, rfl, ?_⟩
      have hb : upd H a (.lst [.int x, .int ((y * 40639 + 4447) % 2147480969)]) a = some (.lst [.int x, .int ((y * 40639 + 4447) % 2147480969)]) := upd_same
      refine ⟨.ref a, rfl, a, _, 1, .int ((y * 40639 + 4447) % 2147480969), rfl, rfl, SqL.of hb, rfl, .ref a, rfl, a, _, 1, .int ((y * 40639 + 4447) % 2147480969), rfl, rfl, SqL.of hb, rfl, _, _, rfl, rfl, ⟨by decide, by decide⟩, _, _, rfl, rfl, _, _, rfl, rfl, .inl ⟨?_, ?_⟩, .inl ⟨_, rfl, ?_⟩⟩
      · omega
      · omega
      refine ⟨_, _, rfl, rfl, (by show (0 : Int) < 2147480881; decide), ?_⟩
      refine ⟨_, rfl, _, _, rfl, rfl, ⟨by decide, by decide⟩, .inl ⟨_, rfl, .int n, rfl, _, n, rfl, rfl, hn, q⟩⟩
/-! any of a row -/
def spAny (K : PySem.W.Frag) : Sp := fun vs H Q _ => ∃ (a l : Addr) (x y : Int) (xs : List V) (v : V), vs = [.ref a, .ref l] ∧ H a = some (.lst [.int x, .int y]) ∧ SqL K H l xs ∧ l ≠ a ∧ SqL K (upd H a (.lst [.int (lumpI x y xs.length).1, .int (lumpI x y xs.length).2.1])) l xs ∧ 0 < xs.length ∧ xs.length < 1000000 ∧
  atI xs (lumpI x y xs.length).2.2 = some v ∧ Q v (upd H a (.lst [.int (lumpI x y xs.length).1, .int (lumpI x y xs.length).2.1]))
abbrev s_any : Stmt := topS 49
theorem sc_any : FnScope ["_law_cart_here", "_law_row_so"] ["_law_cart_here", "_law_row_so"] (defScope s_any) := ⟨rfl, rfl, rfl, by decide +kernel, rfl, by decide +kernel, by decide +kernel⟩
theorem fn_any {f fl : Addr} {fd fdl : FuncData} (F : Fun K "_law_any_of" "_law_any_of" s_any f fd) (ml : mg "len" = none) (gl : mg "_law_lump" = some (.ref fl)) (kl : PySem.W.keepIn K (.ref fl) = true) (bl : Binds K fdl ["_law_cart_here", "_law_size_so"] [])
    (L : FnOk P w K mg base CX0 1 fl fdl ["_law_cart_here", "_law_size_so"] spLump) : FnOk P w K mg base CX0 2 f fd ["_law_cart_here", "_law_row_so"] (spAny K) := by
  refine F.ok sc_any (fun vs H Q E h => ?_) (fun cdv A outer s H vs Q E hr h => ?_)
  · obtain ⟨a, l, x, y, xs, v, rfl, _⟩ := h
    rfl
  · obtain ⟨a, l, x, y, xs, v, rfl, ha, hl, hne, hl2, h0, h1, hv, q⟩ := h
    refine ⟨_, pss_one (ps_ret (pe_ix ix_list (pv 1) (pe_call L hr (by rfl) gl kl bl .nil pass0 (pa_cons (pv 0) (pa_cons (pe_callB call_len_seq (by rfl) ml PySem.boot_len (pa_cons (pv 1) pa_nil)) pa_nil))) (fun _ _ => rfl))), ?_⟩
    refine ⟨.ref l, rfl, .ref a, rfl, .ref l, rfl, l, xs, rfl, .inl hl, a, x, y, xs.length, rfl, ha, by omega, by omega, ?_⟩
    exact ⟨l, xs, _, v, rfl, rfl, hl2, hv, q⟩
end
end SQ
end
section
set_option Elab.async false
set_option linter.all false
set_option maxRecDepth 100000
set_option maxHeartbeats 4000000
namespace SQ
open PySem PySem.Spec PyProof.Rows L2
theorem same_new {H : Hp} {p : Addr} {o : HO} (h : H p = none) : Same H (upd H p o) := fun b x e => by
  rw [upd_ne (ne_of_none e h)]
  exact e
def spCart (K : PySem.W.Frag) : Sp := fun vs H Q _ => ∃ (a : Addr) (ns : List Int), vs = [.ref a] ∧ SqL K H a (ns.map V.int) ∧ ns.length ≤ 1000 ∧ ∀ H' p x y, Same H H' → H p = none → H' p = some (.lst [.int x, .int y]) → Q (.ref p) H'
abbrev s_cart : Stmt := topS 47
theorem sc_cart : FnScope ["_law_script", "_law_cell"] ["_law_script"] (defScope s_cart) := ⟨rfl, rfl, rfl, by decide +kernel, rfl, by decide +kernel, by decide +kernel⟩
theorem fn_cart {P : Program} {w : World} {K : PySem.W.Frag} {mg : Str → Option Value} {base : Heap} {f : Addr} {fd : FuncData} (F : Fun K "_law_cart" "_law_cart" s_cart f fd) (mi : mg "int" = none) (ma : mg "abs" = none) (ml : mg "list" = none) : FnOk P w K mg base CX0 1 f fd ["_law_script"] (spCart K) := by
  refine F.ok sc_cart (fun vs H Q E h => ?_) (fun cdv A outer s H vs Q E hr h => ?_)
  · obtain ⟨a, ns, rfl, _⟩ := h
    rfl
  · obtain ⟨a, ns, rfl, ha, hn, q⟩ := h
    refine ⟨_, pss_cons (ps_set (i := 1) sc_cart.nd rfl (.inl rfl) (pe_callB call_abs (by rfl) ma (by decide +kernel) (pa_cons (pe_callTy call_int1 (by rfl) mi (by decide +kernel) (pa_cons (pe_ix ix_list (pe_op op_cat (pe_callTy call_list_of (by rfl) ml (by decide +kernel) (pa_cons (pv 0) pa_nil)) (pe_lst (pa_cons pe_int pa_nil))) pe_int (fun _ _ => rfl)) pa_nil)) pa_nil)))
      (pss_one (ps_ret (pe_lst (pa_cons (pe_ifExp (pt_cmpR op_ge (pv 1) (pe_op op_pow pe_int pe_int) (nomark _)) (pv 1) pe_int) (pa_cons (pe_op op_add (pe_op op_mod (pe_callTy call_int1 (by rfl) mi (by decide +kernel) (pa_cons (pe_op op_add (pe_op op_mul (pv 1) pe_int) pe_int) pa_nil)) pe_int) pe_int) pa_nil))))), ?_⟩
    refine ⟨.ref a, rfl, a, _, rfl, .inl ha, fun l hl => ⟨(by decide), fun c hc => ?_⟩⟩
    have s1 : Same H (upd H l (.lst (ns.map V.int))) := same_new hl
    have s2 : Same (upd H l (.lst (ns.map V.int))) (upd (upd H l (.lst (ns.map V.int))) c (.lst [.int 0])) := same_new hc
    refine ⟨l, c, _, _, rfl, rfl, s2 _ _ upd_same, upd_same, by rw [List.length_map]; exact Nat.le_trans (Nat.add_le_add_right hn 1) (by decide), fun m hm => ?_⟩
    obtain ⟨i, hi⟩ : ∃ i : Int, atI (ns.map V.int ++ [V.int 0]) 0 = some (.int i) := by
      cases ns with
      | nil => exact ⟨0, rfl⟩
      | cons n r => exact ⟨n, atI_nat (j := 0) rfl⟩
    have s3 : Same H (upd (upd (upd H l (.lst (ns.map V.int))) c (.lst [.int 0])) m (.lst (ns.map V.int ++ [V.int 0]))) := (s1.trans s2).trans (same_new hm)
    refine ⟨m, _, _, .int i, rfl, rfl, SqL.of upd_same, hi, .inl ⟨_, rfl, _, rfl, ?_⟩⟩
    generalize (if i < 0 then -i else i) = z
    refine ⟨_, rfl, _, _, rfl, rfl, ⟨by decide, by decide, by decide⟩, _, _, rfl, rfl, _, rfl, ?_⟩
    have fin : ∀ v : Int, tCons (tOp (rI0 fun i j => V.int (i + j)) (tOp (rI (fun _ j => 0 < j) fun i j => V.int (i % j)) (tCB (fun xs H Q => (∃ i, xs = [V.int i] ∧ Q (V.int i) H) ∨ ∃ k, xs = [V.bl k] ∧ Q (V.int (if k then 1 else 0)) H) (tCons (tOp (rI0 fun i j => V.int (i + j)) (tOp (rI CMul fun i j => V.int (i * j)) (tVar 1) (tC (V.int 317))) (tC (V.int 12211))) tNil)) (tC (V.int 2147480969))) (tC (V.int 1))) tNil [some (.ref a), some (.int z)]
        (upd (upd (upd H l (.lst (ns.map V.int))) c (.lst [.int 0])) m (.lst (ns.map V.int ++ [V.int 0]))) (fun vs H2 => (V.int v :: vs).length ≤ sizeLine ∧ ∀ p, H2 p = none → Q (.ref p) (upd H2 p (.lst (V.int v :: vs)))) := fun v => by
      refine ⟨_, rfl, _, _, rfl, rfl, .inr ⟨by decide, by decide⟩, _, _, rfl, rfl, .inl ⟨_, rfl, _, _, rfl, rfl, (by show (0 : Int) < 2147480969; decide), _, _, rfl, rfl, (by show 2 ≤ sizeLine; decide), fun p hp => ?_⟩⟩
      have hp0 : H p = none := by
        cases e : H p with
        | none => rfl
        | some o =>
          rw [s3 _ _ e] at hp
          cases hp
      exact q _ p v _ (s3.trans (same_new hp)) hp0 upd_same
    exact ite2 (fun _ => ⟨_, rfl, fin z⟩) (fun _ => fin 0)
end SQ
end
section
set_option Elab.async false
set_option linter.all false
set_option maxRecDepth 100000
set_option maxHeartbeats 4000000
/-! Walks and tuple targets while an exception is handled. -/
namespace SQ
open PySem PySem.Spec PyProof.Rows L2 HotX L2H
section
variable {prog : Program} {w : World} {A : Around} {E : Value → Shared → Prop} {s : Shared} {x1 : Addr}
theorem hot_keep {h h' : Heap} (hot : HotAt A x1 h) (k : ∀ o, h.get? x1 = some o → h'.get? x1 = some o) : HotAt A x1 h' := by
  obtain ⟨a, o, vs, b, c, d⟩ := hot
  exact ⟨a, o, vs, k _ b, c, d⟩
theorem hot_ne {h : Heap} (hot : HotAt A x1 h) {b : Addr} {o : Obj} {vs : Array Value} (ho : h.get? b = some o) (hd : o.data = .fields vs) (hv : vs[2]? ≠ some .none) : x1 ≠ b := fun e => by
  obtain ⟨_, o', vs', e1, e2, e3⟩ := hot
  rw [e, ho] at e1
  cases e1
  rw [hd] at e2
  cases e2
  exact hv e3
/-- StopIteration is made and raised while x1 is handled -/
theorem stop_hot {α : Type} {Q : α → Shared → Prop} (hot : HotAt A x1 s.heap) (hE : ∀ h' e, (∀ b o, s.heap.get? b = some o → h'.get? b = some o) → (∃ o, h'.get? e = some o ∧ o.cls = .type "StopIteration") → E (.ref e) { s with heap := h' }) :
    wpAny (model prog w) A (newExc (.type "StopIteration") [] >>= fun e => (raiseNew e : Sem α)) Q E s := by
  refine wpAny_bind ?_
  simp only [newExc, newTuple]
  refine wpAny_bind (wpAny_newObj_type ?_ (by size_fits))
  refine wpAny_bind (m := firstArgMember _ _) (wpAny_of_eq (a := Value.none) (by first | rfl | (simp only [firstArgMember]; rfl)) ?_)
  refine wpAny_newObj_type ?_ (by size_fits)
  have k2 : ∀ {h : Heap} {p q : Obj} (b : Addr) (o : Obj), h.get? b = some o → ((h.push p).push q).get? b = some o := fun b o e => Heap.get?_push_of_some _ (Heap.get?_push_of_some _ e)
  obtain ⟨a1, o1, vs1, h1, d1, c1⟩ := hot
  have hx := k2 (p := { cls := .type "tuple", data := .seq #[] }) (q := { cls := .type "StopIteration", data := .fields #[] }) _ _ h1
  refine raiseNew_hot ⟨a1, o1, vs1, k2 _ _ h1, d1, c1⟩ (Nat.ne_of_lt (Heap.lt_size (Heap.get?_push_of_some _ h1))) (Heap.get?_push_size _ rfl) rfl (by first | (simp; done) | (simp; omega) | (simp only [Array.size_append]; simp; omega)) ?_
  refine hE _ _ (fun b o e => ?_) ⟨_, Heap.get?_update_self _ (Heap.get?_push_size _ rfl) rfl, rfl⟩
  rw [Heap.get?_update_other _ _ (Nat.ne_of_gt (Heap.lt_size (Heap.get?_push_of_some _ e)))]
  exact k2 _ _ e
/-- a tuple's walk ends -/
theorem tup_end_hot {it t : Addr} {i : Nat} {items : Array Value} {Q : Option Value → Shared → Prop} (hot : HotAt A x1 s.heap) (hit : IsTupIter s.heap it t i) (ht : IsTup s.heap t items) (hx : items[i]? = none)
    (hQ : ∀ h', Heap.ExtBut it s.heap h' → Q none { s with heap := h' }) : wpAny (model prog w) A (pyNext (.ref it)) Q E s := by
  have hT := hit.typeIs
  obtain ⟨o, ho, hc, hd⟩ := hit
  obtain ⟨ol, hol, _, nl, hdl⟩ := ht
  have hne := hot_ne hot ho hd (by intro z; simp at z)
  unfold pyNext
  refine wpAny_bind (wpAny_attempt (wpAny_callSpecial?_slot (name := Str.ofString "__next__") hT slot_tupleiter_next (wpAny_call_entry slot_tupleiter_next hT entry_tupleiter_next ?_ (args_tupleiter_next _))))
  show wpAny _ _ (field (.ref it) 0 >>= _) _ _ s
  refine wpAny_bind (wpAny_field ho hd (x := .ref t) rfl ?_)
  rw [if_neg (show ¬ ((Value.ref t == Value.none) = true) from Bool.false_ne_true)]
  refine wpAny_bind (wpAny_field ho hd (x := .int i 0) rfl (wpAny_bind (wpAny_seqItems hol hdl ?_)))
  simp only [Int.toNat_natCast, hx]
  refine wpAny_bind (wpAny_rule (wpAny_bind (wpAny_setField ho hd (by simp) ?_)))
  refine stop_hot (hot_keep hot fun o e => (Heap.get?_update_other _ _ (Ne.symm hne)).trans e) fun h' e k ⟨oe, he, hce⟩ => ?_
  refine wpAny_bind (wpAny_isInstance (T := "StopIteration") (b := true) ⟨oe, he, hce⟩ isSubtype_stop (wpAny_pure (hQ _ fun b o hb e => ?_)))
  exact k _ _ ((Heap.get?_update_other _ _ (Ne.symm hb)).trans e)
/-- a list's walk ends, as zip asks it -/
theorem list_end_hot {it l : Addr} {i : Nat} {items : Array Value} {Q : Value → Shared → Prop} (hot : HotAt A x1 s.heap) (hit : s.heap.IsListIter it l i) (hl : s.heap.IsList l items) (hx : items[i]? = none)
    (hE : ∀ h' e, Heap.ExtBut it s.heap h' → (∃ o, h'.get? e = some o ∧ o.cls = .type "StopIteration") → E (.ref e) { s with heap := h' }) : wpAny (model prog w) A (Builtin.SmallTypes.nextOf (.ref it)) Q E s := by
  have hT := hit.typeIs
  obtain ⟨o, ho, hc, hd⟩ := hit
  obtain ⟨ol, hol, _, nl, hdl⟩ := hl
  have hne := hot_ne hot ho hd (by intro z; simp at z)
  unfold Builtin.SmallTypes.nextOf
  refine wpAny_bind (wpAny_callSpecial?_slot (name := Str.ofString "__next__") hT slot_listiter_next (wpAny_call_entry slot_listiter_next hT entry_listiter_next ?_ (args_listiter_next _)))
  show wpAny _ _ (field (.ref it) 0 >>= _) _ _ s
  refine wpAny_bind (wpAny_field ho hd (x := .ref l) rfl ?_)
  rw [if_neg (show ¬ ((Value.ref l == Value.none) = true) from Bool.false_ne_true)]
  refine wpAny_bind (wpAny_field ho hd (x := .int i 0) rfl (wpAny_bind (wpAny_seqItems hol hdl ?_)))
  simp only [Int.toNat_natCast, hx]
  refine wpAny_bind (wpAny_rule (wpAny_bind (wpAny_setField ho hd (by simp) ?_)))
  refine stop_hot (hot_keep hot fun o e => (Heap.get?_update_other _ _ (Ne.symm hne)).trans e) fun h' e k he => hE h' e (fun b o hb e => ?_) he
  exact k _ _ ((Heap.get?_update_other _ _ (Ne.symm hb)).trans e)
/-- zip's walk ends: the first list is through -/
theorem zip_end_hot {z TI TO i1 i2 l1 l2 : Addr} {k1 : Nat} {xs : Array Value} {a b : Value} {Q : Option Value → Shared → Prop} (hot : HotAt A x1 s.heap) (D : ZipApart z TI TO i1 i2 l1 l2)
    (hz : IsZip s.heap z TI TO .none) (hTI : IsPair s.heap TI (.ref i1) (.ref i2)) (hTO : IsPair s.heap TO a b) (h1 : s.heap.IsListIter i1 l1 k1) (hl1 : s.heap.IsList l1 xs) (hx : xs[k1]? = none)
    (hQ : ∀ h', (∀ c o, c ≠ z → c ≠ i1 → s.heap.get? c = some o → h'.get? c = some o) → Q none { s with heap := h' }) : wpAny (model prog w) A (pyNext (.ref z)) Q E s := by
  have hT : s.TypeIs (.ref z) "zip" := ⟨_, hz, rfl⟩
  have hne := hot_ne hot hz rfl (by intro q; simp at q)
  unfold pyNext
  refine wpAny_bind (wpAny_attempt (wpAny_callSpecial?_slot (name := Str.ofString "__next__") hT F.slot_zip_next (wpAny_call_entry F.slot_zip_next hT F.entry_zip_next ?_ (F.args_zip_next_1 _))))
  show wpAny _ _ (field (.ref z) 2 >>= _) _ _ _
  refine wpAny_bind (wpAny_field hz rfl (x := .bool false) rfl ?_)
  show wpAny _ _ (field (.ref z) 3 >>= _) _ _ _
  refine wpAny_bind (wpAny_field hz rfl (x := .ref TI) rfl (wpAny_bind (wpAny_seqItems hTI rfl ?_)))
  show wpAny _ _ (Builtin.SmallTypes.ownedTupleIsFree (.ref z) >>= _) _ _ _
  refine wpAny_bind ?_
  unfold Builtin.SmallTypes.ownedTupleIsFree
  refine wpAny_bind (wpAny_field hz rfl (x := .none) rfl (wpAny_pure ?_))
  simp only [if_true]
  refine wpAny_bind (wpAny_rule (wpAny_bind (wpAny_field hz rfl (x := .ref TO) rfl (wpAny_bind (wpAny_setField_rec hz (by simp) fun h₁ hz₁ hs₁ => ?_)))))
  replace hz₁ : IsZip h₁ z TI TO .ellipsis := hz₁
  refine wpAny_bind ?_
  simp only [List.zipIdx_cons, List.zipIdx_nil, List.forIn_cons, List.forIn_nil]
  refine wpAny_bind (wpAny_bind (wpAny_onRaise ?_))
  show wpAny _ _ (Builtin.SmallTypes.nextOf (.ref i1) >>= _) _ _ _
  refine wpAny_bind (list_end_hot (hot_keep hot fun o e => hs₁.extBut _ _ hne e) (h1.extBut hs₁.extBut D.i1z) (hl1.extBut hs₁.extBut D.l1z) hx fun h₂ e hs₂ ⟨oe, hoe, hce⟩ => ?_)
  have hz₂ : IsZip h₂ z TI TO .ellipsis := hs₂ _ _ D.i1z.symm hz₁
  have hez : e ≠ z := fun q => by
    subst q
    rw [hz₂] at hoe
    cases hoe
    simp at hce
  refine wpAny_setField_rec hz₂ (by simp) fun h₃ _ hs₃ => ?_
  refine wpAny_bind (wpAny_isInstance (T := "StopIteration") (b := true) ⟨oe, hs₃.extBut _ _ hez hoe, hce⟩ isSubtype_stop (wpAny_pure (hQ _ fun c o c1 c3 q => ?_)))
  exact hs₃.extBut _ _ c1 (hs₂ _ _ c3 (hs₁.extBut _ _ c1 q))
/-- (a, b, ..) = a tuple -/
theorem assign_tup_hot {env : Env} {elts : List Expr} {x0} {pos : Pos} {t : Addr} {items : Array Value} {Q : Unit → Shared → Prop} (hot : HotAt A x1 s.heap) (ht : IsTup s.heap t items)
    (hn : (assignEach elts env).length = items.size) (hstar : (assignEach elts env).findIdx? (·.1) = none)
    (h : ∀ h', Heap.ExtBut s.heap.objs.size s.heap h' → wpAny (model prog w) A (assignInOrder ((assignEach elts env).map (·.2)) items.toList) Q E { s with heap := h' }) : wpAny (model prog w) A (assign (.Tuple elts x0 pos) env (.ref t)) Q E s := by
  have hlt : t ≠ s.heap.objs.size := by
    obtain ⟨o, ho, _⟩ := ht
    exact Nat.ne_of_lt (Heap.lt_size ho)
  have hx1 : x1 ≠ s.heap.objs.size := by
    obtain ⟨_, o, _, ho, _⟩ := hot
    exact Nat.ne_of_lt (Heap.lt_size ho)
  rw [assign_Tuple]
  refine wpAny_bind (wpAny_standAt ?_)
  unfold unpack
  rw [hn, hstar]
  refine wpAny_bind (wpAny_holding ?_)
  unfold unpackItems
  refine wpAny_bind ?_
  unfold notIterableAtAll
  refine wpAny_bind (wpAny_specialOf ht.typeIs slot_tuple_iter.lookup (wpAny_pure ?_))
  simp only [Bool.false_eq_true, if_false]
  refine wpAny_bind (wpAny_holding (iter_tuple ht (wpAny_bind (wpAny_holding (draw_tuple hlt items.size 0 _ _ ⟨_, Heap.get?_push_size _ rfl, rfl, rfl⟩ (ht.push _) (by omega) fun h₁ hit₁ hs₁ => ?_)))))
  rw [show List.take items.size (List.drop 0 items.toList) = items.toList by rw [List.drop_zero]; exact List.take_of_length_le (by simp), if_neg (by simp)]
  refine wpAny_bind (wpAny_holding (tup_end_hot (hot_keep hot fun o e => hs₁.extBut _ _ hx1 (Heap.get?_push_of_some _ e)) hit₁ ((ht.push _).extBut hs₁.extBut hlt) (by simp) fun h₂ he₂ => ?_))
  simp only [Option.isSome_none, Bool.false_eq_true, if_false]
  exact wpAny_pure (h h₂ fun b o hb e => he₂ b o hb (hs₁.extBut b o hb (Heap.get?_push_of_some _ e)))
end
section
variable {X : Cx}
theorem g_tpH {es : List Expr} {k : Nat} {pos : Pos} {t : TGs} {n : Nat} (hc : HotC X) (h : PGs X es t) (hn : (assignEach es X.env).length = n := by rfl) (hst : (assignEach es X.env).findIdx? (·.1) = none := by rfl) : PG X (.Tuple es k pos) (gTup X.K n t) := by
  refine ⟨fun pins s σ H v u Q I r hw => ?_⟩
  obtain ⟨a, xs, e1, hq, hl, hw⟩ := hw
  subst e1
  cases r
  obtain ⟨its, rv, ht, hz⟩ := I.tuple hq
  obtain ⟨x1, hot⟩ := hc.at I
  refine assign_tup_hot hot ht (by simp [hn, ← hl, rv.length]) hst fun h' hx => ?_
  exact h.run pins _ σ H xs _ Q (I.kept (t' := s.toks) fun b o e => hx b o (Nat.ne_of_lt (Heap.lt_size e)) e) (by simpa using rv) hw
end
end SQ
end
section
set_option Elab.async false
set_option linter.all false
set_option maxRecDepth 100000
set_option maxHeartbeats 4000000
/-! zip and comprehensions while an exception is handled. -/
namespace SQ
open PySem PySem.Spec PyProof.Rows L2 HotX L2H
/-- the objects of a zip over two lists, at turn i -/
def ZSt (a b z TI TO i1 i2 : Addr) (i : Nat) (h : Heap) : Prop := IsZip h z TI TO .none ∧ IsPair h TI (.ref i1) (.ref i2) ∧ (∃ x y, IsPair h TO x y) ∧ h.IsListIter i1 a i ∧ h.IsListIter i2 b i
/-- both lists stand, the first is no longer than the second -/
def ItzH (K : PySem.W.Frag) (a b : Addr) : It :=
  ⟨(Itz K a b).go, (Itz K a b).yld, fun i H => ∃ xs : List V, SqL K H a xs ∧ xs.length ≤ i⟩
theorem five {c z TI TO i1 i2 : Addr} (h : c ∈ [z, TI, TO, i1, i2]) : c = z ∨ c = TI ∨ c = TO ∨ c = i1 ∨ c = i2 := by simpa using h
theorem turn_zipH {P : Program} {w : World} {K : PySem.W.Frag} {elts : List Expr} {kk : Nat} {tpos : Pos} {a b z TI TO i1 i2 : Addr} (D : ZipApart z TI TO i1 i2 a b) : TurnH P w K (.Tuple elts kk tpos) (ItzH K a b) [z, TI, TO, i1, i2] z (ZSt a b z TI TO i1 i2) where
  mem := List.mem_cons_self
  obj := fun i h st c hc => by
    obtain ⟨g1, g2, ⟨x, y, g3⟩, ⟨o1, e1, _, d1⟩, ⟨o2, e2, _, d2⟩⟩ := st
    rcases five hc with rfl | rfl | rfl | rfl | rfl
    · exact ⟨_, g1, fun v q => nomatch q⟩
    · exact ⟨_, g2, fun v q => nomatch q⟩
    · exact ⟨_, g3, fun v q => nomatch q⟩
    · exact ⟨o1, e1, fun v q => by rw [d1] at q; cases q⟩
    · exact ⟨o2, e2, fun v q => by rw [d2] at q; cases q⟩
  keep := fun i h h' st k => by
    obtain ⟨g1, g2, ⟨x, y, g3⟩, g4, g5⟩ := st
    exact ⟨k z (by simp) _ g1, k TI (by simp) _ g2, ⟨x, y, k TO (by simp) _ g3⟩, g4.at fun o q => k i1 (by simp) o q, g5.at fun o q => k i2 (by simp) o q⟩
  item := by
    intro X hP hw hK _ i pins s σ H E I hf st ⟨xs, ys, x, y, qx, qy, hx, hy⟩
    subst hP hw hK
    obtain ⟨g1, g2, ⟨x0, y0, g3⟩, g4, g5⟩ := st
    obtain ⟨us, ru, pu, _⟩ := I.list qx
    obtain ⟨ws, rw', pw, _⟩ := I.list qy
    obtain ⟨u, hu, r1⟩ := ru.get hx
    obtain ⟨v, hv, r2⟩ := rw'.get hy
    have lt : ∀ c ∈ [z, TI, TO, i1, i2], c < s.heap.objs.size := fun c hc => by
      rcases five hc with rfl | rfl | rfl | rfl | rfl
      · exact Heap.lt_size g1
      · exact Heap.lt_size g2
      · exact Heap.lt_size g3
      · exact Heap.lt_size g4.choose_spec.1
      · exact Heap.lt_size g5.choose_spec.1
    refine wpAny_pyNext_zip_item D g1 g2 g3 g4 g5 pu.isList pw.isList (x := u) (y := v) (by simpa using hu) (by simpa using hv) fun h1 f1 f2 f3 f4 f5 _ kk => ?_
    refine ⟨_, rfl, wpAny_letOwnedTupleGo_zip (s := { s with heap := h1 }) f1 fun h2 f6 sb => ?_⟩
    have zne : s.heap.objs.size ≠ z := Nat.ne_of_gt (lt z List.mem_cons_self)
    have hT2 : h2.get? s.heap.objs.size = some { cls := .type "tuple", data := .seq #[u, v] } := (sb.2 _ zne).trans f5
    have kall : ∀ c o, c ∉ [z, TI, TO, i1, i2] → s.heap.get? c = some o → h2.get? c = some o := fun c o nc q => by
      simp only [List.mem_cons, List.not_mem_nil, or_false, not_or] at nc
      exact (sb.2 c nc.1).trans (kk c o nc.1 nc.2.2.1 nc.2.2.2.1 nc.2.2.2.2 q)
    have I1 : Inv X pins σ (upd H s.heap.objs.size (.tup [x, y])) { s with heap := h2 } := I.turnedNew (t' := s.toks) (ch := [z, TI, TO, i1, i2]) kall hf (Nat.le_refl _) ⟨by show 2 ≤ sizeLine; decide, [u, v], .cons r1 (.cons r2 .nil), ⟨_, hT2, rfl, _, rfl⟩⟩
    refine ⟨.ref s.heap.objs.size, _, I1, rfl, ⟨_, x, y, rfl, I.hok.fresh (Nat.le_refl _), rfl, fun l hl => by rw [I.list_inj hl qx]; exact hx, fun l hl => by rw [I.list_inj hl qy]; exact hy⟩, ⟨f6, ?_, ⟨u, v, ?_⟩, ?_, ?_⟩, fun c hc => ?_⟩
    · exact (sb.2 _ D.TIz).trans (kk _ _ D.TIz D.TITO D.TIi1 D.TIi2 g2)
    · exact (sb.2 _ D.TOz).trans f2
    · exact f3.at fun o q => (sb.2 _ D.i1z).trans q
    · exact f4.at fun o q => (sb.2 _ D.i2z).trans q
    · rw [upd_ne (Nat.ne_of_lt (lt c hc))]
      exact (hf c hc).1
  done := by
    intro X hP hw hK hc i pins s σ H E I hf st ⟨xs, qx, hl⟩
    subst hP hw hK
    obtain ⟨g1, g2, ⟨x0, y0, g3⟩, g4, g5⟩ := st
    obtain ⟨us, ru, pu, _⟩ := I.list qx
    have el := ru.length
    obtain ⟨x1, hot⟩ := hc.at I
    refine zip_end_hot hot D g1 g2 g3 g4 pu.isList (by simp; omega) fun h' kk => ⟨rfl, I.turnedL (t' := s.toks) (ch := [z, TI, TO, i1, i2]) (fun c o nc q => ?_) hf⟩
    simp only [List.mem_cons, List.not_mem_nil, or_false, not_or] at nc
    exact kk c o nc.1 nc.2.2.2.1 q
  self := fun A i s Q E st h => wpAny_pyIter_zip st.1 h
def iZipH (K : PySem.W.Frag) (ta : TA) : TI := fun σ H R => ta σ H fun vs H1 => ∃ a b xs ys, vs = [.ref a, .ref b] ∧ SqL K H1 a xs ∧ SqL K H1 b ys ∧ R (ItzH K a b) H1
theorem pi_zipH {X : Cx} {e e2 : Expr} {ta : TA} {p pos tpos : Pos} {elts : List Expr} {kk : Nat} (hg : Gl X "zip") (hm : X.mg "zip" = none) (ha : PA X [e, e2] ta)
    (hs : starEach [e, e2] X.env = (false, eval e X.env) :: starEach [e2] X.env := by rfl) (hpl : (backTo pos (starEach [e2] X.env)).any (·.1) = false := by rfl) : PIH X (.Tuple elts kk tpos) (.Call (.Name "zip" p) [e, e2] [] pos) (iZipH X.K ta) := by
  refine ⟨fun pins s σ H R I h => Call_ (ld_blt I hg hm PyProof.Rows.boot_zip (PyProof.Rows.callWith_type1 (thn (ha.run pos pins s σ H _ I h) fun us s1 ⟨vs, H1, I1, r1, a, b, xs, ys, ex, qx, qy, q⟩ => ?_) hs hpl))⟩
  subst ex
  cases r1 with
  | cons r rr =>
    cases rr with
    | cons r' rr =>
      cases rr
      cases r
      cases r'
      obtain ⟨us1, ru, pu, _⟩ := I1.list qx
      obtain ⟨us2, rw', pw, _⟩ := I1.list qy
      refine call_zip_2 pu.isList pw.isList fun h' g1 g2 g3 g4 g5 hsz kk => wpAny_pyIter_zip g1 ?_
      refine ⟨s1.heap.objs.size + 4, [s1.heap.objs.size + 4, s1.heap.objs.size + 2, s1.heap.objs.size + 3, s1.heap.objs.size, s1.heap.objs.size + 1], _, _, H1, rfl, I1.kept (t' := s1.toks) kk, turn_zipH (PySem.W.ktu_apart s1.heap.objs.size a b pu.lt pw.lt), ⟨g1, g2, ⟨_, _, g3⟩, g4, g5⟩, fun c hc => ?_, q⟩
      have hle : s1.heap.objs.size ≤ c := by
        rcases five hc with rfl | rfl | rfl | rfl | rfl <;> omega
      exact I1.fpOk hle (I1.hok.fresh hle)
/-- a block's context that bears the handled exception -/
abbrev blkP (X : Cx) (p : Addr × Obj) (s : Shared) (H : Hp) (scope : Scope) (cenv : Env) (fp : List Addr) : Cx := { X.blk s H scope cenv fp with pn := [p] }
theorem inv_blkP {X : Cx} {p : Addr × Obj} {s s1 : Shared} {H H1 : Hp} {scope : Scope} {cenv : Env} {fp : List Addr} {pins : List (Addr × Obj)} {σ : L2.St} (I : Inv (X.blk s H scope cenv fp) pins σ H1 s1)
    (h : s1.heap.get? p.1 = some p.2 ∧ H1 p.1 = none ∧ p.1 ≠ cenv.locals ∧ p.1 ∉ frs X.stack ∧ ∀ v, p.2.data ≠ .cell v) : Inv (blkP X p s H scope cenv fp) pins σ H1 s1 :=
  ⟨⟨I.ok.mod, I.ok.kind, I.ok.glob, I.ok.blt, I.ok.above, I.ok.inj, I.ok.has, I.ok.cab, I.ok.hd, I.ok.frames, I.ok.stk, I.ok.exf, I.ok.bs, I.ok.bsz, I.ok.noex, I.ok.exfs, I.ok.funs, I.ok.frf⟩, I.os, I.bare, I.base, I.loc, I.cell, I.free, I.freeC,
    fun q hq => by
      rcases List.mem_append.mp hq with z | z
      · rw [List.mem_singleton.mp z]
        exact h
      · exact I.pin q (List.mem_append_right _ z), I.hok, I.len⟩
end SQ
end
section
set_option Elab.async false
set_option linter.all false
set_option maxRecDepth 100000
set_option maxHeartbeats 4000000
/-! A comprehension while an exception is handled. -/
namespace SQ
open PySem PySem.Spec PyProof.Rows L2 HotX L2H
section
variable {X : Cx} {p : Addr × Obj}
theorem pin_out {pins : List (Addr × Obj)} {σ : L2.St} {H : Hp} {s : Shared} (I : Inv X pins σ H s) (hp : p ∈ X.pn) : s.heap.get? p.1 = some p.2 ∧ H p.1 = none ∧ p.1 ∉ frs X.stack ∧ ∀ v, p.2.data ≠ .cell v := by
  obtain ⟨h1, h2, h3, h4, h5⟩ := I.pin p (List.mem_append_left _ hp)
  refine ⟨h1, h2, ?_, h5⟩
  rcases I.ok.stk with e | ⟨e, ef⟩
  · rw [e]
    exact h4
  · rw [e]
    intro z
    have z' : p.1 ∈ List.filterMap (·.frame) (X.env :: X.outer) := z
    rw [List.filterMap_cons, ef] at z'
    rcases List.mem_cons.mp z' with q | q
    · exact h3 q
    · exact h4 q
theorem pe_lcH {elt tg iter : Expr} {ifs : List Expr} {scope : Scope} {own : List (Str × Nat)} {pos : Pos} {wi : TI} {g : TG} {tt : TT} {te : TE} (hot : Hot1 X.A p) (hpn : p ∈ X.pn) (hN : X.N.Nodup) (hi : PIH X tg iter wi) (ok : BlkOk X.N X.env.scope scope own)
    (hg : ∀ (s : Shared) (H : Hp) (C : Addr) (cl : List (Str × Addr)) (fp : List Addr), PG (blkP X p s H scope (compEnvC scope cl C X.env) fp) tg g) (ht : ∀ (s : Shared) (H : Hp) (C : Addr) (cl : List (Str × Addr)) (fp : List Addr), PTs (blkP X p s H scope (compEnvC scope cl C X.env) fp) ifs tt)
    (he : ∀ (s : Shared) (H : Hp) (C : Addr) (cl : List (Str × Addr)) (fp : List Addr), PE (blkP X p s H scope (compEnvC scope cl C X.env) fp) elt te) (hs : ∀ x, foldedSetIterable iter X.env x = pure x := by intro _; rfl) :
    PE X (.ListComp elt [⟨tg, iter, ifs, 0⟩] scope pos) (tLc wi g tt te (own.map (·.2))) := by
  refine ⟨fun pins s σ H Q I h => ?_⟩
  rw [eval_ListComp]
  have fr : ∀ y ∈ scope.names, y.2 = .free → ∃ c, X.env.cells.lookup y.1 = some c := fun y hy e => I.ok.has _ (ok.free y hy e)
  refine wpAny_comprehension_free (use := none) rfl hs (closure_ok fr) ok.kind (fun y hy e => by rw [ok.uniq y hy, e]) (thn (hi.run pins s σ H _ I h) fun xv s1 hx => thn hx fun itv s2 h2 => ?_)
  obtain ⟨it, fp, tn, J, H2, e, I2, T, st2, f2, q⟩ := h2
  subst e
  refine wpAny_newObj_type (newEnv_comp ?_) (by show 0 ≤ sizeLine; decide)
  generalize hD : s2.heap.objs.size = D
  have hDn : H2 D = none := I2.hok.fresh (Nat.le_of_eq hD)
  obtain ⟨W, ⟨m0, w0⟩, turn⟩ := q D hDn
  generalize hs3 : ({ s2 with heap := s2.heap.push { cls := .type "list", data := .seq ([] : List Value).toArray } } : Shared) = s3
  have h3 : s3.heap = s2.heap.push { cls := .type "list", data := .seq ([] : List Value).toArray } := by rw [← hs3]
  have k23 : ∀ b o, s2.heap.get? b = some o → s3.heap.get? b = some o := fun b o z => by
    rw [h3]
    exact Heap.get?_push_of_some _ z
  have I3 : Inv X pins σ (upd H2 D (.lst [])) s3 := by
    rw [← hs3]
    refine I2.laid (t' := s2.toks) (fun b o z => Heap.get?_push_of_some _ z) (Nat.le_of_eq hD) ⟨Nat.zero_le _, [], 0, .nil, ?_⟩
    rw [← hD]
    exact Heap.get?_push_size _ rfl
  have fpo : ∀ b ∈ fp, FpOk X pins (upd H2 D (.lst [])) b ∧ b < s3.heap.objs.size := fun b hb => by
    obtain ⟨o, z, _⟩ := T.obj _ _ st2 b hb
    have lt := Heap.lt_size z
    refine ⟨⟨?_, (f2 b hb).2⟩, by rw [h3, Heap.size_push]; exact Nat.lt_succ_of_lt lt⟩
    rw [upd_ne (by rw [← hD]; exact Nat.ne_of_lt lt)]
    exact (f2 b hb).1
  obtain ⟨p1, p2, p3, p4⟩ := pin_out I3 hpn
  have kb : ∀ b o, s3.heap.get? b = some o → (pushCells (s3.heap.push { cls := .type "dict", data := .dict #[] }) scope.names).get? b = some o := fun b o z => pushCells_keeps _ _ _ _ (Heap.get?_push_of_some _ z)
  have I4 := inv_blkP (p := p) (block_start I3 ok hN fpo) ⟨kb _ _ p1, p2, Nat.ne_of_lt (Heap.lt_size p1), p3, p4⟩
  have pg := hg s3 (upd H2 D (.lst [])) s3.heap.objs.size (cellsFrom (s3.heap.objs.size + 1) scope.names (cloFrom X.env.cells scope.names [])) fp
  have pt := ht s3 (upd H2 D (.lst [])) s3.heap.objs.size (cellsFrom (s3.heap.objs.size + 1) scope.names (cloFrom X.env.cells scope.names [])) fp
  have pe := he s3 (upd H2 D (.lst [])) s3.heap.objs.size (cellsFrom (s3.heap.objs.size + 1) scope.names (cloFrom X.env.cells scope.names [])) fp
  show codeAny _ _ (.compStart (.ListComp elt [⟨tg, iter, ifs, 0⟩] scope pos) 0 (.ref it) (.ref D) (compEnvC scope (cellsFrom (s3.heap.objs.size + 1) scope.names (cloFrom X.env.cells scope.names [])) s3.heap.objs.size X.env)) (compPost (model X.prog X.w) X.A X.xe none (EP X pins σ Q) (.ref D) s3.heap.objs.size) { s3 with heap := pushCells (s3.heap.push { cls := .type "dict", data := .dict #[] }) scope.names }
  have w0' : ∀ b ∈ fp, (upd H2 D (.lst [])) b = none := fun b hb => (fpo b hb).1.1
  generalize hce : compEnvC scope (cellsFrom (s3.heap.objs.size + 1) scope.names (cloFrom X.env.cells scope.names [])) s3.heap.objs.size X.env = ce at I4 pg pt pe ⊢
  have cL : ce.locals = s3.heap.objs.size := by subst hce; rfl
  generalize hH3 : upd H2 D (.lst []) = H3 at I3 I4 pg pt pe w0 w0' fpo
  generalize hs4 : ({ s3 with heap := pushCells (s3.heap.push { cls := .type "dict", data := .dict #[] }) scope.names } : Shared) = s4 at I4 ⊢
  have st4 : tn 0 s4.heap := T.keep _ _ _ st2 fun b _ o z => by rw [← hs4]; exact kb _ _ (k23 _ _ z)
  have hotB : HotC (blkP X p s3 H3 scope ce fp) := ⟨p, hot, List.mem_singleton.mpr rfl⟩
  have pne : ∀ b ∈ fp, p.1 ≠ b := fun b hb => (fpo b hb).1.2.2.2.2.2 p (List.mem_append_left _ hpn)
  have stat : ∀ {σ' : L2.St} {H' : Hp} {s' : Shared}, Inv (blkP X p s3 H3 scope ce fp) [] σ' H' s' → (∀ b ∈ fp, H' b = none) → ∀ b ∈ fp, FpOk (blkP X p s3 H3 scope ce fp) [] H' b := fun {σ' H' s'} I' hn b hb =>
    ⟨hn b hb, (I'.ok.exf b hb).1, I'.ok.exfs b hb, .inl hb, fun x c z => (I'.ok.exf b hb).2 x c z, fun r hr => by
      have e : r = p := by simpa using (show r ∈ [p] ++ ([] : List (Addr × Obj)) from hr)
      rw [e]
      exact pne b hb⟩
  have loop : codeAny (model X.prog X.w) X.A (.compLoop (.ListComp elt [⟨tg, iter, ifs, 0⟩] scope pos) 0 (.ref it) (.ref D) ce) (compPost (model X.prog X.w) X.A X.xe none (EP X pins σ Q) (.ref D) s3.heap.objs.size) s4 := by
    refine compLoop_any (fun n s' => ∃ i H', Inv (blkP X p s3 H3 scope ce fp) [] (L2.wipe σ (own.map (·.2))) H' s' ∧ tn i s'.heap ∧ (∀ b ∈ fp, H' b = none) ∧ W i n H') ?_ m0 ⟨0, H3, I4, st4, w0', w0⟩
    rintro n s5 ⟨i, H5, I5, st5, n5, w5⟩
    rcases turn i n H5 w5 with ⟨stop, qq⟩ | ⟨go, Nx, hNx, step⟩
    · refine thnF (T.done (blkP X p s3 H3 scope ce fp) rfl rfl rfl hotB i [] s5 _ H5 (fun _ _ => False) I5 (stat I5 n5) st5 stop) fun r s6 ⟨hr, I6⟩ => ?_
      subst hr
      have I7 : Inv X pins σ H5 s6 := I3.call' (ch := fp) I6.os I6.base I6.hok I6.bare fun b hb => ⟨(fpo b hb).1.2.2.2.1, (fpo b hb).1.2.1, (fpo b hb).1.2.2.2.2.1, (fpo b hb).1.2.2.2.2.2⟩
      have nC : H5 s3.heap.objs.size = none := by rw [← cL]; exact I6.free
      obtain ⟨m, hn, _⟩ := I6.loc
      obtain ⟨f0, f1, f2', f3, f4, f5⟩ := I3.fpOk (Nat.le_refl _) nC
      have hn' : s6.heap.Ns s3.heap.objs.size m := by rw [← cL]; exact hn
      exact ⟨m, hn', fun h'' sb => ⟨.ref D, H5, I7.turned (t' := s6.toks) (fun b o hb z => (sb.2 b hb).trans z) f0 f1 f3 f4 f5, rfl, qq⟩⟩
    · refine thnF (T.item (blkP X p s3 H3 scope ce fp) rfl rfl rfl hotB i [] s5 _ H5 (fun _ _ => False) I5 (stat I5 n5) st5 go) fun r s6 ⟨u, hr, h6⟩ => ?_
      subst hr
      refine thnF h6 fun _ s7 ⟨x, H7, I7, r7, y7, st7, n7⟩ => ?_
      refine thnF (pg.run _ s7 _ H7 x u _ (I7.pinned (stat I7 n7) (T.obj _ _ st7)) r7 (step x H7 y7)) fun _ s8 ⟨σ8, H8, I8, hw8, q8⟩ => ?_
      refine thnF (pt.run _ s8 σ8 H8 _ I8 q8) fun b s9 ⟨H9, I9, q9⟩ => ?_
      have fin : ∀ {s' : Shared} {H' : Hp}, Inv (blkP X p s3 H3 scope ce fp) ([] ++ pinsAt fp s7.heap) σ8 H' s' → Nx H' → ∃ m, m < n ∧ ∃ i H', Inv (blkP X p s3 H3 scope ce fp) [] (L2.wipe σ (own.map (·.2))) H' s' ∧ tn i s'.heap ∧ (∀ b ∈ fp, H' b = none) ∧ W i m H' := fun {s' H'} I' nx => by
        obtain ⟨m', hm, w'⟩ := hNx H' nx
        have pin' : ∀ b ∈ fp, ∀ o, s7.heap.get? b = some o → s'.heap.get? b = some o ∧ H' b = none := fun b hb o z =>
          have y := I'.pin (b, o) (List.mem_append_right _ (List.mem_append_right _ (mem_pinsAt hb z)))
          ⟨y.1, y.2.1⟩
        refine ⟨m', hm, i + 1, H', (I'.unpinned (pins := [])).weak (by rw [← hw8, wipe_length]) (fun j v z => ?_), T.keep _ _ _ st7 fun b hb o z => (pin' b hb o z).1, fun b hb => ?_, w'⟩
        · rw [← hw8] at z
          exact (wipe_some z).1
        · obtain ⟨o, z, _⟩ := T.obj _ _ st7 b hb
          exact (pin' b hb o z).2
      cases b with
      | false =>
        simp only [Bool.false_eq_true, if_false] at q9 ⊢
        exact fin I9 q9
      | true =>
        simp only [if_true] at q9 ⊢
        refine thnF (pe.run _ s9 σ8 H9 _ I9 q9) fun z s10 ⟨yv, H10, I10, r10, acc, hD10, hz10, nx⟩ => ?_
        exact app_ok (X := blkP X p s3 H3 scope ce fp) I10 hD10 hz10 r10 fun s11 I11 => fin I11 nx
  exact codeAny_compStart_list loop (T.self X.A 0 _ _ _ st4 loop)
/-- isinstance(e, c), e the exception that is handled -/
theorem call_isH {D : Addr} (C : ExcC X.K D) (hp : p ∈ X.pn) (hz : Zc (.ref D) none p.2) (hf : ∃ vs, p.2.data = .fields vs) : CallR X (.builtin "isinstance") (rIsE X.K D p.1) := by
  intro pins s σ H xs us Q I r h
  obtain ⟨c, cv, b, rfl, hcv, e, q⟩ := h
  cases r with
  | cons rx rr =>
    cases rr with
    | cons rt rr =>
      cases rr
      cases rx
      have ec := hcv _ rt
      subst ec
      obtain ⟨hget, _⟩ := I.pin p (List.mem_append_left _ hp)
      obtain ⟨a, oe⟩ := p
      obtain ⟨vs, hv⟩ := hf
      obtain ⟨oc, od, oda, osl⟩ := oe
      obtain ⟨h1, h2⟩ := hz
      dsimp only at h1 h2 hv hget
      subst h1 h2 hv
      have J : PySem.W.InstAt s.heap a { cls := .ref D, dict := none, data := .fields vs, slots := osl } D none := ⟨hget, rfl, rfl, trivial⟩
      exact PySem.W.kia_one (PySem.W.handS_kitx_exc C.hg C.hk C.hs C.hd C.ha C.hn C.ht C.hm) I.kIn J e (fun z => nomatch z) fun tk => ⟨.bl b, H, I.kept (t' := tk) fun _ _ z => z, rfl, q⟩
end
end SQ
end
section
set_option Elab.async false
set_option linter.all false
set_option maxRecDepth 100000
set_option maxHeartbeats 4000000
/-! A def that is handed the exception that is handled; _law_names. -/
namespace SQ
open PySem PySem.Spec PyProof.Rows L2 HotX L2H
/-- as FnH, for one handled exception p -/
structure FnP (p : Addr × Obj) (P : Program) (w : World) (K : PySem.W.Frag) (mg : Str → Option Value) (base : Heap) (CX : CXT) (k : Nat) (f : Addr) (fd : FuncData) (ps : List Str) (sp : Sp) : Prop where
  len : ∀ vs H Q E, sp vs H Q E → vs.length = ps.length
  run : ∀ (A : Around) (outer : List Env) (s : Shared) (H : Hp) (args : Args) (us : List Value) (vs : List V) (Q : VK) (E : XK), RoomH k A → Hot1 A p → PinOk outer H s p → Env0 P w K mg base A outer s H → BindsTo s fd args (ps.zip us) → Vals vs us → sp vs H Q E →
    codeAny (model P w) A (.call (.ref f) args) (CR CX outer P w H s Q E) s
theorem fnP_of {p : Addr × Obj} {P : Program} {w : World} {K : PySem.W.Frag} {mg : Str → Option Value} {base : Heap} {CX : CXT} {x qual : Str} {st : Stmt} {f : Addr} {fd : FuncData} {N ps : List Str} {k : Nat} {sp : Sp} (F : Fun K x qual st f fd) (S : FnScope N ps (defScope st)) (len : ∀ vs H Q E, sp vs H Q E → vs.length = ps.length)
    (hbody : ∀ (cdv : Value) (A : Around) (outer : List Env) (s : Shared) (H : Hp) (vs : List V) (Q : VK) (E : XK), Hot1 A p → RoomH k (A.deeper (envOfC qual (defScope st) s.heap.objs.size f cdv)) → sp vs H Q E →
      ∃ t, PSs (cxH CX P w K mg base N qual (defScope st) f cdv A outer s H E p) (defBody st) t ∧ t { nx := fun _ H' => Q .non H', rt := Q } (L2.start N vs) H) : FnP p P w K mg base CX (k + 1) f fd ps sp := by
  obtain ⟨oc, od, kV, doc, pm, an, cdv, ct, osl, rfl, lk, hcd⟩ := F.ex
  refine ⟨len, fun A outer s H args us vs Q E hr hot hpin e0 hb r hsp => ?_⟩
  have up : ∀ b o, base.get? b = some o → s.heap.get? b = some o := fun b o e => (e0.bs b o e).1
  have KX : K.In s.heap := e0.mod.kin.keeps up
  have nl : s.heap.NoLimit := e0.mod.nolimit.keeps up
  have kinds : ∀ y ∈ ps.zip us, (defScope st).names.lookup y.1 = some .local ∨ ((defScope st).names.lookup y.1 = some .cell ∧ ((cellsFrom (s.heap.objs.size + 1) (defScope st).names []).lookup y.1).isSome = true) := fun ⟨n, v⟩ hy =>
    (S.par n (List.of_mem_zip hy).1).imp id fun q => ⟨q, PySem.W.cellsFrom_some _ _ _ (.inl q)⟩
  refine codeAny_call_function hr.depth (KX _ _ lk) rfl S.co S.gen rfl (PySem.W.codeRec_of KX hcd) (hb _ _ _ _ (wpAny_newFunctionEnv_cells S.kind kinds fun env he s1 x => ?_))
  subst he
  refine ⟨nl.keeps x.toInCall.keep, codeAny_func ?_⟩
  obtain ⟨t, ht, hq⟩ := hbody cdv A outer s H vs Q E hot (hr.deeper _) hsp
  refine wpAny_mono (ht.run [] s1 (L2.start N vs) H _ (inv_startH S hpin e0 (len _ _ _ _ hsp) r x) hq) (fun fl s' hs => ?_) fun e s' hs => hs
  cases fl with
  | ret u =>
    obtain ⟨v, σ', H', J, rv, q⟩ := hs
    exact ⟨v, H', J.os, J.bare, J.base, J.hok, rv, q⟩
  | next =>
    obtain ⟨σ', H', J, q⟩ := hs
    exact ⟨V.non, H', J.os, J.bare, J.base, J.hok, rfl, q⟩
  | brk =>
    obtain ⟨_, _, _, q⟩ := hs
    exact False.elim q
  | cont =>
    obtain ⟨_, _, _, q⟩ := hs
    exact False.elim q
theorem pe_callP {X : Cx} {p : Addr × Obj} {CX : CXT} {k : Nat} {f : Addr} {fd : FuncData} {ps : List Str} {sp : Sp} {E : XK} {x : Str} {q pos : Pos} {e : Expr} {es : List Expr} {t : TA} (F : FnP p X.prog X.w X.K X.mg X.base CX k f fd ps sp) (hr : RoomH k X.A) (hot : Hot1 X.A p) (hp : p ∈ X.pn) (hg : Gl X x) (hm : X.mg x = some (.ref f))
    (hk : PySem.W.keepIn X.K (.ref f) = true) (hb : Binds X.K fd ps []) (hx : Passes CX X E) (ha : PA X (e :: es) t) (hdb : (x == ("__debug__" : Str)) = false := by decide) (he : starEach (e :: es) X.env = (false, eval e X.env) :: starEach es X.env := by rfl)
    (hpl : (backTo pos (starEach es X.env)).any (·.1) = false := by rfl) : PE X (.Call (.Name x q) (e :: es) [] pos) (fun σ H Q => t σ H fun vs H1 => sp vs H1 Q E) := by
  refine ⟨fun pins s σ H Q I h => ?_⟩
  refine wpAny_Call_Name_kw (ld_glob I hg hm ?_ hdb)
  refine PySem.W.callWith_K (h₀ := X.base) I.ok.mod.kin hk (thn (ha.run pos pins s σ H _ I h) fun us s1 ⟨vs, H1, I1, r, hs⟩ => ⟨I1.kIn, ?_⟩) he hpl
  have hl : us.length = ps.length := by rw [← r.length]; exact F.len _ _ _ _ hs
  have b := hb s1 us I1.kIn (by rw [List.append_nil]; exact hl)
  rw [List.append_nil] at b
  obtain ⟨p1, p2, p3, p4, p5⟩ := I1.pin p (List.mem_append_left _ hp)
  refine wpAny_call (codeAny_mono (F.run X.A X.stack s1 H1 ⟨us, []⟩ us vs Q E hr hot ⟨p1, p2, fun hm => (List.mem_cons.mp (I1.stkSub p.1 hm)).elim p3 p4, p5⟩ I1.env0 b r hs) fun r s' hq => ?_)
  cases r with
  | error e => exact hx pins σ H1 s1 e s' I1 hq
  | ok fl =>
    cases fl with
    | ret u => exact I1.after hq
    | next => exact False.elim hq
    | brk => exact False.elim hq
    | cont => exact False.elim hq
/-- isinstance(e, c), e handled, its own dict tracked -/
def rIsX (K : PySem.W.Frag) (D a : Addr) (dx : Option Addr) : List V → Hp → VK → Prop := fun xs H Q => ∃ (c : V) (cv : Value) (b : Bool), xs = [.ref a, c] ∧ (∀ u, RelV c u → u = cv) ∧ PySem.W.kitOne K (.ref D) cv = some b ∧ (∀ d, dx = some d → ∃ fs, H d = some (.xd fs)) ∧ Q (.bl b) H
theorem call_isX {X : Cx} {p : Addr × Obj} {D : Addr} {dx : Option Addr} (C : ExcC X.K D) (hp : p ∈ X.pn) (hz : Zc (.ref D) dx p.2) (hf : ∃ vs, p.2.data = .fields vs) : CallR X (.builtin "isinstance") (rIsX X.K D p.1 dx) := by
  intro pins s σ H xs us Q I r h
  obtain ⟨c, cv, b, rfl, hcv, e, hd, q⟩ := h
  cases r with
  | cons rx rr =>
    cases rr with
    | cons rt rr =>
      cases rr
      cases rx
      have ec := hcv _ rt
      subst ec
      obtain ⟨hget, _⟩ := I.pin p (List.mem_append_left _ hp)
      obtain ⟨a, oe⟩ := p
      obtain ⟨vs, hv⟩ := hf
      obtain ⟨oc, od, oda, osl⟩ := oe
      obtain ⟨h1, h2⟩ := hz
      dsimp only at h1 h2 hv hget
      subst h1 h2 hv
      have J : ∃ ox, PySem.W.InstAt s.heap a { cls := .ref D, dict := od, data := .fields vs, slots := osl } D ox := by
        cases od with
        | none => exact ⟨none, hget, rfl, rfl, trivial⟩
        | some d =>
          obtain ⟨fs, hH⟩ := hd d rfl
          obtain ⟨mA, ⟨o, _, _, ho, _⟩, _⟩ := (show ObjOk X.prog X.w H s.heap d (.xd fs) from I.hok d _ hH)
          exact ⟨some o, hget, rfl, rfl, ho⟩
      obtain ⟨ox, J⟩ := J
      have hcl : (PySem.W.clsIn X.K D).isSome = true := by
        obtain ⟨cd, hc, _⟩ := PySem.W.any_some C.hd
        rw [hc]
        rfl
      exact PySem.W.kia_one (PySem.W.kitx_exc hcl C.hg C.hk C.hs C.ha C.hn C.ht C.hm) I.kIn J e (fun z => nomatch z) fun tk => ⟨.bl b, H, I.kept (t' := tk) fun _ _ z => z, rfl, q⟩
end SQ
end
section
set_option Elab.async false
set_option linter.all false
set_option maxRecDepth 100000
set_option maxHeartbeats 4000000
namespace SQ
open PySem PySem.Spec PyProof.Rows L2 HotX L2H
def selS (l : List (Str × Bool)) : List Str := (l.filter (·.2)).map (·.1)
theorem selS_snoc (l : List (Str × Bool)) (p : Str × Bool) : selS (l ++ [p]) = if p.2 = true then selS l ++ [p.1] else selS l := by
  unfold selS
  rw [List.filter_append, List.map_append]
  cases h : p.2 <;> simp [h]
theorem same_newH {H : Hp} {p : Addr} {o : HO} (h : H p = none) : Same H (upd H p o) := fun b x e => by
  rw [upd_ne (ne_of_none e h)]
  exact e
/-- [x for x, y in zip(ls, bs) if y] -/
theorem lc_sel {K : PySem.W.Frag} {a b D : Addr} {ps : List (Str × Bool)} {i j : Nat} {vs : List Nat} {σ : L2.St} {Hb : Hp} {Qd : Hp → Prop} (ha : Hb a = some (.lst (ps.map fun p => V.str p.1))) (hb : Hb b = some (.lst (ps.map fun p => V.bl p.2))) (hD : Hb D = none) (hlen : ps.length ≤ 1000)
    (hw : ∀ x y, L2.wipe (((L2.wipe σ vs).set i (some x)).set j (some y)) vs = L2.wipe σ vs) (hi : ∀ x y, (((L2.wipe σ vs).set i (some x)).set j (some y))[i]? = some (some x)) (hj : ∀ x y, (((L2.wipe σ vs).set i (some x)).set j (some y))[j]? = some (some y))
    (hd : ∀ H, Same Hb H → H D = some (.lst ((selS ps).map V.str)) → Qd H) :
    ∃ W : Nat → Nat → Hp → Prop, (∃ m, W 0 m (upd Hb D (.lst []))) ∧ ∀ n m H, W n m H →
      ((ItzH K a b).stop n H ∧ Qd H) ∨ ((ItzH K a b).go n H ∧ ∃ Nx : Hp → Prop, (∀ H', Nx H' → ∃ m', m' < m ∧ W (n + 1) m' H') ∧ ∀ x H', (ItzH K a b).yld n H x H' → gTup K 2 (gCons (gName i) (gCons (gName j) gNil)) x (L2.wipe σ vs) H' fun σ2 H2 => L2.wipe σ2 vs = L2.wipe σ vs ∧ (fun σ3 H3 (Q : Bool → Hp → Prop) => tVar j σ3 H3 fun v H4 => ∃ k, v = V.bl k ∧ Q k H4) σ2 H2 fun b H3 =>
        if b = true then tVar i σ2 H3 fun y H4 => ∃ acc, H4 D = some (.lst acc) ∧ acc.length < sizeLine ∧ Nx (upd H4 D (.lst (acc ++ [y]))) else Nx H3) := by
  have aD : a ≠ D := ne_of_none ha hD
  have bD : b ≠ D := ne_of_none hb hD
  refine ⟨fun n m H => m = ps.length - n ∧ n ≤ ps.length ∧ Same Hb H ∧ H D = some (.lst ((selS (ps.take n)).map V.str)), ⟨ps.length, rfl, Nat.zero_le _, same_newH hD, upd_same⟩, ?_⟩
  rintro n m H ⟨rfl, hn, sm, eD⟩
  have qa : SqL K H a (ps.map fun p => V.str p.1) := SqL.of (sm _ _ ha)
  have qb : SqL K H b (ps.map fun p => V.bl p.2) := SqL.of (sm _ _ hb)
  by_cases hlt : n < ps.length
  · have hp : ps[n]? = some ps[n] := List.getElem?_eq_getElem hlt
    have ea : (ps.map fun p => V.str p.1)[n]? = some (V.str ps[n].1) := by rw [List.getElem?_map, hp]; rfl
    have eb : (ps.map fun p => V.bl p.2)[n]? = some (V.bl ps[n].2) := by rw [List.getElem?_map, hp]; rfl
    refine .inr ⟨⟨_, _, _, _, qa, qb, ea, eb⟩, fun H' => Same Hb H' ∧ H' D = some (.lst ((selS (ps.take (n + 1))).map V.str)), fun H' h' => ⟨ps.length - (n + 1), by omega, rfl, hlt, h'.1, h'.2⟩, fun v H' y => ?_⟩
    obtain ⟨T, x, y, rfl, hT, rfl, f1, f2⟩ := y
    have ex := f1 _ qa
    have ey := f2 _ qb
    rw [ea] at ex
    rw [eb] at ey
    cases ex
    cases ey
    have TD : T ≠ D := fun z => by
      rw [z, eD] at hT
      cases hT
    have sT : Same Hb (upd H T (.tup [V.str ps[n].1, V.bl ps[n].2])) := sm.trans (same_newH hT)
    have eDT : (upd H T (.tup [V.str ps[n].1, V.bl ps[n].2])) D = some (.lst ((selS (ps.take n)).map V.str)) := by rw [upd_ne TD.symm]; exact eD
    have tk : ps.take (n + 1) = ps.take n ++ [ps[n]] := by rw [List.take_add_one, hp]; rfl
    have sn : selS (ps.take (n + 1)) = if ps[n].2 = true then selS (ps.take n) ++ [ps[n].1] else selS (ps.take n) := by rw [tk, selS_snoc]
    refine ⟨T, _, rfl, SqT.of upd_same, rfl, V.str ps[n].1, _, rfl, V.bl ps[n].2, [], rfl, rfl, hw _ _, _, hj _ _, _, rfl, ?_⟩
    generalize hc : ps[n].2 = c at sn
    cases c with
    | false =>
      rw [if_neg (by decide)] at sn
      refine iteF ⟨by rw [← hc]; exact sT, ?_⟩
      rw [sn, ← hc]
      exact eDT
    | true =>
      rw [if_pos rfl] at sn
      refine iteT ⟨_, hi _ _, _, by rw [← hc]; exact eDT, ?_, ?_, ?_⟩
      · rw [List.length_map]
        have : (selS (ps.take n)).length ≤ (ps.take n).length := by
          unfold selS
          rw [List.length_map]
          exact List.length_filter_le _ _
        rw [List.length_take] at this
        rw [sizeLine_eq]
        omega
      · intro b o e
        have bne : b ≠ D := fun z => by
          rw [z, hD] at e
          cases e
        rw [upd_ne bne, ← hc]
        exact sT b o e
      · rw [upd_same, sn, List.map_append]
        rfl
  · have e : n = ps.length := by omega
    subst e
    rw [List.take_length] at eD
    exact .inl ⟨⟨_, qa, by rw [List.length_map]; exact Nat.le_refl _⟩, hd H sm eD⟩
end SQ
end
section
set_option Elab.async false
set_option linter.all false
set_option maxRecDepth 100000
set_option maxHeartbeats 4000000
namespace SQ
open PySem PySem.Spec PyProof.Rows L2 HotX L2H
def labelT : Str := "square sides number facts bounds many value"
def labelL : List Str := ["square", "sides", "number", "facts", "bounds", "many", "value"]
theorem label_split : Txt.split labelT " " = labelL := by decide +kernel
def namesOut (bs : List Bool) : Str := Txt.join " " (selS (labelL.zip bs))
def spNames (a : Addr) (dx : Option Addr) (bs : List Bool) : Sp := fun vs H Q _ => vs = [.ref a] ∧ (∀ d, dx = some d → ∃ fs, H d = some (.xd fs)) ∧ ∀ H', Same H H' → Q (.str (namesOut bs)) H'
theorem sel_small : ∀ b1 b2 b3 b4 b5 b6 b7 : Bool, ((selS (labelL.zip [b1, b2, b3, b4, b5, b6, b7])).map (·.length)).sum + (selS (labelL.zip [b1, b2, b3, b4, b5, b6, b7])).length * (" " : Str).length ≤ 16777216 := by decide +kernel
abbrev s_names : Stmt := topS 55
theorem sc_names : FnScope ["_law_error", "_law_kinds_so", "_law_labels", "_law_label", "_law_fine"] ["_law_error"] (defScope s_names) := ⟨rfl, rfl, rfl, by decide +kernel, rfl, by decide +kernel, by decide +kernel⟩
theorem xd_same {H H' : Hp} {dx : Option Addr} (s : Same H H') (h : ∀ d, dx = some d → ∃ fs, H d = some (.xd fs)) : ∀ d, dx = some d → ∃ fs, H' d = some (.xd fs) := fun d e => by
  obtain ⟨fs, q⟩ := h d e
  exact ⟨fs, s _ _ q⟩
theorem fn_names {P : Program} {w : World} {K : PySem.W.Frag} {mg : Str → Option Value} {base : Heap} {f : Addr} {fd : FuncData} (F : Fun K "_law_names" "_law_names" s_names f fd) (mi : mg "isinstance" = none) (mz : mg "zip" = none) (gv : mg "ValueError" = none)
    {C1 : Addr} (g1 : mg "InvalidSquare" = some (.ref C1))    {C2 : Addr} (g2 : mg "InvalidSides" = some (.ref C2))    {C3 : Addr} (g3 : mg "InvalidNumber" = some (.ref C3))    {C4 : Addr} (g4 : mg "InvalidFacts" = some (.ref C4))    {C5 : Addr} (g5 : mg "InvalidBounds" = some (.ref C5))    {C6 : Addr} (g6 : mg "TooMany" = some (.ref C6))
    {p : Addr × Obj} {D : Addr} {dx : Option Addr} (C : ExcC K D) (hz : Zc (.ref D) dx p.2) (hf : ∃ vs, p.2.data = .fields vs) {b1 b2 b3 b4 b5 b6 b7 : Bool}
    (k1 : PySem.W.kitOne K (.ref D) (.ref C1) = some b1) (k2 : PySem.W.kitOne K (.ref D) (.ref C2) = some b2) (k3 : PySem.W.kitOne K (.ref D) (.ref C3) = some b3) (k4 : PySem.W.kitOne K (.ref D) (.ref C4) = some b4) (k5 : PySem.W.kitOne K (.ref D) (.ref C5) = some b5) (k6 : PySem.W.kitOne K (.ref D) (.ref C6) = some b6) (k7 : PySem.W.kitOne K (.ref D) (.type "ValueError") = some b7) :
    FnP p P w K mg base CX0 1 f fd ["_law_error"] (spNames p.1 dx [b1, b2, b3, b4, b5, b6, b7]) := by
  refine fnP_of F sc_names (fun vs H Q E h => by rw [h.1]; rfl) (fun cdv A outer s H vs Q E hot hr h => ?_)
  obtain ⟨rfl, hd, q⟩ := h
  obtain ⟨a, oe⟩ := p
  have isx := call_isX (X := cxH CX0 P w K mg base ["_law_error", "_law_kinds_so", "_law_labels", "_law_label", "_law_fine"] "_law_names" (defScope s_names) f cdv A outer s H E (a, oe)) (p := (a, oe)) C (List.mem_singleton.mpr rfl) hz hf
  refine ⟨_, pss_cons (ps_set (i := 1) sc_names.nd rfl (.inl rfl) (pe_lst (pa_cons (pe_callB isx (by rfl) mi (by decide +kernel) (pa_cons (pv 0) (pa_cons (pe_glob (v := .ref C1) (by rfl) g1 rfl) pa_nil))) (pa_cons (pe_callB isx (by rfl) mi (by decide +kernel) (pa_cons (pv 0) (pa_cons (pe_glob (v := .ref C2) (by rfl) g2 rfl) pa_nil))) (pa_cons (pe_callB isx (by rfl) mi (by decide +kernel) (pa_cons (pv 0) (pa_cons (pe_glob (v := .ref C3) (by rfl) g3 rfl) pa_nil))) pa_nil)))))
    (pss_cons (ps_set (i := 1) sc_names.nd rfl (.inl rfl) (pe_op op_cat (pv 1) (pe_lst (pa_cons (pe_callB isx (by rfl) mi (by decide +kernel) (pa_cons (pv 0) (pa_cons (pe_glob (v := .ref C4) (by rfl) g4 rfl) pa_nil))) (pa_cons (pe_callB isx (by rfl) mi (by decide +kernel) (pa_cons (pv 0) (pa_cons (pe_glob (v := .ref C5) (by rfl) g5 rfl) pa_nil))) pa_nil)))))
    (pss_cons (ps_set (i := 1) sc_names.nd rfl (.inl rfl) (pe_op op_cat (pv 1) (pe_lst (pa_cons (pe_callB isx (by rfl) mi (by decide +kernel) (pa_cons (pv 0) (pa_cons (pe_glob (v := .ref C6) (by rfl) g6 rfl) pa_nil))) (pa_cons (pe_callB isx (by rfl) mi (by decide +kernel) (pa_cons (pv 0) (pa_cons (pe_bltn (v := .ty "ValueError") (by rfl) gv (by decide +kernel) rfl) pa_nil))) pa_nil)))))
    (pss_cons (ps_set (i := 2) sc_names.nd rfl (.inl rfl) pe_str)
    (pss_one (ps_ret (pe_join pe_str (pe_lcH (own := [("_law_label", 3), ("_law_fine", 4)]) (p := (a, oe)) hot (List.mem_singleton.mpr rfl) sc_names.nd
      (pi_zipH (by rfl) mz (pa_cons (pe_split (pv 2) pe_str) (pa_cons (pv 1) pa_nil))) (blkOk_by (by kernel_rfl))
      (g := gTup K 2 (gCons (gName 3) (gCons (gName 4) gNil))) (fun s0 H0 _ _ fp0 => g_tpH (X := blkP _ (a, oe) s0 H0 _ _ fp0) (n := 2) ⟨(a, oe), hot, List.mem_singleton.mpr rfl⟩ (pgs_cons (pg_name (i := 3) sc_names.nd rfl (.inl rfl) (.inr rfl)) (pgs_cons (pg_name (i := 4) sc_names.nd rfl (.inl rfl) (.inr rfl)) pgs_nil)))
      (fun _ _ _ _ _ => pts_one (pt_val (pv 4))) (fun _ _ _ _ _ => pv 3)))))))), ?_⟩
  refine ⟨.ref a, rfl, .ref C1, _, b1, rfl, fun _ h => h, k1, hd, .ref a, rfl, .ref C2, _, b2, rfl, fun _ h => h, k2, hd, .ref a, rfl, .ref C3, _, b3, rfl, fun _ h => h, k3, hd, (by show 3 ≤ sizeLine; decide), fun l1 n1 => ?_⟩
  have s1 := same_newH (o := .lst [.bl b1, .bl b2, .bl b3]) n1
  have hd1 := xd_same s1 hd
  refine ⟨.ref l1, rfl, .ref a, rfl, .ref C4, _, b4, rfl, fun _ h => h, k4, hd1, .ref a, rfl, .ref C5, _, b5, rfl, fun _ h => h, k5, hd1, (by show 2 ≤ sizeLine; decide), fun l2 n2 => ?_⟩
  have s2 := s1.trans (same_newH (o := .lst [.bl b4, .bl b5]) n2)
  have l12 : l1 ≠ l2 := ne_of_none upd_same n2
  refine ⟨l1, l2, _, _, rfl, rfl, (upd_ne l12).trans upd_same, upd_same, (by show 3 + 2 ≤ sizeLine; decide), fun l3 n3 => ?_⟩
  have s3 := s2.trans (same_newH (o := .lst [.bl b1, .bl b2, .bl b3, .bl b4, .bl b5]) n3)
  have hd3 := xd_same s3 hd
  refine ⟨.ref l3, rfl, .ref a, rfl, .ref C6, _, b6, rfl, fun _ h => h, k6, hd3, .ref a, rfl, .ty _, _, b7, rfl, fun _ h => h, k7, hd3, (by show 2 ≤ sizeLine; decide), fun l4 n4 => ?_⟩
  have s4 := s3.trans (same_newH (o := .lst [.bl b6, .bl b7]) n4)
  have l34 : l3 ≠ l4 := ne_of_none upd_same n4
  refine ⟨l3, l4, _, _, rfl, rfl, (upd_ne l34).trans upd_same, upd_same, (by show 5 + 2 ≤ sizeLine; decide), fun l5 n5 => ?_⟩
  have s5 := s4.trans (same_newH (o := .lst [.bl b1, .bl b2, .bl b3, .bl b4, .bl b5, .bl b6, .bl b7]) n5)
  refine ⟨⟨_, rfl⟩, .str labelT, rfl, ⟨_, rfl⟩, labelT, " ", rfl, rfl, by decide +kernel, (by decide +kernel), fun p6 n6 => ?_⟩
  rw [label_split]
  have s6 := s5.trans (same_newH (o := .lst (labelL.map V.str)) n6)
  have l56 : l5 ≠ p6 := ne_of_none upd_same n6
  refine ⟨.ref l5, rfl, p6, l5, labelL.map V.str, [.bl b1, .bl b2, .bl b3, .bl b4, .bl b5, .bl b6, .bl b7], rfl, SqL.of upd_same, SqL.of ((upd_ne l56).trans upd_same), fun Dn nD => ?_⟩
  refine lc_sel (i := 3) (j := 4) (ps := labelL.zip [b1, b2, b3, b4, b5, b6, b7]) upd_same ((upd_ne l56).trans upd_same) nD (by show 7 ≤ 1000; decide) (fun _ _ => rfl) (fun _ _ => rfl) (fun _ _ => rfl) fun H' sm eD => ?_
  refine ⟨_, Dn, _, rfl, rfl, .inl (SqL.of eD), ?_, q H' (s6.trans sm)⟩
  exact sel_small _ _ _ _ _ _ _
end SQ
end
section
set_option Elab.async false
set_option linter.all false
set_option maxRecDepth 100000
set_option maxHeartbeats 4000000
/-! A lambda handed to a def; what it raises has no context. -/
namespace SQ
open PySem PySem.Spec PyProof.Rows L2 HotX L2H LamX
/-- the context of a lambda's body: what leaves it is wished for as L2N does -/
def lamN (X : Cx) (A : Around) (outer : List Env) (s : Shared) (H : Hp) (E : XK) (scope : Scope) (f c' : Addr) : Cx :=
  { lamCx X A outer s H E scope f c' with xe := fun e s' => wpAny (model X.prog X.w) (A.deeper (lamEnv X scope s.heap.objs.size f c')) (leaving (lamEnv X scope s.heap.objs.size f c') e) (fun _ s'' => L2N.CX X.prog X.w outer H s E e s'') (fun e' s'' => L2N.CX X.prog X.w outer H s E e' s'') s' }
theorem lamN_inv {X : Cx} {A : Around} {outer : List Env} {s s1 : Shared} {H H1 : Hp} {E : XK} {scope : Scope} {f c' : Addr} {σ : L2.St} {pins : List (Addr × Obj)} (I : Inv (lamCx X A outer s H E scope f c') pins σ H1 s1) : Inv (lamN X A outer s H E scope f c') pins σ H1 s1 :=
  ⟨⟨I.ok.mod, I.ok.kind, I.ok.glob, I.ok.blt, I.ok.above, I.ok.inj, I.ok.has, I.ok.cab, I.ok.hd, I.ok.frames, I.ok.stk, I.ok.exf, I.ok.bs, I.ok.bsz, I.ok.noex, I.ok.exfs, I.ok.funs, I.ok.frf⟩, I.os, I.bare, I.base, I.loc, I.cell, I.free, I.freeC, I.pin, I.hok, I.len⟩
theorem lamN_of {X : Cx} {A : Around} {outer : List Env} {s s1 : Shared} {H H1 : Hp} {E : XK} {scope : Scope} {f c' : Addr} {σ : L2.St} {pins : List (Addr × Obj)} (I : Inv (lamN X A outer s H E scope f c') pins σ H1 s1) : Inv (lamCx X A outer s H E scope f c') pins σ H1 s1 :=
  ⟨⟨I.ok.mod, I.ok.kind, I.ok.glob, I.ok.blt, I.ok.above, I.ok.inj, I.ok.has, I.ok.cab, I.ok.hd, I.ok.frames, I.ok.stk, I.ok.exf, I.ok.bs, I.ok.bsz, I.ok.noex, I.ok.exfs, I.ok.funs, I.ok.frf⟩, I.os, I.bare, I.base, I.loc, I.cell, I.free, I.freeC, I.pin, I.hok, I.len⟩
theorem lamN_passes {X : Cx} {A : Around} {outer : List Env} {s : Shared} {H : Hp} {E : XK} {scope : Scope} {f c' : Addr} : Passes (L2N.CX (lamN X A outer s H E scope f c').prog (lamN X A outer s H E scope f c').w) (lamN X A outer s H E scope f c') E :=
  L2N.passes_call (L2N.takes_of rfl rfl rfl rfl) fun _ _ _ _ h => h
/-- the def that got the lambda at f calls it -/
abbrev CxG (X : Cx) (Ng : List Str) (x : Str) (sg : Scope) (g : Addr) (cdg : Value) (s : Shared) (H : Hp) : Cx := cxOf CX0 X.prog X.w X.K X.mg X.base Ng x sg g cdg X.A X.stack s H E0
def GivesN (X : Cx) (Ng : List Str) (x : Str) (sg : Scope) (g : Addr) (cdg : Value) (bg : List Stmt) (a : Str) (q : Str) (TT : (XK → Hp → VK → Prop) → Hp → VK → Prop) : Prop :=
  ∀ (f c' : Addr) (s : Shared) (H : Hp) (Q : VK) (tl : XK → Hp → VK → Prop), Room 2 ((CxG X Ng x sg g cdg s H).A) →
    (∀ (W : WX) (pn : List (Addr × Obj)) (xe : Value → Shared → Prop) (E : XK) (p1 p2 : Pos), L2N.Takes ((CxG X Ng x sg g cdg s H).tr pn xe) W → (∀ cls d σ' H', E cls d H' → W cls d σ' H') →
      PE ((CxG X Ng x sg g cdg s H).tr pn xe) (.Call (.Name a p1) [] [] p2) (fun σZ HZ Q => σZ[0]? = some (some (.ref f)) ∧ HZ c' = some (CodeO c' q) ∧ tl E HZ Q)) →
    H c' = some (CodeO c' q) → TT tl H Q →
    ∃ t, PSs (CxG X Ng x sg g cdg s H).nox bg t ∧ t { nx := fun _ H' => Q .non H', rt := Q } (L2.start Ng [.ref f]) H
section
variable {X : Cx} {pins : List (Addr × Obj)} {σ : L2.St} {H HZ : Hp} {s s1 : Shared}
theorem actN {Ng : List Str} {qg : Str} {sg : Scope} {g f c' : Addr} {cdg pm ctv : Value} {params : Arguments} {body : Expr} {scope : Scope} {k i : Nat} {a : Str} {pn : List (Addr × Obj)} {xe : Value → Shared → Prop} {W : WX} {E : XK} {tb : TE} {p1 p2 : Pos}
    (I : Inv X pins σ H s) (L : LamS X.env.scope scope) (hf : s.heap.get? f = some (PySem.W.kla_obj "<lambda>" (X.env.qual ++ "<lambda>") params body scope (cloFrom X.env.cells scope.names []) pm c' ctv)) (hfn : H f = none) (hfr : f ∉ frs X.stack)
    (hbind : bindArgs (PySem.W.kla_fn "<lambda>" (X.env.qual ++ "<lambda>") params body scope (cloFrom X.env.cells scope.names []) pm (.ref c') ctv) ⟨[], []⟩ = pure [])
    (tk : L2N.Takes ((CxG X Ng qg sg g cdg s H).tr pn xe) W) (hW : ∀ cls d σ' H', E cls d H' → W cls d σ' H') (hr : Room (k + 1) (X.A.deeper (envOfC qg sg s.heap.objs.size g cdg)))
    (hbody : ∀ (A : Around) (outer : List Env) (s : Shared) (H : Hp), Room k (A.deeper (lamEnv X scope s.heap.objs.size f c')) → PE (lamN X A outer s H E scope f c') body tb)
    (hN : Ng[i]? = some a) (hv : Vis sg a) (hd : (a == ("__debug__" : Str)) = false := by decide) (hcd : (a == ("__classdict__" : Str)) = false := by decide) :
    PE ((CxG X Ng qg sg g cdg s H).tr pn xe) (.Call (.Name a p1) [] [] p2) (fun σZ HZ Q => σZ[i]? = some (some (.ref f)) ∧ HZ c' = some (CodeO c' (X.env.qual ++ "<lambda>")) ∧ tb σ HZ Q) := by
  refine ⟨fun pinsZ sZ σZ HZ Q IZ ⟨hs, hc, ht⟩ => ?_⟩
  refine wpAny_Call_Name_kw (thn ((pe_var (pos := p1) (i := i) hN hv hd hcd).run pinsZ sZ σZ HZ (fun v H1 => v = .ref f ∧ H1 = HZ) IZ ⟨.ref f, hs, rfl, rfl⟩) fun u s1 ⟨v, H1, I1, r1, ev, eH⟩ => ?_)
  subst ev eH
  obtain rfl : u = Value.ref f := r1
  have of1 : s1.heap.get? f = some _ := I1.base.keep f _ hf hfn hfr (fun z => nomatch (show f ∈ ([] : List Addr) from z))
  refine PySem.W.callWith_F0 ⟨_, _, _, _, of1⟩ ?_
  obtain ⟨⟨oc, vs, t, hoc, hdc, hvc⟩, _, _⟩ := I1.hok c' _ hc
  have rc : codeAny (model X.prog X.w) (X.A.deeper (envOfC qg sg s.heap.objs.size g cdg)) (.call (.ref f) ⟨[], []⟩) (CR (L2N.CX X.prog X.w) (envOfC qg sg s.heap.objs.size g cdg :: X.stack) X.prog X.w H1 s1 Q E) s1 := by
    refine PySem.W.kla_callFunE hr.depth of1 rfl L.co L.gen rfl ⟨c', oc, vs, t, rfl, hoc, hdc, hvc⟩ ?_
    rw [hbind]
    refine wpAny_pure (wpAny_newFunctionEnv (fun y hy => (L.own y hy).2) (fun y hy => absurd hy (by simp)) (fun h₁ hns hsb => ⟨I1.nolimit.fresh _ hsb, ?_⟩) L.kind)
    show codeAny _ _ (.expr body (lamEnv X scope s1.heap.objs.size f c')) _ _
    have J := lamN_inv (lam_start2 (E := E) (f := f) (c' := c') (tk := s1.toks + ([] : List (Str × Value)).length) I L I1.env0 hr.hd I1.base hns fun b o e => hsb.extBut b o (Nat.ne_of_lt (Heap.lt_size e)) (Heap.get?_push_of_some _ e))
    refine PySem.W.kla_codeExpr (wpAny_mono ((hbody _ _ s1 H1 (hr.deeper _)).run [] _ _ H1 Q J ht) (fun v s' ⟨w', H', J', rv, q⟩ => ?_) fun e s' hq => hq)
    exact ⟨w', H', J'.os, J'.bare, J'.base, J'.hok, rv, q⟩
  refine wpAny_call (codeAny_mono rc fun r s' hq => ?_)
  cases r with
  | error e => exact L2N.passes_call tk hW pinsZ σZ H1 s1 e s' I1 hq
  | ok fl =>
    cases fl with
    | ret u => exact I1.after hq
    | next => exact False.elim hq
    | brk => exact False.elim hq
    | cont => exact False.elim hq
end
section
variable {X : Cx}
/-- x(lambda: body) -/
theorem lamcallN {T : List (Addr × Str)} {TT : (XK → Hp → VK → Prop) → Hp → VK → Prop} {x a : Str} {g c P : Addr} {k : Nat} {pg : Arguments} {bg : List Stmt} {sg : Scope} {dV kV doc pm cdv ct oc : Value} {an od : Option Addr} {osl : Array (Option Value)} {Ng : List Str}
    {params : Arguments} {body : Expr} {scope : Scope} {t : XK → TE} {p lpos pos : Pos} (hg : Gl X x) (hm : X.mg x = some (.ref g)) (hk : PySem.W.keepIn X.K (.ref g) = true)
    (lk : X.K.lookup g = some ⟨oc, od, .func (PySem.W.fnOf x x pg bg sg dV kV doc pm an cdv ct), osl⟩) (hcg : PySem.W.codeIn X.K cdv x = true) (hb : L2.Binds X.K (PySem.W.fnOf x x pg bg sg dV kV doc pm an cdv ct) [a] []) (Sg : FnScope Ng [a] sg) (hNg : Ng[0]? = some a) (hva : Vis sg a)
    (hG : GivesN X Ng x sg g cdv bg a (X.env.qual ++ "<lambda>") TT)
    (TB : TabB X.base X.mg c P) (hcode : X.env.code = .ref c) (hmT : (P, X.env.qual ++ "<lambda>") ∈ T) (hu : ∀ p ∈ T, p.1 = P → p.2 = X.env.qual ++ "<lambda>") (hk2 : 1 ≤ k) (hr : Room (k + 2) X.A) (L : LamS X.env.scope scope) (hdef : defaultsOf params X.env = ([], []))
    (hbind : ∀ (q : Str) (cl : List (Str × Addr)) (pm cv ctv : Value), bindArgs (PySem.W.kla_fn "<lambda>" q params body scope cl pm cv ctv) ⟨[], []⟩ = pure [])
    (hbody : ∀ (A : Around) (outer : List Env) (s : Shared) (H : Hp) (E : XK) (f c' : Addr), Room k (A.deeper (lamEnv X scope s.heap.objs.size f c')) → PE (lamN X A outer s H E scope f c') body (t E))
    (hdb : (x == ("__debug__" : Str)) = false := by decide) (hd : (a == ("__debug__" : Str)) = false := by decide) (hcd : (a == ("__classdict__" : Str)) = false := by decide) :
    PE X (.Call (.Name x p) [.Lambda params body scope lpos] [] pos) (tLam T TT t) := by
  refine ⟨fun pins s σ H Q I ⟨hT, h⟩ => ?_⟩
  refine wpAny_Call_Name_kw (ld_glob I hg hm ?_ hdb)
  refine PySem.W.callWith_K (h₀ := X.base) I.ok.mod.kin hk ?_ (by rfl) (by rfl)
  show wpAny _ _ (spliced ((false, eval (.Lambda params body scope lpos) X.env) :: backTo pos (starEach [] X.env))) _ _ s
  refine Calls.spliced_cons (lam_make2 I TB hcode hmT hu hT hdef (L.has I.ok) fun f c' pm' ctv H1 s' I1 eN T1 hf hfn hfr hco => Calls.spliced_nil ⟨I1.kIn, ?_⟩)
  have rc : codeAny (model X.prog X.w) X.A (.call (.ref g) ⟨[.ref f], []⟩) (CR CX0 X.stack X.prog X.w H1 s' Q E0) s' := by
    refine run_ofS (N := Ng) (ps := [a]) (us := [.ref f]) (vs := [.ref f]) lk hcg Sg hr I1.env0 (hb s' [.ref f] I1.kIn rfl) (.cons rfl .nil) rfl fun hr' => ?_
    obtain ⟨t', ht', hq'⟩ := hG f c' s' H1 Q (fun E H' Q' => t E σ H' Q') (hr'.mono (by omega)) (fun W pn xe E p1 p2 tk hW => actN (i := 0) I1 L hf hfn hfr (hbind _ _ _ _ _) tk hW hr' (fun A outer s H hr2 => hbody A outer s H E f c' hr2) hNg hva hd hcd) hco (h H1 eN T1)
    exact ⟨t', ht'.nox, hq'⟩
  refine wpAny_call (codeAny_mono rc fun r s2 hq => ?_)
  cases r with
  | error e => exact (show False from hq).elim
  | ok fl =>
    cases fl with
    | ret u => exact I1.after hq
    | next => exact False.elim hq
    | brk => exact False.elim hq
    | cont => exact False.elim hq
end
end SQ
end
section
set_option Elab.async false
set_option linter.all false
set_option maxRecDepth 100000
set_option maxHeartbeats 4000000
/-! _law_word -/
namespace SQ
open PySem PySem.Spec PyProof.Rows L2 HotX L2H LamX
/-- the classes' names -/
structure Cls6 (mg : Str → Option Value) (C : Fin 7 → Addr) : Prop where
  g0 : mg "InvalidSquare" = some (.ref (C 0))
  g1 : mg "InvalidSides" = some (.ref (C 1))
  g2 : mg "InvalidNumber" = some (.ref (C 2))
  g3 : mg "InvalidFacts" = some (.ref (C 3))
  g4 : mg "InvalidBounds" = some (.ref (C 4))
  g5 : mg "TooMany" = some (.ref (C 5))
  g6 : mg "SignError" = some (.ref (C 6))
  gv : mg "ValueError" = none
/-- what is told of a class D of errors: its answers to isinstance, and that SignError is above it -/
structure ErrK (K : PySem.W.Frag) (C : Fin 7 → Addr) (D : Addr) (b1 b2 b3 b4 b5 b6 b7 : Bool) : Prop where
  c : ExcC K D
  k0 : PySem.W.kitOne K (.ref D) (.ref (C 0)) = some b1
  k1 : PySem.W.kitOne K (.ref D) (.ref (C 1)) = some b2
  k2 : PySem.W.kitOne K (.ref D) (.ref (C 2)) = some b3
  k3 : PySem.W.kitOne K (.ref D) (.ref (C 3)) = some b4
  k4 : PySem.W.kitOne K (.ref D) (.ref (C 4)) = some b5
  k5 : PySem.W.kitOne K (.ref D) (.ref (C 5)) = some b6
  k7 : PySem.W.kitOne K (.ref D) (.type "ValueError") = some b7
  m : PySem.W.exmOne K (.ref D) (.ref (C 6)) = some true
abbrev s_word : Stmt := topS 56
theorem sc_word : FnScope ["_law_call", "_law_error"] ["_law_call"] (defScope s_word) := ⟨rfl, rfl, rfl, by decide +kernel, rfl, by decide +kernel, by decide +kernel⟩
/-- how an error of the class D is answered -/
def Told (K : PySem.W.Frag) (C : Fin 7 → Addr) (Q : VK) : XK := fun cls d H' => ∃ (D : Addr) (b1 b2 b3 b4 b5 b6 b7 : Bool), cls = .ref D ∧ ErrK K C D b1 b2 b3 b4 b5 b6 b7 ∧ (∀ x, d = some x → ∃ fs, H' x = some (.xd fs)) ∧ ∀ H'', Same H' H'' → Q (.str (namesOut [b1, b2, b3, b4, b5, b6, b7])) H''
def TTW (K : PySem.W.Frag) (C : Fin 7 → Addr) : (XK → Hp → VK → Prop) → Hp → VK → Prop := fun tl H Q => tl (Told K C Q) H fun _ H' => Q (.str "") H'
theorem takesN0 {X : Cx} : L2N.Takes X (fun _ _ _ _ => False) := fun _ _ x => by
  obtain ⟨_, _, _, _, _, _, _, _, _, _, _, _, _, _, _, _, z⟩ := x
  exact z.elim
theorem word_gives {X : Cx} {C : Fin 7 → Addr} (G : Cls6 X.mg C) {g : Addr} {cdg : Value} {q : Str} {fn : Addr} {fdn : FuncData} (F : Fun X.K "_law_names" "_law_names" s_names fn fdn) (mi : X.mg "isinstance" = none) (mz : X.mg "zip" = none)
    (gn : X.mg "_law_names" = some (.ref fn)) (kn : PySem.W.keepIn X.K (.ref fn) = true) (bn : Binds X.K fdn ["_law_error"] []) : GivesN X ["_law_call", "_law_error"] "_law_word" (defScope s_word) g cdg (defBody s_word) "_law_call" q (TTW X.K C) := by
  intro f c' s H Q tl hr act hc h
  refine ⟨_, pss_cons (L2N.ps_try_as (X := (CxG X ["_law_call", "_law_error"] "_law_word" (defScope s_word) g cdg s H).nox) (c := .ref (C 6)) (i := 1) (Wout := fun _ _ _ _ => False)
      (tb := fun W D σ H => ∃ Ech : XK, (∀ cls d σ' H', Ech cls d H' → W cls d σ' H') ∧ σ[0]? = some (some (.ref f)) ∧ H c' = some (CodeO c' q) ∧ tl Ech H fun _ H' => D.nx σ H')
      (ts := fun a cls d D σ H => (1 < σ.length → σ[1]? = some (some (.ref a))) ∧ Told X.K C D.rt cls d H)
      rfl rfl sc_word.nd rfl rfl ⟨rfl, by decide, .inl G.g6⟩ takesN0 (fun W pn xe tk _ => ?_) (fun a oe cls d pn hz hf => ?_)) (pss_one (ps_ret pe_str)), ?_⟩
  · refine ⟨fun pins s' σ H' D I ⟨Ech, hW, h1, h2, h3⟩ => ?_⟩
    exact (pss_one (ps_expr (act W pn xe Ech _ _ tk hW))).run pins s' σ H' D I ⟨h1, h2, h3⟩
  · refine ⟨fun pins s' σ H' D I ⟨h1, Dd, b1, b2, b3, b4, b5, b6, b7, hcls, ek, hd, hq⟩ => ?_⟩
    subst hcls
    have hot : Hot1 ((CxG X ["_law_call", "_law_error"] "_law_word" (defScope s_word) g cdg s H).nox.suite a ((a, oe) :: pn)).A (a, oe) := by
      obtain ⟨vs, hv⟩ := hf
      exact ⟨rfl, vs, hv, hz.2.2 vs hv⟩
    have FP := fn_names (P := X.prog) (w := X.w) (base := X.base) (p := (a, oe)) (D := Dd) (dx := d) F mi mz G.gv G.g0 G.g1 G.g2 G.g3 G.g4 G.g5 ek.c hz.zc hf ek.k0 ek.k1 ek.k2 ek.k3 ek.k4 ek.k5 ek.k7
    have rh : RoomH 1 ((CxG X ["_law_call", "_law_error"] "_law_word" (defScope s_word) g cdg s H).nox.suite a ((a, oe) :: pn)).A := by
      have r1 := hr.dp
      have r2 := hr.un
      constructor
      · show Around.depth (Around.mark _ _) + _ < _
        rw [show Around.depth (Around.mark (CxG X ["_law_call", "_law_error"] "_law_word" (defScope s_word) g cdg s H).A (some (.ref a))) = Around.depth (CxG X ["_law_call", "_law_error"] "_law_word" (defScope s_word) g cdg s H).A from rfl]
        omega
      · show Around.units (Around.mark _ _) + _ + _ < _
        rw [show Around.units (Around.mark (CxG X ["_law_call", "_law_error"] "_law_word" (defScope s_word) g cdg s H).A (some (.ref a))) = Around.units (CxG X ["_law_call", "_law_error"] "_law_word" (defScope s_word) g cdg s H).A from rfl]
        omega
    have pe := fun (q0 p0 r0 : Pos) => pe_callP (X := (CxG X ["_law_call", "_law_error"] "_law_word" (defScope s_word) g cdg s H).nox.suite a ((a, oe) :: pn)) (E := E0) FP rh hot List.mem_cons_self (by rfl) gn kn bn (fun _ _ _ _ _ _ _ z => z.elim)
      (pa_cons (e := .Name "_law_error" r0) (pv 1) pa_nil) (q := q0) (pos := p0)
    exact (pss_one (ps_ret (pe _ _ _))).run pins s' σ H' D I ⟨.ref a, h1 (by rw [I.len]; exact Nat.lt_succ_self 1), rfl, hd, hq⟩
  · refine ⟨Told X.K C Q, fun cls d σ' H' ⟨D, b1, b2, b3, b4, b5, b6, b7, hcls, ek, hd, hq⟩ => ?_, rfl, hc, h⟩
    subst hcls
    exact ⟨true, ek.m, fun _ a ha => ⟨fun hl => List.getElem?_set_self (by rw [List.length_set] at hl; exact hl), D, b1, b2, b3, b4, b5, b6, b7, rfl, ek, hd, hq⟩, fun z => Bool.noConfusion z⟩
end SQ
end
section
set_option Elab.async false
set_option linter.all false
set_option maxRecDepth 100000
set_option maxHeartbeats 4000000
/-! TooMany.__init__: super().__init__('too many'); self.limit = limit -/
namespace SQ
open PySem PySem.Spec PyProof.Rows L2 PySem.W PySem.Calls
def s_init : Stmt := match topS 7 with
  | .ClassDef _ _ _ b _ _ _ _ _ _ _ => b.getD 0 (.Pass ⟨0, 0, 0, 0⟩)
  | s => s
/-- what the written part says of the class at C and its __init__ at fI -/
structure TmK (P : Program) (K : PySem.W.Frag) (mg : Str → Option Value) (C fI : Addr) : Prop where
  ox : OexC K C
  lim : findIn K (.ref C) "limit" = some none
  ini : findIn K (.ref C) "__init__" = some (some (.ref fI))
  tI : typeIn K (.ref fI) = some (.type "function")
  fn : ∃ (oc : Value) (od : Option Addr) (kV doc pm : Value) (an : Option Addr) (cda : Addr) (ct : Value) (cc : Addr) (osl : Array (Option Value)) (ccl : Value) (cdd : Option Addr) (vs : Array Value) (ccs : Array (Option Value)) (file : Str) (tf : Tok) (cl : Value) (cld : Option Addr) (csl : Array (Option Value)),
    K.lookup fI = some ⟨oc, od, .func (ksFn "__init__" "TooMany.__init__" (defArgs s_init) (defBody s_init) (defScope s_init) .none kV doc pm an (.ref cda) ct cc), osl⟩ ∧ codeIn K (.ref cda) "TooMany.__init__" = true ∧ K.lookup cda = some ⟨ccl, cdd, .fields vs, ccs⟩ ∧ vs[2]? = some (.str file tf) ∧
      ((P.main.file : Str) == file) = true ∧ K.lookup cc = some ⟨cl, cld, .cell (some (.ref C)), csl⟩
  sup : mg "super" = none
  op : nsIn K cStatics "thirdparty.any" = some none
  sin : ks_superIn K C C "__init__" = some (some (.builtin "ValueError.__init__"))
  sV : subIn K (.ref C) (.type "ValueError") = some true
  sC : mroIn K C (.ref C) = some true
  top : (P.main.scope.names.lookup ("super" : Str)).isSome = false
section
variable {prog : Program} {w : World} {A : Around} {E : Value → Shared → Prop} {h : Heap} {g : Array GenState} {d : Drawn} {t : Nat} {os : OsState}
theorem mw_at {pos : Pos} {u x : Addr} {env : Env} {e : Expr} {Q : Value → Shared → Prop} {s : Shared}
    (hh : wpAny (model prog w) A (eval e env) (fun v s₁ => KxsAt "ValueError.__init__" u x s₁.heap ∧ wpAny (model prog w) A (call (.ref u) [v]) Q E s₁) E s)
    (he : starEach [e] env = (false, eval e env) :: starEach [] env) : wpAny (model prog w) A (callWith pos (.ref u) [] (backTo pos (starEach [e] env)) []) Q E s := by
  rw [he]
  refine kxs_callWith (i := "ValueError.__init__") (x := x) (by rfl) (evalArgs_plain ?_)
  show wpAny _ _ (spliced ((false, eval e env) :: backTo pos (starEach [] env))) _ _ _
  exact spliced_cons (wpAny_mono hh (fun v s1 h1 => spliced_nil h1) fun _ _ z => z)
/-- the bound ValueError.__init__ called -/
theorem mw_call {nm q : Str} {C N : Addr} {bs bm : List Value} {hdct : Bool} {sn : List Str} {sub : List Value} {ab : Bool} {col : Option Bool} {dd : Option Addr} {k0 k1 k2 k3 k5 : Option Value} {u e t0 : Addr} {rest : List Value} {Q : Value → Shared → Prop}
    (hC : h.get? C = some (excClassObj nm q C N bs bm hdct sn sub ab col dd k0 k1 k2 k3 k5 "ValueError.__new__")) (he : h.get? e = some (HandSPX.excO C t0)) (hu : h.get? u = some (kxs_mw "ValueError.__init__" e)) (hrest : rest.length ≤ sizeLine)
    (hq : ∀ h' t1, (∀ b o, b ≠ e → h.get? b = some o → h'.get? b = some o) → h'.get? e = some (HandSPX.excO C t1) → Q .none ⟨h', g, d, t, os⟩) : wpAny (model prog w) A (call (.ref u) rest) Q E ⟨h, g, d, t, os⟩ := by
  refine wpAny_call (codeAny_of_tree ?_)
  show wpAny _ A.in1 (callAny (.ref u) ⟨rest, []⟩) _ _ _
  simp only [callAny]
  refine wpAny_bind (wpAny_load hu ?_)
  simp only [kxs_mw, show (Value.type "method-wrapper" == Value.type "method" || Value.type "method-wrapper" == Value.type "builtin_function_or_method" || Value.type "method-wrapper" == Value.type "method-wrapper") = true by decide, if_true]
  refine KFB.if_so (by decide) ?_
  refine wpAny_bind (check_bound_init F.excBase_ValueError.toExcCallFacts hC he rfl ?_)
  refine wpAny_bind (wpAny_pure (wpAny_pure ⟨plainId_quiet F.excBase_ValueError.init.plain _, codeAny_builtin F.excBase_ValueError.initEntry ?_⟩))
  rw [Around.under_plainId F.excBase_ValueError.init.plain _]
  wp_walk
  refine hq _ h.objs.size (fun b o hb ho => ?_) ?_
  · rw [Heap.get?_update_other _ _ (Ne.symm hb)]
    exact Heap.get?_push_of_some _ ho
  · rw [Heap.get?_update_self _ (Heap.get?_push_of_some _ he) rfl]
    rfl
end
end SQ
end
section
set_option Elab.async false
set_option linter.all false
set_option maxRecDepth 100000
set_option maxHeartbeats 4000000
namespace SQ
open PySem PySem.Spec PyProof.Rows L2 PySem.W PySem.Calls
/-- where a heap keeps what was there, but for e -/
def KpBut (e : Addr) (h h' : Heap) : Prop := ∀ b o, b ≠ e → h.get? b = some o → h'.get? b = some o
theorem init_cells : ∀ x ∈ (defScope s_init).names, x.2 ≠ .cell := by decide +kernel
theorem tm_walk {P : Program} {w : World} {K : PySem.W.Frag} {mg : Str → Option Value} {C fI : Addr} (T : TmK P K mg C fI) {A : Around} {hp : Heap} {g : Array GenState} {d : Drawn} {t : Nat} {os : OsState} {e t0 : Addr} {u : Value} {R : Result → Shared → Prop}
    (X : K.In hp) (glob : hp.Ns mainGlobals mg) (blt : ∃ mb, hp.Ns builtinsNs mb ∧ ∀ x : Str, x ≠ "__name__" → mb x = bootBuiltins x) (lim : hp.NoLimit) (hd : A.depth < recursionLimit) (hA : A.units + 64 < cLine) (hne : ∀ b o, K.lookup b = some o → b ≠ e) (he : hp.get? e = some (HandSPX.excO C t0))
    (hR : ∀ h' t' dx t1, KpBut e hp h' → hp.objs.size ≤ dx → dx ≠ e → h'.get? e = some { cls := .ref C, dict := some dx, data := .fields #[.ref t1, .none, .none, .none, .bool false, .none] } → h'.Ns1 dx (fun y => if y = "limit" then some u else none) → R (.ok (.ret .none)) ⟨h', g, d, t', os⟩) :
    codeAny (model P w) A (.call (.ref fI) ⟨[.ref e, u], []⟩) R ⟨hp, g, d, t, os⟩ := by
  obtain ⟨oc, od, kV, doc, pm, an, cda, ct, cc, osl, ccl, cdd, vs, ccs, file, tf, cl, cld, csl, lk, hcd, lcd, hvs, hfile, lcc⟩ := T.fn
  obtain ⟨nm, q, N, bs, bm, sn, sub, ab, col, dd, k0, k1, k2, k3, k5, hC, hbm⟩ := T.ox.cls
  have hcl : clsIn K C = some { name := nm, bases := bs, mro := .ref C :: bm, ns := N, qualname := q, hasDict := true, slotNames := sn, subclasses := sub, abstract := ab, collection := col, hasDel := false } := by unfold clsIn; rw [hC] <;> rfl
  obtain ⟨mb, hmb, hbb⟩ := blt
  have heC : e ≠ C := fun z => by
    have y := X _ _ hC
    rw [← z, he] at y
    cases y
  refine ks_codeAny_call_defAt (fd := ksFn "__init__" "TooMany.__init__" (defArgs s_init) (defBody s_init) (defScope s_init) .none kV doc pm an (.ref cda) ct cc) (body := defBody s_init) (binds := [("self", .ref e), ("limit", u)]) hd (X _ _ lk) rfl lim (codeRec_of X hcd) rfl (BindsTo.of_eq (by rfl)) init_cells (fun y hy => by
    rcases List.mem_cons.mp hy with rfl | hy
    · rfl
    · rcases List.mem_cons.mp hy with rfl | hy
      · rfl
      · cases hy) (fun h0 hns kp => ?_)
  have X0 : K.In h0 := X.keeps kp
  have he0 := kp _ _ he
  have hns' : h0.Ns (ksEnv "TooMany.__init__" (defScope s_init) hp.objs.size fI (.ref cda) cc).locals (fun x => List.lookup x ([("self", .ref e), ("limit", u)] : List (Str × Value)).reverse) := hns
  show _root_.PySem.wpAt (model P w) (A.deeper (ksEnv "TooMany.__init__" (defScope s_init) hp.objs.size fI (.ref cda) cc)) (.func (defBody s_init) (ksEnv "TooMany.__init__" (defScope s_init) hp.objs.size fI (.ref cda) cc)) (execs (defBody s_init) (ksEnv "TooMany.__init__" (defScope s_init) hp.objs.size fI (.ref cda) cc)) _ _ ⟨h0, g, d, t + 2, os⟩
  refine ks_wpAt_execs_cons (ks_wpAt_Expr_any (ks_wpAt_MethodCall ?_ (by rfl)) (by rfl) (by rfl))
  refine ks_wpAt_super_base (env := ksEnv "TooMany.__init__" (defScope s_init) hp.objs.size fI (.ref cda) cc) (by rfl) (by rfl) (by rfl) rfl (X0 _ _ lk) rfl (ar := (defArgs s_init).args.head!) (by rfl) rfl (X0 _ _ lcd) rfl hvs hfile T.top ?_
  refine ks_loadName_global (by rfl) (by rfl) (loadGlobal_builtin (mg := mg) (mb := mb) (glob.keeps kp) T.sup (hmb.keeps kp) ((hbb _ (by decide +kernel)).trans (by decide +kernel)) ⟨rfl, ?_⟩)
  refine wpAny_loadName_free (by rfl) (by rfl) (by rfl) ⟨_, X0 _ _ lcc, rfl⟩ ?_
  refine wpAny_loadName_local (by rfl) (by rfl) hns' (v := .ref e) (by rfl) ?_
  refine ks_wpAny_isType_cls (X0 _ _ hC) rfl ⟨rfl, ?_⟩
  refine ks_wpAny_call_super (X0 _ _ hC) rfl he0 rfl (fun c z => by cases z) (looks_mroIn X0 T.sC) (fun h1 hso k1' => ?_)
  have X1 : K.In h1 := X0.keeps k1'
  have he1 := k1' _ _ he0
  have hI : Looks (model P w) h1 (isInstance (.ref e) (.type "ValueError")) true := (InstAt.type (od := none) ⟨he1, rfl, rfl, trivial⟩).andThen (looks_subIn X1 T.sV)
  have hsin := T.sin
  unfold ks_superIn at hsin
  rw [hcl] at hsin
  refine kxs_getMethod kxs_ValueError hso (looks_opaque X1 T.op) (l₀ := .ref C :: bm) (fun A Q E s k z => wpAny_bind ((looks_clsIn X1 hcl) A _ E s k (wpAny_pure z))) rfl X1 hsin hI heC (by decide) ?_
  have hu : (h1.push (kxs_mw "ValueError.__init__" e)).get? h1.objs.size = some (kxs_mw "ValueError.__init__" e) := Heap.get?_push_size _ rfl
  have k2' : ∀ b o, h1.get? b = some o → (h1.push (kxs_mw "ValueError.__init__" e)).get? b = some o := fun b o z => Heap.get?_push_of_some _ z
  refine mw_at (x := e) ?_ (by rfl)
  refine Calls.Constant_str ⟨hu, ?_⟩
  refine mw_call (k2' _ _ (X1 _ _ hC)) (k2' _ _ he1) hu (by show 1 ≤ sizeLine; decide) (fun h3 t1 k3' he3 => ?_)
  have kp3 : KpBut e hp h3 := fun b o nb z => k3' b o nb (k2' _ _ (k1' _ _ (kp _ _ z)))
  have hns3 : h3.Ns (ksEnv "TooMany.__init__" (defScope s_init) hp.objs.size fI (.ref cda) cc).locals (fun x => List.lookup x ([("self", .ref e), ("limit", u)] : List (Str × Value)).reverse) := by
    obtain ⟨o, es, ep, ho, r⟩ := hns
    exact ⟨o, es, ep, k3' _ _ (Ne.symm (Nat.ne_of_lt (Heap.lt_size he))) (k2' _ _ (k1' _ _ ho)), r⟩
  have X3 : K.In h3 := fun b o z => k3' b o (hne b o z) (k2' _ _ (X1 _ _ z))
  refine ks_wpAt_execs_cons (wpAt_of_wpAny (plainObj_wpAny_Assign_Attribute (ESX.ldL hns3 (v := u) (by rfl) (ESX.ldL hns3 (v := .ref e) (by rfl) ?_)) (by rfl)))
  refine set_plain X3 (ox := HandSPX.excO C t1) (od := none) ⟨he3, rfl, rfl, trivial⟩ T.ox.sa ?_
  refine HandSPX.exc_osa X3 he3 hcl (show HandSPX.refsVE (.ref C :: bm) = true from hbm) rfl T.lim (fun h4 tk4 dx k4 dn dne hx hn => ?_)
  refine wpAt_of_wpAny (wpAny_execs_nil ?_)
  refine hR h4 _ dx t1 (fun b o nb z => k4 b o nb (kp3 b o nb z)) ?_ dne hx hn
  obtain ⟨o, es, ep, ho, r⟩ := hns3
  exact Nat.le_trans (Nat.le_of_lt (Heap.lt_size ho)) dn
end SQ
end
section
set_option Elab.async false
set_option linter.all false
set_option maxRecDepth 100000
set_option maxHeartbeats 4000000
namespace SQ
open PySem PySem.Spec PyProof.Rows L2
/-- the exception at a gets its dict at dx -/
theorem un_dict {P : Program} {w : World} {fr : List Addr} {H : Hp} {hp h' : Heap} {a C dx t1 : Addr} {f : Str} {y : V} {u : Value} (hok : HOk P w H hp) (e : H a = some (exo a C none)) (ry : RelV y u) (k : KpBut a hp h') (dn : hp.objs.size ≤ dx) (dne : dx ≠ a)
    (hx : h'.get? a = some { cls := .ref C, dict := some dx, data := .fields #[.ref t1, .none, .none, .none, .bool false, .none] }) (hn : h'.Ns1 dx (fun y => if y = f then some u else none)) :
    Un fr [] H (upd (upd H dx (exd dx [(f, y)])) a (exo a C (some dx))) hp h' ∧ HOk P w (upd (upd H dx (exd dx [(f, y)])) a (exo a C (some dx))) h' ∧ H dx = none := by
  have fd : H dx = none := hok.fresh dn
  have nd : ∀ {b : Addr} {o : Obj}, hp.get? b = some o → b ≠ dx := fun {b o} q => Nat.ne_of_lt (Nat.lt_of_lt_of_le (Heap.lt_size q) dn)
  have na : ∀ {b : Addr}, H b = none → b ≠ a := fun {b} n z => by
    rw [z, e] at n
    cases n
  refine ⟨⟨fun b o q n _ _ => k b o (na n) q, fun b o q n _ _ => ⟨o.slots, k b o (na n) q⟩, fun b o q n _ => by rw [upd_ne (na n), upd_ne (nd q)]; exact n, fun b o q _ => ?_,
    fun b xs q => by rw [upd_ne (at_ne e q exo_tup), upd_ne (ne_of_none q fd)]; exact q, fun b o v q => by rw [upd_ne (at_ne e q exo_frz), upd_ne (ne_of_none q fd)]; exact q,
    fun b ps q => ⟨#[], by rw [upd_ne (at_ne e q exo_tbl), upd_ne (ne_of_none q fd), q]; simp⟩⟩, fun b o q => ?_, fd⟩
  · by_cases hb : b = a
    · exact ⟨_, by rw [hb]; exact hx⟩
    · exact ⟨o, k b o hb q⟩
  · by_cases hb : b = a
    · subst hb
      rw [upd_same] at q
      cases q
      exact exo_ok hx
    · rw [upd_ne hb] at q
      by_cases hd : b = dx
      · subst hd
        rw [upd_same] at q
        cases q
        exact exd_ok hn (relO_put (fs := []) ry fun g => True.intro)
      · rw [upd_ne hd] at q
        have own : ∀ {c x : Addr}, H c = some (.own x) → c ≠ a := fun {c x} hc => at_ne e hc exo_own
        exact (hok b o q).stay (fun c v hc z => k c v (hc.elim (fun z => by rw [z]; exact hb) own) z)
          (fun c hc => by rw [upd_ne (own hc), upd_ne (ne_of_none hc fd)]; exact hc) (fun c xs hc => by rw [upd_ne (at_ne e hc exo_tup), upd_ne (ne_of_none hc fd)]; exact hc)
/-- TooMany(limit) -/
def tTm (C : Addr) (ta : TA) : L2.St → Hp → XK → Prop := fun σ H Q => ta σ H fun vs H1 => ∃ v, vs = [v] ∧ ∀ d, H1 d = none → Q (.ref C) (some d) (upd H1 d (.xd [("limit", v)]))
theorem pmk_tm {X : Cx} {C fI : Addr} (T : TmK X.prog X.K X.mg C fI) (hr : Room 1 X.A) (hg : Gl X "TooMany") (hm : X.mg "TooMany" = some (.ref C)) {e : Expr} {ta : TA} {p pos : Pos} (ha : PA X [e] ta)
    (he : starEach [e] X.env = (false, eval e X.env) :: starEach [] X.env := by rfl) (hpl : (backTo pos (starEach [] X.env)).any (·.1) = false := by rfl) : L2N.PMk X (.Call (.Name "TooMany" p) [e] [] pos) (tTm C ta) := by
  intro pins s σ H Q I h
  obtain ⟨nm, q, N, bs, bm, sn, sub, ab, col, dd, k0, k1, k2, k3, k5, hC, hbm⟩ := T.ox.cls
  refine wpAny_Call_Name_kw (ld_glob I hg hm ?_ (by decide))
  refine PySem.W.callWith_K (h₀ := X.base) I.ok.mod.kin T.ox.kC (thn (ha.run pos pins s σ H _ I h) fun us s1 ⟨vs, H1, I1, r1, v, ev, q1⟩ => ⟨I1.kIn, ?_⟩) he hpl
  subst ev
  obtain ⟨u, eu, rv⟩ := vals1 r1
  subst eu
  show wpAny _ _ (call (.ref C) [u]) _ _ _
  obtain ⟨hp, g, dr, tk, os⟩ := s1
  have hsz : hp.objs.size ≤ hp.objs.size + 1 := Nat.le_succ _
  have kk : ∀ b o, hp.get? b = some o → ((hp.push (PySem.W.kdv_tup [u])).push (PySem.HandSPX.excO C hp.objs.size)).get? b = some o := fun b o z => Heap.get?_push_of_some _ (Heap.get?_push_of_some _ z)
  have hget : ((hp.push (PySem.W.kdv_tup [u])).push (PySem.HandSPX.excO C hp.objs.size)).get? (hp.objs.size + 1) = some (PySem.HandSPX.excO C hp.objs.size) := by heap_get
  have I2 : Inv X pins σ (upd H1 (hp.objs.size + 1) (exo (hp.objs.size + 1) C none)) ⟨(hp.push (PySem.W.kdv_tup [u])).push (PySem.HandSPX.excO C hp.objs.size), g, dr, tk, os⟩ :=
    I1.laid (t' := tk) (a := hp.objs.size + 1) (o := exo (hp.objs.size + 1) C none) (h' := (hp.push (PySem.W.kdv_tup [u])).push (PySem.HandSPX.excO C hp.objs.size)) kk hsz (exo_ok hget)
  have dep : (X.A.under (.builtin "type.__call__" ⟨.ref C :: [u], []⟩)).depth < recursionLimit := by
    have := hr.dp
    rw [make_depth]
    omega
  have uni : (X.A.under (.builtin "type.__call__" ⟨.ref C :: [u], []⟩)).units + 64 < cLine := by
    have := hr.un
    rw [make_units]
    omega
  have young : ∀ b o, X.K.lookup b = some o → b ≠ hp.objs.size + 1 := fun b o z => by
    have y1 := Heap.lt_size (I1.ok.mod.kin b o z)
    have y4 := I1.ok.bsz
    have y2 := I1.sz
    exact Nat.ne_of_lt (Nat.lt_succ_of_lt (Nat.lt_of_lt_of_le y1 (Nat.le_trans y4 y2)))
  obtain ⟨mb, hb1, hb2⟩ := I2.mod.blt
  refine wpAny_call (PySem.HandSPX.call_own F.excBase_ValueError (fun Y => PySem.HandSPX.refsVE_contains Y bm hbm) (I1.kIn _ _ hC) (PySem.W.looks_findIn I1.kIn T.ini) (fun self => PySem.W.bind_fn I1.kIn self T.tI) (by show 1 ≤ sizeLine; decide)
    (tm_walk T I2.kIn (I2.mod.glob.keeps I2.bk) ⟨mb, hb1.keeps I2.bk, hb2⟩ I2.nolimit dep uni young hget fun h' t' dx t1 kp dn dne hx hn => ⟨rfl, ?_⟩))
  obtain ⟨un, hok, fd⟩ := un_dict (P := X.prog) (w := X.w) (fr := frs X.stack) (f := "limit") I2.hok upd_same rv kp dn dne hx hn
  have fd1 : H1 dx = none := by
    rw [upd_ne dne] at fd
    exact fd
  obtain ⟨t0, G, J, kG, ge, hoe, na⟩ := mk_end0 (X := X) (g2 := g) (d2 := dr) (t2 := t') (os2 := os) I1 hsz kk un hok rfl I1.bare upd_same (by rw [upd_ne dne, upd_same]) fd1
  exact ⟨_, _, _, ⟨G, g, dr, t', os⟩, _, .ref C, some dx, rfl, J, kG, ge, hoe, ⟨rfl, rfl, fun vs z => by cases z; rfl⟩, rfl, rfl, na, rfl, I1.bare, raises_own T.ox.exC T.ox.tyC, by
    have e0 : upd (del (upd (upd (upd H1 (hp.objs.size + 1) (exo (hp.objs.size + 1) C none)) dx (exd dx [("limit", v)])) (hp.objs.size + 1) (exo (hp.objs.size + 1) C (some dx))) (hp.objs.size + 1)) dx (.xd [("limit", v)]) = upd H1 dx (.xd [("limit", v)]) := by
      funext b
      by_cases hbd : b = dx
      · rw [hbd, upd_same, upd_same]
      · rw [upd_ne hbd, upd_ne hbd]
        by_cases hba : b = hp.objs.size + 1
        · rw [hba, del_same]
          exact (I1.hok.fresh hsz).symm
        · rw [del_ne hba, upd_ne hba, upd_ne hbd, upd_ne hba]
    rw [e0]
    exact q1 dx fd1⟩
end SQ
end
section
set_option Elab.async false
set_option linter.all false
set_option maxRecDepth 100000
set_option maxHeartbeats 4000000
/-! The refusals. -/
namespace SQ
open PySem PySem.Spec PyProof.Rows L2
section
variable {P : Program} {w : World} {K : PySem.W.Frag} {mg : Str → Option Value} {base : Heap}
theorem Fun.okN {x qual : Str} {st : Stmt} {f : Addr} {fd : FuncData} {N ps : List Str} {k : Nat} {sp : Sp} (F : Fun K x qual st f fd) (S : FnScope N ps (defScope st)) (len : ∀ vs H Q E, sp vs H Q E → vs.length = ps.length)
    (hbody : ∀ (cdv : Value) (A : Around) (outer : List Env) (s : Shared) (H : Hp) (vs : List V) (Q : VK) (E : XK), fd.code = cdv → Room k (A.deeper (envOfC qual (defScope st) s.heap.objs.size f cdv)) → sp vs H Q E →
      ∃ t, PSs (cxOf (L2N.CX P w) P w K mg base N qual (defScope st) f cdv A outer s H E) (defBody st) t ∧ t { nx := fun _ H' => Q .non H', rt := Q } (L2.start N vs) H) : FnOk P w K mg base (L2N.CX P w) (k + 1) f fd ps sp := by
  obtain ⟨oc, od, kV, doc, pm, an, cdv, ct, osl, rfl, lk, hcd⟩ := F.ex
  exact fn_of lk hcd S len fun A outer s H vs Q E hr hsp => hbody cdv A outer s H vs Q E rfl hr hsp
/-- a class without an own __init__ over ValueError, raised with a text -/
structure OwnX (K : PySem.W.Frag) (C : Addr) : Prop where
  ex : PySem.W.excIn K C [.type "ValueError", .type "Exception", .type "BaseException", .type "object"] "ValueError.__new__" = true
  kC : PySem.W.keepIn K (.ref C) = true
  sB : PySem.W.subIn K (.ref C) (.type "BaseException") = some true
  ty : PySem.W.typeIn K (.ref C) = some (.type "type")
def spSqX (C : Addr) : Sp := fun vs H Q E => ∃ (G : Hp) (d : D) (b : Bool), Le G H ∧ RpA G vs [d] ∧ M_fits_square [d] = some (.bool b) ∧ (b = true → ∀ G' H', Gr G H G' H' → Q .non H') ∧ (b = false → ∀ G' H', Gr G H G' H' → E (.ref C) none H')
theorem fx_need_square {C f : Addr} {fd : FuncData} (F : Fun K "need_square" "need_square" s_need_square f fd) (gC : mg "InvalidSquare" = some (.ref C)) (x : OwnX K C) (h_fits_square : Has P w K mg base "fits_square" 3 ["value"] M_fits_square) : FnOk P w K mg base (L2N.CX P w) 4 f fd ["value"] (spSqX C) := by
  refine Fun.okN F sc_need_square (fun vs H Q E ⟨G, d, b, le, r, _⟩ => r.length) (fun cdv A outer s H vs Q E _ hr h => ?_)
  obtain ⟨G, d, b, le, r, hb, q1, q2⟩ := h
  refine ⟨_, pss_one (ps_if (t_not (t_val (r_call h_fits_square hr (by decide) (by rfl) (a_cons (r_var 0) a_nil)))) (pss_one (L2N.ps_raise rfl (L2N.takes_of rfl rfl rfl rfl) (L2N.pmk_own PySem.F.excBase_ValueError x.ex gC x.kC (raises_own x.sB x.ty) (by rfl)))) pss_nil), ?_⟩
  refine ⟨G, H, G, _, !b, sr_start le r ["value"], ?_, fun G' H' g => ?_⟩
  · show (fNot (fTb (fcall M_fits_square (fAc (fV 0) fAn)))) [.dat d] = _
    show ((M_fits_square [d]).bind _).bind _ = _
    rw [hb]
    rfl
  · cases b with
    | true => exact iteF (q1 rfl G' H' g)
    | false => exact iteT (q2 rfl G' H' g)
def spFewX (C : Addr) : Sp := fun vs H Q E => ∃ m l : Int, vs = [.int m, .int l] ∧ (m ≤ l → Q .non H) ∧ (l < m → ∀ d, H d = none → E (.ref C) (some d) (upd H d (.xd [("limit", .int l)])))
theorem fx_need_few {C fI f : Addr} {fd : FuncData} (F : Fun K "need_few" "need_few" s_need_few f fd) (T : TmK P K mg C fI) (gC : mg "TooMany" = some (.ref C)) : FnOk P w K mg base (L2N.CX P w) 2 f fd ["many", "limit"] (spFewX C) := by
  refine Fun.okN F sc_need_few (fun vs H Q E ⟨m, l, e, _⟩ => by rw [e]; rfl) (fun cdv A outer s H vs Q E _ hr h => ?_)
  obtain ⟨m, l, rfl, q1, q2⟩ := h
  refine ⟨_, pss_one (ps_if (pt_cmpR op_gt (pv 0) (pv 1) (nomark _)) (pss_one (L2N.ps_raise rfl (L2N.takes_of rfl rfl rfl rfl) (pmk_tm T hr (by rfl) gC (pa_cons (pv 1) pa_nil)))) pss_nil), ?_⟩
  refine ⟨.int m, rfl, .int l, rfl, m, l, rfl, rfl, _, rfl, ?_⟩
  by_cases hlt : l < m
  · rw [decide_eq_true hlt]
    exact iteT ⟨.int l, rfl, .int l, rfl, q2 hlt⟩
  · rw [decide_eq_false hlt]
    exact iteF (q1 (by omega))
def spFX (C CT : Addr) : Sp := fun vs H Q E => ∃ (G : Hp) (d : D), Le G H ∧ RpA G vs [d] ∧ ((M_fits_square [d] = some (.bool false) ∧ ∀ G' H', Gr G H G' H' → E (.ref C) none H') ∨
  (M_fits_square [d] = some (.bool true) ∧ ∃ xs, d = .tuple xs ∧ 4 < xs.length ∧ ∀ G' H' dd fs, Gr G H G' H' → H' dd = none → E (.ref CT) (some dd) (upd H' dd (.xd fs))))
theorem pass_own {N : List Str} {qual : Str} {sc : Scope} {f : Addr} {cdv : Value} {A : Around} {outer : List Env} {s : Shared} {H : Hp} {E : XK} : Passes (L2N.CX (cxOf (L2N.CX P w) P w K mg base N qual sc f cdv A outer s H E).prog (cxOf (L2N.CX P w) P w K mg base N qual sc f cdv A outer s H E).w) (cxOf (L2N.CX P w) P w K mg base N qual sc f cdv A outer s H E) E :=
  L2N.passes_call (L2N.takes_of rfl rfl rfl rfl) fun _ _ _ _ h => h
/-- what the two share: their first two lines -/
structure NeedX (P : Program) (w : World) (K : PySem.W.Frag) (mg : Str → Option Value) (base : Heap) (C CT : Addr) : Prop where
  sq : ∃ (f : Addr) (fd : FuncData), mg "need_square" = some (.ref f) ∧ PySem.W.keepIn K (.ref f) = true ∧ Binds K fd ["value"] [] ∧ FnOk P w K mg base (L2N.CX P w) 4 f fd ["value"] (spSqX C)
  fw : ∃ (f : Addr) (fd : FuncData), mg "need_few" = some (.ref f) ∧ PySem.W.keepIn K (.ref f) = true ∧ Binds K fd ["many", "limit"] [] ∧ FnOk P w K mg base (L2N.CX P w) 2 f fd ["many", "limit"] (spFewX CT)
  len : mg "len" = none
  small : ∃ t, mg "SMALL" = some (.int 4 t)
theorem fx_pure {C CT : Addr} {vs : List V} {H : Hp} {Q : VK} {E : XK} (h : spFX C CT vs H Q E) :
    ∃ x, vs = [x] ∧ spSqX C [x] H (fun v H1 => ∃ a xs, x = .ref a ∧ SqT K H1 a xs ∧ spFewX CT [.int xs.length, .int 4] H1 (fun _ _ => False) E) E := by
  obtain ⟨G, d, le, r, h⟩ := h
  cases r with
  | cons r0 rn =>
    cases rn
    rename_i x
    refine ⟨x, rfl, ?_⟩
    rcases h with ⟨hf, q⟩ | ⟨ht, xs, rfl, hl, q⟩
    · exact ⟨G, d, false, le, .cons r0 .nil, hf, fun z => Bool.noConfusion z, fun _ => q⟩
    · refine ⟨G, _, true, le, .cons r0 .nil, ht, fun _ G' H' g => ?_, fun z => Bool.noConfusion z⟩
      cases r0.mono g.g with
      | tup h1 a1 =>
        refine ⟨_, _, rfl, SqT.of (g.le.tup h1), _, _, rfl, fun z => ?_, fun z dd hdd => q G' H' dd _ g hdd⟩
        rw [a1.length] at z
        omega
theorem fx_fewest_cells {C CT f : Addr} {fd : FuncData} (F : Fun K "fewest_cells" "fewest_cells" s_fewest_cells f fd) (n : NeedX P w K mg base C CT) : FnOk P w K mg base (L2N.CX P w) 5 f fd ["square"] (spFX C CT) := by
  obtain ⟨fs, fds, gs, ks, bs, Fs⟩ := n.sq
  obtain ⟨ff, fdf, gf, kf, bf, Ff⟩ := n.fw
  obtain ⟨tk, g4⟩ := n.small
  refine Fun.okN F sc_fewest_cells (fun vs H Q E ⟨G, d, le, r, _⟩ => r.length) (fun cdv A outer s H vs Q E _ hr h => ?_)
  refine ⟨_, pss_cons (ps_expr (pe_call Fs hr (by rfl) gs ks bs .nil pass_own (pa_cons (pv 0) pa_nil)))
    (pss_cons (ps_expr (pe_call Ff (hr.mono (by decide)) (by rfl) gf kf bf .nil pass_own (pa_cons (pe_callB call_len_seq (by rfl) n.len PySem.boot_len (pa_cons (pv 0) pa_nil)) (pa_cons (pe_glob (v := .int 4) (by rfl) g4 ⟨_, rfl⟩) pa_nil))))
    pss_never), ?_⟩
  obtain ⟨x, rfl, hq⟩ := fx_pure h
  obtain ⟨G, d, b, le, r, hb, q1, q2⟩ := hq
  refine ⟨x, rfl, G, d, b, le, r, hb, fun e G' H' g => ?_, q2⟩
  obtain ⟨a, xs, rfl, hs, m, l, e2, q3, q4⟩ := q1 e G' H' g
  cases e2
  exact ⟨.ref a, rfl, a, xs, rfl, .inr hs, _, _, rfl, q3, q4⟩
theorem fx_fewest_points {C CT f : Addr} {fd : FuncData} (F : Fun K "fewest_points" "fewest_points" s_fewest_points f fd) (n : NeedX P w K mg base C CT) : FnOk P w K mg base (L2N.CX P w) 5 f fd ["square"] (spFX C CT) := by
  obtain ⟨fs, fds, gs, ks, bs, Fs⟩ := n.sq
  obtain ⟨ff, fdf, gf, kf, bf, Ff⟩ := n.fw
  obtain ⟨tk, g4⟩ := n.small
  refine Fun.okN F sc_fewest_points (fun vs H Q E ⟨G, d, le, r, _⟩ => r.length) (fun cdv A outer s H vs Q E _ hr h => ?_)
  refine ⟨_, pss_cons (ps_expr (pe_call Fs hr (by rfl) gs ks bs .nil pass_own (pa_cons (pv 0) pa_nil)))
    (pss_cons (ps_expr (pe_call Ff (hr.mono (by decide)) (by rfl) gf kf bf .nil pass_own (pa_cons (pe_callB call_len_seq (by rfl) n.len PySem.boot_len (pa_cons (pv 0) pa_nil)) (pa_cons (pe_glob (v := .int 4) (by rfl) g4 ⟨_, rfl⟩) pa_nil))))
    pss_never), ?_⟩
  obtain ⟨x, rfl, hq⟩ := fx_pure h
  obtain ⟨G, d, b, le, r, hb, q1, q2⟩ := hq
  refine ⟨x, rfl, G, d, b, le, r, hb, fun e G' H' g => ?_, q2⟩
  obtain ⟨a, xs, rfl, hs, m, l, e2, q3, q4⟩ := q1 e G' H' g
  cases e2
  exact ⟨.ref a, rfl, a, xs, rfl, .inr hs, _, _, rfl, q3, q4⟩
end
end SQ
end
section
set_option Elab.async false
set_option linter.all false
set_option maxRecDepth 100000
set_option maxHeartbeats 4000000
namespace SQ
open PySem PySem.Spec PyProof.Rows L2 LamX
def intD : List D → Option D
  | [.int i] => some (.int i)
  | [.bool b] => some (.int (if b = true then 1 else 0))
  | _ => none
theorem ok_int1 : OkC (fun xs H Q => (∃ i, xs = [V.int i] ∧ Q (.int i) H) ∨ ∃ k, xs = [V.bl k] ∧ Q (.int (if k then 1 else 0)) H) intD := by
  intro G H vs ds k Q le rv hk q
  unfold intD at hk
  split at hk
  · cases hk
    cases rv with
    | cons a r =>
      cases r
      cases a
      exact .inl ⟨_, rfl, q _ _ _ (Gr.refl le) (.int _)⟩
  · cases hk
    cases rv with
    | cons a r =>
      cases r
      cases a
      exact .inr ⟨_, rfl, q _ _ _ (Gr.refl le) (.int _)⟩
  · cases hk
/-- a ghost heap without its dicts and tables -/
def cleanD (G : Hp) : Hp := fun a => match G a with
  | some (.lst xs) => some (.lst xs)
  | some (.tup xs) => some (.tup xs)
  | _ => none
theorem cleanD_of {G : Hp} {a : Addr} {o : HO} (h : cleanD G a = some o) : G a = some o := by
  unfold cleanD at h
  split at h
  · rename_i e
    cases h
    exact e
  · rename_i e
    cases h
    exact e
  · cases h
theorem cleanD_no {G : Hp} (a : Addr) (kvs : List (List Key × V)) : cleanD G a ≠ some (.dT kvs) := fun h => by
  unfold cleanD at h
  split at h <;> cases h
theorem cleanD_tbl {G : Hp} (a : Addr) (ps : Array Value) : cleanD G a ≠ some (.tbl ps) := fun h => by
  unfold cleanD at h
  split at h <;> cases h
theorem cleanD_le {G H : Hp} (h : Le G H) : Le (cleanD G) H := fun a o e => h a o (cleanD_of e)
mutual
theorem rp_clean {G : Hp} : ∀ (d : D) (v : V), d.canLay0 = true → Rp G v d → Rp (cleanD G) v d
  | .none, _, _, h => by cases h; exact .non
  | .bool _, _, _, h => by cases h; exact .bl _
  | .int _, _, _, h => by cases h; exact .int _
  | .str _, _, _, h => by cases h; exact .str _
  | .list ds, _, c, h => by cases h with | lst h1 h2 => exact .lst (by unfold cleanD; rw [h1]) (rpA_clean ds _ (by simpa [PyData.canLay0] using c) h2)
  | .tuple ds, _, c, h => by cases h with | tup h1 h2 => exact .tup (by unfold cleanD; rw [h1]) (rpA_clean ds _ (by simpa [PyData.canLay0] using c) h2)
  | .dict ds, _, c, h => by simp [PyData.canLay0] at c
theorem rpA_clean {G : Hp} : ∀ (d : List D) (v : List V), PyData.canLayAll0 d = true → RpA G v d → RpA (cleanD G) v d
  | [], _, _, h => by cases h; exact .nil
  | d :: ds, _, c, h => by
    have c' : d.canLay0 = true ∧ PyData.canLayAll0 ds = true := by simpa [PyData.canLayAll0] using c
    cases h with
    | cons h1 h2 => exact .cons (rp_clean d _ c'.1 h1) (rpA_clean ds _ c'.2 h2)
end
/-- where no dict is known nothing is locked -/
theorem gr_same {G H G2 H2 : Hp} (hn : ∀ a kvs, G a ≠ some (.dT kvs)) (g : Gr G H G2 H2) : Same H H2 := fun a o e => by
  rcases g.h a o e with z | ⟨z, kvs, ob, ez, _⟩
  · exact z
  · subst ez
    rcases g.nw a _ z with y | y | ⟨xs, y⟩
    · exact absurd y (hn a kvs)
    · rw [e] at y
      cases y
    · rw [e] at y
      cases y
theorem le_ext {G H H' : Hp} (hn : ∀ a ps, G a ≠ some (.tbl ps)) (le : Le G H) (e : ExtN H H') : Le G H' := fun a o h => by
  rcases le a o h with z | ⟨kvs, ob, ez, z⟩
  · exact .inl (e _ _ z fun ps y => hn a ps (by rw [h, y]))
  · exact .inr ⟨kvs, ob, ez, e _ _ z fun ps y => by cases y⟩
theorem ext_sqT {K : PySem.W.Frag} {H H' : Hp} {a : Addr} {xs : List V} (e : ExtN H H') (h : H a = some (.tup xs)) : H' a = some (.tup xs) := e _ _ h fun ps y => by cases y
theorem ext_same {H H' : Hp} (e : Same H H') : ExtN H H' := fun b o h _ => e b o h
/-- a store with no objects of its own over any ghost heap -/
theorem sr_plain {G H : Hp} {σ : L2.St} {τ : Store} (le : Le G H) (hd : ∀ (i : Nat) (d : D), τ[i]? = some (SL.dat d) → ∃ v, σ[i]? = some (some v) ∧ Rp G v d) (ho : ∀ (i : Nat) (d : D), τ[i]? ≠ some (SL.own d)) (hl : σ.length = τ.length) : SR G (fun _ => none) G H σ τ :=
  ⟨⟨fun _ _ h => h, (fun _ _ h => nomatch h), le, fun _ _ h => Or.inl h⟩, hd, fun i d h => absurd h (ho i d), fun i j d e a h => absurd h (ho i d), hl⟩
theorem PE.or {X : Cx} {e : Expr} {t t' : TE} (h : PE X e t) (h' : PE X e t') : PE X e (fun σ H Q => t σ H Q ∨ t' σ H Q) := ⟨fun pins s σ H Q I hw => hw.elim (h.run pins s σ H Q I) (h'.run pins s σ H Q I)⟩
/-- a def's rule that tells its code object -/
theorem Fun.okC {P : Program} {w : World} {K : PySem.W.Frag} {mg : Str → Option Value} {base : Heap} {x qual : Str} {st : Stmt} {f : Addr} {fd : FuncData} {N ps : List Str} {k : Nat} {sp : Sp} (F : Fun K x qual st f fd) (S : FnScope N ps (defScope st)) (len : ∀ vs H Q E, sp vs H Q E → vs.length = ps.length)
    (hbody : ∀ (cdv : Value) (A : Around) (outer : List Env) (s : Shared) (H : Hp) (vs : List V) (Q : VK) (E : XK), fd.code = cdv → Room k (A.deeper (envOfC qual (defScope st) s.heap.objs.size f cdv)) → sp vs H Q E →
      ∃ t, PSs (cxOf CX0 P w K mg base N qual (defScope st) f cdv A outer s H E).nox (defBody st) t ∧ t { nx := fun _ H' => Q .non H', rt := Q } (L2.start N vs) H) : FnOk P w K mg base CX0 (k + 1) f fd ps sp := by
  obtain ⟨oc, od, kV, doc, pm, an, cdv, ct, osl, rfl, lk, hcd⟩ := F.ex
  refine fn_of lk hcd S len fun A outer s H vs Q E hr hsp => ?_
  obtain ⟨t, h, q⟩ := hbody cdv A outer s H vs Q E rfl hr hsp
  exact ⟨t, h.nox, q⟩
end SQ
end
section
set_option Elab.async false
set_option linter.all false
set_option maxRecDepth 100000
set_option maxHeartbeats 4000000
/-! _law_refused -/
namespace SQ
open PySem PySem.Spec PyProof.Rows L2 HotX L2H LamX
abbrev s_refused : Stmt := topS 63
theorem sc_refused : FnScope ["_law_five", "_law_call", "_law_odds", "_law_x", "_law_odd", "_law_y"] [] (defScope s_refused) := ⟨rfl, rfl, rfl, by decide +kernel, rfl, by decide +kernel, by decide +kernel⟩
abbrev lamQ : Str := (("_law_refused" : Str) ++ ".<locals>.") ++ "<lambda>"
def fiveF : FE := (fcall tupleD (fAc (fLc [3] (fRng1 (fC (.int 5))) (.nm 3) fYes (fcall tupleD (fAc (fLc [5] (fRng1 (fC (.int 5))) (.nm 5) fYes (fcall intD (fAc (f2 eqD (fV 3) (fV 5)) fAn))) fAn))) fAn))
def oddsF : FE := (fcall mkLst (fAc (fC .none) (fAc (fcall mkTup fAn) (fAc (fcall mkLst (fAc (fcall mkLst (fAc (fC (.int 1)) fAn)) fAn)) (fAc (fcall mkTup (fAc (fcall mkTup (fAc (fC (.int 0)) fAn)) fAn)) (fAc (f2 mulT (fcall mkTup (fAc (fcall mkTup (fAc (fC (.int 1)) (fAc (f1 negD (fC (.int 1))) (fAc (fC (.int 1)) fAn)))) fAn)) (fC (.int 3))) (fAc (fcall mkTup (fAc (fcall mkTup (fAc (fC (.bool true)) fAn)) fAn)) (fAc (fcall mkTup (fAc (fcall mkTup (fAc (fC (.int 1)) (fAc (fC (.int 0)) fAn))) (fAc (fcall mkTup (fAc (fC (.int 1)) (fAc (fC (.int 0)) fAn))) fAn))) (fAc (fcall mkTup (fAc (fcall mkTup (fAc (fC (.int 0)) (fAc (fC (.int 1)) fAn))) (fAc (fcall mkTup (fAc (fC (.int 1)) fAn)) fAn))) (fAc (fC (.int 1)) (fAc (fC (.str "1")) fAn)))))))))))
def iD (n : Int) : D := .int n
def fiveD : D := .tuple [.tuple [iD 1, iD 0, iD 0, iD 0, iD 0], .tuple [iD 0, iD 1, iD 0, iD 0, iD 0], .tuple [iD 0, iD 0, iD 1, iD 0, iD 0], .tuple [iD 0, iD 0, iD 0, iD 1, iD 0], .tuple [iD 0, iD 0, iD 0, iD 0, iD 1]]
def oddL : List D := [.none, .tuple [], .list [.list [iD 1]], .tuple [.tuple [iD 0]], .tuple [.tuple [iD 1, iD (-1), iD 1], .tuple [iD 1, iD (-1), iD 1], .tuple [iD 1, iD (-1), iD 1]], .tuple [.tuple [.bool true]], .tuple [.tuple [iD 1, iD 0], .tuple [iD 1, iD 0]], .tuple [.tuple [iD 0, iD 1], .tuple [iD 1]], iD 1, .str "1"]
abbrev st0 : Store := List.replicate 6 SL.no
theorem five_eq : fiveF st0 = some fiveD := by kernel_rfl
theorem odds_eq : oddsF st0 = some (.list oddL) := by kernel_rfl
def isB (b : Bool) : Option D → Bool
  | some (.bool c) => c == b
  | _ => false
theorem isB_eq {b : Bool} {o : Option D} (h : isB b o = true) : o = some (.bool b) := by
  unfold isB at h
  split at h
  · rw [beq_iff_eq.mp h]
  · cases h
theorem five_fits : M_fits_square [fiveD] = some (.bool true) := isB_eq (by decide +kernel)
theorem odds_fit : ∀ d ∈ oddL, M_fits_square [d] = some (.bool false) := by
  have h : (oddL.all fun d => isB false (M_fits_square [d])) = true := by decide +kernel
  intro d hd
  exact isB_eq (List.all_eq_true.mp h d hd)
theorem odds_lay : PyData.canLayAll0 oddL = true := by decide +kernel
theorem five_lay : fiveD.canLay0 = true := by decide +kernel
/-- all that the def leans on -/
structure RefK (P : Program) (w : World) (K : PySem.W.Frag) (mg : Str → Option Value) (base : Heap) (C : Fin 7 → Addr) (c P0 f1 f2 : Addr) : Prop where
  tb : TabB base mg c P0
  wd : ∃ (fw : Addr) (fdw : FuncData), Fun K "_law_word" "_law_word" s_word fw fdw ∧ mg "_law_word" = some (.ref fw) ∧ Binds K fdw ["_law_call"] []
  nm : ∃ (fn : Addr) (fdn : FuncData), Fun K "_law_names" "_law_names" s_names fn fdn ∧ mg "_law_names" = some (.ref fn) ∧ Binds K fdn ["_law_error"] []
  cl : Cls6 mg C
  e0 : ErrK K C (C 0) true false false false false false true
  e5 : ErrK K C (C 5) false false false false false true true
  h1 : ∃ fd : FuncData, mg "fewest_cells" = some (.ref f1) ∧ PySem.W.keepIn K (.ref f1) = true ∧ Binds K fd ["square"] [] ∧ FnOk P w K mg base (L2N.CX P w) 5 f1 fd ["square"] (spFX (C 0) (C 5))
  h2 : ∃ fd : FuncData, mg "fewest_points" = some (.ref f2) ∧ PySem.W.keepIn K (.ref f2) = true ∧ Binds K fd ["square"] [] ∧ FnOk P w K mg base (L2N.CX P w) 5 f2 fd ["square"] (spFX (C 0) (C 5))
def tCalls (C : Fin 7 → Addr) (f1 f2 : Addr) (i : Nat) (E : XK) : TE := fun σ H Q => tCallL 1 f1 (spFX (C 0) (C 5)) [] E (tCons (tVar i) tNil) σ H Q ∨ tCallL 1 f2 (spFX (C 0) (C 5)) [] E (tCons (tVar i) tNil) σ H Q
theorem lam_pe {X : Cx} {C : Fin 7 → Addr} {c P0 f1 f2 : Addr} (R : RefK X.prog X.w X.K X.mg X.base C c P0 f1 f2) (B : Bl X.mg) {y : Str} {i : Nat} {params : Arguments} {scope : Scope} {p p1 p2 p3 lpos pos : Pos} (hg : Gl X "_law_word") (hcode : X.env.code = .ref c) (hq : X.env.qual = ("_law_refused" : Str) ++ ".<locals>.") (hr : Room 7 X.A)
    (L : LamS X.env.scope scope) (hdef : defaultsOf params X.env = ([], [])) (hbind : ∀ (q : Str) (cl : List (Str × Addr)) (pm cv ctv : Value), bindArgs (PySem.W.kla_fn "<lambda>" q params (.Call (.Name "_law_call" p1) [.Name y p2] [] p3) scope cl pm cv ctv) ⟨[], []⟩ = pure [])
    (hN1 : X.N[1]? = some ("_law_call" : Str)) (hNi : X.N[i]? = some y) (hv1 : scope.names.lookup ("_law_call" : Str) = some NameKind.free) (hv2 : scope.names.lookup y = some NameKind.free) (hy1 : (y == ("__debug__" : Str)) = false) (hy2 : (y == ("__classdict__" : Str)) = false) :
    PE X (.Call (.Name "_law_word" p) [.Lambda params (.Call (.Name "_law_call" p1) [.Name y p2] [] p3) scope lpos] [] pos) (tLam [(P0, lamQ)] (TTW X.K C) (fun E => tCalls C f1 f2 i E)) := by
  obtain ⟨fw, fdw, FW, gw, bw⟩ := R.wd
  obtain ⟨fn, fdn, FN, gn, bn⟩ := R.nm
  obtain ⟨fd1, g1, k1, b1, F1⟩ := R.h1
  obtain ⟨fd2, g2, k2, b2, F2⟩ := R.h2
  obtain ⟨oc, od, kV, doc, pm, an, cdv, ct, osl, rfl, lk, hcd⟩ := FW.ex
  have q1 : (P0, X.env.qual ++ "<lambda>") ∈ [(P0, lamQ)] := by
    rw [hq]
    exact List.mem_singleton.mpr rfl
  refine lamcallN (k := 5) (T := [(P0, lamQ)]) hg gw FW.kp lk hcd bw sc_word rfl (.inl rfl) (word_gives (X := X) R.cl FN B.isinstance_ B.zip_ gn FN.kp bn) R.tb hcode q1 (fun r hr' _ => by rw [List.mem_singleton.mp hr', hq]) (by decide) hr L hdef hbind (fun A outer s H E f c' hr' => ?_)
  exact PE.or (pe_callL F1 hr' hN1 (.inr (.inr hv1)) k1 b1 .nil lamN_passes (pa_cons (pe_var hNi (.inr (.inr hv2)) hy1 hy2) pa_nil)) (pe_callL F2 hr' hN1 (.inr (.inr hv1)) k2 b2 .nil lamN_passes (pa_cons (pe_var hNi (.inr (.inr hv2)) hy1 hy2) pa_nil))
theorem tabs_same {T : List (Addr × Str)} {H H' : Hp} (t : Tabs T H) (s : Same H H') : Tabs T H' := t.ext s
theorem out_square : namesOut [true, false, false, false, false, false, true] = "square value" := by decide +kernel
theorem out_many : namesOut [false, false, false, false, false, true, true] = "many value" := by decide +kernel
end SQ
end
section
set_option Elab.async false
set_option linter.all false
set_option maxRecDepth 100000
set_option maxHeartbeats 4000000
namespace SQ
open PySem PySem.Spec PyProof.Rows L2 HotX L2H LamX
/-- the lambda's call that ends in a refusal of the first kind -/
theorem lam_odd {K : PySem.W.Frag} {C : Fin 7 → Addr} {P0 f1 f2 fx : Addr} {i : Nat} {σ : L2.St} {G H : Hp} {v : V} {d : D} {Q : VK} (e0 : ErrK K C (C 0) true false false false false false true) (hT : Tabs [(P0, lamQ)] H) (hf : fx = f1 ∨ fx = f2) (h1 : σ[1]? = some (some (.ref fx))) (hi : σ[i]? = some (some v))
    (hn : ∀ a ps, G a ≠ some (.tbl ps)) (hd : ∀ a kvs, G a ≠ some (.dT kvs)) (le : Le G H) (r : Rp G v d) (hb : M_fits_square [d] = some (.bool false)) (q : ∀ H', ExtN H H' → Tabs [(P0, lamQ)] H' → Q (.str "square value") H') :
    tLam [(P0, lamQ)] (TTW K C) (fun E => tCalls C f1 f2 i E) σ H Q := by
  refine ⟨hT, fun H1 e1 T1 => ?_⟩
  have le1 := le_ext hn le e1
  have fin : tCons (tVar i) tNil σ H1 fun vs H2 => spFX (C 0) (C 5) (vs ++ []) H2 (fun _ H' => Q (.str "") H') (Told K C Q) := by
    refine ⟨v, hi, G, d, le1, .cons r .nil, .inl ⟨hb, fun G' H' g => ⟨C 0, _, _, _, _, _, _, _, rfl, e0, (fun x z => nomatch z), fun H'' s => ?_⟩⟩⟩
    have s1 := gr_same hd g
    rw [out_square]
    exact q H'' (e1.trans (ext_same (s1.trans s))) ((T1.ext s1).ext s)
  rcases hf with rfl | rfl
  · exact .inl ⟨h1, fin⟩
  · exact .inr ⟨h1, fin⟩
theorem lam_five {K : PySem.W.Frag} {C : Fin 7 → Addr} {P0 f1 f2 fx : Addr} {i : Nat} {σ : L2.St} {G H : Hp} {v : V} {xs : List D} {Q : VK} (e5 : ErrK K C (C 5) false false false false false true true) (hT : Tabs [(P0, lamQ)] H) (hf : fx = f1 ∨ fx = f2) (h1 : σ[1]? = some (some (.ref fx))) (hi : σ[i]? = some (some v))
    (hn : ∀ a ps, G a ≠ some (.tbl ps)) (hd : ∀ a kvs, G a ≠ some (.dT kvs)) (le : Le G H) (r : Rp G v (.tuple xs)) (hb : M_fits_square [.tuple xs] = some (.bool true)) (hl : 4 < xs.length) (q : ∀ H', ExtN H H' → Tabs [(P0, lamQ)] H' → Q (.str "many value") H') :
    tLam [(P0, lamQ)] (TTW K C) (fun E => tCalls C f1 f2 i E) σ H Q := by
  refine ⟨hT, fun H1 e1 T1 => ?_⟩
  have le1 := le_ext hn le e1
  have fin : tCons (tVar i) tNil σ H1 fun vs H2 => spFX (C 0) (C 5) (vs ++ []) H2 (fun _ H' => Q (.str "") H') (Told K C Q) := by
    refine ⟨v, hi, G, _, le1, .cons r .nil, .inr ⟨hb, xs, rfl, hl, fun G' H' dd fs g hdd => ⟨C 5, _, _, _, _, _, _, _, rfl, e5, fun x z => ?_, fun H'' s => ?_⟩⟩⟩
    · cases z
      exact ⟨_, upd_same⟩
    · have s1 := (gr_same hd g).trans (same_newH (o := .xd fs) hdd)
      rw [out_many]
      exact q H'' (e1.trans (ext_same (s1.trans s))) ((T1.ext s1).ext s)
  rcases hf with rfl | rfl
  · exact .inl ⟨h1, fin⟩
  · exact .inr ⟨h1, fin⟩
def spRef (P0 : Addr) : Sp := fun vs H Q _ => vs = [] ∧ Tabs [(P0, lamQ)] H ∧ ∀ H', ExtN H H' → Q (.bl true) H'
theorem none_no (a : Addr) (kvs : List (List Key × V)) : (fun _ => none : Hp) a ≠ some (.dT kvs) := fun z => by cases z
theorem no_dat {n i : Nat} {d : D} : (List.replicate n SL.no)[i]? ≠ some (SL.dat d) := fun h => by
  have := List.mem_of_getElem? h
  rw [List.mem_replicate] at this
  cases this.2
theorem no_own {n i : Nat} {d : D} : (List.replicate n SL.no)[i]? ≠ some (SL.own d) := fun h => by
  have := List.mem_of_getElem? h
  rw [List.mem_replicate] at this
  cases this.2
theorem sr_none {H : Hp} {σ : L2.St} {n : Nat} (h : σ.length = n) : SR (fun _ => none) (fun _ => none) (fun _ => none) H σ (List.replicate n SL.no) := sr_plain (fun _ _ h => nomatch h) (fun i d h => absurd h no_dat) (fun i d => no_own) (by rw [List.length_replicate]; exact h)
theorem fn_refused {P : Program} {w : World} {K : PySem.W.Frag} {mg : Str → Option Value} {base : Heap} {C : Fin 7 → Addr} {c P0 f1 f2 f : Addr} {fd : FuncData} (F : Fun K "_law_refused" "_law_refused" s_refused f fd) (hcd : fd.code = .ref c) (R : RefK P w K mg base C c P0 f1 f2) (B : Bl mg) :
    FnOk P w K mg base CX0 8 f fd [] (spRef P0) := by
  obtain ⟨fd1, g1, k1, b1, F1⟩ := R.h1
  obtain ⟨fd2, g2, k2, b2, F2⟩ := R.h2
  refine Fun.okC F sc_refused (fun vs H Q E h => by rw [h.1]; rfl) (fun cdv A outer s H vs Q E hc hr h => ?_)
  have hc' : cdv = .ref c := hc.symm.trans hcd
  subst hc'
  obtain ⟨rfl, hT, q⟩ := h
  refine ⟨_, pss_cons (ps_set (i := 0) sc_refused.nd rfl (Or.inr rfl) (r_ct call_tuple_of ok_tuple (by rfl) B.tuple_ (by decide +kernel) (a_cons (r_lc rfl sc_refused.nd (i_rng1 (by rfl) B.range_ r_int) (blkOk_by (own := [("_law_x", 3)]) (by kernel_rfl)) (p := (.nm 3)) (by decide) (fun _ _ _ _ _ => (g_nm 3 sc_refused.nd)) (fun _ _ _ _ _ => pts_yes) (fun _ _ _ _ _ => (r_ct call_tuple_of ok_tuple (by rfl) B.tuple_ (by decide +kernel) (a_cons (r_lc rfl sc_refused.nd (i_rng1 (by rfl) B.range_ r_int) (blkOk_by (own := [("_law_y", 5)]) (by kernel_rfl)) (p := (.nm 5)) (by decide) (fun _ _ _ _ _ => (g_nm 5 sc_refused.nd)) (fun _ _ _ _ _ => pts_yes) (fun _ _ _ _ _ => (r_ct call_int1 ok_int1 (by rfl) B.int_ (by decide +kernel) (a_cons (r_cmp (op_eqD hr.units) ok_eq (nomark _) (r_var 3) (r_var 5)) a_nil)))) a_nil)))) a_nil)))
    (pss_cons (ps_for PassesOwn.never rfl (pi_tup (pe_tup (pa_cons (pe_glob (v := .ref f1) (by rfl) g1 rfl) (pa_cons (pe_glob (v := .ref f2) (by rfl) g2 rfl) pa_nil)))) (pg_name (i := 1) sc_refused.nd rfl (Or.inr rfl))
      (pss_cons (ps_set (i := 2) sc_refused.nd rfl (.inl rfl) (r_lst (a_cons r_non (a_cons (r_tup a_nil) (a_cons (r_lst (a_cons (r_lst (a_cons r_int a_nil)) a_nil)) (a_cons (r_tup (a_cons (r_tup (a_cons r_int a_nil)) a_nil)) (a_cons (r_mulT (r_tup (a_cons (r_tup (a_cons r_int (a_cons (r_neg r_int) (a_cons r_int a_nil)))) a_nil)) r_int) (a_cons (r_tup (a_cons (r_tup (a_cons r_bl a_nil)) a_nil)) (a_cons (r_tup (a_cons (r_tup (a_cons r_int (a_cons r_int a_nil))) (a_cons (r_tup (a_cons r_int (a_cons r_int a_nil))) a_nil))) (a_cons (r_tup (a_cons (r_tup (a_cons r_int (a_cons r_int a_nil))) (a_cons (r_tup (a_cons r_int a_nil)) a_nil))) (a_cons r_int (a_cons r_str a_nil))))))))))))
      (pss_cons (ps_if (pt_cmpR (op_neD hr.units) (pe_lc (own := [("_law_odd", 4)]) (g := gName 4) (tt := tTest (tOp rNe (tLam [(P0, lamQ)] (TTW K C) (fun E => tCalls C f1 f2 4 E)) (tC (.str "square value")))) rfl sc_refused.nd (pi_list (pv 2)) (blkOk_by (by kernel_rfl)) (fun _ _ _ _ _ => pg_name (i := 4) sc_refused.nd rfl (Or.inr rfl) (.inl rfl))
          (fun s0 H0 _ _ fp0 => pts_one (pt_cmpR (X := Cx.blk _ s0 H0 _ _ fp0) op_ne (lam_pe (X := Cx.blk _ s0 H0 _ _ fp0) (i := 4) R B (by rfl) rfl rfl hr (lamS_by (by kernel_rfl)) (by rfl) (fun _ _ _ _ _ => by rfl) (by rfl) (by rfl) (by rfl) (by rfl) (by decide) (by decide)) pe_str (nomark _))) (fun _ _ _ _ _ => pv 4)) (pe_lst pa_nil) (nomark _)) (pss_one (ps_ret pe_bl)) pss_nil)
      (pss_one (ps_if (pt_cmpR op_ne (lam_pe (i := 0) R B (by rfl) rfl rfl hr (lamS_by (by kernel_rfl)) (by rfl) (fun _ _ _ _ _ => by rfl) (by rfl) (by rfl) (by rfl) (by rfl) (by decide) (by decide)) pe_str (nomark _)) (pss_one (ps_ret pe_bl)) pss_nil)))))
    (pss_one (ps_ret pe_bl))), ?_⟩
  refine ⟨_, _, _, _, fiveD, sr_none (n := 6) rfl, five_eq, fun v5 G1 H1 gr1 r1 => ?_⟩
  have s1 : Same H H1 := gr_same none_no gr1
  have r5 := rp_clean fiveD v5 five_lay r1
  refine ⟨(by show 2 ≤ sizeLine; decide), fun t0 ht0 => ⟨t0, rfl, ⟨_, SqT.of upd_same⟩, ?_⟩⟩
  have le0 : Le (cleanD G1) (upd H1 t0 (.tup [.ref f1, .ref f2])) := (Gr.newH (cleanD_le gr1.le) ht0).le
  have e0 : ExtN H (upd H1 t0 (.tup [.ref f1, .ref f2])) := ext_same (s1.trans (same_newH ht0))
  refine for_tup (K := K) (a := t0) (xs := [.ref f1, .ref f2]) (fun i σ H' => σ.length = 6 ∧ σ[0]? = some (some v5) ∧ ExtN H H' ∧ H' t0 = some (.tup [.ref f1, .ref f2]) ∧ Le (cleanD G1) H' ∧ Tabs [(P0, lamQ)] H')
    ⟨rfl, rfl, e0, upd_same, le0, (hT.ext s1).ext (same_newH ht0)⟩ (fun i σ H' _ p => SqT.of p.2.2.2.1) (fun i x σ H2 hx p => ?_) (fun σ H' p => q H' p.2.2.1)
  obtain ⟨hlen, hs0, e2, ht2, le2, T2⟩ := p
  have hfx : ∃ fx, x = .ref fx ∧ (fx = f1 ∨ fx = f2) := by
    match i, hx with
    | 0, hx => exact ⟨f1, (Option.some.inj hx).symm, .inl rfl⟩
    | 1, hx => exact ⟨f2, (Option.some.inj hx).symm, .inr rfl⟩
    | i + 2, hx => cases hx
  obtain ⟨fx, rfl, hfx⟩ := hfx
  have hl1 : (σ.set 1 (some (.ref fx))).length = 6 := by rw [List.length_set]; exact hlen
  refine ⟨_, _, _, _, .list oddL, sr_none (n := 6) hl1, odds_eq, fun vo G3 H3 gr3 r3 => ?_⟩
  have s3 : Same H2 H3 := gr_same none_no gr3
  have ro := rp_clean (.list oddL) vo (by rw [PyData.canLay0]; exact odds_lay) r3
  have leo := cleanD_le gr3.le
  have le3 : Le (cleanD G1) H3 := le_ext cleanD_tbl le2 (ext_same s3)
  cases ro with
  | lst hlo ao =>
    rename_i l xs
    have hl2 : ((σ.set 1 (some (.ref fx))).set 2 (some (.ref l))).length = 6 := by rw [List.length_set]; exact hl1
    have g2s : ((σ.set 1 (some (.ref fx))).set 2 (some (.ref l)))[2]? = some (some (.ref l)) := List.getElem?_set_self (by rw [hl1]; decide)
    have g1s : ((σ.set 1 (some (.ref fx))).set 2 (some (.ref l)))[1]? = some (some (.ref fx)) := by rw [List.getElem?_set_ne (by decide)]; exact List.getElem?_set_self (by rw [hlen]; decide)
    have g0s : ((σ.set 1 (some (.ref fx))).set 2 (some (.ref l)))[0]? = some (some v5) := by rw [List.getElem?_set_ne (by decide), List.getElem?_set_ne (by decide)]; exact hs0
    refine ⟨.ref l, g2s, l, rfl, ⟨xs, SqL.of (leo.lst hlo)⟩, fun Dn hDn => ?_⟩
    refine lc_list (K := K) (a := l) (xs := xs) (fun i H' => ExtN H3 H' ∧ H' Dn = some (.lst []) ∧ Tabs [(P0, lamQ)] H') ⟨ext_same (same_newH hDn), upd_same, (T2.ext s3).ext (same_newH hDn)⟩ (fun i H' _ p => SqL.of (p.1 _ _ (leo.lst hlo) (fun ps z => by cases z))) (fun j x H4 hx p => ?_) (fun H4 p => ?_)
    · obtain ⟨e4, eD4, T4⟩ := p
      obtain ⟨dx, hdx, rx⟩ := ao.get' hx
      refine ⟨by show (((((σ.set 1 (some (V.ref fx))).set 2 (some (V.ref l))).set 4 none).set 4 (some x)).set 4 none) = ((σ.set 1 (some (V.ref fx))).set 2 (some (V.ref l))).set 4 none; rw [List.set_set, List.set_set], ?_⟩
      have w1 : ((((σ.set 1 (some (V.ref fx))).set 2 (some (V.ref l))).set 4 none).set 4 (some x))[1]? = some (some (.ref fx)) := by rw [List.getElem?_set_ne (by decide), List.getElem?_set_ne (by decide)]; exact g1s
      have w4 : ((((σ.set 1 (some (V.ref fx))).set 2 (some (V.ref l))).set 4 none).set 4 (some x))[4]? = some (some x) := List.getElem?_set_self (by rw [List.length_set, hl2]; decide)
      refine lam_odd R.e0 T4 hfx w1 w4 cleanD_tbl cleanD_no (le_ext cleanD_tbl leo e4) rx (odds_fit dx (List.mem_of_getElem? hdx)) (fun H5 e5 T5 => ?_)
      refine ⟨rfl, _, rfl, ?_⟩
      rw [decide_eq_true (rfl : V.str "square value" = V.str "square value")]
      exact iteF ⟨e4.trans e5, e5 _ _ eD4 (fun ps z => by cases z), T5⟩
    · obtain ⟨e4, eD4, T4⟩ := p
      refine ⟨Nat.zero_le _, fun l2 hl2' => ?_⟩
      have s5 : Same H4 (upd H4 l2 (.lst [])) := same_newH hl2'
      refine ⟨.list [], .list [], .lst (SqL.of (s5 _ _ eD4)) .nil, .lst (SqL.of upd_same) .nil, by rfl, by rfl, _, rfl, ?_⟩
      rw [show PyData.eqv (.list []) (.list []) = true by rfl]
      refine iteF ?_
      have e5 : ExtN H3 (upd H4 l2 (.lst [])) := e4.trans (ext_same s5)
      have T5 := T4.ext s5
      refine lam_five R.e5 T5 hfx g1s g0s cleanD_tbl cleanD_no (le_ext cleanD_tbl le3 e5) r5 five_fits (by decide) (fun H6 e6 T6 => ?_)
      refine ⟨rfl, _, rfl, ?_⟩
      rw [decide_eq_true (rfl : V.str "many value" = V.str "many value")]
      have e36 := e5.trans e6
      exact iteF ⟨hl2, g0s, e2.trans ((ext_same s3).trans e36), e36 _ _ (s3 _ _ ht2) (fun ps z => by cases z), le_ext cleanD_tbl le3 e36, T6⟩
end SQ
end
section
set_option Elab.async false
set_option linter.all false
set_option maxRecDepth 100000
set_option maxHeartbeats 4000000
namespace SQ
open PySem PySem.Spec PyProof.Rows L2 HotX L2H LamX
abbrev s_law : Stmt := topS 64
theorem sc_law : FnScope ["_law_script", "_law_cart_here", "_law_wide", "_law_every", "_law_three_so", "_law_middle", "_law_three", "_law_unit", "_law_last", "_law_four", "_law_some"] ["_law_script"] (defScope s_law) := ⟨rfl, rfl, rfl, by decide +kernel, rfl, by decide +kernel, by decide +kernel⟩
def wideF : FE := (f2 addD (fcall mkLst (fAc (fC (.int 1)) (fAc (fC (.int 2)) (fAc (fC (.int 4)) fAn)))) (f2 mulD (fcall mkLst (fAc (fC (.int 3)) fAn)) (fC (.int 37))))
def wideL : List D := [iD 1, iD 2, iD 4] ++ List.replicate 37 (iD 3)
abbrev st11 : Store := List.replicate 11 SL.no
theorem wide_eq : wideF st11 = some (.list wideL) := by kernel_rfl
def wideAt (i : Nat) : Int := if i = 0 then 1 else if i = 1 then 2 else if i = 2 then 4 else 3
theorem wide_at {i : Int} (h0 : 0 ≤ i) (h1 : i < 40) : atI wideL i = some (.int (wideAt i.toNat)) := by
  obtain ⟨n, rfl⟩ : ∃ n : Nat, i = (n : Int) := ⟨i.toNat, by omega⟩
  have hn : n < 40 := by omega
  refine atI_nat ?_
  have all : ∀ m : Nat, m < 40 → wideL[m]? = some (PyData.int (wideAt (m : Int).toNat)) := by
    intro m hm
    match m, hm with
    | 0, _ => rfl
    | 1, _ => rfl
    | 2, _ => rfl
    | k + 3, hm =>
      have e1 : wideL[k + 3]? = (List.replicate 37 (iD 3))[k]? := rfl
      rw [e1, List.getElem?_replicate, if_pos (by omega)]
      rfl
  exact all n hn
theorem wideAt_in (i : Nat) : wideAt i = 1 ∨ wideAt i = 2 ∨ wideAt i = 3 ∨ wideAt i = 4 := by
  unfold wideAt
  repeat (first | split | omega)
def Body_tail : FS := (sSeq (sAsg (.tp [5, 6, 7, 8, 9]) (fcall M_w_known fAn))
    (sSeq (sIf (fTb (f2 neD (fLc [10] (fItems (fcall mkTup (fAc (fV 5) (fAc (fV 7) (fAc (fcall mkTup (fAc (fcall mkTup (fAc (fC (.int 1)) fAn)) fAn)) fAn))))) (.nm 10) fYes (fcall M_fewest_cells (fAc (fV 10) fAn))) (fcall mkLst (fAc (fcall mkTup (fAc (fcall mkTup (fAc (fC (.int 1)) (fAc (fC (.int 1)) fAn))) fAn)) (fAc (fcall mkTup (fAc (fcall mkTup (fAc (fC (.int 0)) (fAc (fC (.int 0)) fAn))) (fAc (fcall mkTup (fAc (fC (.int 1)) (fAc (fC (.int 1)) fAn))) fAn))) (fAc (fcall mkTup fAn) fAn)))))) (sRet (fC (.bool false))) sNext)
    (sSeq (sIf (fOr (fTb (f2 neD (fcall M_fewest_points (fAc (fV 7) fAn)) (fcall mkTup (fAc (fcall mkTup (fAc (fC (.int 1)) (fAc (fC (.int 1)) fAn))) (fAc (fcall mkTup (fAc (fC (.int 2)) (fAc (fC (.int 2)) fAn))) fAn))))) (fTb (f2 neD (fcall M_fewest_points (fAc (fcall mkTup (fAc (fcall mkTup (fAc (fC (.int 1)) (fAc (fC (.int 0)) fAn))) (fAc (fcall mkTup (fAc (fC (.int 0)) (fAc (fC (.int 1)) fAn))) fAn))) fAn)) (fcall mkTup (fAc (fcall mkTup (fAc (fC (.int 1)) (fAc (fC (.int 1)) fAn))) fAn))))) (sRet (fC (.bool false))) sNext)
    (sRet (fAndV (f2 eqD (fcall M_fewest_points (fAc (fV 5) fAn)) (fcall mkTup (fAc (fcall mkTup (fAc (fC (.int 1)) (fAc (fC (.int 1)) fAn))) (fAc (fcall mkTup (fAc (fC (.int 1)) (fAc (fC (.int 2)) fAn))) (fAc (fcall mkTup (fAc (fC (.int 2)) (fAc (fC (.int 1)) fAn))) (fAc (fcall mkTup (fAc (fC (.int 2)) (fAc (fC (.int 2)) fAn))) fAn)))))) (f2 eqD (fcall M_fewest_points (fAc (fcall mkTup (fAc (fcall mkTup (fAc (fC (.int 1)) fAn)) fAn)) fAn)) (fcall mkTup fAn)))))))
/-- what the mirrors answer -/
structure PureK (sqs : Int → List D) : Prop where
  all : ∀ n : Int, n = 1 ∨ n = 2 ∨ n = 3 ∨ n = 4 → M_w_all [.int n] = some (.list (sqs n)) ∧ 0 < (sqs n).length ∧ (sqs n).length < 1000000 ∧ PyData.canLayAll0 (sqs n) = true
  right : ∀ n : Int, n = 1 ∨ n = 2 ∨ n = 3 ∨ n = 4 → ∀ d ∈ sqs n, M_w_right [.int n, .list (sqs n), d] = some (.bool true)
  tail : Body_tail st11 = some (.rt (.bool true))
structure LawK (P : Program) (w : World) (K : PySem.W.Frag) (mg : Str → Option Value) (base : Heap) (P0 : Addr) : Prop where
  cart : ∃ (f : Addr) (fd : FuncData), mg "_law_cart" = some (.ref f) ∧ PySem.W.keepIn K (.ref f) = true ∧ Binds K fd ["_law_script"] [] ∧ FnOk P w K mg base CX0 1 f fd ["_law_script"] (spCart K)
  lump : ∃ (f : Addr) (fd : FuncData), mg "_law_lump" = some (.ref f) ∧ PySem.W.keepIn K (.ref f) = true ∧ Binds K fd ["_law_cart_here", "_law_size_so"] [] ∧ FnOk P w K mg base CX0 1 f fd ["_law_cart_here", "_law_size_so"] spLump
  any : ∃ (f : Addr) (fd : FuncData), mg "_law_any_of" = some (.ref f) ∧ PySem.W.keepIn K (.ref f) = true ∧ Binds K fd ["_law_cart_here", "_law_row_so"] [] ∧ FnOk P w K mg base CX0 2 f fd ["_law_cart_here", "_law_row_so"] (spAny K)
  refused : ∃ (f : Addr) (fd : FuncData), mg "_law_refused" = some (.ref f) ∧ PySem.W.keepIn K (.ref f) = true ∧ Binds K fd [] [] ∧ FnOk P w K mg base CX0 8 f fd [] (spRef P0)
  all : Has P w K mg base "_law_all" 2 ["_law_wide"] M_w_all
  right : Has P w K mg base "_law_right" 7 ["_law_wide", "_law_every", "_law_some"] M_w_right
  known : Has P w K mg base "_law_known" 1 [] M_w_known
  cells : Has P w K mg base "fewest_cells" 5 ["square"] M_fewest_cells
  points : Has P w K mg base "fewest_points" 5 ["square"] M_fewest_points
def spLaw (K : PySem.W.Frag) (P0 : Addr) : Sp := fun vs H Q _ => ∃ (a : Addr) (ns : List Int), vs = [.ref a] ∧ SqL K H a (ns.map V.int) ∧ ns.length ≤ 1000 ∧ H P0 = some (.tbl #[]) ∧ ∀ H', Q (.bl true) H'
theorem le_upd {G H : Hp} {p : Addr} {o : HO} (le : Le G H) (hp : G p = none) : Le G (upd H p o) := fun a u q => by
  rw [upd_ne (ne_of_none q hp)]
  exact le a u q
theorem atI_mem {α : Type} {xs : List α} {i : Int} {v : α} (h : atI xs i = some v) : v ∈ xs := by
  obtain ⟨j, _, h⟩ := bnd h
  exact List.mem_of_getElem? h
theorem atI_some {α : Type} {xs : List α} {i : Int} (h0 : 0 ≤ i) (h1 : i < xs.length) : ∃ v, atI xs i = some v := by
  obtain ⟨n, rfl⟩ : ∃ n : Nat, i = (n : Int) := ⟨i.toNat, by omega⟩
  exact ⟨xs[n]'(by omega), atI_nat (List.getElem?_eq_getElem (by omega))⟩
theorem upd_upd {H : Hp} {p : Addr} {o u : HO} : True := trivial
end SQ
end
section
set_option Elab.async false
set_option linter.all false
set_option maxRecDepth 100000
set_option maxHeartbeats 4000000
namespace SQ
open PySem PySem.Spec PyProof.Rows L2 HotX L2H LamX
/-- all but p stays -/
def SameBut (p : Addr) (H H' : Hp) : Prop := ∀ b o, b ≠ p → H b = some o → H' b = some o
theorem right_step {K : PySem.W.Frag} {L : List D} {n : Int} {σ : L2.St} {G H : Hp} {p : Addr} {x y : Int} {v3 : V} {j : Nat} {tw : TE} {Q : Bool → Hp → Prop} (htw : ∀ Q : VK, Q (.int n) H → tw σ H Q) (h1 : σ[1]? = some (some (.ref p))) (hj : σ[j]? = some (some v3)) (hp : H p = some (.lst [.int x, .int y]))
    (hG : G p = none) (hd : ∀ a kvs, G a ≠ some (.dT kvs)) (le : Le G H) (r : Rp G v3 (.list L)) (l0 : 0 < L.length) (l1 : L.length < 1000000) (hok : ∀ d ∈ L, M_w_right [.int n, .list L, d] = some (.bool true))
    (q : ∀ H' x' y', H' p = some (.lst [.int x', .int y']) → SameBut p H H' → Q false H') :
    tNot (tB (tCall (spD M_w_right) [] E0 (tCons tw (tCons (tVar j) (tCons (tCall (spAny K) [] E0 (tCons (tVar 1) (tCons (tVar j) tNil))) tNil))))) σ H Q := by
  have r0 := r
  cases r with
  | lst hl al =>
    rename_i l xs
    have hlp : l ≠ p := fun z => by
      rw [z, hG] at hl
      cases hl
    have en := al.length
    have hn : (0 : Int) < xs.length := by omega
    obtain ⟨i0, i1⟩ := lumpI_pos (x := x) (y := y) hn
    obtain ⟨d, hd'⟩ := atI_some (xs := L) i0 (by omega)
    obtain ⟨v, hv, rv⟩ := atI_rp al hd'
    have hlH := le.lst hl
    have hup : (upd H p (.lst [.int (lumpI x y xs.length).1, .int (lumpI x y xs.length).2.1])) l = some (.lst xs) := by rw [upd_ne hlp]; exact hlH
    refine htw _ ⟨.ref l, hj, .ref p, h1, .ref l, hj, p, l, x, y, xs, v, rfl, hp, SqL.of hlH, hlp, SqL.of hup, by omega, by omega, hv, ?_⟩
    refine ⟨G, _, .bool true, le_upd le hG, .cons (.int n) (.cons r0 (.cons rv .nil)), hok d (atI_mem hd'), fun v' G' H' g r' => ?_⟩
    cases r'
    have s := gr_same hd g
    exact ⟨true, rfl, q H' _ _ (s _ _ upd_same) fun b o nb e => s _ _ (by rw [upd_ne nb]; exact e)⟩
theorem new_none {H G2 H2 : Hp} (g : Gr (fun _ => none) H G2 H2) {p : Addr} {xs : List V} (h : H p = some (.lst xs)) : G2 p = none := by
  cases e : G2 p with
  | none => rfl
  | some o =>
    rcases g.nw p o e with z | z | ⟨ys, z⟩
    · cases z
    · rw [h] at z
      cases z
    · rw [h] at z
      cases z
theorem clean_none {G : Hp} {p : Addr} (h : G p = none) : cleanD G p = none := by
  unfold cleanD
  rw [h]
theorem fn_law {P : Program} {w : World} {K : PySem.W.Frag} {mg : Str → Option Value} {base : Heap} {P0 f : Addr} {fd : FuncData} (F : Fun K "law" "law" s_law f fd) (R : LawK P w K mg base P0) (B : Bl mg) {sqs : Int → List D} (Pu : PureK sqs) : FnOk P w K mg base CX0 9 f fd ["_law_script"] (spLaw K P0) := by
  obtain ⟨fc, fdc, gc, kc, bc, Fc⟩ := R.cart
  obtain ⟨fl, fdl, gl, kl, bl, Fl⟩ := R.lump
  obtain ⟨fa, fda, ga, ka, ba, Fa⟩ := R.any
  obtain ⟨fr, fdr, gr, kr, br, Fr⟩ := R.refused
  obtain ⟨fw, fdw, gw, kw, bw, Fw⟩ := R.right.ex
  have h_w_all := R.all
  have h_w_known := R.known
  have h_fewest_cells := R.cells
  have h_fewest_points := R.points
  refine F.ok sc_law (fun vs H Q E ⟨a, ns, e, _⟩ => by rw [e]; rfl) (fun cdv A outer s H vs Q E hr h => ?_)
  obtain ⟨a, ns, rfl, hS, hlen, hP0, q⟩ := h
  refine ⟨_, pss_cons (ps_set (i := 1) sc_law.nd rfl (.inl rfl) (pe_call Fc (hr.mono (by decide)) (by rfl) gc kc bc .nil pass0 (pa_cons (pv 0) pa_nil)))
    (pss_cons (ps_set (i := 2) sc_law.nd rfl (.inl rfl) (pe_ix ix_seq (r_add (r_lst (a_cons r_int (a_cons r_int (a_cons r_int a_nil)))) (r_mul (r_lst (a_cons r_int a_nil)) r_int)) (pe_call Fl (hr.mono (by decide)) (by rfl) gl kl bl .nil pass0 (pa_cons (pv 1) (pa_cons pe_int pa_nil))) (fun _ _ => rfl)))
    (pss_cons (ps_set (i := 3) sc_law.nd rfl (.inl rfl) (r_call h_w_all hr (by decide) (by rfl) (a_cons (r_var 2) a_nil)))
    (pss_cons (ps_if (PW.pt (pw_or (pt_not (pt_val (pe_call Fw (hr.mono (by decide)) (by rfl) gw kw bw .nil pass0 (pa_cons (pv 2) (pa_cons (pv 3) (pa_cons (pe_call Fa (hr.mono (by decide)) (by rfl) ga ka ba .nil pass0 (pa_cons (pv 1) (pa_cons (pv 3) pa_nil))) pa_nil)))))) (pw_or1 (pt_not (pt_val (pe_call0 Fr hr (by rfl) gr kr br .nil pass0)))))) (pss_one (ps_ret pe_bl)) pss_nil)
    (pss_cons (ps_set (i := 4) sc_law.nd rfl (.inl rfl) (r_call h_w_all hr (by decide) (by rfl) (a_cons r_int a_nil)))
    (pss_cons (ps_if (pt_not (pt_val (pe_call Fw (hr.mono (by decide)) (by rfl) gw kw bw .nil pass0 (pa_cons pe_int (pa_cons (pv 4) (pa_cons (pe_call Fa (hr.mono (by decide)) (by rfl) ga ka ba .nil pass0 (pa_cons (pv 1) (pa_cons (pv 4) pa_nil))) pa_nil)))))) (pss_one (ps_ret pe_bl)) pss_nil)
    (q_cons (q_asg (r_call0 h_w_known hr (by decide) (by rfl)) (g_tp rfl (gs_cons (g_nm 5 sc_law.nd) (gs_cons (g_nm 6 sc_law.nd) (gs_cons (g_nm 7 sc_law.nd) (gs_cons (g_nm 8 sc_law.nd) (gs_cons (g_nm 9 sc_law.nd) gs_nil)))))))
    (q_cons (q_if (t_cmp (op_neD hr.units) ok_ne (nomark _) (r_lc rfl sc_law.nd (i_seq (r_tup (a_cons (r_var 5) (a_cons (r_var 7) (a_cons (r_tup (a_cons (r_tup (a_cons r_int a_nil)) a_nil)) a_nil))))) (blkOk_by (own := [("_law_some", 10)]) (by kernel_rfl)) (p := (.nm 10)) (by decide) (fun _ _ _ _ _ => (g_nm 10 sc_law.nd)) (fun _ _ _ _ _ => pts_yes) (fun _ _ _ _ _ => (r_call h_fewest_cells hr (by decide) (by rfl) (a_cons (r_var 10) a_nil)))) (r_lst (a_cons (r_tup (a_cons (r_tup (a_cons r_int (a_cons r_int a_nil))) a_nil)) (a_cons (r_tup (a_cons (r_tup (a_cons r_int (a_cons r_int a_nil))) (a_cons (r_tup (a_cons r_int (a_cons r_int a_nil))) a_nil))) (a_cons (r_tup a_nil) a_nil))))) (q_one (q_ret r_bl)) q_nil)
    (q_cons (q_if (PW.pt (t_or (t_cmp (op_neD hr.units) ok_ne (nomark _) (r_call h_fewest_points hr (by decide) (by rfl) (a_cons (r_var 7) a_nil)) (r_tup (a_cons (r_tup (a_cons r_int (a_cons r_int a_nil))) (a_cons (r_tup (a_cons r_int (a_cons r_int a_nil))) a_nil)))) (t_or1 (t_cmp (op_neD hr.units) ok_ne (nomark _) (r_call h_fewest_points hr (by decide) (by rfl) (a_cons (r_tup (a_cons (r_tup (a_cons r_int (a_cons r_int a_nil))) (a_cons (r_tup (a_cons r_int (a_cons r_int a_nil))) a_nil))) a_nil)) (r_tup (a_cons (r_tup (a_cons r_int (a_cons r_int a_nil))) a_nil)))))) (q_one (q_ret r_bl)) q_nil)
    (q_one (q_ret (r_and (r_cmp (op_eqD hr.units) ok_eq (nomark _) (r_call h_fewest_points hr (by decide) (by rfl) (a_cons (r_var 5) a_nil)) (r_tup (a_cons (r_tup (a_cons r_int (a_cons r_int a_nil))) (a_cons (r_tup (a_cons r_int (a_cons r_int a_nil))) (a_cons (r_tup (a_cons r_int (a_cons r_int a_nil))) (a_cons (r_tup (a_cons r_int (a_cons r_int a_nil))) a_nil)))))) (r_one (r_cmp (op_eqD hr.units) ok_eq (nomark _) (r_call h_fewest_points hr (by decide) (by rfl) (a_cons (r_tup (a_cons (r_tup (a_cons r_int a_nil)) a_nil)) a_nil)) (r_tup a_nil)))))))))))))), ?_⟩
  -- the cart
  refine ⟨.ref a, rfl, a, ns, rfl, hS, hlen, fun H1 p x y s1 np ep => ?_⟩
  -- the width
  refine ⟨_, _, _, _, .list wideL, sr_none (n := 11) rfl, wide_eq, fun v2 G2 H2 g2 r2 => ?_⟩
  have s2 : Same H1 H2 := gr_same none_no g2
  have ep2 := s2 _ _ ep
  have nG2 := new_none g2 ep
  cases r2 with
  | lst hl2 al2 =>
    rename_i l2 xs2
    have l2p : l2 ≠ p := fun z => by
      rw [z, nG2] at hl2
      cases hl2
    obtain ⟨i0, i1⟩ := lumpI_pos (x := x) (y := y) (n := 40) (by decide)
    obtain ⟨vw, hvw, rvw⟩ := atI_rp al2 (wide_at i0 i1)
    have hw4 := wideAt_in (lumpI x y 40).2.2.toNat
    generalize hnw : wideAt (lumpI x y 40).2.2.toNat = n at rvw hw4
    cases rvw
    refine ⟨.ref p, rfl, p, x, y, 40, rfl, ep2, (by decide), (by decide), .inl ⟨l2, xs2, _, .int n, rfl, rfl, SqL.of ((upd_ne l2p).trans (g2.le.lst hl2)), hvw, ?_⟩⟩
    -- all squares of that width
    obtain ⟨a1, a2, a3, a4⟩ := Pu.all n hw4
    refine ⟨_, _, _, _, .list (sqs n), (sr_none (n := 11) (σ := _) rfl).set_dat 2 (.int n), a1, fun v3 G4 H4 g4 r4 => ?_⟩
    have s4 := gr_same none_no g4
    have ep4 := s4 _ _ upd_same
    have nG4 := new_none g4 upd_same
    have r4c := rp_clean (.list (sqs n)) v3 (by rw [PyData.canLay0]; exact a4) r4
    have P0p : P0 ≠ p := fun z => by
      have y1 := s1 _ _ hP0
      rw [z, ep] at y1
      cases y1
    have t4 : H4 P0 = some (.tbl #[]) := s4 _ _ (by rw [upd_ne P0p]; exact s2 _ _ (s1 _ _ hP0))
    -- right, and refused
    dsimp only [gName, tSeq, tAsg, tIfS, tOr]
    refine right_step (n := n) (tw := tVar 2) (j := 3) (x := (lumpI x y 40).1) (y := (lumpI x y 40).2.1) (v3 := v3) (p := p) ?_ ?_ ?_ ep4 (clean_none nG4) cleanD_no (cleanD_le g4.le) r4c a2 a3 (Pu.right n hw4) (fun H5 x5 y5 ep5 sb5 => ?_)
    · exact fun Q hq => ⟨_, rfl, hq⟩
    · rfl
    · rfl
    refine iteF ?_
    refine ⟨rfl, (fun r hr' => by rw [List.mem_singleton.mp hr']; exact TabS.nil (sb5 _ _ P0p t4)), fun H6 e6 => ⟨true, rfl, ?_⟩⟩
    refine iteF ?_
    have ep6 := e6 _ _ ep5 (fun ps z => by cases z)
    -- all squares of width three
    obtain ⟨c1, c2, c3, c4⟩ := Pu.all 3 (by omega)
    refine ⟨_, _, _, _, .list (sqs 3), sr_none (n := 11) rfl, c1, fun v6 G7 H7 g7 r7 => ?_⟩
    have s7 := gr_same none_no g7
    have ep7 := s7 _ _ ep6
    have nG7 := new_none g7 ep6
    have r7c := rp_clean (.list (sqs 3)) v6 (by rw [PyData.canLay0]; exact c4) r7
    dsimp only [gName, tSeq, tAsg, tIfS, tOr]
    refine right_step (n := 3) (tw := tC (.int 3)) (j := 4) (x := x5) (y := y5) (v3 := v6) (p := p) ?_ ?_ ?_ ep7 (clean_none nG7) cleanD_no (cleanD_le g7.le) r7c c2 c3 (Pu.right 3 (by omega)) (fun H8 x8 y8 ep8 sb8 => ?_)
    · exact fun Q hq => hq
    · rfl
    · rfl
    refine iteF ?_
    exact ⟨_, _, _, _, .rt (.bool true), sr_none (n := 11) rfl, Pu.tail, (fun τ' σ' G' H' e => by cases e), fun d v G' H' e g r => by
      cases e
      cases r
      exact q H'⟩
end SQ
end
section
set_option Elab.async false
set_option linter.all false
set_option maxRecDepth 100000
set_option maxHeartbeats 4000000
namespace SQ
open PySem PySem.Spec PyProof.Rows L2
abbrev Mat := List (List Int)
def encR (r : List Int) : D := .tuple (r.map PyData.int)
def encM (m : Mat) : D := .tuple (m.map encR)
def sq1 : List Mat := [[[1]]]
def ht1 : List Mat := [[[0, 1], [1, 0]]]
def sq2 : List Mat := [[[0, 1], [1, 0]], [[1, 0], [0, 1]]]
def ht2 : List Mat := [[[0, 1, 2], [1, 2, 1], [2, 1, 0]], [[0, 1, 2], [1, 0, 1], [2, 1, 0]]]
def sq3 : List Mat := [[[0, 0, 1], [0, 1, 0], [1, 0, 0]], [[0, 0, 1], [1, 0, 0], [0, 1, 0]], [[0, 1, 0], [0, 0, 1], [1, 0, 0]], [[0, 1, 0], [1, -1, 1], [0, 1, 0]], [[0, 1, 0], [1, 0, 0], [0, 0, 1]], [[1, 0, 0], [0, 0, 1], [0, 1, 0]], [[1, 0, 0], [0, 1, 0], [0, 0, 1]]]
def ht3 : List Mat := [[[0, 1, 2, 3], [1, 2, 3, 2], [2, 3, 2, 1], [3, 2, 1, 0]], [[0, 1, 2, 3], [1, 2, 3, 2], [2, 1, 2, 1], [3, 2, 1, 0]], [[0, 1, 2, 3], [1, 2, 1, 2], [2, 3, 2, 1], [3, 2, 1, 0]], [[0, 1, 2, 3], [1, 2, 1, 2], [2, 1, 2, 1], [3, 2, 1, 0]], [[0, 1, 2, 3], [1, 2, 1, 2], [2, 1, 0, 1], [3, 2, 1, 0]], [[0, 1, 2, 3], [1, 0, 1, 2], [2, 1, 2, 1], [3, 2, 1, 0]], [[0, 1, 2, 3], [1, 0, 1, 2], [2, 1, 0, 1], [3, 2, 1, 0]]]
def sq4 : List Mat := [[[0, 0, 0, 1], [0, 0, 1, 0], [0, 1, 0, 0], [1, 0, 0, 0]], [[0, 0, 0, 1], [0, 0, 1, 0], [1, 0, 0, 0], [0, 1, 0, 0]], [[0, 0, 0, 1], [0, 1, 0, 0], [0, 0, 1, 0], [1, 0, 0, 0]], [[0, 0, 0, 1], [0, 1, 0, 0], [1, -1, 1, 0], [0, 1, 0, 0]], [[0, 0, 0, 1], [0, 1, 0, 0], [1, 0, 0, 0], [0, 0, 1, 0]], [[0, 0, 0, 1], [1, 0, 0, 0], [0, 0, 1, 0], [0, 1, 0, 0]], [[0, 0, 0, 1], [1, 0, 0, 0], [0, 1, 0, 0], [0, 0, 1, 0]], [[0, 0, 1, 0], [0, 0, 0, 1], [0, 1, 0, 0], [1, 0, 0, 0]], [[0, 0, 1, 0], [0, 0, 0, 1], [1, 0, 0, 0], [0, 1, 0, 0]], [[0, 0, 1, 0], [0, 1, -1, 1], [0, 0, 1, 0], [1, 0, 0, 0]], [[0, 0, 1, 0], [0, 1, -1, 1], [1, -1, 1, 0], [0, 1, 0, 0]], [[0, 0, 1, 0], [0, 1, -1, 1], [1, 0, 0, 0], [0, 0, 1, 0]], [[0, 0, 1, 0], [0, 1, 0, 0], [0, 0, 0, 1], [1, 0, 0, 0]], [[0, 0, 1, 0], [0, 1, 0, 0], [1, -1, 0, 1], [0, 1, 0, 0]], [[0, 0, 1, 0], [0, 1, 0, 0], [1, 0, -1, 1], [0, 0, 1, 0]], [[0, 0, 1, 0], [0, 1, 0, 0], [1, 0, 0, 0], [0, 0, 0, 1]], [[0, 0, 1, 0], [1, 0, -1, 1], [0, 0, 1, 0], [0, 1, 0, 0]], [[0, 0, 1, 0], [1, 0, -1, 1], [0, 1, 0, 0], [0, 0, 1, 0]], [[0, 0, 1, 0], [1, 0, 0, 0], [0, 0, 0, 1], [0, 1, 0, 0]], [[0, 0, 1, 0], [1, 0, 0, 0], [0, 1, -1, 1], [0, 0, 1, 0]], [[0, 0, 1, 0], [1, 0, 0, 0], [0, 1, 0, 0], [0, 0, 0, 1]], [[0, 1, 0, 0], [0, 0, 0, 1], [0, 0, 1, 0], [1, 0, 0, 0]], [[0, 1, 0, 0], [0, 0, 0, 1], [1, -1, 1, 0], [0, 1, 0, 0]], [[0, 1, 0, 0], [0, 0, 0, 1], [1, 0, 0, 0], [0, 0, 1, 0]], [[0, 1, 0, 0], [0, 0, 1, 0], [0, 0, 0, 1], [1, 0, 0, 0]], [[0, 1, 0, 0], [0, 0, 1, 0], [1, -1, 0, 1], [0, 1, 0, 0]], [[0, 1, 0, 0], [0, 0, 1, 0], [1, 0, -1, 1], [0, 0, 1, 0]], [[0, 1, 0, 0], [0, 0, 1, 0], [1, 0, 0, 0], [0, 0, 0, 1]], [[0, 1, 0, 0], [1, -1, 0, 1], [0, 0, 1, 0], [0, 1, 0, 0]], [[0, 1, 0, 0], [1, -1, 0, 1], [0, 1, 0, 0], [0, 0, 1, 0]], [[0, 1, 0, 0], [1, -1, 1, 0], [0, 0, 0, 1], [0, 1, 0, 0]], [[0, 1, 0, 0], [1, -1, 1, 0], [0, 1, -1, 1], [0, 0, 1, 0]], [[0, 1, 0, 0], [1, -1, 1, 0], [0, 1, 0, 0], [0, 0, 0, 1]], [[0, 1, 0, 0], [1, 0, 0, 0], [0, 0, 0, 1], [0, 0, 1, 0]], [[0, 1, 0, 0], [1, 0, 0, 0], [0, 0, 1, 0], [0, 0, 0, 1]], [[1, 0, 0, 0], [0, 0, 0, 1], [0, 0, 1, 0], [0, 1, 0, 0]], [[1, 0, 0, 0], [0, 0, 0, 1], [0, 1, 0, 0], [0, 0, 1, 0]], [[1, 0, 0, 0], [0, 0, 1, 0], [0, 0, 0, 1], [0, 1, 0, 0]], [[1, 0, 0, 0], [0, 0, 1, 0], [0, 1, -1, 1], [0, 0, 1, 0]], [[1, 0, 0, 0], [0, 0, 1, 0], [0, 1, 0, 0], [0, 0, 0, 1]], [[1, 0, 0, 0], [0, 1, 0, 0], [0, 0, 0, 1], [0, 0, 1, 0]], [[1, 0, 0, 0], [0, 1, 0, 0], [0, 0, 1, 0], [0, 0, 0, 1]]]
def ht4 : List Mat := [[[0, 1, 2, 3, 4], [1, 2, 3, 4, 3], [2, 3, 4, 3, 2], [3, 4, 3, 2, 1], [4, 3, 2, 1, 0]], [[0, 1, 2, 3, 4], [1, 2, 3, 4, 3], [2, 3, 4, 3, 2], [3, 2, 3, 2, 1], [4, 3, 2, 1, 0]], [[0, 1, 2, 3, 4], [1, 2, 3, 4, 3], [2, 3, 2, 3, 2], [3, 4, 3, 2, 1], [4, 3, 2, 1, 0]], [[0, 1, 2, 3, 4], [1, 2, 3, 4, 3], [2, 3, 2, 3, 2], [3, 2, 3, 2, 1], [4, 3, 2, 1, 0]], [[0, 1, 2, 3, 4], [1, 2, 3, 4, 3], [2, 3, 2, 3, 2], [3, 2, 1, 2, 1], [4, 3, 2, 1, 0]], [[0, 1, 2, 3, 4], [1, 2, 3, 4, 3], [2, 1, 2, 3, 2], [3, 2, 3, 2, 1], [4, 3, 2, 1, 0]], [[0, 1, 2, 3, 4], [1, 2, 3, 4, 3], [2, 1, 2, 3, 2], [3, 2, 1, 2, 1], [4, 3, 2, 1, 0]], [[0, 1, 2, 3, 4], [1, 2, 3, 2, 3], [2, 3, 4, 3, 2], [3, 4, 3, 2, 1], [4, 3, 2, 1, 0]], [[0, 1, 2, 3, 4], [1, 2, 3, 2, 3], [2, 3, 4, 3, 2], [3, 2, 3, 2, 1], [4, 3, 2, 1, 0]], [[0, 1, 2, 3, 4], [1, 2, 3, 2, 3], [2, 3, 2, 3, 2], [3, 4, 3, 2, 1], [4, 3, 2, 1, 0]], [[0, 1, 2, 3, 4], [1, 2, 3, 2, 3], [2, 3, 2, 3, 2], [3, 2, 3, 2, 1], [4, 3, 2, 1, 0]], [[0, 1, 2, 3, 4], [1, 2, 3, 2, 3], [2, 3, 2, 3, 2], [3, 2, 1, 2, 1], [4, 3, 2, 1, 0]], [[0, 1, 2, 3, 4], [1, 2, 3, 2, 3], [2, 3, 2, 1, 2], [3, 4, 3, 2, 1], [4, 3, 2, 1, 0]], [[0, 1, 2, 3, 4], [1, 2, 3, 2, 3], [2, 3, 2, 1, 2], [3, 2, 3, 2, 1], [4, 3, 2, 1, 0]], [[0, 1, 2, 3, 4], [1, 2, 3, 2, 3], [2, 3, 2, 1, 2], [3, 2, 1, 2, 1], [4, 3, 2, 1, 0]], [[0, 1, 2, 3, 4], [1, 2, 3, 2, 3], [2, 3, 2, 1, 2], [3, 2, 1, 0, 1], [4, 3, 2, 1, 0]], [[0, 1, 2, 3, 4], [1, 2, 3, 2, 3], [2, 1, 2, 3, 2], [3, 2, 3, 2, 1], [4, 3, 2, 1, 0]], [[0, 1, 2, 3, 4], [1, 2, 3, 2, 3], [2, 1, 2, 3, 2], [3, 2, 1, 2, 1], [4, 3, 2, 1, 0]], [[0, 1, 2, 3, 4], [1, 2, 3, 2, 3], [2, 1, 2, 1, 2], [3, 2, 3, 2, 1], [4, 3, 2, 1, 0]], [[0, 1, 2, 3, 4], [1, 2, 3, 2, 3], [2, 1, 2, 1, 2], [3, 2, 1, 2, 1], [4, 3, 2, 1, 0]], [[0, 1, 2, 3, 4], [1, 2, 3, 2, 3], [2, 1, 2, 1, 2], [3, 2, 1, 0, 1], [4, 3, 2, 1, 0]], [[0, 1, 2, 3, 4], [1, 2, 1, 2, 3], [2, 3, 2, 3, 2], [3, 4, 3, 2, 1], [4, 3, 2, 1, 0]], [[0, 1, 2, 3, 4], [1, 2, 1, 2, 3], [2, 3, 2, 3, 2], [3, 2, 3, 2, 1], [4, 3, 2, 1, 0]], [[0, 1, 2, 3, 4], [1, 2, 1, 2, 3], [2, 3, 2, 3, 2], [3, 2, 1, 2, 1], [4, 3, 2, 1, 0]], [[0, 1, 2, 3, 4], [1, 2, 1, 2, 3], [2, 3, 2, 1, 2], [3, 4, 3, 2, 1], [4, 3, 2, 1, 0]], [[0, 1, 2, 3, 4], [1, 2, 1, 2, 3], [2, 3, 2, 1, 2], [3, 2, 3, 2, 1], [4, 3, 2, 1, 0]], [[0, 1, 2, 3, 4], [1, 2, 1, 2, 3], [2, 3, 2, 1, 2], [3, 2, 1, 2, 1], [4, 3, 2, 1, 0]], [[0, 1, 2, 3, 4], [1, 2, 1, 2, 3], [2, 3, 2, 1, 2], [3, 2, 1, 0, 1], [4, 3, 2, 1, 0]], [[0, 1, 2, 3, 4], [1, 2, 1, 2, 3], [2, 1, 2, 3, 2], [3, 2, 3, 2, 1], [4, 3, 2, 1, 0]], [[0, 1, 2, 3, 4], [1, 2, 1, 2, 3], [2, 1, 2, 3, 2], [3, 2, 1, 2, 1], [4, 3, 2, 1, 0]], [[0, 1, 2, 3, 4], [1, 2, 1, 2, 3], [2, 1, 2, 1, 2], [3, 2, 3, 2, 1], [4, 3, 2, 1, 0]], [[0, 1, 2, 3, 4], [1, 2, 1, 2, 3], [2, 1, 2, 1, 2], [3, 2, 1, 2, 1], [4, 3, 2, 1, 0]], [[0, 1, 2, 3, 4], [1, 2, 1, 2, 3], [2, 1, 2, 1, 2], [3, 2, 1, 0, 1], [4, 3, 2, 1, 0]], [[0, 1, 2, 3, 4], [1, 2, 1, 2, 3], [2, 1, 0, 1, 2], [3, 2, 1, 2, 1], [4, 3, 2, 1, 0]], [[0, 1, 2, 3, 4], [1, 2, 1, 2, 3], [2, 1, 0, 1, 2], [3, 2, 1, 0, 1], [4, 3, 2, 1, 0]], [[0, 1, 2, 3, 4], [1, 0, 1, 2, 3], [2, 1, 2, 3, 2], [3, 2, 3, 2, 1], [4, 3, 2, 1, 0]], [[0, 1, 2, 3, 4], [1, 0, 1, 2, 3], [2, 1, 2, 3, 2], [3, 2, 1, 2, 1], [4, 3, 2, 1, 0]], [[0, 1, 2, 3, 4], [1, 0, 1, 2, 3], [2, 1, 2, 1, 2], [3, 2, 3, 2, 1], [4, 3, 2, 1, 0]], [[0, 1, 2, 3, 4], [1, 0, 1, 2, 3], [2, 1, 2, 1, 2], [3, 2, 1, 2, 1], [4, 3, 2, 1, 0]], [[0, 1, 2, 3, 4], [1, 0, 1, 2, 3], [2, 1, 2, 1, 2], [3, 2, 1, 0, 1], [4, 3, 2, 1, 0]], [[0, 1, 2, 3, 4], [1, 0, 1, 2, 3], [2, 1, 0, 1, 2], [3, 2, 1, 2, 1], [4, 3, 2, 1, 0]], [[0, 1, 2, 3, 4], [1, 0, 1, 2, 3], [2, 1, 0, 1, 2], [3, 2, 1, 0, 1], [4, 3, 2, 1, 0]]]

theorem all1 : M_w_all [.int 1] = some (.list (sq1.map encM)) := by kernel_rfl
theorem all2 : M_w_all [.int 2] = some (.list (sq2.map encM)) := by kernel_rfl
theorem all3 : M_w_all [.int 3] = some (.list (sq3.map encM)) := by kernel_rfl
theorem all4 : M_w_all [.int 4] = some (.list (sq4.map encM)) := by kernel_rfl
end SQ
end
section
set_option Elab.async false
set_option linter.all false
set_option maxRecDepth 100000
set_option maxHeartbeats 4000000
namespace SQ
open PySem PySem.Spec PyProof.Rows L2
theorem told1 : M_told_list [.int 1, .tuple []] = some (.list (sq1.map encM)) := by kernel_rfl
theorem told2 : M_told_list [.int 2, .tuple []] = some (.list (sq2.map encM)) := by kernel_rfl
theorem told3 : M_told_list [.int 3, .tuple []] = some (.list (sq3.map encM)) := by kernel_rfl
theorem told4 : M_told_list [.int 4, .tuple []] = some (.list (sq4.map encM)) := by kernel_rfl
end SQ
end
section
set_option Elab.async false
set_option linter.all false
set_option maxRecDepth 100000
set_option maxHeartbeats 4000000
namespace SQ
open PySem PySem.Spec PyProof.Rows L2
/-! ### what is shaped, what is equal -/
structure Sh (k : Nat) (d : D) : Prop where
  lay : d.canLay0 = true
  deep : d.depth ≤ k
theorem Sh.up {k j : Nat} {d : D} (h : Sh k d) (le : k ≤ j) : Sh j d := ⟨h.lay, Nat.le_trans h.deep le⟩
theorem Sh.int {k : Nat} (i : Int) : Sh k (.int i) := ⟨by rw [PyData.canLay0], by rw [PyData.depth]; exact Nat.zero_le _⟩
theorem layAllS : ∀ {xs : List D}, (∀ x ∈ xs, x.canLay0 = true) → PyData.canLayAll0 xs = true
  | [], _ => by rw [PyData.canLayAll0]
  | x :: xs, h => by
    rw [PyData.canLayAll0, h x (List.mem_cons_self ..), layAllS fun y m => h y (List.mem_cons_of_mem _ m)]
    rfl
theorem deepAllS {k : Nat} : ∀ {xs : List D}, (∀ x ∈ xs, x.depth ≤ k) → PyData.depthAll xs ≤ k
  | [], _ => by rw [PyData.depthAll]; exact Nat.zero_le _
  | x :: xs, h => by
    rw [PyData.depthAll]
    exact Nat.max_le.mpr ⟨h x (List.mem_cons_self ..), deepAllS fun y m => h y (List.mem_cons_of_mem _ m)⟩
theorem Sh.tup {k : Nat} {xs : List D} (h : ∀ x ∈ xs, Sh k x) : Sh (k + 1) (.tuple xs) := ⟨by rw [PyData.canLay0]; exact layAllS fun x m => (h x m).lay, by rw [PyData.depth]; exact Nat.succ_le_succ (deepAllS fun x m => (h x m).deep)⟩
theorem Sh.lst {k : Nat} {xs : List D} (h : ∀ x ∈ xs, Sh k x) : Sh (k + 1) (.list xs) := ⟨by rw [PyData.canLay0]; exact layAllS fun x m => (h x m).lay, by rw [PyData.depth]; exact Nat.succ_le_succ (deepAllS fun x m => (h x m).deep)⟩
theorem Sh.ok {k : Nat} {d : D} (h : Sh k d) (hk : k ≤ 64) : SeqAt.shaped d = true := by
  unfold SeqAt.shaped
  rw [h.lay, decide_eq_true (Nat.le_trans h.deep hk)]
  rfl
theorem eq_of {j k : Nat} {d e : D} (h : Sh j d) (h' : Sh k e) (hj : j ≤ 64) (hk : k ≤ 64) : eqD d e = some (.bool (PyData.eqv d e)) := by
  unfold eqD
  rw [h.ok hj, h'.ok hk]
  rfl
theorem ne_of {j k : Nat} {d e : D} (h : Sh j d) (h' : Sh k e) (hj : j ≤ 64) (hk : k ≤ 64) : neD d e = some (.bool (!PyData.eqv d e)) := by
  unfold neD
  rw [h.ok hj, h'.ok hk]
  rfl
theorem eqv_map {α : Type} [DecidableEq α] {enc : α → D} (h : ∀ x y, PyData.eqv (enc x) (enc y) = decide (x = y)) : ∀ (xs ys : List α), PyData.eqvAll (xs.map enc) (ys.map enc) = decide (xs = ys)
  | [], [] => by
    show PyData.eqvAll [] [] = _
    rw [PyData.eqvAll]
    rfl
  | [], y :: ys => by
    show PyData.eqvAll [] (enc y :: ys.map enc) = _
    rw [decide_eq_false (List.cons_ne_nil y ys).symm]
    unfold PyData.eqvAll
    rfl
  | x :: xs, [] => by
    show PyData.eqvAll (enc x :: xs.map enc) [] = _
    rw [decide_eq_false (List.cons_ne_nil x xs)]
    unfold PyData.eqvAll
    rfl
  | x :: xs, y :: ys => by
    show PyData.eqvAll (enc x :: xs.map enc) (enc y :: ys.map enc) = _
    rw [PyData.eqvAll, h, eqv_map h xs ys]
    by_cases e : x = y <;> by_cases f : xs = ys <;> simp [e, f]
theorem eqv_int (i j : Int) : PyData.eqv (.int i) (.int j) = decide (i = j) := by
  rw [PyData.eqv]
  by_cases e : i = j <;> simp [e]
theorem eqv_row (r s : List Int) : PyData.eqv (encR r) (encR s) = decide (r = s) := by
  unfold encR
  rw [PyData.eqv]
  exact eqv_map eqv_int r s
theorem eqv_mat (r s : Mat) : PyData.eqv (encM r) (encM s) = decide (r = s) := by
  unfold encM
  rw [PyData.eqv]
  exact eqv_map eqv_row r s
theorem sh_row (r : List Int) : Sh 1 (encR r) := Sh.tup fun x m => by
  obtain ⟨i, _, rfl⟩ := List.mem_map.mp m
  exact Sh.int i
theorem sh_mat (r : Mat) : Sh 2 (encM r) := Sh.tup fun x m => by
  obtain ⟨i, _, rfl⟩ := List.mem_map.mp m
  exact sh_row i
theorem ne_mat (r s : Mat) : neD (encM r) (encM s) = some (.bool (decide (r ≠ s))) := by
  rw [ne_of (sh_mat r) (sh_mat s) (by decide) (by decide), eqv_mat]
  by_cases e : r = s <;> simp [e]
theorem ne_intD (r s : Int) : neD (.int r) (.int s) = some (.bool (decide (r ≠ s))) := by
  rw [ne_of (Sh.int (k := 0) r) (Sh.int (k := 0) s) (by decide) (by decide), eqv_int]
  by_cases e : r = s <;> simp [e]
theorem eq_ints (r s : List Int) : eqD (.list (r.map PyData.int)) (.list (s.map PyData.int)) = some (.bool (decide (r = s))) := by
  rw [eq_of (k := 1) (j := 1) (Sh.lst (k := 0) fun x m => ?_) (Sh.lst (k := 0) fun x m => ?_) (by decide) (by decide), PyData.eqv, eqv_map eqv_int]
  · obtain ⟨i, _, rfl⟩ := List.mem_map.mp m
    exact Sh.int i
  · obtain ⟨i, _, rfl⟩ := List.mem_map.mp m
    exact Sh.int i
theorem eqv_nil (xs : List D) : PyData.eqv (.list xs) (.list []) = xs.isEmpty := by
  rw [PyData.eqv]
  cases xs with
  | nil => rw [PyData.eqvAll]; rfl
  | cons x xs => unfold PyData.eqvAll; rfl
theorem eq_nil {xs : List D} {k : Nat} (hk : k ≤ 63) (h : ∀ x ∈ xs, Sh k x) : eqD (.list xs) (.list []) = some (.bool xs.isEmpty) := by
  rw [eq_of (Sh.lst h) (Sh.lst (k := 0) fun x m => absurd m (List.not_mem_nil)) (by omega) (by decide), eqv_nil]
theorem ne_nilT {xs : List D} {k : Nat} (hk : k ≤ 63) (h : ∀ x ∈ xs, Sh k x) : neD (.tuple xs) (.tuple []) = some (.bool (!xs.isEmpty)) := by
  rw [ne_of (Sh.tup h) (Sh.tup (k := 0) fun x m => absurd m (List.not_mem_nil)) (by omega) (by decide), PyData.eqv]
  cases xs with
  | nil => rw [PyData.eqvAll]; rfl
  | cons x xs => unfold PyData.eqvAll; rfl
/-! ### loops -/
theorem lc_map {α : Type} {p : Pat} {ft : FT} {fe : FE} {τ : Store} {enc : α → D} {t : α → Bool} {g : α → D} : ∀ {xs : List α}, (∀ x ∈ xs, ∃ τ1, bindP p (enc x) τ = some τ1 ∧ ft τ1 = some (t x) ∧ (t x = true → fe τ1 = some (g x))) → lcL p ft fe τ (xs.map enc) = some ((xs.filter t).map g)
  | [], _ => rfl
  | x :: xs, h => by
    obtain ⟨τ1, h1, h2, h3⟩ := h x (List.mem_cons_self ..)
    have ih := lc_map (xs := xs) fun y m => h y (List.mem_cons_of_mem _ m)
    show ((bindP p (enc x) τ).bind fun τ1 => (ft τ1).bind fun b => if b = true then (fe τ1).bind fun r => (lcL p ft fe τ (xs.map enc)).bind fun rs => some (r :: rs) else lcL p ft fe τ (xs.map enc)) = _
    rw [h1]
    show ((ft τ1).bind fun b => _) = _
    rw [h2]
    show (if t x = true then _ else _) = _
    cases e : t x with
    | true =>
      rw [if_pos rfl, h3 e, ih, List.filter_cons_of_pos e]
      rfl
    | false => 
      rw [if_neg (by decide), ih, List.filter_cons_of_neg (by rw [e]; decide)]
theorem lc_all {α : Type} {p : Pat} {fe : FE} {τ : Store} {enc : α → D} {g : α → D} {xs : List α} (h : ∀ x ∈ xs, ∃ τ1, bindP p (enc x) τ = some τ1 ∧ fe τ1 = some (g x)) : lcL p fYes fe τ (xs.map enc) = some (xs.map g) := by
  rw [lc_map (t := fun _ => true) (g := g) fun x m => ?_, List.filter_eq_self.mpr fun _ _ => rfl]
  obtain ⟨τ1, h1, h2⟩ := h x m
  exact ⟨τ1, h1, rfl, fun _ => h2⟩
theorem fLc_some {vs : List Nat} {fi : FA} {p : Pat} {ft : FT} {fe : FE} {τ : Store} {ds rs : List D} (h : fi τ = some ds) (hl : ds.length ≤ 16777216) (h' : lcL p ft fe (wipeS τ vs) ds = some rs) : fLc vs fi p ft fe τ = some (.list rs) := by
  unfold fLc
  rw [h]
  show (if _ then _ else _) = _
  rw [if_pos hl, h']
  rfl
theorem for_stop {α : Type} {p : Pat} {F : FS} {I : Store → Prop} {enc : α → D} {res : α → Option D} : ∀ {xs : List α} {τ : Store}, (∀ x ∈ xs, ∀ τ, I τ → ∃ τ1, bindP p (enc x) τ = some τ1 ∧ (∀ d, res x = some d → F τ1 = some (.rt d)) ∧ (res x = none → ∃ τ2, F τ1 = some (.nx τ2) ∧ I τ2)) → I τ →
    (∀ d, xs.findSome? res = some d → forL p F (xs.map enc) τ = some (.rt d)) ∧ (xs.findSome? res = none → ∃ τ', forL p F (xs.map enc) τ = some (.nx τ') ∧ I τ')
  | [], τ, _, i => ⟨fun d h => (by cases h), fun _ => ⟨τ, rfl, i⟩⟩
  | x :: xs, τ, h, i => by
    obtain ⟨τ1, h1, h2, h3⟩ := h x (List.mem_cons_self ..) τ i
    have e0 : forL p F ((x :: xs).map enc) τ = (F τ1).bind fun
        | .nx τ2 => forL p F (xs.map enc) τ2
        | .rt r => some (.rt r) := by
      show ((bindP p (enc x) τ).bind fun τ1 => (F τ1).bind fun
        | .nx τ2 => forL p F (xs.map enc) τ2
        | .rt r => some (.rt r)) = _
      rw [h1]
      rfl
    rw [e0]
    cases e : res x with
    | some d =>
      have e1 : (x :: xs).findSome? res = some d := by simp [List.findSome?, e]
      rw [h2 d e]
      refine ⟨fun d' hd => ?_, fun hd => ?_⟩
      · rw [e1] at hd
        cases hd
        rfl
      · rw [e1] at hd
        cases hd
    | none =>
      obtain ⟨τ2, h4, i2⟩ := h3 e
      have e1 : (x :: xs).findSome? res = xs.findSome? res := by simp [List.findSome?, e]
      rw [e1, h4]
      exact for_stop (xs := xs) (fun y m => h y (List.mem_cons_of_mem _ m)) i2
theorem for_app {p : Pat} {F : FS} {d : D} {ys : List D} : ∀ {xs : List D} {τ : Store}, forL p F xs τ = some (.rt d) → forL p F (xs ++ ys) τ = some (.rt d)
  | [], τ, h => by cases h
  | x :: xs, τ, h => by
    obtain ⟨τ1, h1, h⟩ := bnd (show ((bindP p x τ).bind fun τ1 => (F τ1).bind fun
        | .nx τ2 => forL p F xs τ2
        | .rt r => some (.rt r)) = _ from h)
    obtain ⟨o, h2, h⟩ := bnd h
    show ((bindP p x τ).bind fun τ1 => (F τ1).bind fun
        | .nx τ2 => forL p F (xs ++ ys) τ2
        | .rt r => some (.rt r)) = _
    rw [h1]
    show ((F τ1).bind _) = _
    rw [h2]
    cases o with
    | nx τ2 => exact for_app (xs := xs) h
    | rt r => exact h
theorem for_pre {α : Type} {p : Pat} {F : FS} {enc : α → D} {S : List α → Store → Prop} : ∀ {post pre : List α} {τ : Store}, (∀ a x b, pre ++ post = a ++ x :: b → ∀ τ, S a τ → ∃ τ1 τ2, bindP p (enc x) τ = some τ1 ∧ F τ1 = some (.nx τ2) ∧ S (a ++ [x]) τ2) → S pre τ →
    ∃ τ', forL p F (post.map enc) τ = some (.nx τ') ∧ S (pre ++ post) τ'
  | [], pre, τ, _, i => ⟨τ, rfl, by rw [List.append_nil]; exact i⟩
  | x :: post, pre, τ, h, i => by
    obtain ⟨τ1, τ2, h1, h2, i2⟩ := h pre x post rfl τ i
    have e : pre ++ x :: post = (pre ++ [x]) ++ post := by simp
    obtain ⟨τ', h3, i3⟩ := for_pre (post := post) (pre := pre ++ [x]) (fun a y b q => h a y b (e.trans q)) i2
    refine ⟨τ', ?_, e ▸ i3⟩
    show ((bindP p (enc x) τ).bind fun τ1 => (F τ1).bind fun
        | .nx τ2 => forL p F (post.map enc) τ2
        | .rt r => some (.rt r)) = _
    rw [h1]
    show ((F τ1).bind _) = _
    rw [h2]
    exact h3
end SQ
end
section
set_option Elab.async false
set_option linter.all false
set_option maxRecDepth 100000
set_option maxHeartbeats 4000000
namespace SQ
open PySem PySem.Spec PyProof.Rows L2
/-! ### lots -/
def startI (lot : List Nat) : Nat := match lot.getLast? with
  | some i => i + 1
  | none => 0
def extI (n : Nat) (lot : List Nat) : List (List Nat) := (List.range (n - startI lot)).map fun i => lot ++ [startI lot + i]
def flatI {α : Type} : List (List α) → List α
  | [] => []
  | x :: r => x ++ flatI r
theorem flatI_app {α : Type} : ∀ xs ys : List (List α), flatI (xs ++ ys) = flatI xs ++ flatI ys
  | [], _ => rfl
  | x :: xs, ys => by
    show x ++ flatI (xs ++ ys) = (x ++ flatI xs) ++ flatI ys
    rw [flatI_app xs ys, List.append_assoc]
theorem flatI_mem {α : Type} {y : α} : ∀ {xs : List (List α)}, y ∈ flatI xs → ∃ x ∈ xs, y ∈ x
  | x :: xs, h => by
    rcases List.mem_append.mp (show y ∈ x ++ flatI xs from h) with h | h
    · exact ⟨x, List.mem_cons_self .., h⟩
    · obtain ⟨z, m, hz⟩ := flatI_mem h
      exact ⟨z, List.mem_cons_of_mem _ m, hz⟩
def lotsI (n : Nat) : Nat → List (List Nat)
  | 0 => [[]]
  | k + 1 => flatI ((lotsI n k).map (extI n))
theorem lot_mem {n : Nat} : ∀ {k : Nat} {lot : List Nat}, lot ∈ lotsI n k → lot.length = k ∧ ∀ i ∈ lot, i < n
  | 0, lot, h => by
    cases List.mem_singleton.mp h
    exact ⟨rfl, fun i m => absurd m List.not_mem_nil⟩
  | k + 1, lot, h => by
    obtain ⟨xs, m, hx⟩ := flatI_mem h
    obtain ⟨l, ml, rfl⟩ := List.mem_map.mp m
    obtain ⟨i, mi, rfl⟩ := List.mem_map.mp hx
    obtain ⟨h1, h2⟩ := lot_mem ml
    refine ⟨by rw [List.length_append, h1]; rfl, fun j mj => ?_⟩
    rcases List.mem_append.mp mj with q | q
    · exact h2 j q
    · cases List.mem_singleton.mp q
      have := List.mem_range.mp mi
      omega
def encI (i : Nat) : D := .int (i : Int)
def encL (lot : List Nat) : D := .tuple (lot.map encI)
abbrev Spot := Nat × Nat
def encS (s : Spot) : D := .tuple [encI s.1, encI s.2]
def spotAt (sp : List Spot) (i : Nat) : Spot := sp.getD i (0, 0)
def encC (sp : List Spot) (lot : List Nat) : D := .tuple (lot.map fun i => encS (spotAt sp i))
theorem sh_spot (s : Spot) : Sh 1 (encS s) := Sh.tup fun x m => by
  rcases List.mem_cons.mp m with rfl | m
  · exact Sh.int _
  · rcases List.mem_cons.mp m with rfl | m
    · exact Sh.int _
    · cases m
/-- the last of a lot -/
theorem last_at {lot : List Nat} {enc : Nat → D} (h : lot ≠ []) : ∃ i, lot.getLast? = some i ∧ i ∈ lot ∧ atI (lot.map enc) (-1) = some (enc i) := by
  have hl : 0 < lot.length := List.length_pos_iff.mpr h
  refine ⟨lot[lot.length - 1], ?_, List.getElem_mem .., ?_⟩
  · rw [List.getLast?_eq_getElem?, List.getElem?_eq_getElem (by omega)]
  · unfold atI
    have e : ixN (lot.map enc).length (-1) = some (lot.length - 1) := by
      unfold ixN
      rw [List.length_map, if_neg (by omega), if_pos (by omega)]
      congr 1
      omega
    rw [e]
    show (lot.map enc)[lot.length - 1]? = _
    rw [List.getElem?_map, List.getElem?_eq_getElem (by omega)]
    rfl
theorem add_list {xs ys : List D} (h : xs.length + ys.length ≤ 16777216) : addD (.list xs) (.list ys) = some (.list (xs ++ ys)) := if_pos h
theorem add_tup {xs ys : List D} (h : xs.length + ys.length ≤ 16777216) : addD (.tuple xs) (.tuple ys) = some (.tuple (xs ++ ys)) := if_pos h
theorem rng1 {f : FE} {τ : Store} {n : Nat} (h : f τ = some (.int (n : Int))) (hn : n ≤ 1000000) : fRng1 f τ = some ((List.range n).map fun (i : Nat) => PyData.int (0 + (i : Int))) := by
  unfold fRng1
  rw [h]
  show (if _ then _ else _) = _
  rw [if_pos (by omega)]
  unfold rngD
  rw [show ((n : Int) - 0).toNat = n by omega]
theorem rng2 {f g : FE} {τ : Store} {m n : Nat} (h : f τ = some (.int (m : Int))) (h' : g τ = some (.int (n : Int))) (hm : m ≤ 1000000) (hn : n ≤ 1000000) : fRng2 f g τ = some ((List.range (n - m)).map fun (i : Nat) => PyData.int ((m : Int) + (i : Int))) := by
  unfold fRng2
  rw [h]
  show ((g τ).bind _) = _
  rw [h']
  show (if _ then _ else _) = _
  rw [if_pos (by omega)]
  unfold rngD
  rw [show ((n : Int) - (m : Int)).toNat = n - m by omega]
theorem items {f : FE} {τ : Store} {xs : List D} (h : f τ = some (.list xs)) : fItems f τ = some xs := by
  unfold fItems
  rw [h]
  rfl
theorem itemsT {f : FE} {τ : Store} {xs : List D} (h : f τ = some (.tuple xs)) : fItems f τ = some xs := by
  unfold fItems
  rw [h]
  rfl
theorem sh_lot (lot : List Nat) : ∀ x ∈ lot.map encI, Sh 0 x := fun x m => by
  obtain ⟨i, _, rfl⟩ := List.mem_map.mp m
  exact Sh.int _
/-- where the next one starts -/
theorem start_eq {lot : List Nat} {τ : Store} (h : fV 5 τ = some (encL lot)) : fIf (fTb (f2 neD (fV 5) (fcall mkTup fAn))) (f2 addD (f2 ixD (fV 5) (f1 negD (fC (.int 1)))) (fC (.int 1))) (fC (.int 0)) τ = some (.int (startI lot : Int)) := by
  unfold fIf fTb f2
  rw [h]
  show ((neD (encL lot) (.tuple [])).bind _).bind _ = _
  unfold encL
  rw [ne_nilT (k := 0) (by decide) (sh_lot lot)]
  show (if (!(lot.map encI).isEmpty) = true then _ else _) = _
  by_cases e : lot = []
  · subst e
    rfl
  · have e1 : (!(lot.map encI).isEmpty) = true := by
      cases lot with
      | nil => exact absurd rfl e
      | cons _ _ => rfl
    rw [if_pos e1]
    obtain ⟨i, h1, _, h2⟩ := last_at (enc := encI) e
    show ((atI (lot.map encI) (-1)).bind _) = _
    rw [h2]
    show some (PyData.int ((i : Int) + 1)) = _
    unfold startI
    rw [h1]
    rfl
theorem start_le {n : Nat} {lot : List Nat} (h : ∀ i ∈ lot, i < n) : startI lot ≤ n := by
  unfold startI
  split
  case h_1 i e => exact h i (List.mem_of_getLast? e)
  case h_2 => exact Nat.zero_le _
theorem flat_le {α : Type} : ∀ {xs : List (List α)} {a : List (List α)} {x : List α} {b : List (List α)}, xs = a ++ x :: b → (flatI a).length + x.length ≤ (flatI xs).length := by
  intro xs a x b h
  subst h
  rw [flatI_app]
  show _ ≤ (flatI a ++ (x ++ flatI b)).length
  rw [List.length_append, List.length_append]
  omega
theorem seq_nx {F F' : FS} {τ τ' : Store} (h : F τ = some (.nx τ')) : sSeq F F' τ = F' τ' := by
  unfold sSeq
  rw [h]
  rfl
theorem seq_rt {F F' : FS} {τ : Store} {d : D} (h : F τ = some (.rt d)) : sSeq F F' τ = some (.rt d) := by
  unfold sSeq
  rw [h]
  rfl
theorem set_eq {i : Nat} {f : FE} {τ : Store} {d : D} (h : f τ = some d) : sSet i f τ = some (.nx (τ.set i (.dat d))) := by
  unfold sSet
  rw [h]
  rfl
theorem for_eq {fi : FA} {p : Pat} {F : FS} {τ : Store} {ds : List D} (h : fi τ = some ds) : sFor fi p F τ = forL p F ds τ := by
  unfold sFor
  rw [h]
  rfl
theorem run_rt {n m : Nat} {F : FS} {ds : List D} {d : D} (hm : ds.length = m) (h : F (ds.map SL.dat ++ List.replicate (n - ds.length) SL.no) = some (.rt d)) : runF n m F ds = some d := by
  unfold runF
  rw [if_pos hm, h]
  rfl
theorem f2_eq {g : D → D → Option D} {fa fb : FE} {τ : Store} {d e k : D} (h : fa τ = some d) (h' : fb τ = some e) (hk : g d e = some k) : f2 g fa fb τ = some k := by
  unfold f2
  rw [h]
  show ((fb τ).bind fun e => g d e) = _
  rw [h']
  exact hk
theorem call1_eq {g : List D → Option D} {fa : FE} {τ : Store} {d k : D} (h : fa τ = some d) (hk : g [d] = some k) : fcall g (fAc fa fAn) τ = some k := by
  unfold fcall fAc
  rw [h]
  exact hk
theorem call2_eq {g : List D → Option D} {fa fb : FE} {τ : Store} {d e k : D} (h : fa τ = some d) (h' : fb τ = some e) (hk : g [d, e] = some k) : fcall g (fAc fa (fAc fb fAn)) τ = some k := by
  unfold fcall fAc
  rw [h]
  show ((((fb τ).bind fun d => (fAn τ).bind fun ds => some (d :: ds)).bind fun ds => some (d :: ds)).bind g) = _
  rw [h']
  exact hk
theorem ret_eq {f : FE} {τ : Store} {d : D} (h : f τ = some d) : sRet f τ = some (.rt d) := by
  unfold sRet
  rw [h]
  rfl
theorem if_eq {c : FT} {F F' : FS} {τ : Store} {b : Bool} (h : c τ = some b) : sIf c F F' τ = if b = true then F τ else F' τ := by
  unfold sIf
  rw [h]
  rfl
theorem tb_eq {f : FE} {τ : Store} {b : Bool} (h : f τ = some (.bool b)) : fTb f τ = some b := by
  unfold fTb
  rw [h]
  rfl
theorem drop_eq {f : FE} {τ : Store} {d : D} (h : f τ = some d) : sDrop f τ = some (.nx τ) := by
  unfold sDrop
  rw [h]
  rfl
def inL : FS := sSet 4 (f2 addD (fV 4) (fLc [6] (fRng2 (fIf (fTb (f2 neD (fV 5) (fcall mkTup fAn))) (f2 addD (f2 ixD (fV 5) (f1 negD (fC (.int 1)))) (fC (.int 1))) (fC (.int 0))) (fV 0)) (.nm 6) fYes (f2 addD (fV 5) (fcall mkTup (fAc (fV 6) fAn)))))
def outL : FS := sSeq (sSet 4 (fcall mkLst fAn)) (sSeq (sFor (fItems (fV 2)) (.nm 5) inL) (sSet 2 (fV 4)))
theorem body_lots : Body_lots_of = sSeq (sSet 2 (fcall mkLst (fAc (fcall mkTup fAn) fAn))) (sSeq (sFor (fRng1 (fV 1)) (.nm 3) outL) (sRet (fV 2))) := rfl
def stL (n k : Nat) (xs ys : List (List Nat)) (a3 a5 a6 : SL) : Store := [SL.dat (.int (n : Int)), SL.dat (.int (k : Int)), SL.dat (.list (xs.map encL)), a3, SL.dat (.list (ys.map encL)), a5, a6]
theorem lots_ok {n k : Nat} (hn : n ≤ 1000) (hk : k ≤ 1000) (hb : ∀ j, j ≤ k → (lotsI n j).length ≤ 16777216) : M_lots_of [.int (n : Int), .int (k : Int)] = some (.list ((lotsI n k).map encL)) := by
  have inner : ∀ (j : Nat), j < k → ∀ (a3 a4 a5 a6 : SL), ∃ a5' a6',
      outL [SL.dat (.int (n : Int)), SL.dat (.int (k : Int)), SL.dat (.list ((lotsI n j).map encL)), a3, a4, a5, a6] = some (.nx (stL n k (lotsI n (j + 1)) (lotsI n (j + 1)) a3 a5' a6')) := by
    intro j hj a3 a4 a5 a6
    have hb' := hb (j + 1) hj
    obtain ⟨τ', h1, a5', a6', rfl⟩ := for_pre (p := .nm 5) (enc := encL) (F := inL)
      (S := fun pre τ => ∃ a5 a6, τ = stL n k (lotsI n j) (flatI (pre.map (extI n))) a3 a5 a6)
      (post := lotsI n j) (pre := []) (τ := stL n k (lotsI n j) [] a3 a5 a6)
      (fun a x b hab τ i => by
        obtain ⟨b5, b6, rfl⟩ := i
        have hab : lotsI n j = a ++ x :: b := hab
        have hx : x ∈ lotsI n j := by
          rw [hab]
          exact List.mem_append_right _ (List.mem_cons_self ..)
        obtain ⟨hx1, hx2⟩ := lot_mem hx
        have hs := start_le hx2
        refine ⟨stL n k (lotsI n j) (flatI (a.map (extI n))) a3 (SL.dat (encL x)) b6, stL n k (lotsI n j) (flatI (a.map (extI n)) ++ extI n x) a3 (SL.dat (encL x)) b6, rfl, ?_, ⟨SL.dat (encL x), b6, ?_⟩⟩
        · have hlen : (flatI (a.map (extI n))).length + (extI n x).length ≤ 16777216 := by
            refine Nat.le_trans (flat_le (xs := (lotsI n j).map (extI n)) (b := b.map (extI n)) ?_) hb'
            rw [hab, List.map_append]
            rfl
          have hxl : (extI n x).length = n - startI x := by
            unfold extI
            rw [List.length_map, List.length_range]
          have hlc := fLc_some (vs := [6]) (p := .nm 6) (ft := fYes) (fe := f2 addD (fV 5) (fcall mkTup (fAc (fV 6) fAn))) (τ := stL n k (lotsI n j) (flatI (a.map (extI n))) a3 (SL.dat (encL x)) b6)
            (rng2 (f := fIf (fTb (f2 neD (fV 5) (fcall mkTup fAn))) (f2 addD (f2 ixD (fV 5) (f1 negD (fC (.int 1)))) (fC (.int 1))) (fC (.int 0))) (g := fV 0) (m := startI x) (n := n) (start_eq rfl) rfl (by omega) (by omega)) (by rw [List.length_map, List.length_range]; omega)
            (lc_all (g := fun i => encL (x ++ [startI x + i])) fun i mi => ⟨_, rfl, by
              show addD (.tuple (x.map encI)) (.tuple [.int ((startI x : Int) + (i : Int))]) = _
              rw [add_tup (by rw [List.length_map, hx1]; show j + 1 ≤ _; omega)]
              unfold encL
              rw [List.map_append]
              rfl⟩)
          have e : (List.range (n - startI x)).map (fun i => encL (x ++ [startI x + i])) = (extI n x).map encL := by
            unfold extI
            rw [List.map_map]
            rfl
          rw [e] at hlc
          unfold inL
          rw [set_eq (f2_eq (fa := fV 4) (d := .list ((flatI (a.map (extI n))).map encL)) rfl hlc (add_list (by rw [List.length_map, List.length_map]; exact hlen)))]
          rw [← List.map_append]
          rfl
        · rw [List.map_append, flatI_app]
          show _ = stL n k (lotsI n j) (flatI (a.map (extI n)) ++ (extI n x ++ [])) a3 (SL.dat (encL x)) b6
          rw [List.append_nil])
      ⟨a5, a6, rfl⟩
    rw [List.nil_append] at h1
    refine ⟨a5', a6', ?_⟩
    unfold outL
    refine (seq_nx (set_eq (d := .list []) rfl)).trans ?_
    refine (seq_nx ((for_eq (τ := stL n k (lotsI n j) [] a3 a5 a6) (fi := fItems (fV 2)) (ds := (lotsI n j).map encL) rfl).trans h1)).trans ?_
    exact set_eq (f := fV 4) rfl
  obtain ⟨τ', h1, ys, a3, a5, a6, rfl⟩ := for_pre (p := .nm 3) (enc := fun (i : Nat) => PyData.int (0 + (i : Int))) (F := outL)
      (S := fun pre τ => ∃ a4 a3 a5 a6, τ = [SL.dat (.int (n : Int)), SL.dat (.int (k : Int)), SL.dat (.list ((lotsI n pre.length).map encL)), a3, a4, a5, a6])
      (post := List.range k) (pre := []) (τ := [SL.dat (.int (n : Int)), SL.dat (.int (k : Int)), SL.dat (.list [.tuple []]), SL.no, SL.no, SL.no, SL.no])
      (fun a x b hab τ i => by
        obtain ⟨b4, b3, b5, b6, rfl⟩ := i
        have hl : a.length < k := by
          have := congrArg List.length hab
          rw [List.nil_append, List.length_range, List.length_append] at this
          have e : (x :: b).length = b.length + 1 := rfl
          omega
        obtain ⟨a5', a6', h⟩ := inner a.length hl (SL.dat (.int (0 + (x : Int)))) b4 b5 b6
        refine ⟨[SL.dat (.int (n : Int)), SL.dat (.int (k : Int)), SL.dat (.list ((lotsI n a.length).map encL)), SL.dat (.int (0 + (x : Int))), b4, b5, b6], _, rfl, h, ⟨SL.dat (.list ((lotsI n (a.length + 1)).map encL)), SL.dat (.int (0 + (x : Int))), a5', a6', ?_⟩⟩
        rw [List.length_append]
        rfl)
      ⟨SL.no, SL.no, SL.no, SL.no, rfl⟩
  rw [List.nil_append, List.length_range] at h1
  unfold M_lots_of
  refine run_rt rfl ?_
  rw [body_lots]
  refine (seq_nx (set_eq (d := .list [.tuple []]) rfl)).trans ?_
  refine (seq_nx ((for_eq (rng1 (f := fV 1) (n := k) rfl (by omega))).trans h1)).trans ?_
  rfl
end SQ
end
section
set_option Elab.async false
set_option linter.all false
set_option maxRecDepth 100000
set_option maxHeartbeats 4000000
namespace SQ
open PySem PySem.Spec PyProof.Rows L2
def inW : FS := sSeq (sSet 6 (fIf (fTb (f2 neD (fV 5) (fcall mkTup fAn))) (f2 addD (f2 indexD (fV 0) (f2 ixD (fV 5) (f1 negD (fC (.int 1))))) (fC (.int 1))) (fC (.int 0))))
    (sSet 4 (f2 addD (fV 4) (fLc [7] (fItems (fSl (fV 0) (fPs (fV 6)) fPn)) (.nm 7) fYes (f2 addD (fV 5) (fcall mkTup (fAc (fV 7) fAn))))))
def outW : FS := sSeq (sSet 4 (fcall mkLst fAn)) (sSeq (sFor (fItems (fV 2)) (.nm 5) inW) (sSet 2 (fV 4)))
theorem body_wlots : Body_w_lots = sSeq (sSet 2 (fcall mkLst (fAc (fcall mkTup fAn) fAn))) (sSeq (sFor (fRng1 (fV 1)) (.nm 3) outW) (sRet (fV 2))) := rfl
def IdxOk (sp : List Spot) : Prop := ∀ i, i < sp.length → indexD (.list (sp.map encS)) (encS (spotAt sp i)) = some (.int (i : Int))
theorem sh_lotC (sp : List Spot) (lot : List Nat) : ∀ x ∈ lot.map (fun i => encS (spotAt sp i)), Sh 1 x := fun x m => by
  obtain ⟨i, _, rfl⟩ := List.mem_map.mp m
  exact sh_spot _
theorem startW {sp : List Spot} (hi : IdxOk sp) {lot : List Nat} (hl : ∀ i ∈ lot, i < sp.length) {τ : Store} (h0 : fV 0 τ = some (.list (sp.map encS))) (h : fV 5 τ = some (encC sp lot)) : fIf (fTb (f2 neD (fV 5) (fcall mkTup fAn))) (f2 addD (f2 indexD (fV 0) (f2 ixD (fV 5) (f1 negD (fC (.int 1))))) (fC (.int 1))) (fC (.int 0)) τ = some (.int (startI lot : Int)) := by
  unfold fIf fTb
  rw [f2_eq (g := neD) (fa := fV 5) (fb := fcall mkTup fAn) (e := .tuple []) h rfl (ne_nilT (k := 1) (by decide) (sh_lotC sp lot))]
  show (if (!(lot.map _).isEmpty) = true then _ else _) = _
  by_cases e : lot = []
  · subst e
    rfl
  · have e1 : (!(lot.map fun i => encS (spotAt sp i)).isEmpty) = true := by
      cases lot with
      | nil => exact absurd rfl e
      | cons _ _ => rfl
    rw [if_pos e1]
    obtain ⟨i, h1, hm, h2⟩ := last_at (enc := fun i => encS (spotAt sp i)) e
    refine f2_eq (d := .int (i : Int)) (e := .int 1) (f2_eq h0 (f2_eq h (e := .int (-1)) rfl h2) (hi i (hl i hm))) rfl ?_
    show some (PyData.int ((i : Int) + 1)) = _
    unfold startI
    rw [h1]
    rfl
theorem drop_spots {sp : List Spot} {s : Nat} : sp.drop s = (List.range (sp.length - s)).map fun i => spotAt sp (s + i) := by
  refine List.ext_getElem (by rw [List.length_drop, List.length_map, List.length_range]) fun i h1 h2 => ?_
  rw [List.length_drop] at h1
  rw [List.getElem_drop, List.getElem_map, List.getElem_range]
  unfold spotAt
  rw [List.getD_eq_getElem?_getD, List.getElem?_eq_getElem (by omega)]
  rfl
def stW (sp : List Spot) (k : Nat) (xs ys : List (List Nat)) (a3 a5 a6 a7 : SL) : Store := [SL.dat (.list (sp.map encS)), SL.dat (.int (k : Int)), SL.dat (.list (xs.map (encC sp))), a3, SL.dat (.list (ys.map (encC sp))), a5, a6, a7]
theorem wlots_ok {sp : List Spot} {n k : Nat} (en : sp.length = n) (hi : IdxOk sp) (hn : n ≤ 1000) (hk : k ≤ 1000) (hb : ∀ j, j ≤ k → (lotsI n j).length ≤ 16777216) : M_w_lots [.list (sp.map encS), .int (k : Int)] = some (.list ((lotsI n k).map (encC sp))) := by
  have inner : ∀ (j : Nat), j < k → ∀ (a3 a4 a5 a6 a7 : SL), ∃ a5' a6' a7',
      outW [SL.dat (.list (sp.map encS)), SL.dat (.int (k : Int)), SL.dat (.list ((lotsI n j).map (encC sp))), a3, a4, a5, a6, a7] = some (.nx (stW sp k (lotsI n (j + 1)) (lotsI n (j + 1)) a3 a5' a6' a7')) := by
    intro j hj a3 a4 a5 a6 a7
    have hb' := hb (j + 1) hj
    obtain ⟨τ', h1, a5', a6', a7', rfl⟩ := for_pre (p := .nm 5) (enc := encC sp) (F := inW)
      (S := fun pre τ => ∃ a5 a6 a7, τ = stW sp k (lotsI n j) (flatI (pre.map (extI n))) a3 a5 a6 a7)
      (post := lotsI n j) (pre := []) (τ := stW sp k (lotsI n j) [] a3 a5 a6 a7)
      (fun a x b hab τ i => by
        obtain ⟨b5, b6, b7, rfl⟩ := i
        have hab : lotsI n j = a ++ x :: b := hab
        have hx : x ∈ lotsI n j := by
          rw [hab]
          exact List.mem_append_right _ (List.mem_cons_self ..)
        obtain ⟨hx1, hx2⟩ := lot_mem hx
        have hs := start_le hx2
        refine ⟨stW sp k (lotsI n j) (flatI (a.map (extI n))) a3 (SL.dat (encC sp x)) b6 b7, stW sp k (lotsI n j) (flatI (a.map (extI n)) ++ extI n x) a3 (SL.dat (encC sp x)) (SL.dat (.int (startI x : Int))) b7, rfl, ?_, ⟨SL.dat (encC sp x), SL.dat (.int (startI x : Int)), b7, ?_⟩⟩
        · have hlen : (flatI (a.map (extI n))).length + (extI n x).length ≤ 16777216 := by
            refine Nat.le_trans (flat_le (xs := (lotsI n j).map (extI n)) (b := b.map (extI n)) ?_) hb'
            rw [hab, List.map_append]
            rfl
          have hxl : (extI n x).length = n - startI x := by
            unfold extI
            rw [List.length_map, List.length_range]
          unfold inW
          refine (seq_nx (set_eq (startW hi (lot := x) (fun i m => en ▸ hx2 i m) rfl rfl))).trans ?_
          have hcut : cutD (sp.map encS) (some (startI x : Int)) none = (sp.drop (startI x)).map encS := by
            unfold cutD
            rw [HT.sIx_nat, HT.sIx_none, List.length_map, Nat.min_eq_left (by omega), List.take_of_length_le (by rw [List.length_drop, List.length_map]; exact Nat.le_refl _), List.map_drop]
          have hlc := fLc_some (vs := [7]) (p := .nm 7) (ft := fYes) (fe := f2 addD (fV 5) (fcall mkTup (fAc (fV 7) fAn))) (fi := fItems (fSl (fV 0) (fPs (fV 6)) fPn)) (τ := stW sp k (lotsI n j) (flatI (a.map (extI n))) a3 (SL.dat (encC sp x)) (SL.dat (.int (startI x : Int))) b7)
            (ds := (List.range (n - startI x)).map fun i => encS (spotAt sp (startI x + i)))
            (items (by
              show some (PyData.list (cutD (sp.map encS) (some (startI x : Int)) none)) = _
              rw [hcut, drop_spots, List.map_map, en]
              rfl)) (by rw [List.length_map, List.length_range]; omega)
            (lc_all (g := fun i => encC sp (x ++ [startI x + i])) fun i mi => ⟨_, rfl, by
              show addD (.tuple (x.map _)) (.tuple [encS (spotAt sp (startI x + i))]) = _
              rw [add_tup (by rw [List.length_map, hx1]; show j + 1 ≤ _; omega)]
              unfold encC
              rw [List.map_append]
              rfl⟩)
          have e : (List.range (n - startI x)).map (fun i => encC sp (x ++ [startI x + i])) = (extI n x).map (encC sp) := by
            unfold extI
            rw [List.map_map]
            rfl
          rw [e] at hlc
          refine (set_eq (f2_eq (fa := fV 4) (d := .list ((flatI (a.map (extI n))).map (encC sp))) rfl hlc (add_list (by rw [List.length_map, List.length_map]; exact hlen)))).trans ?_
          rw [← List.map_append]
          rfl
        · rw [List.map_append, flatI_app]
          show _ = stW sp k (lotsI n j) (flatI (a.map (extI n)) ++ (extI n x ++ [])) a3 (SL.dat (encC sp x)) (SL.dat (.int (startI x : Int))) b7
          rw [List.append_nil])
      ⟨a5, a6, a7, rfl⟩
    rw [List.nil_append] at h1
    refine ⟨a5', a6', a7', ?_⟩
    unfold outW
    refine (seq_nx (set_eq (d := .list []) rfl)).trans ?_
    refine (seq_nx ((for_eq (τ := stW sp k (lotsI n j) [] a3 a5 a6 a7) (fi := fItems (fV 2)) (ds := (lotsI n j).map (encC sp)) rfl).trans h1)).trans ?_
    exact set_eq (f := fV 4) rfl
  obtain ⟨τ', h1, ys, a3, a5, a6, a7, rfl⟩ := for_pre (p := .nm 3) (enc := fun (i : Nat) => PyData.int (0 + (i : Int))) (F := outW)
      (S := fun pre τ => ∃ a4 a3 a5 a6 a7, τ = [SL.dat (.list (sp.map encS)), SL.dat (.int (k : Int)), SL.dat (.list ((lotsI n pre.length).map (encC sp))), a3, a4, a5, a6, a7])
      (post := List.range k) (pre := []) (τ := [SL.dat (.list (sp.map encS)), SL.dat (.int (k : Int)), SL.dat (.list [.tuple []]), SL.no, SL.no, SL.no, SL.no, SL.no])
      (fun a x b hab τ i => by
        obtain ⟨b4, b3, b5, b6, b7, rfl⟩ := i
        have hl : a.length < k := by
          have := congrArg List.length hab
          rw [List.nil_append, List.length_range, List.length_append] at this
          have e : (x :: b).length = b.length + 1 := rfl
          omega
        obtain ⟨a5', a6', a7', h⟩ := inner a.length hl (SL.dat (.int (0 + (x : Int)))) b4 b5 b6 b7
        refine ⟨[SL.dat (.list (sp.map encS)), SL.dat (.int (k : Int)), SL.dat (.list ((lotsI n a.length).map (encC sp))), SL.dat (.int (0 + (x : Int))), b4, b5, b6, b7], _, rfl, h, ⟨SL.dat (.list ((lotsI n (a.length + 1)).map (encC sp))), SL.dat (.int (0 + (x : Int))), a5', a6', a7', ?_⟩⟩
        rw [List.length_append]
        rfl)
      ⟨SL.no, SL.no, SL.no, SL.no, SL.no, rfl⟩
  rw [List.nil_append, List.length_range] at h1
  unfold M_w_lots
  refine run_rt rfl ?_
  rw [body_wlots]
  refine (seq_nx (set_eq (d := .list [.tuple []]) rfl)).trans ?_
  refine (seq_nx ((for_eq (rng1 (f := fV 1) (n := k) rfl (by omega))).trans h1)).trans ?_
  rfl
end SQ
end
section
set_option Elab.async false
set_option linter.all false
set_option maxRecDepth 100000
set_option maxHeartbeats 4000000
namespace SQ
open PySem PySem.Spec PyProof.Rows L2
def valM (m : Mat) (s : Spot) : Int := (m.getD s.1 []).getD s.2 0
def inM (m : Mat) (s : Spot) : Bool := decide (s.1 < m.length) && decide (s.2 < (m.getD s.1 []).length)
theorem at_row {m : Mat} {i : Nat} (h : i < m.length) : ixD (encM m) (encI i) = some (encR (m.getD i [])) := by
  refine atI_nat ?_
  rw [List.getElem?_map, List.getElem?_eq_getElem h, List.getD_eq_getElem?_getD, List.getElem?_eq_getElem h]
  rfl
theorem at_cell {r : List Int} {i : Nat} (h : i < r.length) : ixD (encR r) (encI i) = some (.int (r.getD i 0)) := by
  refine atI_nat ?_
  rw [List.getElem?_map, List.getElem?_eq_getElem h, List.getD_eq_getElem?_getD, List.getElem?_eq_getElem h]
  rfl
theorem at_val {m : Mat} {s : Spot} {fm fr fc : FE} {τ : Store} (hs : inM m s = true) (hm : fm τ = some (encM m)) (hr : fr τ = some (encI s.1)) (hc : fc τ = some (encI s.2)) : f2 ixD (f2 ixD fm fr) fc τ = some (.int (valM m s)) := by
  unfold inM at hs
  rw [Bool.and_eq_true, decide_eq_true_eq, decide_eq_true_eq] at hs
  exact f2_eq (f2_eq hm hr (at_row hs.1)) hc (at_cell hs.2)
/-- no other agrees on all of a lot -/
def agreeI (sp : List Spot) (t o : Mat) (lot : List Nat) : Bool := lot.all fun i => decide (valM o (spotAt sp i) = valM t (spotAt sp i))
def goodI (t : Mat) (os : List Mat) (sp : List Spot) (lot : List Nat) : Bool := (os.filter fun o => agreeI sp t o lot).isEmpty
theorem agree_map {sp : List Spot} {t o : Mat} : ∀ lot : List Nat, decide (lot.map (fun i => valM o (spotAt sp i)) = lot.map (fun i => valM t (spotAt sp i))) = agreeI sp t o lot
  | [] => rfl
  | i :: lot => by
    have ih := agree_map (sp := sp) (t := t) (o := o) lot
    show decide (valM o (spotAt sp i) :: lot.map _ = valM t (spotAt sp i) :: lot.map _) = (decide (valM o (spotAt sp i) = valM t (spotAt sp i)) && agreeI sp t o lot)
    rw [← ih]
    by_cases e : valM o (spotAt sp i) = valM t (spotAt sp i) <;> by_cases f : lot.map (fun i => valM o (spotAt sp i)) = lot.map (fun i => valM t (spotAt sp i)) <;> simp [e, f]
theorem agree_filter {sp : List Spot} {t o : Mat} : ∀ lot : List Nat, (lot.filter fun i => decide (valM o (spotAt sp i) ≠ valM t (spotAt sp i))).isEmpty = agreeI sp t o lot
  | [] => rfl
  | i :: lot => by
    have ih := agree_filter (sp := sp) (t := t) (o := o) lot
    show _ = (decide (valM o (spotAt sp i) = valM t (spotAt sp i)) && agreeI sp t o lot)
    by_cases e : valM o (spotAt sp i) = valM t (spotAt sp i)
    · rw [List.filter_cons_of_neg (by simp [e]), ih, decide_eq_true e]
      rfl
    · rw [List.filter_cons_of_pos (by simp [e]), decide_eq_false e]
      rfl
theorem spot_in {sp : List Spot} {i : Nat} (h : i < sp.length) : spotAt sp i ∈ sp := by
  unfold spotAt
  rw [List.getD_eq_getElem?_getD, List.getElem?_eq_getElem h]
  exact List.getElem_mem h
theorem at_spot {sp : List Spot} {i : Nat} (h : i < sp.length) : ixD (.list (sp.map encS)) (encI i) = some (encS (spotAt sp i)) := by
  refine atI_nat ?_
  unfold spotAt
  rw [List.getElem?_map, List.getElem?_eq_getElem h, List.getD_eq_getElem?_getD, List.getElem?_eq_getElem h]
  rfl
def stF (t : Mat) (os : List Mat) (sp : List Spot) (a3 a4 a5 a6 a7 a8 a9 a10 : SL) : Store := [SL.dat (encM t), SL.dat (.list (os.map encM)), SL.dat (.list (sp.map encS)), a3, a4, a5, a6, a7, a8, a9, a10]
def inF : FS := sSeq (sSet 5 (fLc [7] (fItems (fV 4)) (.nm 7) fYes (f2 ixD (fV 2) (fV 7))))
    (sSeq (sSet 6 (fLc [8, 9] (fItems (fV 5)) (.tp [8, 9]) fYes (f2 ixD (f2 ixD (fV 0) (fV 8)) (fV 9))))
    (sIf (fTb (f2 eqD (fLc [10] (fItems (fV 1)) (.nm 10) (fTb (f2 eqD (fLc [8, 9] (fItems (fV 5)) (.tp [8, 9]) fYes (f2 ixD (f2 ixD (fV 10) (fV 8)) (fV 9))) (fV 6))) (fV 10)) (fcall mkLst fAn))) (sRet (fcall tupleD (fAc (fV 5) fAn))) sNext))
def outF : FS := sFor (fItems (fcall M_lots_of (fAc (fcall lenD (fAc (fV 2) fAn)) (fAc (fV 3) fAn)))) (.nm 4) inF
theorem body_spots : Body_fewest_spots = sSeq (sFor (fRng1 (f2 addD (fcall lenD (fAc (fV 2) fAn)) (fC (.int 1)))) (.nm 3) outF) (sRet (fcall tupleD (fAc (fV 2) fAn))) := rfl
structure WF (t : Mat) (os : List Mat) (sp : List Spot) : Prop where
  t : ∀ s ∈ sp, inM t s = true
  o : ∀ o ∈ os, ∀ s ∈ sp, inM o s = true
  small : os.length ≤ 1000
/-- the step of the program's search -/
theorem inF_ok {t : Mat} {os : List Mat} {sp : List Spot} (W : WF t os sp) {lot : List Nat} (hl : ∀ i ∈ lot, i < sp.length) (hl2 : lot.length ≤ 1000) (a3 a5 a6 a7 a8 a9 a10 : SL) : ∃ b5 b6,
    inF (stF t os sp a3 (SL.dat (encL lot)) a5 a6 a7 a8 a9 a10) = if goodI t os sp lot = true then some (.rt (encC sp lot)) else some (.nx (stF t os sp a3 (SL.dat (encL lot)) b5 b6 a7 a8 a9 a10)) := by
  have e5 : fLc [7] (fItems (fV 4)) (.nm 7) fYes (f2 ixD (fV 2) (fV 7)) (stF t os sp a3 (SL.dat (encL lot)) a5 a6 a7 a8 a9 a10) = some (.list (lot.map fun i => encS (spotAt sp i))) :=
    fLc_some (ds := lot.map encI) rfl (by rw [List.length_map]; omega) (lc_all fun i m => ⟨_, rfl, f2_eq (d := .list (sp.map encS)) (e := encI i) rfl rfl (at_spot (hl i m))⟩)
  have e6 : ∀ (f : FE) (m : Mat) (τ : Store), fV 5 τ = some (.list (lot.map fun i => encS (spotAt sp i))) → (∀ s ∈ sp, inM m s = true) → (∀ u v, ∃ τ1, (((wipeS τ [8, 9]).set 8 (.dat u)).set 9 (.dat v)) = τ1 ∧ f τ1 = some (encM m) ∧ fV 8 τ1 = some u ∧ fV 9 τ1 = some v) → fLc [8, 9] (fItems (fV 5)) (.tp [8, 9]) fYes (f2 ixD (f2 ixD f (fV 8)) (fV 9)) τ = some (.list ((lot.map fun i => valM m (spotAt sp i)).map PyData.int)) := by
    intro f m τ h5 hm hf
    have e : lot.map (fun i => encS (spotAt sp i)) = (lot.map (spotAt sp)).map encS := by rw [List.map_map]; rfl
    have e' : (lot.map fun i => valM m (spotAt sp i)).map PyData.int = (lot.map (spotAt sp)).map fun s => PyData.int (valM m s) := by rw [List.map_map, List.map_map]; rfl
    rw [e']
    refine fLc_some (items (h5.trans (by rw [e]))) (by rw [List.length_map, List.length_map]; omega) (lc_all fun s ms => ?_)
    obtain ⟨τ1, q1, q2, q3, q4⟩ := hf (encI s.1) (encI s.2)
    obtain ⟨i, mi, rfl⟩ := List.mem_map.mp ms
    exact ⟨τ1, by rw [← q1]; rfl, at_val (hm _ (spot_in (hl i mi))) q2 q3 q4⟩
  let τ2 : Store := stF t os sp a3 (SL.dat (encL lot)) (SL.dat (.list (lot.map fun i => encS (spotAt sp i)))) (SL.dat (.list ((lot.map fun i => valM t (spotAt sp i)).map PyData.int))) a7 a8 a9 a10
  have e7 : fLc [10] (fItems (fV 1)) (.nm 10) (fTb (f2 eqD (fLc [8, 9] (fItems (fV 5)) (.tp [8, 9]) fYes (f2 ixD (f2 ixD (fV 10) (fV 8)) (fV 9))) (fV 6))) (fV 10) τ2 = some (.list ((os.filter fun o => agreeI sp t o lot).map encM)) := by
    refine fLc_some (ds := os.map encM) rfl (by rw [List.length_map]; have := W.small; omega) (lc_map fun o mo => ?_)
    refine ⟨_, rfl, tb_eq ?_, fun _ => rfl⟩
    rw [← agree_map]
    exact f2_eq (e6 (fV 10) o _ rfl (W.o o mo) fun u v => ⟨_, rfl, rfl, rfl, rfl⟩) (e := .list ((lot.map fun i => valM t (spotAt sp i)).map PyData.int)) rfl (eq_ints _ _)
  refine ⟨SL.dat (.list (lot.map fun i => encS (spotAt sp i))), SL.dat (.list ((lot.map fun i => valM t (spotAt sp i)).map PyData.int)), ?_⟩
  unfold inF
  refine (seq_nx (set_eq e5)).trans ?_
  refine (seq_nx (set_eq (e6 (fV 0) t _ rfl W.t fun u v => ⟨_, rfl, rfl, rfl, rfl⟩))).trans ?_
  refine (if_eq (tb_eq (f2_eq e7 (e := .list []) rfl (eq_nil (k := 2) (by decide) fun x m => ?_)))).trans ?_
  · obtain ⟨o, _, rfl⟩ := List.mem_map.mp m
    exact sh_mat o
  · have e8 : ((os.filter fun o => agreeI sp t o lot).map encM).isEmpty = goodI t os sp lot := by
      unfold goodI
      cases os.filter fun o => agreeI sp t o lot <;> rfl
    rw [e8]
    rfl
theorem find_some {α : Type} {g : α → Bool} {r : α → D} : ∀ {xs : List α}, xs.findSome? (fun x => if g x = true then some (r x) else none) = (xs.find? g).map r
  | [] => rfl
  | x :: xs => by
    have ih := find_some (g := g) (r := r) (xs := xs)
    rw [List.findSome?_cons, List.find?_cons, ih]
    cases e : g x <;> simp
theorem outF_ok {t : Mat} {os : List Mat} {sp : List Spot} (W : WF t os sp) {n k : Nat} (en : sp.length = n) (hn : n ≤ 1000) (hk : k ≤ 1000) (hb : ∀ j, j ≤ k → (lotsI n j).length ≤ 16777216) (a4 a5 a6 a7 a8 a9 a10 : SL) :
    (∀ l, (lotsI n k).find? (goodI t os sp) = some l → outF (stF t os sp (SL.dat (.int (k : Int))) a4 a5 a6 a7 a8 a9 a10) = some (.rt (encC sp l))) ∧
    ((lotsI n k).find? (goodI t os sp) = none → ∃ b4 b5 b6, outF (stF t os sp (SL.dat (.int (k : Int))) a4 a5 a6 a7 a8 a9 a10) = some (.nx (stF t os sp (SL.dat (.int (k : Int))) b4 b5 b6 a7 a8 a9 a10))) := by
  have e0 : outF (stF t os sp (SL.dat (.int (k : Int))) a4 a5 a6 a7 a8 a9 a10) = forL (.nm 4) inF ((lotsI n k).map encL) (stF t os sp (SL.dat (.int (k : Int))) a4 a5 a6 a7 a8 a9 a10) := by
    refine for_eq (items (call2_eq (d := .int (n : Int)) (e := .int (k : Int)) ?_ rfl (lots_ok hn hk hb)))
    show some (PyData.int ((sp.map encS).length : Int)) = _
    rw [List.length_map, en]
  obtain ⟨h1, h2⟩ := for_stop (p := .nm 4) (F := inF) (enc := encL) (I := fun τ => ∃ b4 b5 b6, τ = stF t os sp (SL.dat (.int (k : Int))) b4 b5 b6 a7 a8 a9 a10) (res := fun l => if goodI t os sp l = true then some (encC sp l) else none) (xs := lotsI n k) (fun lot ml τ i => by
    obtain ⟨b4, b5, b6, rfl⟩ := i
    obtain ⟨q1, q2⟩ := lot_mem ml
    obtain ⟨c5, c6, q⟩ := inF_ok W (lot := lot) (fun i m => en ▸ q2 i m) (by omega) (SL.dat (.int (k : Int))) b5 b6 a7 a8 a9 a10
    refine ⟨_, rfl, fun d hd => q.trans ?_, fun hd => ?_⟩
    · by_cases e : goodI t os sp lot = true
      · rw [if_pos e] at hd ⊢
        cases hd
        rfl
      · rw [if_neg e] at hd
        cases hd
    · by_cases e : goodI t os sp lot = true
      · rw [if_pos e] at hd
        cases hd
      · rw [if_neg e] at q
        exact ⟨_, q, ⟨_, _, _, rfl⟩⟩) ⟨a4, a5, a6, rfl⟩
  rw [find_some] at h1 h2
  refine ⟨fun l hl => e0.trans (h1 _ (by rw [hl]; rfl)), fun hl => ?_⟩
  obtain ⟨τ', q, b4, b5, b6, rfl⟩ := h2 (by rw [hl]; rfl)
  exact ⟨b4, b5, b6, e0.trans q⟩
theorem range_pre {m k : Nat} (h : m ≤ k) : ∃ ys : List Nat, List.range k = List.range m ++ ys := by
  refine ⟨(List.range (k - m)).map (m + ·), ?_⟩
  rw [← List.range_add]
  congr 1
  omega
theorem find_opt {α : Type} {f : α → Option (List Nat)} {r : List Nat → D} : ∀ {xs : List α}, xs.findSome? (fun x => (f x).map r) = (xs.findSome? f).map r
  | [] => rfl
  | x :: xs => by
    have ih := find_opt (f := f) (r := r) (xs := xs)
    rw [List.findSome?_cons, List.findSome?_cons, ih]
    cases e : f x <;> simp
def firstI (t : Mat) (os : List Mat) (sp : List Spot) (K : Nat) : Option (List Nat) := (List.range K).findSome? fun k => (lotsI sp.length k).find? (goodI t os sp)
theorem spots_ok {t : Mat} {os : List Mat} {sp : List Spot} (W : WF t os sp) {K : Nat} {l : List Nat} (hn : sp.length ≤ 1000) (hK : K ≤ sp.length + 1) (hb : ∀ j, j < K → (lotsI sp.length j).length ≤ 16777216)
    (hf : firstI t os sp K = some l) : M_fewest_spots [encM t, .list (os.map encM), .list (sp.map encS)] = some (encC sp l) := by
  have e0 : fRng1 (f2 addD (fcall lenD (fAc (fV 2) fAn)) (fC (.int 1))) (stF t os sp SL.no SL.no SL.no SL.no SL.no SL.no SL.no SL.no) = some ((List.range (sp.length + 1)).map fun (i : Nat) => PyData.int (0 + (i : Int))) := by
    refine rng1 ?_ (by omega)
    show some (PyData.int (((sp.map encS).length : Int) + 1)) = _
    rw [List.length_map]
    rfl
  obtain ⟨ys, hy⟩ := range_pre hK
  obtain ⟨h1, _⟩ := for_stop (p := .nm 3) (F := outF) (enc := fun (i : Nat) => PyData.int (0 + (i : Int))) (I := fun τ => ∃ b3 b4 b5 b6, τ = stF t os sp b3 b4 b5 b6 SL.no SL.no SL.no SL.no) (res := fun k => ((lotsI sp.length k).find? (goodI t os sp)).map (encC sp)) (xs := List.range K) (τ := stF t os sp SL.no SL.no SL.no SL.no SL.no SL.no SL.no SL.no) (fun k mk τ i => by
    obtain ⟨b3, b4, b5, b6, rfl⟩ := i
    have hk := List.mem_range.mp mk
    obtain ⟨q1, q2⟩ := outF_ok W (k := k) rfl hn (by omega) (fun j hj => hb j (by omega)) b4 b5 b6 SL.no SL.no SL.no SL.no
    refine ⟨stF t os sp (SL.dat (.int (k : Int))) b4 b5 b6 SL.no SL.no SL.no SL.no, ?_, fun d hd => ?_, fun hd => ?_⟩
    · show some (stF t os sp (SL.dat (.int (0 + (k : Int)))) b4 b5 b6 SL.no SL.no SL.no SL.no) = _
      rw [Int.zero_add]
    · obtain ⟨l, hl, rfl⟩ := Option.map_eq_some_iff.mp hd
      exact q1 l hl
    · obtain ⟨c4, c5, c6, q⟩ := q2 (Option.map_eq_none_iff.mp hd)
      exact ⟨_, q, ⟨_, _, _, _, rfl⟩⟩) ⟨_, _, _, _, rfl⟩
  unfold M_fewest_spots
  refine run_rt rfl ?_
  rw [body_spots]
  refine seq_rt ((for_eq e0).trans ?_)
  rw [hy, List.map_append]
  refine for_app (h1 _ ?_)
  rw [find_opt]
  unfold firstI at hf
  rw [hf]
  rfl
/-! ### the law's search -/
def inV : FS := sIf (fTb (f2 eqD (fLc [5] (fItems (fV 1)) (.nm 5) (fTb (f2 eqD (fLc [6, 7] (fItems (fV 4)) (.tp [6, 7]) (fTb (f2 neD (f2 ixD (f2 ixD (fV 5) (fV 6)) (fV 7)) (f2 ixD (f2 ixD (fV 0) (fV 6)) (fV 7)))) (fC (.int 1))) (fcall mkLst fAn))) (fV 5)) (fcall mkLst fAn))) (sRet (fV 4)) sNext
def outV : FS := sFor (fItems (fcall M_w_lots (fAc (fV 2) (fAc (fV 3) fAn)))) (.nm 4) inV
theorem body_wfew : Body_w_fewest = sSeq (sFor (fRng1 (f2 addD (fcall lenD (fAc (fV 2) fAn)) (fC (.int 1)))) (.nm 3) outV) (sRet (fC .none)) := rfl
def stV (t : Mat) (os : List Mat) (sp : List Spot) (a3 a4 a5 a6 a7 : SL) : Store := [SL.dat (encM t), SL.dat (.list (os.map encM)), SL.dat (.list (sp.map encS)), a3, a4, a5, a6, a7]
theorem inV_ok {t : Mat} {os : List Mat} {sp : List Spot} (W : WF t os sp) {lot : List Nat} (hl : ∀ i ∈ lot, i < sp.length) (hl2 : lot.length ≤ 1000) (a3 a5 a6 a7 : SL) :
    inV (stV t os sp a3 (SL.dat (encC sp lot)) a5 a6 a7) = if goodI t os sp lot = true then some (.rt (encC sp lot)) else some (.nx (stV t os sp a3 (SL.dat (encC sp lot)) a5 a6 a7)) := by
  have e7 : fLc [5] (fItems (fV 1)) (.nm 5) (fTb (f2 eqD (fLc [6, 7] (fItems (fV 4)) (.tp [6, 7]) (fTb (f2 neD (f2 ixD (f2 ixD (fV 5) (fV 6)) (fV 7)) (f2 ixD (f2 ixD (fV 0) (fV 6)) (fV 7)))) (fC (.int 1))) (fcall mkLst fAn))) (fV 5) (stV t os sp a3 (SL.dat (encC sp lot)) a5 a6 a7) = some (.list ((os.filter fun o => agreeI sp t o lot).map encM)) := by
    refine fLc_some (ds := os.map encM) rfl (by rw [List.length_map]; have := W.small; omega) (lc_map fun o mo => ?_)
    refine ⟨_, rfl, tb_eq ?_, fun _ => rfl⟩
    rw [← agree_filter]
    have e1 : fLc [6, 7] (fItems (fV 4)) (.tp [6, 7]) (fTb (f2 neD (f2 ixD (f2 ixD (fV 5) (fV 6)) (fV 7)) (f2 ixD (f2 ixD (fV 0) (fV 6)) (fV 7)))) (fC (.int 1)) ((wipeS (stV t os sp a3 (SL.dat (encC sp lot)) a5 a6 a7) [5]).set 5 (.dat (encM o))) = some (.list ((lot.filter fun i => decide (valM o (spotAt sp i) ≠ valM t (spotAt sp i))).map fun _ => PyData.int 1)) := by
      refine fLc_some (ds := lot.map fun i => encS (spotAt sp i)) rfl (by rw [List.length_map]; omega) (lc_map fun i mi => ?_)
      have ms := spot_in (hl i mi)
      exact ⟨_, rfl, tb_eq (f2_eq (at_val (W.o o mo _ ms) rfl rfl rfl) (at_val (W.t _ ms) rfl rfl rfl) (ne_intD _ _)), fun _ => rfl⟩
    have e2 := eq_nil (xs := (lot.filter fun i => decide (valM o (spotAt sp i) ≠ valM t (spotAt sp i))).map fun _ => PyData.int 1) (k := 0) (by decide) fun x m => by
      obtain ⟨_, _, rfl⟩ := List.mem_map.mp m
      exact Sh.int 1
    have e3 : ((lot.filter fun i => decide (valM o (spotAt sp i) ≠ valM t (spotAt sp i))).map fun _ => PyData.int 1).isEmpty = (lot.filter fun i => decide (valM o (spotAt sp i) ≠ valM t (spotAt sp i))).isEmpty := by
      cases lot.filter fun i => decide (valM o (spotAt sp i) ≠ valM t (spotAt sp i)) <;> rfl
    rw [e3] at e2
    exact f2_eq e1 (e := .list []) rfl e2
  unfold inV
  refine (if_eq (tb_eq (f2_eq e7 (e := .list []) rfl (eq_nil (k := 2) (by decide) fun x m => ?_)))).trans ?_
  · obtain ⟨o, _, rfl⟩ := List.mem_map.mp m
    exact sh_mat o
  · have e8 : ((os.filter fun o => agreeI sp t o lot).map encM).isEmpty = goodI t os sp lot := by
      unfold goodI
      cases os.filter fun o => agreeI sp t o lot <;> rfl
    rw [e8]
    rfl
theorem outV_ok {t : Mat} {os : List Mat} {sp : List Spot} (W : WF t os sp) (ix : IdxOk sp) {n k : Nat} (en : sp.length = n) (hn : n ≤ 1000) (hk : k ≤ 1000) (hb : ∀ j, j ≤ k → (lotsI n j).length ≤ 16777216) (a4 a5 a6 a7 : SL) :
    (∀ l, (lotsI n k).find? (goodI t os sp) = some l → outV (stV t os sp (SL.dat (.int (k : Int))) a4 a5 a6 a7) = some (.rt (encC sp l))) ∧
    ((lotsI n k).find? (goodI t os sp) = none → ∃ b4, outV (stV t os sp (SL.dat (.int (k : Int))) a4 a5 a6 a7) = some (.nx (stV t os sp (SL.dat (.int (k : Int))) b4 a5 a6 a7))) := by
  have e0 : outV (stV t os sp (SL.dat (.int (k : Int))) a4 a5 a6 a7) = forL (.nm 4) inV ((lotsI n k).map (encC sp)) (stV t os sp (SL.dat (.int (k : Int))) a4 a5 a6 a7) :=
    for_eq (items (call2_eq (d := .list (sp.map encS)) (e := .int (k : Int)) rfl rfl (wlots_ok en ix hn hk hb)))
  obtain ⟨h1, h2⟩ := for_stop (p := .nm 4) (F := inV) (enc := encC sp) (I := fun τ => ∃ b4, τ = stV t os sp (SL.dat (.int (k : Int))) b4 a5 a6 a7) (res := fun l => if goodI t os sp l = true then some (encC sp l) else none) (xs := lotsI n k) (fun lot ml τ i => by
    obtain ⟨b4, rfl⟩ := i
    obtain ⟨q1, q2⟩ := lot_mem ml
    have q := inV_ok W (lot := lot) (fun i m => en ▸ q2 i m) (by omega) (SL.dat (.int (k : Int))) a5 a6 a7
    refine ⟨_, rfl, fun d hd => q.trans ?_, fun hd => ?_⟩
    · by_cases e : goodI t os sp lot = true
      · rw [if_pos e] at hd ⊢
        cases hd
        rfl
      · rw [if_neg e] at hd
        cases hd
    · by_cases e : goodI t os sp lot = true
      · rw [if_pos e] at hd
        cases hd
      · rw [if_neg e] at q
        exact ⟨_, q, ⟨_, rfl⟩⟩) ⟨a4, rfl⟩
  rw [find_some] at h1 h2
  refine ⟨fun l hl => e0.trans (h1 _ (by rw [hl]; rfl)), fun hl => ?_⟩
  obtain ⟨τ', q, b4, rfl⟩ := h2 (by rw [hl]; rfl)
  exact ⟨b4, e0.trans q⟩
theorem wfew_ok {t : Mat} {os : List Mat} {sp : List Spot} (W : WF t os sp) (ix : IdxOk sp) {K : Nat} {l : List Nat} (hn : sp.length ≤ 1000) (hK : K ≤ sp.length + 1) (hb : ∀ j, j < K → (lotsI sp.length j).length ≤ 16777216)
    (hf : firstI t os sp K = some l) : M_w_fewest [encM t, .list (os.map encM), .list (sp.map encS)] = some (encC sp l) := by
  have e0 : fRng1 (f2 addD (fcall lenD (fAc (fV 2) fAn)) (fC (.int 1))) (stV t os sp SL.no SL.no SL.no SL.no SL.no) = some ((List.range (sp.length + 1)).map fun (i : Nat) => PyData.int (0 + (i : Int))) := by
    refine rng1 ?_ (by omega)
    show some (PyData.int (((sp.map encS).length : Int) + 1)) = _
    rw [List.length_map]
    rfl
  obtain ⟨ys, hy⟩ := range_pre hK
  obtain ⟨h1, _⟩ := for_stop (p := .nm 3) (F := outV) (enc := fun (i : Nat) => PyData.int (0 + (i : Int))) (I := fun τ => ∃ b3 b4, τ = stV t os sp b3 b4 SL.no SL.no SL.no) (res := fun k => ((lotsI sp.length k).find? (goodI t os sp)).map (encC sp)) (xs := List.range K) (τ := stV t os sp SL.no SL.no SL.no SL.no SL.no) (fun k mk τ i => by
    obtain ⟨b3, b4, rfl⟩ := i
    have hk := List.mem_range.mp mk
    obtain ⟨q1, q2⟩ := outV_ok W ix (k := k) rfl hn (by omega) (fun j hj => hb j (by omega)) b4 SL.no SL.no SL.no
    refine ⟨stV t os sp (SL.dat (.int (k : Int))) b4 SL.no SL.no SL.no, ?_, fun d hd => ?_, fun hd => ?_⟩
    · show some (stV t os sp (SL.dat (.int (0 + (k : Int)))) b4 SL.no SL.no SL.no) = _
      rw [Int.zero_add]
    · obtain ⟨l, hl, rfl⟩ := Option.map_eq_some_iff.mp hd
      exact q1 l hl
    · obtain ⟨c4, q⟩ := q2 (Option.map_eq_none_iff.mp hd)
      exact ⟨_, q, ⟨_, _, rfl⟩⟩) ⟨_, _, rfl⟩
  unfold M_w_fewest
  refine run_rt rfl ?_
  rw [body_wfew]
  refine seq_rt ((for_eq e0).trans ?_)
  rw [hy, List.map_append]
  refine for_app (h1 _ ?_)
  rw [find_opt]
  unfold firstI at hf
  rw [hf]
  rfl
end SQ
end
section
set_option Elab.async false
set_option linter.all false
set_option maxRecDepth 100000
set_option maxHeartbeats 4000000
namespace SQ
open PySem PySem.Spec PyProof.Rows L2
/-! ### the search on numbers -/
def bitsOf : List Bool → Nat
  | [] => 0
  | b :: bs => b.toNat + 2 * bitsOf bs
theorem bits_at : ∀ (bs : List Bool) (i : Nat), Nat.testBit (bitsOf bs) i = bs.getD i false
  | [], i => by
    show Nat.testBit 0 i = _
    rw [Nat.zero_testBit]
    rfl
  | b :: bs, 0 => by
    show Nat.testBit (b.toNat + 2 * bitsOf bs) 0 = b
    rw [Nat.testBit_zero]
    cases b with
    | true =>
      show decide ((1 + 2 * bitsOf bs) % 2 = 1) = true
      rw [decide_eq_true_eq]
      omega
    | false =>
      show decide ((0 + 2 * bitsOf bs) % 2 = 1) = false
      rw [decide_eq_false_iff_not]
      omega
  | b :: bs, i + 1 => by
    show Nat.testBit (b.toNat + 2 * bitsOf bs) (i + 1) = bs.getD i false
    rw [Nat.testBit_succ, ← bits_at bs i]
    congr 1
    cases b with
    | true =>
      show (1 + 2 * bitsOf bs) / 2 = _
      omega
    | false =>
      show (0 + 2 * bitsOf bs) / 2 = _
      omega
def maskI (sp : List Spot) (t o : Mat) : Nat := bitsOf (sp.map fun s => decide (valM o s = valM t s))
def goodB (ms : List Nat) (lot : List Nat) : Bool := !(ms.any fun a => lot.all fun i => Nat.testBit a i)
theorem mask_at {sp : List Spot} {t o : Mat} {i : Nat} (h : i < sp.length) : Nat.testBit (maskI sp t o) i = decide (valM o (spotAt sp i) = valM t (spotAt sp i)) := by
  unfold maskI
  rw [bits_at, List.getD_eq_getElem?_getD, List.getElem?_map, List.getElem?_eq_getElem h]
  unfold spotAt
  rw [List.getD_eq_getElem?_getD, List.getElem?_eq_getElem h]
  rfl
theorem all_congr {α : Type} {f g : α → Bool} : ∀ {xs : List α}, (∀ x ∈ xs, f x = g x) → xs.all f = xs.all g
  | [], _ => rfl
  | x :: xs, h => by
    rw [List.all_cons, List.all_cons, h x (List.mem_cons_self ..), all_congr fun y m => h y (List.mem_cons_of_mem _ m)]
theorem any_filter {α β : Type} {f : α → β} {g : β → Bool} : ∀ xs : List α, (xs.filter fun x => g (f x)).isEmpty = !((xs.map f).any g)
  | [] => rfl
  | x :: xs => by
    have ih := any_filter (f := f) (g := g) xs
    rw [List.map_cons, List.any_cons]
    cases e : g (f x) with
    | true => rw [List.filter_cons_of_pos (by exact e)]; rfl
    | false => rw [List.filter_cons_of_neg (by rw [e]; decide), ih]; rfl
theorem filter_congr' {α : Type} {f g : α → Bool} : ∀ {xs : List α}, (∀ x ∈ xs, f x = g x) → xs.filter f = xs.filter g
  | [], _ => rfl
  | x :: xs, h => by
    have ih := filter_congr' (xs := xs) fun y m => h y (List.mem_cons_of_mem _ m)
    rw [List.filter_cons, List.filter_cons, h x (List.mem_cons_self ..), ih]
theorem good_fast {t : Mat} {os : List Mat} {sp : List Spot} {lot : List Nat} (h : ∀ i ∈ lot, i < sp.length) : goodI t os sp lot = goodB (os.map (maskI sp t)) lot := by
  unfold goodI goodB
  rw [← any_filter (f := maskI sp t) (g := fun a => lot.all fun i => Nat.testBit a i) os]
  rw [filter_congr' (g := fun o => lot.all fun i => Nat.testBit (maskI sp t o) i) fun o _ => ?_]
  unfold agreeI
  exact all_congr fun i m => (mask_at (h i m)).symm
theorem find_congr {α : Type} {f g : α → Bool} : ∀ {xs : List α}, (∀ x ∈ xs, f x = g x) → xs.find? f = xs.find? g
  | [], _ => rfl
  | x :: xs, h => by
    rw [List.find?_cons, List.find?_cons, h x (List.mem_cons_self ..), find_congr fun y m => h y (List.mem_cons_of_mem _ m)]
def firstB (n : Nat) (ms : List Nat) (K : Nat) : Option (List Nat) := (List.range K).findSome? fun k => (lotsI n k).find? (goodB ms)
theorem first_fast {t : Mat} {os : List Mat} {sp : List Spot} {K : Nat} : firstI t os sp K = firstB sp.length (os.map (maskI sp t)) K := by
  unfold firstI firstB
  congr 1
  funext k
  exact find_congr fun lot m => good_fast (lot_mem m).2
/-! ### the squares of four sides -/
def sp0 : List Spot := [(0, 0), (0, 1), (0, 2), (0, 3), (1, 0), (1, 1), (1, 2), (1, 3), (2, 0), (2, 1), (2, 2), (2, 3), (3, 0), (3, 1), (3, 2), (3, 3)]
def sp1 : List Spot := [(1, 1), (1, 2), (1, 3), (2, 1), (2, 2), (2, 3), (3, 1), (3, 2), (3, 3)]
theorem cells4 : M_cells_of [.int 4] = some (.list (sp0.map encS)) := by kernel_rfl
theorem points4 : M_points_within [.int 4] = some (.list (sp1.map encS)) := by kernel_rfl
theorem wspots40 : M_w_spots [.int 0, .int 4] = some (.list (sp0.map encS)) := by kernel_rfl
theorem wspots41 : M_w_spots [.int 1, .int 4] = some (.list (sp1.map encS)) := by kernel_rfl
def isN (o : Option D) (k : Nat) : Bool := match o with
  | some (.int (.ofNat j)) => decide (j = k)
  | _ => false
theorem isN_eq {o : Option D} {k : Nat} (h : isN o k = true) : o = some (.int (k : Int)) := by
  unfold isN at h
  split at h
  case h_1 j => rw [of_decide_eq_true h]; rfl
  case h_2 => cases h
theorem idx0 : IdxOk sp0 := by
  have h : (List.range 16).all (fun i => isN (indexD (.list (sp0.map encS)) (encS (spotAt sp0 i))) i) = true := by decide +kernel
  exact fun i hi => isN_eq (List.all_eq_true.mp h i (List.mem_range.mpr hi))
theorem idx1 : IdxOk sp1 := by
  have h : (List.range 9).all (fun i => isN (indexD (.list (sp1.map encS)) (encS (spotAt sp1 i))) i) = true := by decide +kernel
  exact fun i hi => isN_eq (List.all_eq_true.mp h i (List.mem_range.mpr hi))
theorem hb0 : ∀ j, j < 6 → (lotsI 16 j).length ≤ 16777216 := by
  have h : (List.range 6).all (fun j => decide ((lotsI 16 j).length ≤ 16777216)) = true := by decide +kernel
  exact fun j hj => of_decide_eq_true (List.all_eq_true.mp h j (List.mem_range.mpr hj))
theorem hb1 : ∀ j, j < 10 → (lotsI 9 j).length ≤ 16777216 := by
  have h : (List.range 10).all (fun j => decide ((lotsI 9 j).length ≤ 16777216)) = true := by decide +kernel
  exact fun j hj => of_decide_eq_true (List.all_eq_true.mp h j (List.mem_range.mpr hj))
def ps4 : List (Mat × Mat) := sq4.zip ht4
theorem ps4_fst : ps4.map Prod.fst = sq4 := by decide +kernel
theorem ps4_len : ps4.length ≤ 1000 := by decide +kernel
theorem ps4_in : ∀ p ∈ ps4, (∀ s ∈ sp0, inM p.1 s = true) ∧ (∀ s ∈ sp1, inM p.2 s = true) ∧ p.1.length = 4 := by
  have h : ps4.all (fun p => (sp0.all fun s => inM p.1 s) && (sp1.all fun s => inM p.2 s) && decide (p.1.length = 4)) = true := by decide +kernel
  intro p m
  have := List.all_eq_true.mp h p m
  rw [Bool.and_eq_true, Bool.and_eq_true, List.all_eq_true, List.all_eq_true, decide_eq_true_eq] at this
  exact ⟨this.1.1, this.1.2, this.2⟩
end SQ
end
section
set_option Elab.async false
set_option linter.all false
set_option maxRecDepth 100000
set_option maxHeartbeats 4000000
namespace SQ
open PySem PySem.Spec PyProof.Rows L2
theorem call3_eq {g : List D → Option D} {fa fb fc : FE} {τ : Store} {d e f k : D} (h : fa τ = some d) (h' : fb τ = some e) (h'' : fc τ = some f) (hk : g [d, e, f] = some k) : fcall g (fAc fa (fAc fb (fAc fc fAn))) τ = some k := by
  unfold fcall fAc
  rw [h]
  show ((((fb τ).bind fun d => ((fc τ).bind fun d => (fAn τ).bind fun ds => some (d :: ds)).bind fun ds => some (d :: ds)).bind fun ds => some (d :: ds)).bind g) = _
  rw [h']
  show ((((((fc τ).bind fun d => (fAn τ).bind fun ds => some (d :: ds)).bind fun ds => some (e :: ds))).bind fun ds => some (d :: ds)).bind g) = _
  rw [h'']
  exact hk
theorem call4_eq {g : List D → Option D} {fa fb fc fd : FE} {τ : Store} {a b c d k : D} (h1 : fa τ = some a) (h2 : fb τ = some b) (h3 : fc τ = some c) (h4 : fd τ = some d) (hk : g [a, b, c, d] = some k) : fcall g (fAc fa (fAc fb (fAc fc (fAc fd fAn)))) τ = some k := by
  simp only [fcall, fAc, fAn, h1, h2, h3, h4, Option.bind_some]
  exact hk
def othersOf (t : Mat) : List (Mat × Mat) := ps4.filter fun q => decide (q.1 ≠ t)
/-- what is asked of a square -/
structure Sq4 (p : Mat × Mat) (qs : List (Mat × Mat)) (lc lp : List Nat) (K L : Nat) : Prop where
  mem : p ∈ ps4
  eqs : othersOf p.1 = qs
  need : M_need_square [encM p.1] = some .none
  kc : K ≤ 6
  kp : L ≤ 10
  fc : firstI p.1 (qs.map Prod.fst) sp0 K = some lc
  fp : firstI p.2 (qs.map Prod.snd) sp1 L = some lp
/-- the heights of all -/
structure Hts : Prop where
  prog : ∀ p ∈ ps4, M_heights_of [encM p.1] = some (encM p.2)
  law : ∀ p ∈ ps4, M_w_heights [encM p.1] = some (encM p.2)
section
variable {p : Mat × Mat} {qs : List (Mat × Mat)} {lc lp : List Nat} {K L : Nat}
theorem Sq4.sub (S : Sq4 p qs lc lp K L) : ∀ q ∈ qs, q ∈ ps4 := fun q m => by
  rw [← S.eqs] at m
  exact (List.mem_filter.mp m).1
theorem Sq4.len (S : Sq4 p qs lc lp K L) : qs.length ≤ 1000 := by
  rw [← S.eqs]
  exact Nat.le_trans (List.length_filter_le _ _) ps4_len
theorem Sq4.wc (S : Sq4 p qs lc lp K L) : WF p.1 (qs.map Prod.fst) sp0 := ⟨(ps4_in p S.mem).1, fun o m => by
  obtain ⟨q, mq, rfl⟩ := List.mem_map.mp m
  exact (ps4_in q (S.sub q mq)).1, by rw [List.length_map]; exact S.len⟩
theorem Sq4.wp (S : Sq4 p qs lc lp K L) : WF p.2 (qs.map Prod.snd) sp1 := ⟨(ps4_in p S.mem).2.1, fun o m => by
  obtain ⟨q, mq, rfl⟩ := List.mem_map.mp m
  exact (ps4_in q (S.sub q mq)).2.1, by rw [List.length_map]; exact S.len⟩
theorem Sq4.few {t : Mat} {os : List Mat} {sp : List Spot} {l : List Nat} : True := trivial
theorem len4 {p : Mat × Mat} (m : p ∈ ps4) : lenD [encM p.1] = some (.int 4) := by
  show some (PyData.int ((p.1.map encR).length : Int)) = _
  rw [List.length_map, (ps4_in p m).2.2]
  rfl
theorem told_enc : sq4.map encM = ps4.map fun q => encM q.1 := by
  rw [← ps4_fst, List.map_map]
  rfl
theorem need_few4 : M_need_few [.int 4, .int 4] = some .none := by kernel_rfl
theorem Sq4.cells (S : Sq4 p qs lc lp K L) : M_fewest_cells [encM p.1] = some (encC sp0 lc) := by
  unfold M_fewest_cells
  refine run_rt rfl ?_
  unfold Body_fewest_cells
  refine (seq_nx (drop_eq (call1_eq (d := encM p.1) rfl S.need))).trans ?_
  refine (seq_nx (drop_eq (call2_eq (call1_eq (d := encM p.1) rfl (len4 S.mem)) (e := .int 4) rfl need_few4))).trans ?_
  refine (seq_nx (set_eq (fLc_some (rs := (qs.map Prod.fst).map encM) (items (call2_eq (call1_eq (d := encM p.1) rfl (len4 S.mem)) (e := .tuple []) rfl told4)) ?_ ?_))).trans ?_
  · rw [List.length_map]
    decide +kernel
  · rw [told_enc, ← S.eqs, List.map_map]
    exact lc_map (α := Mat × Mat) (enc := fun q => encM q.1) (t := fun q => decide (q.1 ≠ p.1)) fun q _ => ⟨_, rfl, tb_eq (f2_eq (d := encM q.1) (e := encM p.1) rfl rfl (ne_mat _ _)), fun _ => rfl⟩
  · exact ret_eq (call3_eq (d := encM p.1) (e := .list ((qs.map Prod.fst).map encM)) rfl rfl (call1_eq (call1_eq (d := encM p.1) rfl (len4 S.mem)) cells4) (spots_ok S.wc (by decide) (by have := S.kc; show K ≤ 17; omega) (fun j hj => hb0 j (by have := S.kc; omega)) S.fc))
theorem Sq4.points (S : Sq4 p qs lc lp K L) (T : Hts) : M_fewest_points [encM p.1] = some (encC sp1 lp) := by
  unfold M_fewest_points
  refine run_rt rfl ?_
  unfold Body_fewest_points
  refine (seq_nx (drop_eq (call1_eq (d := encM p.1) rfl S.need))).trans ?_
  refine (seq_nx (drop_eq (call2_eq (call1_eq (d := encM p.1) rfl (len4 S.mem)) (e := .int 4) rfl need_few4))).trans ?_
  refine (seq_nx (set_eq (fLc_some (rs := (qs.map Prod.snd).map encM) (items (call2_eq (call1_eq (d := encM p.1) rfl (len4 S.mem)) (e := .tuple []) rfl told4)) ?_ ?_))).trans ?_
  · rw [List.length_map]
    decide +kernel
  · rw [told_enc, ← S.eqs, List.map_map]
    exact lc_map (α := Mat × Mat) (enc := fun q => encM q.1) (t := fun q => decide (q.1 ≠ p.1)) fun q mq => ⟨_, rfl, tb_eq (f2_eq (d := encM q.1) (e := encM p.1) rfl rfl (ne_mat _ _)), fun _ => call1_eq (d := encM q.1) rfl (T.prog q mq)⟩
  · exact ret_eq (call3_eq (call1_eq (d := encM p.1) rfl (T.prog p S.mem)) (e := .list ((qs.map Prod.snd).map encM)) rfl (call1_eq (call1_eq (d := encM p.1) rfl (len4 S.mem)) points4) (spots_ok S.wp (by decide) (by have := S.kp; show L ≤ 10; omega) (fun j hj => hb1 j (by have := S.kp; omega)) S.fp))
theorem ne_same {d : D} {k : Nat} (h : Sh k d) (hk : k ≤ 64) (e : PyData.eqv d d = true) : neD d d = some (.bool false) := by
  rw [ne_of h h hk hk, e]
  rfl
theorem encC_mat (sp : List Spot) (l : List Nat) : encC sp l = encM (l.map fun i => [((spotAt sp i).1 : Int), ((spotAt sp i).2 : Int)]) := by
  unfold encC encM
  rw [List.map_map]
  rfl
theorem ne_lot (sp : List Spot) (l : List Nat) : neD (encC sp l) (encC sp l) = some (.bool false) := by
  rw [encC_mat, ne_mat]
  simp
def factOf (t : Mat) (s : Spot) : D := .tuple [.str "cell", encI s.1, encI s.2, .int (valM t s)]
def factsOf (t : Mat) (l : List Nat) : D := .tuple (l.map fun i => factOf t (spotAt sp0 i))
theorem first_in {t : Mat} {os : List Mat} {sp : List Spot} {K : Nat} {l : List Nat} (h : firstI t os sp K = some l) : l.length < K ∧ ∀ i ∈ l, i < sp.length := by
  unfold firstI at h
  obtain ⟨k, mk, hk⟩ := List.exists_of_findSome?_eq_some h
  obtain ⟨q1, q2⟩ := lot_mem (List.mem_of_find?_eq_some hk)
  exact ⟨q1 ▸ List.mem_range.mp mk, q2⟩
theorem Sq4.right (S : Sq4 p qs lc lp K L) (T : Hts) (ct : M_count_told [.int 4, factsOf p.1 lc] = some (.int 1)) : M_w_right [.int 4, .list (sq4.map encM), encM p.1] = some (.bool true) := by
  have hl := first_in S.fc
  unfold M_w_right
  refine run_rt rfl ?_
  unfold Body_w_right
  refine (seq_nx (set_eq (fLc_some (rs := (qs.map Prod.fst).map encM) (ds := sq4.map encM) rfl ?_ ?_))).trans ?_
  · rw [List.length_map]
    decide +kernel
  · rw [told_enc, ← S.eqs, List.map_map]
    exact lc_map (α := Mat × Mat) (enc := fun q => encM q.1) (t := fun q => decide (q.1 ≠ p.1)) fun q _ => ⟨_, rfl, tb_eq (f2_eq (d := encM q.1) (e := encM p.1) rfl rfl (ne_mat _ _)), fun _ => rfl⟩
  refine (seq_nx (set_eq (call1_eq (d := encM p.1) rfl S.cells))).trans ?_
  refine (seq_nx ((if_eq (tb_eq (f2_eq (d := encC sp0 lc) rfl (call3_eq (d := encM p.1) (e := .list ((qs.map Prod.fst).map encM)) rfl rfl (call2_eq (d := .int 0) (e := .int 4) rfl rfl wspots40) (wfew_ok S.wc idx0 (by decide) (by have := S.kc; show K ≤ 17; omega) (fun j hj => hb0 j (by have := S.kc; omega)) S.fc)) (ne_lot sp0 lc)))).trans rfl)).trans ?_
  refine (seq_nx (set_eq (fLc_some (rs := (qs.map Prod.snd).map encM) (ds := (qs.map Prod.fst).map encM) rfl ?_ ?_))).trans ?_
  · rw [List.length_map, List.length_map]
    have := S.len
    omega
  · rw [List.map_map, List.map_map]
    exact lc_all (g := encM ∘ Prod.snd) fun q mq => ⟨_, rfl, call1_eq (d := encM q.1) rfl (T.law q (S.sub q mq))⟩
  refine (seq_nx ((if_eq (tb_eq (f2_eq (call1_eq (d := encM p.1) rfl (S.points T)) (call3_eq (call1_eq (d := encM p.1) rfl (T.law p S.mem)) (e := .list ((qs.map Prod.snd).map encM)) rfl (call2_eq (d := .int 1) (e := .int 4) rfl rfl wspots41) (wfew_ok S.wp idx1 (by decide) (by have := S.kp; show L ≤ 10; omega) (fun j hj => hb1 j (by have := S.kp; omega)) S.fp)) (ne_lot sp1 lp)))).trans rfl)).trans ?_
  refine (seq_nx (set_eq (d := factsOf p.1 lc) (call1_eq (fLc_some (ds := lc.map fun i => encS (spotAt sp0 i)) (rs := lc.map fun i => factOf p.1 (spotAt sp0 i)) rfl ?_ (lc_all fun i mi => ⟨_, rfl, ?_⟩)) rfl))).trans ?_
  · rw [List.length_map]
    have := S.kc
    omega
  · exact call4_eq (a := .str "cell") (b := encI (spotAt sp0 i).1) (c := encI (spotAt sp0 i).2) rfl rfl rfl (at_val (m := p.1) (s := spotAt sp0 i) ((ps4_in p S.mem).1 _ (spot_in (hl.2 i mi))) rfl rfl rfl) rfl
  · exact ret_eq (f2_eq (call2_eq (d := .int 4) (e := factsOf p.1 lc) rfl rfl ct) (e := .int 1) rfl (by rw [eq_of (Sh.int (k := 0) 1) (Sh.int (k := 0) 1) (by decide) (by decide), eqv_int]; rfl))
end
end SQ
end
section
set_option Elab.async false
set_option linter.all false
set_option maxRecDepth 100000
set_option maxHeartbeats 4000000
namespace SQ
open PySem PySem.Spec PyProof.Rows L2
def pr0 : Mat × Mat := ([[0, 0, 0, 1], [0, 0, 1, 0], [0, 1, 0, 0], [1, 0, 0, 0]], [[0, 1, 2, 3, 4], [1, 2, 3, 4, 3], [2, 3, 4, 3, 2], [3, 4, 3, 2, 1], [4, 3, 2, 1, 0]])
theorem mc0 : ((othersOf pr0.1).map Prod.fst).map (maskI sp0 pr0.1) = [52479, 63903, 51359, 44191, 51631, 44975, 65331, 52275, 63763, 51219, 44051, 62867, 50323, 41107, 27795, 51491, 44835, 50595, 41891, 28579, 63797, 51253, 44085, 62965, 50421, 41205, 27893, 51461, 44805, 50629, 41925, 28613, 42405, 27045, 51510, 44854, 50678, 41974, 28662, 42390, 27030] := by decide +kernel
theorem mp0 : ((othersOf pr0.1).map Prod.snd).map (maskI sp1 pr0.2) = [447, 495, 431, 303, 423, 295, 507, 443, 491, 427, 299, 459, 395, 267, 11, 419, 291, 387, 259, 3, 489, 425, 297, 457, 393, 265, 9, 417, 289, 385, 257, 1, 257, 1, 416, 288, 384, 256, 0, 256, 0] := by decide +kernel
theorem fc0 : firstB 16 [52479, 63903, 51359, 44191, 51631, 44975, 65331, 52275, 63763, 51219, 44051, 62867, 50323, 41107, 27795, 51491, 44835, 50595, 41891, 28579, 63797, 51253, 44085, 62965, 50421, 41205, 27893, 51461, 44805, 50629, 41925, 28613, 42405, 27045, 51510, 44854, 50678, 41974, 28662, 42390, 27030] 4 = some [1, 6, 12] := by decide +kernel
theorem fp0 : firstB 9 [447, 495, 431, 303, 423, 295, 507, 443, 491, 427, 299, 459, 395, 267, 11, 419, 291, 387, 259, 3, 489, 425, 297, 457, 393, 265, 9, 417, 289, 385, 257, 1, 257, 1, 416, 288, 384, 256, 0, 256, 0] 4 = some [2, 4, 6] := by decide +kernel
theorem ns0 : M_need_square [encM pr0.1] = some .none := by kernel_rfl
theorem ct0 : isN (M_count_told [.int 4, factsOf pr0.1 [1, 6, 12]]) 1 = true := by decide +kernel
theorem hp0 : M_heights_of [encM pr0.1] = some (encM pr0.2) := by kernel_rfl
theorem hl0 : M_w_heights [encM pr0.1] = some (encM pr0.2) := by kernel_rfl
theorem me0 : pr0 ∈ ps4 := by decide +kernel
theorem rt0 (T : Hts) : M_w_right [.int 4, .list (sq4.map encM), encM pr0.1] = some (.bool true) :=
  Sq4.right (p := pr0) (lc := [1, 6, 12]) (lp := [2, 4, 6]) (K := 4) (L := 4) ⟨me0, rfl, ns0, by decide, by decide, by rw [first_fast, mc0]; exact fc0, by rw [first_fast, mp0]; exact fp0⟩ T (isN_eq ct0)
def pr1 : Mat × Mat := ([[0, 0, 0, 1], [0, 0, 1, 0], [1, 0, 0, 0], [0, 1, 0, 0]], [[0, 1, 2, 3, 4], [1, 2, 3, 4, 3], [2, 3, 4, 3, 2], [3, 2, 3, 2, 1], [4, 3, 2, 1, 0]])
theorem mc1 : ((othersOf pr1.1).map Prod.fst).map (maskI sp0 pr1.1) = [52479, 51871, 63903, 40863, 64175, 40111, 52275, 65331, 51731, 63763, 40723, 50835, 62867, 37779, 24467, 64035, 39971, 63139, 37027, 23715, 51765, 63797, 40757, 50933, 62965, 37877, 24565, 64005, 39941, 63173, 37061, 23749, 38565, 23205, 64054, 39990, 63222, 37110, 23798, 38550, 23190] := by decide +kernel
theorem mp1 : ((othersOf pr1.1).map Prod.snd).map (maskI sp1 pr1.2) = [447, 431, 495, 367, 487, 359, 443, 507, 427, 491, 363, 395, 459, 331, 75, 483, 355, 451, 323, 67, 425, 489, 361, 393, 457, 329, 73, 481, 353, 449, 321, 65, 321, 65, 480, 352, 448, 320, 64, 320, 64] := by decide +kernel
theorem fc1 : firstB 16 [52479, 51871, 63903, 40863, 64175, 40111, 52275, 65331, 51731, 63763, 40723, 50835, 62867, 37779, 24467, 64035, 39971, 63139, 37027, 23715, 51765, 63797, 40757, 50933, 62965, 37877, 24565, 64005, 39941, 63173, 37061, 23749, 38565, 23205, 64054, 39990, 63222, 37110, 23798, 38550, 23190] 4 = some [1, 6, 8] := by decide +kernel
theorem fp1 : firstB 9 [447, 431, 495, 367, 487, 359, 443, 507, 427, 491, 363, 395, 459, 331, 75, 483, 355, 451, 323, 67, 425, 489, 361, 393, 457, 329, 73, 481, 353, 449, 321, 65, 321, 65, 480, 352, 448, 320, 64, 320, 64] 4 = some [2, 4, 6] := by decide +kernel
theorem ns1 : M_need_square [encM pr1.1] = some .none := by kernel_rfl
theorem ct1 : isN (M_count_told [.int 4, factsOf pr1.1 [1, 6, 8]]) 1 = true := by decide +kernel
theorem hp1 : M_heights_of [encM pr1.1] = some (encM pr1.2) := by kernel_rfl
theorem hl1 : M_w_heights [encM pr1.1] = some (encM pr1.2) := by kernel_rfl
theorem me1 : pr1 ∈ ps4 := by decide +kernel
theorem rt1 (T : Hts) : M_w_right [.int 4, .list (sq4.map encM), encM pr1.1] = some (.bool true) :=
  Sq4.right (p := pr1) (lc := [1, 6, 8]) (lp := [2, 4, 6]) (K := 4) (L := 4) ⟨me1, rfl, ns1, by decide, by decide, by rw [first_fast, mc1]; exact fc1, by rw [first_fast, mp1]; exact fp1⟩ T (isN_eq ct1)
def pr2 : Mat × Mat := ([[0, 0, 0, 1], [0, 1, 0, 0], [0, 0, 1, 0], [1, 0, 0, 0]], [[0, 1, 2, 3, 4], [1, 2, 3, 4, 3], [2, 3, 2, 3, 2], [3, 4, 3, 2, 1], [4, 3, 2, 1, 0]])
theorem mc2 : ((othersOf pr2.1).map Prod.fst).map (maskI sp0 pr2.1) = [63903, 51871, 52479, 43775, 53199, 43471, 63827, 51795, 65331, 52275, 43571, 62451, 49395, 41715, 27379, 52995, 43267, 50115, 41411, 27075, 65365, 52309, 43605, 62357, 49301, 41621, 27285, 53061, 43333, 50053, 41349, 27013, 41925, 28613, 53078, 43350, 50070, 41366, 27030, 41974, 28662] := by decide +kernel
theorem mp2 : ((othersOf pr2.1).map Prod.snd).map (maskI sp1 pr2.2) = [495, 431, 447, 319, 439, 311, 491, 427, 507, 443, 315, 475, 411, 283, 27, 435, 307, 403, 275, 19, 505, 441, 313, 473, 409, 281, 25, 433, 305, 401, 273, 17, 257, 1, 432, 304, 400, 272, 16, 256, 0] := by decide +kernel
theorem fc2 : firstB 16 [63903, 51871, 52479, 43775, 53199, 43471, 63827, 51795, 65331, 52275, 43571, 62451, 49395, 41715, 27379, 52995, 43267, 50115, 41411, 27075, 65365, 52309, 43605, 62357, 49301, 41621, 27285, 53061, 43333, 50053, 41349, 27013, 41925, 28613, 53078, 43350, 50070, 41366, 27030, 41974, 28662] 4 = some [2, 5, 12] := by decide +kernel
theorem fp2 : firstB 9 [495, 431, 447, 319, 439, 311, 491, 427, 507, 443, 315, 475, 411, 283, 27, 435, 307, 403, 275, 19, 505, 441, 313, 473, 409, 281, 25, 433, 305, 401, 273, 17, 257, 1, 432, 304, 400, 272, 16, 256, 0] 4 = some [2, 4, 6] := by decide +kernel
theorem ns2 : M_need_square [encM pr2.1] = some .none := by kernel_rfl
theorem ct2 : isN (M_count_told [.int 4, factsOf pr2.1 [2, 5, 12]]) 1 = true := by decide +kernel
theorem hp2 : M_heights_of [encM pr2.1] = some (encM pr2.2) := by kernel_rfl
theorem hl2 : M_w_heights [encM pr2.1] = some (encM pr2.2) := by kernel_rfl
theorem me2 : pr2 ∈ ps4 := by decide +kernel
theorem rt2 (T : Hts) : M_w_right [.int 4, .list (sq4.map encM), encM pr2.1] = some (.bool true) :=
  Sq4.right (p := pr2) (lc := [2, 5, 12]) (lp := [2, 4, 6]) (K := 4) (L := 4) ⟨me2, rfl, ns2, by decide, by decide, by rw [first_fast, mc2]; exact fc2, by rw [first_fast, mp2]; exact fp2⟩ T (isN_eq ct2)
def pr3 : Mat × Mat := ([[0, 0, 0, 1], [0, 1, 0, 0], [1, -1, 1, 0], [0, 1, 0, 0]], [[0, 1, 2, 3, 4], [1, 2, 3, 4, 3], [2, 3, 2, 3, 2], [3, 2, 3, 2, 1], [4, 3, 2, 1, 0]])
theorem mc3 : ((othersOf pr3.1).map Prod.fst).map (maskI sp0 pr3.1) = [51359, 63903, 52479, 39423, 64719, 39119, 51283, 63827, 52275, 65331, 39219, 49395, 62451, 37363, 23027, 64515, 38915, 61635, 37059, 22723, 52309, 65365, 39253, 49301, 62357, 37269, 22933, 64581, 38981, 61573, 36997, 22661, 37061, 23749, 64598, 38998, 61590, 37014, 22678, 37110, 23798] := by decide +kernel
theorem mp3 : ((othersOf pr3.1).map Prod.snd).map (maskI sp1 pr3.2) = [431, 495, 447, 383, 503, 375, 427, 491, 443, 507, 379, 411, 475, 347, 91, 499, 371, 467, 339, 83, 441, 505, 377, 409, 473, 345, 89, 497, 369, 465, 337, 81, 321, 65, 496, 368, 464, 336, 80, 320, 64] := by decide +kernel
theorem fc3 : firstB 16 [51359, 63903, 52479, 39423, 64719, 39119, 51283, 63827, 52275, 65331, 39219, 49395, 62451, 37363, 23027, 64515, 38915, 61635, 37059, 22723, 52309, 65365, 39253, 49301, 62357, 37269, 22933, 64581, 38981, 61573, 36997, 22661, 37061, 23749, 64598, 38998, 61590, 37014, 22678, 37110, 23798] 3 = some [3, 9] := by decide +kernel
theorem fp3 : firstB 9 [431, 495, 447, 383, 503, 375, 427, 491, 443, 507, 379, 411, 475, 347, 91, 499, 371, 467, 339, 83, 441, 505, 377, 409, 473, 345, 89, 497, 369, 465, 337, 81, 321, 65, 496, 368, 464, 336, 80, 320, 64] 6 = some [2, 3, 4, 6, 7] := by decide +kernel
theorem ns3 : M_need_square [encM pr3.1] = some .none := by kernel_rfl
theorem ct3 : isN (M_count_told [.int 4, factsOf pr3.1 [3, 9]]) 1 = true := by decide +kernel
theorem hp3 : M_heights_of [encM pr3.1] = some (encM pr3.2) := by kernel_rfl
theorem hl3 : M_w_heights [encM pr3.1] = some (encM pr3.2) := by kernel_rfl
theorem me3 : pr3 ∈ ps4 := by decide +kernel
theorem rt3 (T : Hts) : M_w_right [.int 4, .list (sq4.map encM), encM pr3.1] = some (.bool true) :=
  Sq4.right (p := pr3) (lc := [3, 9]) (lp := [2, 3, 4, 6, 7]) (K := 3) (L := 6) ⟨me3, rfl, ns3, by decide, by decide, by rw [first_fast, mc3]; exact fc3, by rw [first_fast, mp3]; exact fp3⟩ T (isN_eq ct3)
def pr4 : Mat × Mat := ([[0, 0, 0, 1], [0, 1, 0, 0], [1, 0, 0, 0], [0, 0, 1, 0]], [[0, 1, 2, 3, 4], [1, 2, 3, 4, 3], [2, 3, 2, 3, 2], [3, 2, 1, 2, 1], [4, 3, 2, 1, 0]])
theorem mc4 : ((othersOf pr4.1).map Prod.fst).map (maskI sp0 pr4.1) = [44191, 40863, 43775, 39423, 39631, 64719, 44115, 40787, 43571, 39219, 65331, 42739, 38387, 62451, 16371, 39427, 64515, 38595, 61635, 15555, 43605, 39253, 65365, 42645, 38293, 62357, 16277, 39493, 64581, 38533, 61573, 15493, 63173, 15045, 39510, 64598, 38550, 61590, 15510, 63222, 15094] := by decide +kernel
theorem mp4 : ((othersOf pr4.1).map Prod.snd).map (maskI sp1 pr4.2) = [303, 367, 319, 383, 375, 503, 299, 363, 315, 379, 507, 283, 347, 475, 219, 371, 499, 339, 467, 211, 313, 377, 505, 281, 345, 473, 217, 369, 497, 337, 465, 209, 449, 193, 368, 496, 336, 464, 208, 448, 192] := by decide +kernel
theorem fc4 : firstB 16 [44191, 40863, 43775, 39423, 39631, 64719, 44115, 40787, 43571, 39219, 65331, 42739, 38387, 62451, 16371, 39427, 64515, 38595, 61635, 15555, 43605, 39253, 65365, 42645, 38293, 62357, 16277, 39493, 64581, 38533, 61573, 15493, 63173, 15045, 39510, 64598, 38550, 61590, 15510, 63222, 15094] 4 = some [3, 4, 14] := by decide +kernel
theorem fp4 : firstB 9 [303, 367, 319, 383, 375, 503, 299, 363, 315, 379, 507, 283, 347, 475, 219, 371, 499, 339, 467, 211, 313, 377, 505, 281, 345, 473, 217, 369, 497, 337, 465, 209, 449, 193, 368, 496, 336, 464, 208, 448, 192] 4 = some [2, 3, 7] := by decide +kernel
theorem ns4 : M_need_square [encM pr4.1] = some .none := by kernel_rfl
theorem ct4 : isN (M_count_told [.int 4, factsOf pr4.1 [3, 4, 14]]) 1 = true := by decide +kernel
theorem hp4 : M_heights_of [encM pr4.1] = some (encM pr4.2) := by kernel_rfl
theorem hl4 : M_w_heights [encM pr4.1] = some (encM pr4.2) := by kernel_rfl
theorem me4 : pr4 ∈ ps4 := by decide +kernel
theorem rt4 (T : Hts) : M_w_right [.int 4, .list (sq4.map encM), encM pr4.1] = some (.bool true) :=
  Sq4.right (p := pr4) (lc := [3, 4, 14]) (lp := [2, 3, 7]) (K := 4) (L := 4) ⟨me4, rfl, ns4, by decide, by decide, by rw [first_fast, mc4]; exact fc4, by rw [first_fast, mp4]; exact fp4⟩ T (isN_eq ct4)
def pr5 : Mat × Mat := ([[0, 0, 0, 1], [1, 0, 0, 0], [0, 0, 1, 0], [0, 1, 0, 0]], [[0, 1, 2, 3, 4], [1, 2, 3, 4, 3], [2, 1, 2, 3, 2], [3, 2, 3, 2, 1], [4, 3, 2, 1, 0]])
theorem mc5 : ((othersOf pr5.1).map Prod.fst).map (maskI sp0 pr5.1) = [51631, 64175, 53199, 64719, 39631, 39423, 51555, 64099, 52995, 64515, 39427, 50115, 61635, 37571, 23235, 65331, 39219, 62451, 37363, 23027, 53093, 64613, 39525, 50085, 61605, 37541, 23205, 65365, 39253, 62357, 37269, 22933, 37877, 24565, 65382, 39270, 62374, 37286, 22950, 37830, 24518] := by decide +kernel
theorem mp5 : ((othersOf pr5.1).map Prod.snd).map (maskI sp1 pr5.2) = [423, 487, 439, 503, 375, 383, 419, 483, 435, 499, 371, 403, 467, 339, 83, 507, 379, 475, 347, 91, 433, 497, 369, 401, 465, 337, 81, 505, 377, 473, 345, 89, 329, 73, 504, 376, 472, 344, 88, 328, 72] := by decide +kernel
theorem fc5 : firstB 16 [51631, 64175, 53199, 64719, 39631, 39423, 51555, 64099, 52995, 64515, 39427, 50115, 61635, 37571, 23235, 65331, 39219, 62451, 37363, 23027, 53093, 64613, 39525, 50085, 61605, 37541, 23205, 65365, 39253, 62357, 37269, 22933, 37877, 24565, 65382, 39270, 62374, 37286, 22950, 37830, 24518] 4 = some [3, 4, 9] := by decide +kernel
theorem fp5 : firstB 9 [423, 487, 439, 503, 375, 383, 419, 483, 435, 499, 371, 403, 467, 339, 83, 507, 379, 475, 347, 91, 433, 497, 369, 401, 465, 337, 81, 505, 377, 473, 345, 89, 329, 73, 504, 376, 472, 344, 88, 328, 72] 4 = some [2, 3, 7] := by decide +kernel
theorem ns5 : M_need_square [encM pr5.1] = some .none := by kernel_rfl
theorem ct5 : isN (M_count_told [.int 4, factsOf pr5.1 [3, 4, 9]]) 1 = true := by decide +kernel
theorem hp5 : M_heights_of [encM pr5.1] = some (encM pr5.2) := by kernel_rfl
theorem hl5 : M_w_heights [encM pr5.1] = some (encM pr5.2) := by kernel_rfl
theorem me5 : pr5 ∈ ps4 := by decide +kernel
theorem rt5 (T : Hts) : M_w_right [.int 4, .list (sq4.map encM), encM pr5.1] = some (.bool true) :=
  Sq4.right (p := pr5) (lc := [3, 4, 9]) (lp := [2, 3, 7]) (K := 4) (L := 4) ⟨me5, rfl, ns5, by decide, by decide, by rw [first_fast, mc5]; exact fc5, by rw [first_fast, mp5]; exact fp5⟩ T (isN_eq ct5)
def pr6 : Mat × Mat := ([[0, 0, 0, 1], [1, 0, 0, 0], [0, 1, 0, 0], [0, 0, 1, 0]], [[0, 1, 2, 3, 4], [1, 2, 3, 4, 3], [2, 1, 2, 3, 2], [3, 2, 1, 2, 1], [4, 3, 2, 1, 0]])
theorem mc6 : ((othersOf pr6.1).map Prod.fst).map (maskI sp0 pr6.1) = [44975, 40111, 43471, 39119, 64719, 39423, 44899, 40035, 43267, 38915, 64515, 42435, 38083, 61635, 15555, 39219, 65331, 38387, 62451, 16371, 43365, 39013, 64613, 42405, 38053, 61605, 15525, 39253, 65365, 38293, 62357, 16277, 62965, 14837, 39270, 65382, 38310, 62374, 16294, 62918, 14790] := by decide +kernel
theorem mp6 : ((othersOf pr6.1).map Prod.snd).map (maskI sp1 pr6.2) = [295, 359, 311, 375, 503, 383, 291, 355, 307, 371, 499, 275, 339, 467, 211, 379, 507, 347, 475, 219, 305, 369, 497, 273, 337, 465, 209, 377, 505, 345, 473, 217, 457, 201, 376, 504, 344, 472, 216, 456, 200] := by decide +kernel
theorem fc6 : firstB 16 [44975, 40111, 43471, 39119, 64719, 39423, 44899, 40035, 43267, 38915, 64515, 42435, 38083, 61635, 15555, 39219, 65331, 38387, 62451, 16371, 43365, 39013, 64613, 42405, 38053, 61605, 15525, 39253, 65365, 38293, 62357, 16277, 62965, 14837, 39270, 65382, 38310, 62374, 16294, 62918, 14790] 4 = some [3, 4, 9] := by decide +kernel
theorem fp6 : firstB 9 [295, 359, 311, 375, 503, 383, 291, 355, 307, 371, 499, 275, 339, 467, 211, 379, 507, 347, 475, 219, 305, 369, 497, 273, 337, 465, 209, 377, 505, 345, 473, 217, 457, 201, 376, 504, 344, 472, 216, 456, 200] 4 = some [2, 3, 7] := by decide +kernel
theorem ns6 : M_need_square [encM pr6.1] = some .none := by kernel_rfl
theorem ct6 : isN (M_count_told [.int 4, factsOf pr6.1 [3, 4, 9]]) 1 = true := by decide +kernel
theorem hp6 : M_heights_of [encM pr6.1] = some (encM pr6.2) := by kernel_rfl
theorem hl6 : M_w_heights [encM pr6.1] = some (encM pr6.2) := by kernel_rfl
theorem me6 : pr6 ∈ ps4 := by decide +kernel
theorem rt6 (T : Hts) : M_w_right [.int 4, .list (sq4.map encM), encM pr6.1] = some (.bool true) :=
  Sq4.right (p := pr6) (lc := [3, 4, 9]) (lp := [2, 3, 7]) (K := 4) (L := 4) ⟨me6, rfl, ns6, by decide, by decide, by rw [first_fast, mc6]; exact fc6, by rw [first_fast, mp6]; exact fp6⟩ T (isN_eq ct6)
def pr7 : Mat × Mat := ([[0, 0, 1, 0], [0, 0, 0, 1], [0, 1, 0, 0], [1, 0, 0, 0]], [[0, 1, 2, 3, 4], [1, 2, 3, 2, 3], [2, 3, 4, 3, 2], [3, 4, 3, 2, 1], [4, 3, 2, 1, 0]])
theorem mc7 : ((othersOf pr7.1).map Prod.fst).map (maskI sp0 pr7.1) = [65331, 52275, 63827, 51283, 44115, 51555, 44899, 52479, 63903, 51359, 44191, 62815, 50271, 41055, 27743, 51631, 44975, 50543, 41839, 28527, 63993, 51449, 44281, 62777, 50233, 41017, 27705, 51657, 45001, 50441, 41737, 28425, 42345, 26985, 51706, 45050, 50490, 41786, 28474, 42330, 26970] := by decide +kernel
theorem mp7 : ((othersOf pr7.1).map Prod.snd).map (maskI sp1 pr7.2) = [507, 443, 491, 427, 299, 419, 291, 447, 495, 431, 303, 463, 399, 271, 15, 423, 295, 391, 263, 7, 493, 429, 301, 461, 397, 269, 13, 421, 293, 389, 261, 5, 261, 5, 420, 292, 388, 260, 4, 260, 4] := by decide +kernel
theorem fc7 : firstB 16 [65331, 52275, 63827, 51283, 44115, 51555, 44899, 52479, 63903, 51359, 44191, 62815, 50271, 41055, 27743, 51631, 44975, 50543, 41839, 28527, 63993, 51449, 44281, 62777, 50233, 41017, 27705, 51657, 45001, 50441, 41737, 28425, 42345, 26985, 51706, 45050, 50490, 41786, 28474, 42330, 26970] 4 = some [2, 4, 9] := by decide +kernel
theorem fp7 : firstB 9 [507, 443, 491, 427, 299, 419, 291, 447, 495, 431, 303, 463, 399, 271, 15, 423, 295, 391, 263, 7, 493, 429, 301, 461, 397, 269, 13, 421, 293, 389, 261, 5, 261, 5, 420, 292, 388, 260, 4, 260, 4] 4 = some [2, 4, 6] := by decide +kernel
theorem ns7 : M_need_square [encM pr7.1] = some .none := by kernel_rfl
theorem ct7 : isN (M_count_told [.int 4, factsOf pr7.1 [2, 4, 9]]) 1 = true := by decide +kernel
theorem hp7 : M_heights_of [encM pr7.1] = some (encM pr7.2) := by kernel_rfl
theorem hl7 : M_w_heights [encM pr7.1] = some (encM pr7.2) := by kernel_rfl
theorem me7 : pr7 ∈ ps4 := by decide +kernel
theorem rt7 (T : Hts) : M_w_right [.int 4, .list (sq4.map encM), encM pr7.1] = some (.bool true) :=
  Sq4.right (p := pr7) (lc := [2, 4, 9]) (lp := [2, 4, 6]) (K := 4) (L := 4) ⟨me7, rfl, ns7, by decide, by decide, by rw [first_fast, mc7]; exact fc7, by rw [first_fast, mp7]; exact fp7⟩ T (isN_eq ct7)
def pr8 : Mat × Mat := ([[0, 0, 1, 0], [0, 0, 0, 1], [1, 0, 0, 0], [0, 1, 0, 0]], [[0, 1, 2, 3, 4], [1, 2, 3, 2, 3], [2, 3, 4, 3, 2], [3, 2, 3, 2, 1], [4, 3, 2, 1, 0]])
theorem mc8 : ((othersOf pr8.1).map Prod.fst).map (maskI sp0 pr8.1) = [52275, 65331, 51795, 63827, 40787, 64099, 40035, 52479, 51871, 63903, 40863, 50783, 62815, 37727, 24415, 64175, 40111, 63087, 36975, 23663, 51961, 63993, 40953, 50745, 62777, 37689, 24377, 64201, 40137, 62985, 36873, 23561, 38505, 23145, 64250, 40186, 63034, 36922, 23610, 38490, 23130] := by decide +kernel
theorem mp8 : ((othersOf pr8.1).map Prod.snd).map (maskI sp1 pr8.2) = [443, 507, 427, 491, 363, 483, 355, 447, 431, 495, 367, 399, 463, 335, 79, 487, 359, 455, 327, 71, 429, 493, 365, 397, 461, 333, 77, 485, 357, 453, 325, 69, 325, 69, 484, 356, 452, 324, 68, 324, 68] := by decide +kernel
theorem fc8 : firstB 16 [52275, 65331, 51795, 63827, 40787, 64099, 40035, 52479, 51871, 63903, 40863, 50783, 62815, 37727, 24415, 64175, 40111, 63087, 36975, 23663, 51961, 63993, 40953, 50745, 62777, 37689, 24377, 64201, 40137, 62985, 36873, 23561, 38505, 23145, 64250, 40186, 63034, 36922, 23610, 38490, 23130] 4 = some [2, 5, 8] := by decide +kernel
theorem fp8 : firstB 9 [443, 507, 427, 491, 363, 483, 355, 447, 431, 495, 367, 399, 463, 335, 79, 487, 359, 455, 327, 71, 429, 493, 365, 397, 461, 333, 77, 485, 357, 453, 325, 69, 325, 69, 484, 356, 452, 324, 68, 324, 68] 4 = some [2, 4, 6] := by decide +kernel
theorem ns8 : M_need_square [encM pr8.1] = some .none := by kernel_rfl
theorem ct8 : isN (M_count_told [.int 4, factsOf pr8.1 [2, 5, 8]]) 1 = true := by decide +kernel
theorem hp8 : M_heights_of [encM pr8.1] = some (encM pr8.2) := by kernel_rfl
theorem hl8 : M_w_heights [encM pr8.1] = some (encM pr8.2) := by kernel_rfl
theorem me8 : pr8 ∈ ps4 := by decide +kernel
theorem rt8 (T : Hts) : M_w_right [.int 4, .list (sq4.map encM), encM pr8.1] = some (.bool true) :=
  Sq4.right (p := pr8) (lc := [2, 5, 8]) (lp := [2, 4, 6]) (K := 4) (L := 4) ⟨me8, rfl, ns8, by decide, by decide, by rw [first_fast, mc8]; exact fc8, by rw [first_fast, mp8]; exact fp8⟩ T (isN_eq ct8)
def pr9 : Mat × Mat := ([[0, 0, 1, 0], [0, 1, -1, 1], [0, 0, 1, 0], [1, 0, 0, 0]], [[0, 1, 2, 3, 4], [1, 2, 3, 2, 3], [2, 3, 2, 3, 2], [3, 4, 3, 2, 1], [4, 3, 2, 1, 0]])
theorem mc9 : ((othersOf pr9.1).map Prod.fst).map (maskI sp0 pr9.1) = [63763, 51731, 65331, 52275, 43571, 52995, 43267, 63903, 51871, 52479, 43775, 62271, 49215, 41535, 27199, 53199, 43471, 49935, 41231, 26895, 65433, 52377, 43673, 62233, 49177, 41497, 27161, 53129, 43401, 49929, 41225, 26889, 41737, 28425, 53146, 43418, 49946, 41242, 26906, 41786, 28474] := by decide +kernel
theorem mp9 : ((othersOf pr9.1).map Prod.snd).map (maskI sp1 pr9.2) = [491, 427, 507, 443, 315, 435, 307, 495, 431, 447, 319, 479, 415, 287, 31, 439, 311, 407, 279, 23, 509, 445, 317, 477, 413, 285, 29, 437, 309, 405, 277, 21, 261, 5, 436, 308, 404, 276, 20, 260, 4] := by decide +kernel
theorem fc9 : firstB 16 [63763, 51731, 65331, 52275, 43571, 52995, 43267, 63903, 51871, 52479, 43775, 62271, 49215, 41535, 27199, 53199, 43471, 49935, 41231, 26895, 65433, 52377, 43673, 62233, 49177, 41497, 27161, 53129, 43401, 49929, 41225, 26889, 41737, 28425, 53146, 43418, 49946, 41242, 26906, 41786, 28474] 3 = some [6, 12] := by decide +kernel
theorem fp9 : firstB 9 [491, 427, 507, 443, 315, 435, 307, 495, 431, 447, 319, 479, 415, 287, 31, 439, 311, 407, 279, 23, 509, 445, 317, 477, 413, 285, 29, 437, 309, 405, 277, 21, 261, 5, 436, 308, 404, 276, 20, 260, 4] 6 = some [1, 2, 4, 5, 6] := by decide +kernel
theorem ns9 : M_need_square [encM pr9.1] = some .none := by kernel_rfl
theorem ct9 : isN (M_count_told [.int 4, factsOf pr9.1 [6, 12]]) 1 = true := by decide +kernel
theorem hp9 : M_heights_of [encM pr9.1] = some (encM pr9.2) := by kernel_rfl
theorem hl9 : M_w_heights [encM pr9.1] = some (encM pr9.2) := by kernel_rfl
theorem me9 : pr9 ∈ ps4 := by decide +kernel
theorem rt9 (T : Hts) : M_w_right [.int 4, .list (sq4.map encM), encM pr9.1] = some (.bool true) :=
  Sq4.right (p := pr9) (lc := [6, 12]) (lp := [1, 2, 4, 5, 6]) (K := 3) (L := 6) ⟨me9, rfl, ns9, by decide, by decide, by rw [first_fast, mc9]; exact fc9, by rw [first_fast, mp9]; exact fp9⟩ T (isN_eq ct9)
def pr10 : Mat × Mat := ([[0, 0, 1, 0], [0, 1, -1, 1], [1, -1, 1, 0], [0, 1, 0, 0]], [[0, 1, 2, 3, 4], [1, 2, 3, 2, 3], [2, 3, 2, 3, 2], [3, 2, 3, 2, 1], [4, 3, 2, 1, 0]])
theorem mc10 : ((othersOf pr10.1).map Prod.fst).map (maskI sp0 pr10.1) = [51219, 63763, 52275, 65331, 39219, 64515, 38915, 51359, 63903, 52479, 39423, 49215, 62271, 37183, 22847, 64719, 39119, 61455, 36879, 22543, 52377, 65433, 39321, 49177, 62233, 37145, 22809, 64649, 39049, 61449, 36873, 22537, 36873, 23561, 64666, 39066, 61466, 36890, 22554, 36922, 23610] := by decide +kernel
theorem mp10 : ((othersOf pr10.1).map Prod.snd).map (maskI sp1 pr10.2) = [427, 491, 443, 507, 379, 499, 371, 431, 495, 447, 383, 415, 479, 351, 95, 503, 375, 471, 343, 87, 445, 509, 381, 413, 477, 349, 93, 501, 373, 469, 341, 85, 325, 69, 500, 372, 468, 340, 84, 324, 68] := by decide +kernel
theorem fc10 : firstB 16 [51219, 63763, 52275, 65331, 39219, 64515, 38915, 51359, 63903, 52479, 39423, 49215, 62271, 37183, 22847, 64719, 39119, 61455, 36879, 22543, 52377, 65433, 39321, 49177, 62233, 37145, 22809, 64649, 39049, 61449, 36873, 22537, 36873, 23561, 64666, 39066, 61466, 36890, 22554, 36922, 23610] 3 = some [6, 9] := by decide +kernel
theorem fp10 : firstB 9 [427, 491, 443, 507, 379, 499, 371, 431, 495, 447, 383, 415, 479, 351, 95, 503, 375, 471, 343, 87, 445, 509, 381, 413, 477, 349, 93, 501, 373, 469, 341, 85, 325, 69, 500, 372, 468, 340, 84, 324, 68] 8 = some [1, 2, 3, 4, 5, 6, 7] := by decide +kernel
theorem ns10 : M_need_square [encM pr10.1] = some .none := by kernel_rfl
theorem ct10 : isN (M_count_told [.int 4, factsOf pr10.1 [6, 9]]) 1 = true := by decide +kernel
theorem hp10 : M_heights_of [encM pr10.1] = some (encM pr10.2) := by kernel_rfl
theorem hl10 : M_w_heights [encM pr10.1] = some (encM pr10.2) := by kernel_rfl
theorem me10 : pr10 ∈ ps4 := by decide +kernel
theorem rt10 (T : Hts) : M_w_right [.int 4, .list (sq4.map encM), encM pr10.1] = some (.bool true) :=
  Sq4.right (p := pr10) (lc := [6, 9]) (lp := [1, 2, 3, 4, 5, 6, 7]) (K := 3) (L := 8) ⟨me10, rfl, ns10, by decide, by decide, by rw [first_fast, mc10]; exact fc10, by rw [first_fast, mp10]; exact fp10⟩ T (isN_eq ct10)
end SQ
end
section
set_option Elab.async false
set_option linter.all false
set_option maxRecDepth 100000
set_option maxHeartbeats 4000000
namespace SQ
open PySem PySem.Spec PyProof.Rows L2
def pr11 : Mat × Mat := ([[0, 0, 1, 0], [0, 1, -1, 1], [1, 0, 0, 0], [0, 0, 1, 0]], [[0, 1, 2, 3, 4], [1, 2, 3, 2, 3], [2, 3, 2, 3, 2], [3, 2, 1, 2, 1], [4, 3, 2, 1, 0]])
theorem mc11 : ((othersOf pr11.1).map Prod.fst).map (maskI sp0 pr11.1) = [44051, 40723, 43571, 39219, 65331, 39427, 64515, 44191, 40863, 43775, 39423, 42559, 38207, 62271, 16191, 39631, 64719, 38415, 61455, 15375, 43673, 39321, 65433, 42521, 38169, 62233, 16153, 39561, 64649, 38409, 61449, 15369, 62985, 14857, 39578, 64666, 38426, 61466, 15386, 63034, 14906] := by decide +kernel
theorem mp11 : ((othersOf pr11.1).map Prod.snd).map (maskI sp1 pr11.2) = [299, 363, 315, 379, 507, 371, 499, 303, 367, 319, 383, 287, 351, 479, 223, 375, 503, 343, 471, 215, 317, 381, 509, 285, 349, 477, 221, 373, 501, 341, 469, 213, 453, 197, 372, 500, 340, 468, 212, 452, 196] := by decide +kernel
theorem fc11 : firstB 16 [44051, 40723, 43571, 39219, 65331, 39427, 64515, 44191, 40863, 43775, 39423, 42559, 38207, 62271, 16191, 39631, 64719, 38415, 61455, 15375, 43673, 39321, 65433, 42521, 38169, 62233, 16153, 39561, 64649, 38409, 61449, 15369, 62985, 14857, 39578, 64666, 38426, 61466, 15386, 63034, 14906] 4 = some [4, 6, 10] := by decide +kernel
theorem fp11 : firstB 9 [299, 363, 315, 379, 507, 371, 499, 303, 367, 319, 383, 287, 351, 479, 223, 375, 503, 343, 471, 215, 317, 381, 509, 285, 349, 477, 221, 373, 501, 341, 469, 213, 453, 197, 372, 500, 340, 468, 212, 452, 196] 6 = some [1, 2, 3, 5, 7] := by decide +kernel
theorem ns11 : M_need_square [encM pr11.1] = some .none := by kernel_rfl
theorem ct11 : isN (M_count_told [.int 4, factsOf pr11.1 [4, 6, 10]]) 1 = true := by decide +kernel
theorem hp11 : M_heights_of [encM pr11.1] = some (encM pr11.2) := by kernel_rfl
theorem hl11 : M_w_heights [encM pr11.1] = some (encM pr11.2) := by kernel_rfl
theorem me11 : pr11 ∈ ps4 := by decide +kernel
theorem rt11 (T : Hts) : M_w_right [.int 4, .list (sq4.map encM), encM pr11.1] = some (.bool true) :=
  Sq4.right (p := pr11) (lc := [4, 6, 10]) (lp := [1, 2, 3, 5, 7]) (K := 4) (L := 6) ⟨me11, rfl, ns11, by decide, by decide, by rw [first_fast, mc11]; exact fc11, by rw [first_fast, mp11]; exact fp11⟩ T (isN_eq ct11)
def pr12 : Mat × Mat := ([[0, 0, 1, 0], [0, 1, 0, 0], [0, 0, 0, 1], [1, 0, 0, 0]], [[0, 1, 2, 3, 4], [1, 2, 3, 2, 3], [2, 3, 2, 1, 2], [3, 4, 3, 2, 1], [4, 3, 2, 1, 0]])
theorem mc12 : ((othersOf pr12.1).map Prod.fst).map (maskI sp0 pr12.1) = [62867, 50835, 62451, 49395, 42739, 50115, 42435, 62815, 50783, 62271, 49215, 42559, 52479, 43775, 26367, 49935, 42255, 53199, 43471, 26063, 62297, 49241, 42585, 65433, 52377, 43673, 26265, 49993, 42313, 53129, 43401, 25993, 45001, 25545, 50010, 42330, 53146, 43418, 26010, 45050, 25594] := by decide +kernel
theorem mp12 : ((othersOf pr12.1).map Prod.snd).map (maskI sp1 pr12.2) = [459, 395, 475, 411, 283, 403, 275, 463, 399, 479, 415, 287, 447, 319, 63, 407, 279, 439, 311, 55, 477, 413, 285, 509, 445, 317, 61, 405, 277, 437, 309, 53, 293, 37, 404, 276, 436, 308, 52, 292, 36] := by decide +kernel
theorem fc12 : firstB 16 [62867, 50835, 62451, 49395, 42739, 50115, 42435, 62815, 50783, 62271, 49215, 42559, 52479, 43775, 26367, 49935, 42255, 53199, 43471, 26063, 62297, 49241, 42585, 65433, 52377, 43673, 26265, 49993, 42313, 53129, 43401, 25993, 45001, 25545, 50010, 42330, 53146, 43418, 26010, 45050, 25594] 4 = some [1, 11, 12] := by decide +kernel
theorem fp12 : firstB 9 [459, 395, 475, 411, 283, 403, 275, 463, 399, 479, 415, 287, 447, 319, 63, 407, 279, 439, 311, 55, 477, 413, 285, 509, 445, 317, 61, 405, 277, 437, 309, 53, 293, 37, 404, 276, 436, 308, 52, 292, 36] 4 = some [1, 5, 6] := by decide +kernel
theorem ns12 : M_need_square [encM pr12.1] = some .none := by kernel_rfl
theorem ct12 : isN (M_count_told [.int 4, factsOf pr12.1 [1, 11, 12]]) 1 = true := by decide +kernel
theorem hp12 : M_heights_of [encM pr12.1] = some (encM pr12.2) := by kernel_rfl
theorem hl12 : M_w_heights [encM pr12.1] = some (encM pr12.2) := by kernel_rfl
theorem me12 : pr12 ∈ ps4 := by decide +kernel
theorem rt12 (T : Hts) : M_w_right [.int 4, .list (sq4.map encM), encM pr12.1] = some (.bool true) :=
  Sq4.right (p := pr12) (lc := [1, 11, 12]) (lp := [1, 5, 6]) (K := 4) (L := 4) ⟨me12, rfl, ns12, by decide, by decide, by rw [first_fast, mc12]; exact fc12, by rw [first_fast, mp12]; exact fp12⟩ T (isN_eq ct12)
def pr13 : Mat × Mat := ([[0, 0, 1, 0], [0, 1, 0, 0], [1, -1, 0, 1], [0, 1, 0, 0]], [[0, 1, 2, 3, 4], [1, 2, 3, 2, 3], [2, 3, 2, 1, 2], [3, 2, 3, 2, 1], [4, 3, 2, 1, 0]])
theorem mc13 : ((othersOf pr13.1).map Prod.fst).map (maskI sp0 pr13.1) = [50323, 62867, 49395, 62451, 38387, 61635, 38083, 50271, 62815, 49215, 62271, 38207, 52479, 39423, 22015, 61455, 37903, 64719, 39119, 21711, 49241, 62297, 38233, 52377, 65433, 39321, 21913, 61513, 37961, 64649, 39049, 21641, 40137, 20681, 61530, 37978, 64666, 39066, 21658, 40186, 20730] := by decide +kernel
theorem mp13 : ((othersOf pr13.1).map Prod.snd).map (maskI sp1 pr13.2) = [395, 459, 411, 475, 347, 467, 339, 399, 463, 415, 479, 351, 447, 383, 127, 471, 343, 503, 375, 119, 413, 477, 349, 445, 509, 381, 125, 469, 341, 501, 373, 117, 357, 101, 468, 340, 500, 372, 116, 356, 100] := by decide +kernel
theorem fc13 : firstB 16 [50323, 62867, 49395, 62451, 38387, 61635, 38083, 50271, 62815, 49215, 62271, 38207, 52479, 39423, 22015, 61455, 37903, 64719, 39119, 21711, 49241, 62297, 38233, 52377, 65433, 39321, 21913, 61513, 37961, 64649, 39049, 21641, 40137, 20681, 61530, 37978, 64666, 39066, 21658, 40186, 20730] 4 = some [1, 9, 10] := by decide +kernel
theorem fp13 : firstB 9 [395, 459, 411, 475, 347, 467, 339, 399, 463, 415, 479, 351, 447, 383, 127, 471, 343, 503, 375, 119, 413, 477, 349, 445, 509, 381, 125, 469, 341, 501, 373, 117, 357, 101, 468, 340, 500, 372, 116, 356, 100] 6 = some [1, 3, 5, 6, 7] := by decide +kernel
theorem ns13 : M_need_square [encM pr13.1] = some .none := by kernel_rfl
theorem ct13 : isN (M_count_told [.int 4, factsOf pr13.1 [1, 9, 10]]) 1 = true := by decide +kernel
theorem hp13 : M_heights_of [encM pr13.1] = some (encM pr13.2) := by kernel_rfl
theorem hl13 : M_w_heights [encM pr13.1] = some (encM pr13.2) := by kernel_rfl
theorem me13 : pr13 ∈ ps4 := by decide +kernel
theorem rt13 (T : Hts) : M_w_right [.int 4, .list (sq4.map encM), encM pr13.1] = some (.bool true) :=
  Sq4.right (p := pr13) (lc := [1, 9, 10]) (lp := [1, 3, 5, 6, 7]) (K := 4) (L := 6) ⟨me13, rfl, ns13, by decide, by decide, by rw [first_fast, mc13]; exact fc13, by rw [first_fast, mp13]; exact fp13⟩ T (isN_eq ct13)
def pr14 : Mat × Mat := ([[0, 0, 1, 0], [0, 1, 0, 0], [1, 0, -1, 1], [0, 0, 1, 0]], [[0, 1, 2, 3, 4], [1, 2, 3, 2, 3], [2, 3, 2, 1, 2], [3, 2, 1, 2, 1], [4, 3, 2, 1, 0]])
theorem mc14 : ((othersOf pr14.1).map Prod.fst).map (maskI sp0 pr14.1) = [41107, 37779, 41715, 37363, 62451, 37571, 61635, 41055, 37727, 41535, 37183, 62271, 43775, 39423, 13311, 37391, 61455, 39631, 64719, 12495, 41561, 37209, 62297, 43673, 39321, 65433, 13209, 37449, 61513, 39561, 64649, 12425, 64201, 13001, 37466, 61530, 39578, 64666, 12442, 64250, 13050] := by decide +kernel
theorem mp14 : ((othersOf pr14.1).map Prod.snd).map (maskI sp1 pr14.2) = [267, 331, 283, 347, 475, 339, 467, 271, 335, 287, 351, 479, 319, 383, 255, 343, 471, 375, 503, 247, 285, 349, 477, 317, 381, 509, 253, 341, 469, 373, 501, 245, 485, 229, 340, 468, 372, 500, 244, 484, 228] := by decide +kernel
theorem fc14 : firstB 16 [41107, 37779, 41715, 37363, 62451, 37571, 61635, 41055, 37727, 41535, 37183, 62271, 43775, 39423, 13311, 37391, 61455, 39631, 64719, 12495, 41561, 37209, 62297, 43673, 39321, 65433, 13209, 37449, 61513, 39561, 64649, 12425, 64201, 13001, 37466, 61530, 39578, 64666, 12442, 64250, 13050] 3 = some [5, 10] := by decide +kernel
theorem fp14 : firstB 9 [267, 331, 283, 347, 475, 339, 467, 271, 335, 287, 351, 479, 319, 383, 255, 343, 471, 375, 503, 247, 285, 349, 477, 317, 381, 509, 253, 341, 469, 373, 501, 245, 485, 229, 340, 468, 372, 500, 244, 484, 228] 6 = some [1, 3, 5, 7, 8] := by decide +kernel
theorem ns14 : M_need_square [encM pr14.1] = some .none := by kernel_rfl
theorem ct14 : isN (M_count_told [.int 4, factsOf pr14.1 [5, 10]]) 1 = true := by decide +kernel
theorem hp14 : M_heights_of [encM pr14.1] = some (encM pr14.2) := by kernel_rfl
theorem hl14 : M_w_heights [encM pr14.1] = some (encM pr14.2) := by kernel_rfl
theorem me14 : pr14 ∈ ps4 := by decide +kernel
theorem rt14 (T : Hts) : M_w_right [.int 4, .list (sq4.map encM), encM pr14.1] = some (.bool true) :=
  Sq4.right (p := pr14) (lc := [5, 10]) (lp := [1, 3, 5, 7, 8]) (K := 3) (L := 6) ⟨me14, rfl, ns14, by decide, by decide, by rw [first_fast, mc14]; exact fc14, by rw [first_fast, mp14]; exact fp14⟩ T (isN_eq ct14)
def pr15 : Mat × Mat := ([[0, 0, 1, 0], [0, 1, 0, 0], [1, 0, 0, 0], [0, 0, 0, 1]], [[0, 1, 2, 3, 4], [1, 2, 3, 2, 3], [2, 3, 2, 1, 2], [3, 2, 1, 0, 1], [4, 3, 2, 1, 0]])
theorem mc15 : ((othersOf pr15.1).map Prod.fst).map (maskI sp0 pr15.1) = [27795, 24467, 27379, 23027, 16371, 23235, 15555, 27743, 24415, 27199, 22847, 16191, 26367, 22015, 13311, 23055, 15375, 22223, 12495, 64719, 27225, 22873, 16217, 26265, 21913, 13209, 65433, 23113, 15433, 22153, 12425, 64649, 14025, 64201, 23130, 15450, 22170, 12442, 64666, 14074, 64250] := by decide +kernel
theorem mp15 : ((othersOf pr15.1).map Prod.snd).map (maskI sp1 pr15.2) = [11, 75, 27, 91, 219, 83, 211, 15, 79, 31, 95, 223, 63, 127, 255, 87, 215, 119, 247, 503, 29, 93, 221, 61, 125, 253, 509, 85, 213, 117, 245, 501, 229, 485, 84, 212, 116, 244, 500, 228, 484] := by decide +kernel
theorem fc15 : firstB 16 [27795, 24467, 27379, 23027, 16371, 23235, 15555, 27743, 24415, 27199, 22847, 16191, 26367, 22015, 13311, 23055, 15375, 22223, 12495, 64719, 27225, 22873, 16217, 26265, 21913, 13209, 65433, 23113, 15433, 22153, 12425, 64649, 14025, 64201, 23130, 15450, 22170, 12442, 64666, 14074, 64250] 4 = some [0, 5, 15] := by decide +kernel
theorem fp15 : firstB 9 [11, 75, 27, 91, 219, 83, 211, 15, 79, 31, 95, 223, 63, 127, 255, 87, 215, 119, 247, 503, 29, 93, 221, 61, 125, 253, 509, 85, 213, 117, 245, 501, 229, 485, 84, 212, 116, 244, 500, 228, 484] 4 = some [1, 3, 8] := by decide +kernel
theorem ns15 : M_need_square [encM pr15.1] = some .none := by kernel_rfl
theorem ct15 : isN (M_count_told [.int 4, factsOf pr15.1 [0, 5, 15]]) 1 = true := by decide +kernel
theorem hp15 : M_heights_of [encM pr15.1] = some (encM pr15.2) := by kernel_rfl
theorem hl15 : M_w_heights [encM pr15.1] = some (encM pr15.2) := by kernel_rfl
theorem me15 : pr15 ∈ ps4 := by decide +kernel
theorem rt15 (T : Hts) : M_w_right [.int 4, .list (sq4.map encM), encM pr15.1] = some (.bool true) :=
  Sq4.right (p := pr15) (lc := [0, 5, 15]) (lp := [1, 3, 8]) (K := 4) (L := 4) ⟨me15, rfl, ns15, by decide, by decide, by rw [first_fast, mc15]; exact fc15, by rw [first_fast, mp15]; exact fp15⟩ T (isN_eq ct15)
def pr16 : Mat × Mat := ([[0, 0, 1, 0], [1, 0, -1, 1], [0, 0, 1, 0], [0, 1, 0, 0]], [[0, 1, 2, 3, 4], [1, 2, 3, 2, 3], [2, 1, 2, 3, 2], [3, 2, 3, 2, 1], [4, 3, 2, 1, 0]])
theorem mc16 : ((othersOf pr16.1).map Prod.fst).map (maskI sp0 pr16.1) = [51491, 64035, 52995, 64515, 39427, 65331, 39219, 51631, 64175, 53199, 64719, 39631, 49935, 61455, 37391, 23055, 39423, 62271, 37183, 22847, 53161, 64681, 39593, 49961, 61481, 37417, 23081, 65433, 39321, 62233, 37145, 22809, 37689, 24377, 65450, 39338, 62250, 37162, 22826, 37642, 24330] := by decide +kernel
theorem mp16 : ((othersOf pr16.1).map Prod.snd).map (maskI sp1 pr16.2) = [419, 483, 435, 499, 371, 507, 379, 423, 487, 439, 503, 375, 407, 471, 343, 87, 383, 479, 351, 95, 437, 501, 373, 405, 469, 341, 85, 509, 381, 477, 349, 93, 333, 77, 508, 380, 476, 348, 92, 332, 76] := by decide +kernel
theorem fc16 : firstB 16 [51491, 64035, 52995, 64515, 39427, 65331, 39219, 51631, 64175, 53199, 64719, 39631, 49935, 61455, 37391, 23055, 39423, 62271, 37183, 22847, 53161, 64681, 39593, 49961, 61481, 37417, 23081, 65433, 39321, 62233, 37145, 22809, 37689, 24377, 65450, 39338, 62250, 37162, 22826, 37642, 24330] 4 = some [2, 4, 10] := by decide +kernel
theorem fp16 : firstB 9 [419, 483, 435, 499, 371, 507, 379, 423, 487, 439, 503, 375, 407, 471, 343, 87, 383, 479, 351, 95, 437, 501, 373, 405, 469, 341, 85, 509, 381, 477, 349, 93, 333, 77, 508, 380, 476, 348, 92, 332, 76] 6 = some [1, 2, 3, 5, 7] := by decide +kernel
theorem ns16 : M_need_square [encM pr16.1] = some .none := by kernel_rfl
theorem ct16 : isN (M_count_told [.int 4, factsOf pr16.1 [2, 4, 10]]) 1 = true := by decide +kernel
theorem hp16 : M_heights_of [encM pr16.1] = some (encM pr16.2) := by kernel_rfl
theorem hl16 : M_w_heights [encM pr16.1] = some (encM pr16.2) := by kernel_rfl
theorem me16 : pr16 ∈ ps4 := by decide +kernel
theorem rt16 (T : Hts) : M_w_right [.int 4, .list (sq4.map encM), encM pr16.1] = some (.bool true) :=
  Sq4.right (p := pr16) (lc := [2, 4, 10]) (lp := [1, 2, 3, 5, 7]) (K := 4) (L := 6) ⟨me16, rfl, ns16, by decide, by decide, by rw [first_fast, mc16]; exact fc16, by rw [first_fast, mp16]; exact fp16⟩ T (isN_eq ct16)
def pr17 : Mat × Mat := ([[0, 0, 1, 0], [1, 0, -1, 1], [0, 1, 0, 0], [0, 0, 1, 0]], [[0, 1, 2, 3, 4], [1, 2, 3, 2, 3], [2, 1, 2, 3, 2], [3, 2, 1, 2, 1], [4, 3, 2, 1, 0]])
theorem mc17 : ((othersOf pr17.1).map Prod.fst).map (maskI sp0 pr17.1) = [44835, 39971, 43267, 38915, 64515, 39219, 65331, 44975, 40111, 43471, 39119, 64719, 42255, 37903, 61455, 15375, 39423, 38207, 62271, 16191, 43433, 39081, 64681, 42281, 37929, 61481, 15401, 39321, 65433, 38169, 62233, 16153, 62777, 14649, 39338, 65450, 38186, 62250, 16170, 62730, 14602] := by decide +kernel
theorem mp17 : ((othersOf pr17.1).map Prod.snd).map (maskI sp1 pr17.2) = [291, 355, 307, 371, 499, 379, 507, 295, 359, 311, 375, 503, 279, 343, 471, 215, 383, 351, 479, 223, 309, 373, 501, 277, 341, 469, 213, 381, 509, 349, 477, 221, 461, 205, 380, 508, 348, 476, 220, 460, 204] := by decide +kernel
theorem fc17 : firstB 16 [44835, 39971, 43267, 38915, 64515, 39219, 65331, 44975, 40111, 43471, 39119, 64719, 42255, 37903, 61455, 15375, 39423, 38207, 62271, 16191, 43433, 39081, 64681, 42281, 37929, 61481, 15401, 39321, 65433, 38169, 62233, 16153, 62777, 14649, 39338, 65450, 38186, 62250, 16170, 62730, 14602] 3 = some [6, 9] := by decide +kernel
theorem fp17 : firstB 9 [291, 355, 307, 371, 499, 379, 507, 295, 359, 311, 375, 503, 279, 343, 471, 215, 383, 351, 479, 223, 309, 373, 501, 277, 341, 469, 213, 381, 509, 349, 477, 221, 461, 205, 380, 508, 348, 476, 220, 460, 204] 6 = some [1, 2, 3, 5, 7] := by decide +kernel
theorem ns17 : M_need_square [encM pr17.1] = some .none := by kernel_rfl
theorem ct17 : isN (M_count_told [.int 4, factsOf pr17.1 [6, 9]]) 1 = true := by decide +kernel
theorem hp17 : M_heights_of [encM pr17.1] = some (encM pr17.2) := by kernel_rfl
theorem hl17 : M_w_heights [encM pr17.1] = some (encM pr17.2) := by kernel_rfl
theorem me17 : pr17 ∈ ps4 := by decide +kernel
theorem rt17 (T : Hts) : M_w_right [.int 4, .list (sq4.map encM), encM pr17.1] = some (.bool true) :=
  Sq4.right (p := pr17) (lc := [6, 9]) (lp := [1, 2, 3, 5, 7]) (K := 3) (L := 6) ⟨me17, rfl, ns17, by decide, by decide, by rw [first_fast, mc17]; exact fc17, by rw [first_fast, mp17]; exact fp17⟩ T (isN_eq ct17)
def pr18 : Mat × Mat := ([[0, 0, 1, 0], [1, 0, 0, 0], [0, 0, 0, 1], [0, 1, 0, 0]], [[0, 1, 2, 3, 4], [1, 2, 3, 2, 3], [2, 1, 2, 1, 2], [3, 2, 3, 2, 1], [4, 3, 2, 1, 0]])
theorem mc18 : ((othersOf pr18.1).map Prod.fst).map (maskI sp0 pr18.1) = [50595, 63139, 50115, 61635, 38595, 62451, 38387, 50543, 63087, 49935, 61455, 38415, 53199, 64719, 39631, 22223, 62271, 38207, 39423, 22015, 50025, 61545, 38505, 53161, 64681, 39593, 22185, 62297, 38233, 65433, 39321, 21913, 40953, 21497, 62314, 38250, 65450, 39338, 21930, 40906, 21450] := by decide +kernel
theorem mp18 : ((othersOf pr18.1).map Prod.snd).map (maskI sp1 pr18.2) = [387, 451, 403, 467, 339, 475, 347, 391, 455, 407, 471, 343, 439, 503, 375, 119, 479, 351, 383, 127, 405, 469, 341, 437, 501, 373, 117, 477, 349, 509, 381, 125, 365, 109, 476, 348, 508, 380, 124, 364, 108] := by decide +kernel
theorem fc18 : firstB 16 [50595, 63139, 50115, 61635, 38595, 62451, 38387, 50543, 63087, 49935, 61455, 38415, 53199, 64719, 39631, 22223, 62271, 38207, 39423, 22015, 50025, 61545, 38505, 53161, 64681, 39593, 22185, 62297, 38233, 65433, 39321, 21913, 40953, 21497, 62314, 38250, 65450, 39338, 21930, 40906, 21450] 5 = some [1, 4, 9, 10] := by decide +kernel
theorem fp18 : firstB 9 [387, 451, 403, 467, 339, 475, 347, 391, 455, 407, 471, 343, 439, 503, 375, 119, 479, 351, 383, 127, 405, 469, 341, 437, 501, 373, 117, 477, 349, 509, 381, 125, 365, 109, 476, 348, 508, 380, 124, 364, 108] 5 = some [1, 3, 5, 7] := by decide +kernel
theorem ns18 : M_need_square [encM pr18.1] = some .none := by kernel_rfl
theorem ct18 : isN (M_count_told [.int 4, factsOf pr18.1 [1, 4, 9, 10]]) 1 = true := by decide +kernel
theorem hp18 : M_heights_of [encM pr18.1] = some (encM pr18.2) := by kernel_rfl
theorem hl18 : M_w_heights [encM pr18.1] = some (encM pr18.2) := by kernel_rfl
theorem me18 : pr18 ∈ ps4 := by decide +kernel
theorem rt18 (T : Hts) : M_w_right [.int 4, .list (sq4.map encM), encM pr18.1] = some (.bool true) :=
  Sq4.right (p := pr18) (lc := [1, 4, 9, 10]) (lp := [1, 3, 5, 7]) (K := 5) (L := 5) ⟨me18, rfl, ns18, by decide, by decide, by rw [first_fast, mc18]; exact fc18, by rw [first_fast, mp18]; exact fp18⟩ T (isN_eq ct18)
def pr19 : Mat × Mat := ([[0, 0, 1, 0], [1, 0, 0, 0], [0, 1, -1, 1], [0, 0, 1, 0]], [[0, 1, 2, 3, 4], [1, 2, 3, 2, 3], [2, 1, 2, 1, 2], [3, 2, 1, 2, 1], [4, 3, 2, 1, 0]])
theorem mc19 : ((othersOf pr19.1).map Prod.fst).map (maskI sp0 pr19.1) = [41891, 37027, 41411, 37059, 61635, 37363, 62451, 41839, 36975, 41231, 36879, 61455, 43471, 39119, 64719, 12495, 37183, 62271, 39423, 13311, 41321, 36969, 61545, 43433, 39081, 64681, 12457, 37209, 62297, 39321, 65433, 13209, 63993, 12793, 37226, 62314, 39338, 65450, 13226, 63946, 12746] := by decide +kernel
theorem mp19 : ((othersOf pr19.1).map Prod.snd).map (maskI sp1 pr19.2) = [259, 323, 275, 339, 467, 347, 475, 263, 327, 279, 343, 471, 311, 375, 503, 247, 351, 479, 383, 255, 277, 341, 469, 309, 373, 501, 245, 349, 477, 381, 509, 253, 493, 237, 348, 476, 380, 508, 252, 492, 236] := by decide +kernel
theorem fc19 : firstB 16 [41891, 37027, 41411, 37059, 61635, 37363, 62451, 41839, 36975, 41231, 36879, 61455, 43471, 39119, 64719, 12495, 37183, 62271, 39423, 13311, 41321, 36969, 61545, 43433, 39081, 64681, 12457, 37209, 62297, 39321, 65433, 13209, 63993, 12793, 37226, 62314, 39338, 65450, 13226, 63946, 12746] 4 = some [1, 4, 10] := by decide +kernel
theorem fp19 : firstB 9 [259, 323, 275, 339, 467, 347, 475, 263, 327, 279, 343, 471, 311, 375, 503, 247, 351, 479, 383, 255, 277, 341, 469, 309, 373, 501, 245, 349, 477, 381, 509, 253, 493, 237, 348, 476, 380, 508, 252, 492, 236] 6 = some [1, 3, 5, 7, 8] := by decide +kernel
theorem ns19 : M_need_square [encM pr19.1] = some .none := by kernel_rfl
theorem ct19 : isN (M_count_told [.int 4, factsOf pr19.1 [1, 4, 10]]) 1 = true := by decide +kernel
theorem hp19 : M_heights_of [encM pr19.1] = some (encM pr19.2) := by kernel_rfl
theorem hl19 : M_w_heights [encM pr19.1] = some (encM pr19.2) := by kernel_rfl
theorem me19 : pr19 ∈ ps4 := by decide +kernel
theorem rt19 (T : Hts) : M_w_right [.int 4, .list (sq4.map encM), encM pr19.1] = some (.bool true) :=
  Sq4.right (p := pr19) (lc := [1, 4, 10]) (lp := [1, 3, 5, 7, 8]) (K := 4) (L := 6) ⟨me19, rfl, ns19, by decide, by decide, by rw [first_fast, mc19]; exact fc19, by rw [first_fast, mp19]; exact fp19⟩ T (isN_eq ct19)
def pr20 : Mat × Mat := ([[0, 0, 1, 0], [1, 0, 0, 0], [0, 1, 0, 0], [0, 0, 0, 1]], [[0, 1, 2, 3, 4], [1, 2, 3, 2, 3], [2, 1, 2, 1, 2], [3, 2, 1, 0, 1], [4, 3, 2, 1, 0]])
theorem mc20 : ((othersOf pr20.1).map Prod.fst).map (maskI sp0 pr20.1) = [28579, 23715, 27075, 22723, 15555, 23027, 16371, 28527, 23663, 26895, 22543, 15375, 26063, 21711, 12495, 64719, 22847, 16191, 22015, 13311, 26985, 22633, 15465, 26025, 21673, 12457, 64681, 22873, 16217, 21913, 13209, 65433, 13817, 63993, 22890, 16234, 21930, 13226, 65450, 13770, 63946] := by decide +kernel
theorem mp20 : ((othersOf pr20.1).map Prod.snd).map (maskI sp1 pr20.2) = [3, 67, 19, 83, 211, 91, 219, 7, 71, 23, 87, 215, 55, 119, 247, 503, 95, 223, 127, 255, 21, 85, 213, 53, 117, 245, 501, 93, 221, 125, 253, 509, 237, 493, 92, 220, 124, 252, 508, 236, 492] := by decide +kernel
theorem fc20 : firstB 16 [28579, 23715, 27075, 22723, 15555, 23027, 16371, 28527, 23663, 26895, 22543, 15375, 26063, 21711, 12495, 64719, 22847, 16191, 22015, 13311, 26985, 22633, 15465, 26025, 21673, 12457, 64681, 22873, 16217, 21913, 13209, 65433, 13817, 63993, 22890, 16234, 21930, 13226, 65450, 13770, 63946] 4 = some [1, 4, 15] := by decide +kernel
theorem fp20 : firstB 9 [3, 67, 19, 83, 211, 91, 219, 7, 71, 23, 87, 215, 55, 119, 247, 503, 95, 223, 127, 255, 21, 85, 213, 53, 117, 245, 501, 93, 221, 125, 253, 509, 237, 493, 92, 220, 124, 252, 508, 236, 492] 4 = some [1, 3, 8] := by decide +kernel
theorem ns20 : M_need_square [encM pr20.1] = some .none := by kernel_rfl
theorem ct20 : isN (M_count_told [.int 4, factsOf pr20.1 [1, 4, 15]]) 1 = true := by decide +kernel
theorem hp20 : M_heights_of [encM pr20.1] = some (encM pr20.2) := by kernel_rfl
theorem hl20 : M_w_heights [encM pr20.1] = some (encM pr20.2) := by kernel_rfl
theorem me20 : pr20 ∈ ps4 := by decide +kernel
theorem rt20 (T : Hts) : M_w_right [.int 4, .list (sq4.map encM), encM pr20.1] = some (.bool true) :=
  Sq4.right (p := pr20) (lc := [1, 4, 15]) (lp := [1, 3, 8]) (K := 4) (L := 4) ⟨me20, rfl, ns20, by decide, by decide, by rw [first_fast, mc20]; exact fc20, by rw [first_fast, mp20]; exact fp20⟩ T (isN_eq ct20)
def pr21 : Mat × Mat := ([[0, 1, 0, 0], [0, 0, 0, 1], [0, 0, 1, 0], [1, 0, 0, 0]], [[0, 1, 2, 3, 4], [1, 2, 1, 2, 3], [2, 3, 2, 3, 2], [3, 4, 3, 2, 1], [4, 3, 2, 1, 0]])
theorem mc21 : ((othersOf pr21.1).map Prod.fst).map (maskI sp0 pr21.1) = [63797, 51765, 65365, 52309, 43605, 53093, 43365, 63993, 51961, 65433, 52377, 43673, 62297, 49241, 41561, 27225, 53161, 43433, 50025, 41321, 26985, 52479, 43775, 62271, 49215, 41535, 27199, 53199, 43471, 49935, 41231, 26895, 41839, 28527, 53244, 43516, 49980, 41276, 26940, 41820, 28508] := by decide +kernel
theorem mp21 : ((othersOf pr21.1).map Prod.snd).map (maskI sp1 pr21.2) = [489, 425, 505, 441, 313, 433, 305, 493, 429, 509, 445, 317, 477, 413, 285, 29, 437, 309, 405, 277, 21, 447, 319, 479, 415, 287, 31, 439, 311, 407, 279, 23, 263, 7, 438, 310, 406, 278, 22, 262, 6] := by decide +kernel
theorem fc21 : firstB 16 [63797, 51765, 65365, 52309, 43605, 53093, 43365, 63993, 51961, 65433, 52377, 43673, 62297, 49241, 41561, 27225, 53161, 43433, 50025, 41321, 26985, 52479, 43775, 62271, 49215, 41535, 27199, 53199, 43471, 49935, 41231, 26895, 41839, 28527, 53244, 43516, 49980, 41276, 26940, 41820, 28508] 4 = some [1, 6, 12] := by decide +kernel
theorem fp21 : firstB 9 [489, 425, 505, 441, 313, 433, 305, 493, 429, 509, 445, 317, 477, 413, 285, 29, 437, 309, 405, 277, 21, 447, 319, 479, 415, 287, 31, 439, 311, 407, 279, 23, 263, 7, 438, 310, 406, 278, 22, 262, 6] 4 = some [1, 5, 6] := by decide +kernel
theorem ns21 : M_need_square [encM pr21.1] = some .none := by kernel_rfl
theorem ct21 : isN (M_count_told [.int 4, factsOf pr21.1 [1, 6, 12]]) 1 = true := by decide +kernel
theorem hp21 : M_heights_of [encM pr21.1] = some (encM pr21.2) := by kernel_rfl
theorem hl21 : M_w_heights [encM pr21.1] = some (encM pr21.2) := by kernel_rfl
theorem me21 : pr21 ∈ ps4 := by decide +kernel
theorem rt21 (T : Hts) : M_w_right [.int 4, .list (sq4.map encM), encM pr21.1] = some (.bool true) :=
  Sq4.right (p := pr21) (lc := [1, 6, 12]) (lp := [1, 5, 6]) (K := 4) (L := 4) ⟨me21, rfl, ns21, by decide, by decide, by rw [first_fast, mc21]; exact fc21, by rw [first_fast, mp21]; exact fp21⟩ T (isN_eq ct21)
end SQ
end
section
set_option Elab.async false
set_option linter.all false
set_option maxRecDepth 100000
set_option maxHeartbeats 4000000
namespace SQ
open PySem PySem.Spec PyProof.Rows L2
def pr22 : Mat × Mat := ([[0, 1, 0, 0], [0, 0, 0, 1], [1, -1, 1, 0], [0, 1, 0, 0]], [[0, 1, 2, 3, 4], [1, 2, 1, 2, 3], [2, 3, 2, 3, 2], [3, 2, 3, 2, 1], [4, 3, 2, 1, 0]])
theorem mc22 : ((othersOf pr22.1).map Prod.fst).map (maskI sp0 pr22.1) = [51253, 63797, 52309, 65365, 39253, 64613, 39013, 51449, 63993, 52377, 65433, 39321, 49241, 62297, 37209, 22873, 64681, 39081, 61545, 36969, 22633, 52479, 39423, 49215, 62271, 37183, 22847, 64719, 39119, 61455, 36879, 22543, 36975, 23663, 64764, 39164, 61500, 36924, 22588, 36956, 23644] := by decide +kernel
theorem mp22 : ((othersOf pr22.1).map Prod.snd).map (maskI sp1 pr22.2) = [425, 489, 441, 505, 377, 497, 369, 429, 493, 445, 509, 381, 413, 477, 349, 93, 501, 373, 469, 341, 85, 447, 383, 415, 479, 351, 95, 503, 375, 471, 343, 87, 327, 71, 502, 374, 470, 342, 86, 326, 70] := by decide +kernel
theorem fc22 : firstB 16 [51253, 63797, 52309, 65365, 39253, 64613, 39013, 51449, 63993, 52377, 65433, 39321, 49241, 62297, 37209, 22873, 64681, 39081, 61545, 36969, 22633, 52479, 39423, 49215, 62271, 37183, 22847, 64719, 39119, 61455, 36879, 22543, 36975, 23663, 64764, 39164, 61500, 36924, 22588, 36956, 23644] 4 = some [1, 6, 9] := by decide +kernel
theorem fp22 : firstB 9 [425, 489, 441, 505, 377, 497, 369, 429, 493, 445, 509, 381, 413, 477, 349, 93, 501, 373, 469, 341, 85, 447, 383, 415, 479, 351, 95, 503, 375, 471, 343, 87, 327, 71, 502, 374, 470, 342, 86, 326, 70] 6 = some [1, 3, 5, 6, 7] := by decide +kernel
theorem ns22 : M_need_square [encM pr22.1] = some .none := by kernel_rfl
theorem ct22 : isN (M_count_told [.int 4, factsOf pr22.1 [1, 6, 9]]) 1 = true := by decide +kernel
theorem hp22 : M_heights_of [encM pr22.1] = some (encM pr22.2) := by kernel_rfl
theorem hl22 : M_w_heights [encM pr22.1] = some (encM pr22.2) := by kernel_rfl
theorem me22 : pr22 ∈ ps4 := by decide +kernel
theorem rt22 (T : Hts) : M_w_right [.int 4, .list (sq4.map encM), encM pr22.1] = some (.bool true) :=
  Sq4.right (p := pr22) (lc := [1, 6, 9]) (lp := [1, 3, 5, 6, 7]) (K := 4) (L := 6) ⟨me22, rfl, ns22, by decide, by decide, by rw [first_fast, mc22]; exact fc22, by rw [first_fast, mp22]; exact fp22⟩ T (isN_eq ct22)
def pr23 : Mat × Mat := ([[0, 1, 0, 0], [0, 0, 0, 1], [1, 0, 0, 0], [0, 0, 1, 0]], [[0, 1, 2, 3, 4], [1, 2, 1, 2, 3], [2, 3, 2, 3, 2], [3, 2, 1, 2, 1], [4, 3, 2, 1, 0]])
theorem mc23 : ((othersOf pr23.1).map Prod.fst).map (maskI sp0 pr23.1) = [44085, 40757, 43605, 39253, 65365, 39525, 64613, 44281, 40953, 43673, 39321, 65433, 42585, 38233, 62297, 16217, 39593, 64681, 38505, 61545, 15465, 43775, 39423, 42559, 38207, 62271, 16191, 39631, 64719, 38415, 61455, 15375, 63087, 14959, 39676, 64764, 38460, 61500, 15420, 63068, 14940] := by decide +kernel
theorem mp23 : ((othersOf pr23.1).map Prod.snd).map (maskI sp1 pr23.2) = [297, 361, 313, 377, 505, 369, 497, 301, 365, 317, 381, 509, 285, 349, 477, 221, 373, 501, 341, 469, 213, 319, 383, 287, 351, 479, 223, 375, 503, 343, 471, 215, 455, 199, 374, 502, 342, 470, 214, 454, 198] := by decide +kernel
theorem fc23 : firstB 16 [44085, 40757, 43605, 39253, 65365, 39525, 64613, 44281, 40953, 43673, 39321, 65433, 42585, 38233, 62297, 16217, 39593, 64681, 38505, 61545, 15465, 43775, 39423, 42559, 38207, 62271, 16191, 39631, 64719, 38415, 61455, 15375, 63087, 14959, 39676, 64764, 38460, 61500, 15420, 63068, 14940] 5 = some [1, 4, 6, 10] := by decide +kernel
theorem fp23 : firstB 9 [297, 361, 313, 377, 505, 369, 497, 301, 365, 317, 381, 509, 285, 349, 477, 221, 373, 501, 341, 469, 213, 319, 383, 287, 351, 479, 223, 375, 503, 343, 471, 215, 455, 199, 374, 502, 342, 470, 214, 454, 198] 5 = some [1, 3, 5, 7] := by decide +kernel
theorem ns23 : M_need_square [encM pr23.1] = some .none := by kernel_rfl
theorem ct23 : isN (M_count_told [.int 4, factsOf pr23.1 [1, 4, 6, 10]]) 1 = true := by decide +kernel
theorem hp23 : M_heights_of [encM pr23.1] = some (encM pr23.2) := by kernel_rfl
theorem hl23 : M_w_heights [encM pr23.1] = some (encM pr23.2) := by kernel_rfl
theorem me23 : pr23 ∈ ps4 := by decide +kernel
theorem rt23 (T : Hts) : M_w_right [.int 4, .list (sq4.map encM), encM pr23.1] = some (.bool true) :=
  Sq4.right (p := pr23) (lc := [1, 4, 6, 10]) (lp := [1, 3, 5, 7]) (K := 5) (L := 5) ⟨me23, rfl, ns23, by decide, by decide, by rw [first_fast, mc23]; exact fc23, by rw [first_fast, mp23]; exact fp23⟩ T (isN_eq ct23)
def pr24 : Mat × Mat := ([[0, 1, 0, 0], [0, 0, 1, 0], [0, 0, 0, 1], [1, 0, 0, 0]], [[0, 1, 2, 3, 4], [1, 2, 1, 2, 3], [2, 3, 2, 1, 2], [3, 4, 3, 2, 1], [4, 3, 2, 1, 0]])
theorem mc24 : ((othersOf pr24.1).map Prod.fst).map (maskI sp0 pr24.1) = [62965, 50933, 62357, 49301, 42645, 50085, 42405, 62777, 50745, 62233, 49177, 42521, 65433, 52377, 43673, 26265, 49961, 42281, 53161, 43433, 26025, 62271, 49215, 42559, 52479, 43775, 26367, 49935, 42255, 53199, 43471, 26063, 44975, 25519, 49980, 42300, 53244, 43516, 26108, 44956, 25500] := by decide +kernel
theorem mp24 : ((othersOf pr24.1).map Prod.snd).map (maskI sp1 pr24.2) = [457, 393, 473, 409, 281, 401, 273, 461, 397, 477, 413, 285, 509, 445, 317, 61, 405, 277, 437, 309, 53, 479, 415, 287, 447, 319, 63, 407, 279, 439, 311, 55, 295, 39, 406, 278, 438, 310, 54, 294, 38] := by decide +kernel
theorem fc24 : firstB 16 [62965, 50933, 62357, 49301, 42645, 50085, 42405, 62777, 50745, 62233, 49177, 42521, 65433, 52377, 43673, 26265, 49961, 42281, 53161, 43433, 26025, 62271, 49215, 42559, 52479, 43775, 26367, 49935, 42255, 53199, 43471, 26063, 44975, 25519, 49980, 42300, 53244, 43516, 26108, 44956, 25500] 4 = some [1, 6, 12] := by decide +kernel
theorem fp24 : firstB 9 [457, 393, 473, 409, 281, 401, 273, 461, 397, 477, 413, 285, 509, 445, 317, 61, 405, 277, 437, 309, 53, 479, 415, 287, 447, 319, 63, 407, 279, 439, 311, 55, 295, 39, 406, 278, 438, 310, 54, 294, 38] 4 = some [1, 5, 6] := by decide +kernel
theorem ns24 : M_need_square [encM pr24.1] = some .none := by kernel_rfl
theorem ct24 : isN (M_count_told [.int 4, factsOf pr24.1 [1, 6, 12]]) 1 = true := by decide +kernel
theorem hp24 : M_heights_of [encM pr24.1] = some (encM pr24.2) := by kernel_rfl
theorem hl24 : M_w_heights [encM pr24.1] = some (encM pr24.2) := by kernel_rfl
theorem me24 : pr24 ∈ ps4 := by decide +kernel
theorem rt24 (T : Hts) : M_w_right [.int 4, .list (sq4.map encM), encM pr24.1] = some (.bool true) :=
  Sq4.right (p := pr24) (lc := [1, 6, 12]) (lp := [1, 5, 6]) (K := 4) (L := 4) ⟨me24, rfl, ns24, by decide, by decide, by rw [first_fast, mc24]; exact fc24, by rw [first_fast, mp24]; exact fp24⟩ T (isN_eq ct24)
def pr25 : Mat × Mat := ([[0, 1, 0, 0], [0, 0, 1, 0], [1, -1, 0, 1], [0, 1, 0, 0]], [[0, 1, 2, 3, 4], [1, 2, 1, 2, 3], [2, 3, 2, 1, 2], [3, 2, 3, 2, 1], [4, 3, 2, 1, 0]])
theorem mc25 : ((othersOf pr25.1).map Prod.fst).map (maskI sp0 pr25.1) = [50421, 62965, 49301, 62357, 38293, 61605, 38053, 50233, 62777, 49177, 62233, 38169, 52377, 65433, 39321, 21913, 61481, 37929, 64681, 39081, 21673, 49215, 62271, 38207, 52479, 39423, 22015, 61455, 37903, 64719, 39119, 21711, 40111, 20655, 61500, 37948, 64764, 39164, 21756, 40092, 20636] := by decide +kernel
theorem mp25 : ((othersOf pr25.1).map Prod.snd).map (maskI sp1 pr25.2) = [393, 457, 409, 473, 345, 465, 337, 397, 461, 413, 477, 349, 445, 509, 381, 125, 469, 341, 501, 373, 117, 415, 479, 351, 447, 383, 127, 471, 343, 503, 375, 119, 359, 103, 470, 342, 502, 374, 118, 358, 102] := by decide +kernel
theorem fc25 : firstB 16 [50421, 62965, 49301, 62357, 38293, 61605, 38053, 50233, 62777, 49177, 62233, 38169, 52377, 65433, 39321, 21913, 61481, 37929, 64681, 39081, 21673, 49215, 62271, 38207, 52479, 39423, 22015, 61455, 37903, 64719, 39119, 21711, 40111, 20655, 61500, 37948, 64764, 39164, 21756, 40092, 20636] 3 = some [6, 9] := by decide +kernel
theorem fp25 : firstB 9 [393, 457, 409, 473, 345, 465, 337, 397, 461, 413, 477, 349, 445, 509, 381, 125, 469, 341, 501, 373, 117, 415, 479, 351, 447, 383, 127, 471, 343, 503, 375, 119, 359, 103, 470, 342, 502, 374, 118, 358, 102] 6 = some [1, 3, 5, 6, 7] := by decide +kernel
theorem ns25 : M_need_square [encM pr25.1] = some .none := by kernel_rfl
theorem ct25 : isN (M_count_told [.int 4, factsOf pr25.1 [6, 9]]) 1 = true := by decide +kernel
theorem hp25 : M_heights_of [encM pr25.1] = some (encM pr25.2) := by kernel_rfl
theorem hl25 : M_w_heights [encM pr25.1] = some (encM pr25.2) := by kernel_rfl
theorem me25 : pr25 ∈ ps4 := by decide +kernel
theorem rt25 (T : Hts) : M_w_right [.int 4, .list (sq4.map encM), encM pr25.1] = some (.bool true) :=
  Sq4.right (p := pr25) (lc := [6, 9]) (lp := [1, 3, 5, 6, 7]) (K := 3) (L := 6) ⟨me25, rfl, ns25, by decide, by decide, by rw [first_fast, mc25]; exact fc25, by rw [first_fast, mp25]; exact fp25⟩ T (isN_eq ct25)
def pr26 : Mat × Mat := ([[0, 1, 0, 0], [0, 0, 1, 0], [1, 0, -1, 1], [0, 0, 1, 0]], [[0, 1, 2, 3, 4], [1, 2, 1, 2, 3], [2, 3, 2, 1, 2], [3, 2, 1, 2, 1], [4, 3, 2, 1, 0]])
theorem mc26 : ((othersOf pr26.1).map Prod.fst).map (maskI sp0 pr26.1) = [41205, 37877, 41621, 37269, 62357, 37541, 61605, 41017, 37689, 41497, 37145, 62233, 43673, 39321, 65433, 13209, 37417, 61481, 39593, 64681, 12457, 41535, 37183, 62271, 43775, 39423, 13311, 37391, 61455, 39631, 64719, 12495, 64175, 12975, 37436, 61500, 39676, 64764, 12540, 64156, 12956] := by decide +kernel
theorem mp26 : ((othersOf pr26.1).map Prod.snd).map (maskI sp1 pr26.2) = [265, 329, 281, 345, 473, 337, 465, 269, 333, 285, 349, 477, 317, 381, 509, 253, 341, 469, 373, 501, 245, 287, 351, 479, 319, 383, 255, 343, 471, 375, 503, 247, 487, 231, 342, 470, 374, 502, 246, 486, 230] := by decide +kernel
theorem fc26 : firstB 16 [41205, 37877, 41621, 37269, 62357, 37541, 61605, 41017, 37689, 41497, 37145, 62233, 43673, 39321, 65433, 13209, 37417, 61481, 39593, 64681, 12457, 41535, 37183, 62271, 43775, 39423, 13311, 37391, 61455, 39631, 64719, 12495, 64175, 12975, 37436, 61500, 39676, 64764, 12540, 64156, 12956] 4 = some [1, 4, 10] := by decide +kernel
theorem fp26 : firstB 9 [265, 329, 281, 345, 473, 337, 465, 269, 333, 285, 349, 477, 317, 381, 509, 253, 341, 469, 373, 501, 245, 287, 351, 479, 319, 383, 255, 343, 471, 375, 503, 247, 487, 231, 342, 470, 374, 502, 246, 486, 230] 6 = some [1, 3, 5, 7, 8] := by decide +kernel
theorem ns26 : M_need_square [encM pr26.1] = some .none := by kernel_rfl
theorem ct26 : isN (M_count_told [.int 4, factsOf pr26.1 [1, 4, 10]]) 1 = true := by decide +kernel
theorem hp26 : M_heights_of [encM pr26.1] = some (encM pr26.2) := by kernel_rfl
theorem hl26 : M_w_heights [encM pr26.1] = some (encM pr26.2) := by kernel_rfl
theorem me26 : pr26 ∈ ps4 := by decide +kernel
theorem rt26 (T : Hts) : M_w_right [.int 4, .list (sq4.map encM), encM pr26.1] = some (.bool true) :=
  Sq4.right (p := pr26) (lc := [1, 4, 10]) (lp := [1, 3, 5, 7, 8]) (K := 4) (L := 6) ⟨me26, rfl, ns26, by decide, by decide, by rw [first_fast, mc26]; exact fc26, by rw [first_fast, mp26]; exact fp26⟩ T (isN_eq ct26)
def pr27 : Mat × Mat := ([[0, 1, 0, 0], [0, 0, 1, 0], [1, 0, 0, 0], [0, 0, 0, 1]], [[0, 1, 2, 3, 4], [1, 2, 1, 2, 3], [2, 3, 2, 1, 2], [3, 2, 1, 0, 1], [4, 3, 2, 1, 0]])
theorem mc27 : ((othersOf pr27.1).map Prod.fst).map (maskI sp0 pr27.1) = [27893, 24565, 27285, 22933, 16277, 23205, 15525, 27705, 24377, 27161, 22809, 16153, 26265, 21913, 13209, 65433, 23081, 15401, 22185, 12457, 64681, 27199, 22847, 16191, 26367, 22015, 13311, 23055, 15375, 22223, 12495, 64719, 13999, 64175, 23100, 15420, 22268, 12540, 64764, 13980, 64156] := by decide +kernel
theorem mp27 : ((othersOf pr27.1).map Prod.snd).map (maskI sp1 pr27.2) = [9, 73, 25, 89, 217, 81, 209, 13, 77, 29, 93, 221, 61, 125, 253, 509, 85, 213, 117, 245, 501, 31, 95, 223, 63, 127, 255, 87, 215, 119, 247, 503, 231, 487, 86, 214, 118, 246, 502, 230, 486] := by decide +kernel
theorem fc27 : firstB 16 [27893, 24565, 27285, 22933, 16277, 23205, 15525, 27705, 24377, 27161, 22809, 16153, 26265, 21913, 13209, 65433, 23081, 15401, 22185, 12457, 64681, 27199, 22847, 16191, 26367, 22015, 13311, 23055, 15375, 22223, 12495, 64719, 13999, 64175, 23100, 15420, 22268, 12540, 64764, 13980, 64156] 4 = some [1, 4, 15] := by decide +kernel
theorem fp27 : firstB 9 [9, 73, 25, 89, 217, 81, 209, 13, 77, 29, 93, 221, 61, 125, 253, 509, 85, 213, 117, 245, 501, 31, 95, 223, 63, 127, 255, 87, 215, 119, 247, 503, 231, 487, 86, 214, 118, 246, 502, 230, 486] 4 = some [1, 3, 8] := by decide +kernel
theorem ns27 : M_need_square [encM pr27.1] = some .none := by kernel_rfl
theorem ct27 : isN (M_count_told [.int 4, factsOf pr27.1 [1, 4, 15]]) 1 = true := by decide +kernel
theorem hp27 : M_heights_of [encM pr27.1] = some (encM pr27.2) := by kernel_rfl
theorem hl27 : M_w_heights [encM pr27.1] = some (encM pr27.2) := by kernel_rfl
theorem me27 : pr27 ∈ ps4 := by decide +kernel
theorem rt27 (T : Hts) : M_w_right [.int 4, .list (sq4.map encM), encM pr27.1] = some (.bool true) :=
  Sq4.right (p := pr27) (lc := [1, 4, 15]) (lp := [1, 3, 8]) (K := 4) (L := 4) ⟨me27, rfl, ns27, by decide, by decide, by rw [first_fast, mc27]; exact fc27, by rw [first_fast, mp27]; exact fp27⟩ T (isN_eq ct27)
def pr28 : Mat × Mat := ([[0, 1, 0, 0], [1, -1, 0, 1], [0, 0, 1, 0], [0, 1, 0, 0]], [[0, 1, 2, 3, 4], [1, 2, 1, 2, 3], [2, 1, 2, 3, 2], [3, 2, 3, 2, 1], [4, 3, 2, 1, 0]])
theorem mc28 : ((othersOf pr28.1).map Prod.fst).map (maskI sp0 pr28.1) = [51461, 64005, 53061, 64581, 39493, 65365, 39253, 51657, 64201, 53129, 64649, 39561, 49993, 61513, 37449, 23113, 65433, 39321, 62297, 37209, 22873, 53199, 64719, 39631, 49935, 61455, 37391, 23055, 39423, 62271, 37183, 22847, 37727, 24415, 65484, 39372, 62220, 37132, 22796, 37708, 24396] := by decide +kernel
theorem mp28 : ((othersOf pr28.1).map Prod.snd).map (maskI sp1 pr28.2) = [417, 481, 433, 497, 369, 505, 377, 421, 485, 437, 501, 373, 405, 469, 341, 85, 509, 381, 477, 349, 93, 439, 503, 375, 407, 471, 343, 87, 383, 479, 351, 95, 335, 79, 510, 382, 478, 350, 94, 334, 78] := by decide +kernel
theorem fc28 : firstB 16 [51461, 64005, 53061, 64581, 39493, 65365, 39253, 51657, 64201, 53129, 64649, 39561, 49993, 61513, 37449, 23113, 65433, 39321, 62297, 37209, 22873, 53199, 64719, 39631, 49935, 61455, 37391, 23055, 39423, 62271, 37183, 22847, 37727, 24415, 65484, 39372, 62220, 37132, 22796, 37708, 24396] 3 = some [5, 10] := by decide +kernel
theorem fp28 : firstB 9 [417, 481, 433, 497, 369, 505, 377, 421, 485, 437, 501, 373, 405, 469, 341, 85, 509, 381, 477, 349, 93, 439, 503, 375, 407, 471, 343, 87, 383, 479, 351, 95, 335, 79, 510, 382, 478, 350, 94, 334, 78] 6 = some [0, 1, 3, 5, 7] := by decide +kernel
theorem ns28 : M_need_square [encM pr28.1] = some .none := by kernel_rfl
theorem ct28 : isN (M_count_told [.int 4, factsOf pr28.1 [5, 10]]) 1 = true := by decide +kernel
theorem hp28 : M_heights_of [encM pr28.1] = some (encM pr28.2) := by kernel_rfl
theorem hl28 : M_w_heights [encM pr28.1] = some (encM pr28.2) := by kernel_rfl
theorem me28 : pr28 ∈ ps4 := by decide +kernel
theorem rt28 (T : Hts) : M_w_right [.int 4, .list (sq4.map encM), encM pr28.1] = some (.bool true) :=
  Sq4.right (p := pr28) (lc := [5, 10]) (lp := [0, 1, 3, 5, 7]) (K := 3) (L := 6) ⟨me28, rfl, ns28, by decide, by decide, by rw [first_fast, mc28]; exact fc28, by rw [first_fast, mp28]; exact fp28⟩ T (isN_eq ct28)
def pr29 : Mat × Mat := ([[0, 1, 0, 0], [1, -1, 0, 1], [0, 1, 0, 0], [0, 0, 1, 0]], [[0, 1, 2, 3, 4], [1, 2, 1, 2, 3], [2, 1, 2, 3, 2], [3, 2, 1, 2, 1], [4, 3, 2, 1, 0]])
theorem mc29 : ((othersOf pr29.1).map Prod.fst).map (maskI sp0 pr29.1) = [44805, 39941, 43333, 38981, 64581, 39253, 65365, 45001, 40137, 43401, 39049, 64649, 42313, 37961, 61513, 15433, 39321, 65433, 38233, 62297, 16217, 43471, 39119, 64719, 42255, 37903, 61455, 15375, 39423, 38207, 62271, 16191, 62815, 14687, 39372, 65484, 38156, 62220, 16140, 62796, 14668] := by decide +kernel
theorem mp29 : ((othersOf pr29.1).map Prod.snd).map (maskI sp1 pr29.2) = [289, 353, 305, 369, 497, 377, 505, 293, 357, 309, 373, 501, 277, 341, 469, 213, 381, 509, 349, 477, 221, 311, 375, 503, 279, 343, 471, 215, 383, 351, 479, 223, 463, 207, 382, 510, 350, 478, 222, 462, 206] := by decide +kernel
theorem fc29 : firstB 16 [44805, 39941, 43333, 38981, 64581, 39253, 65365, 45001, 40137, 43401, 39049, 64649, 42313, 37961, 61513, 15433, 39321, 65433, 38233, 62297, 16217, 43471, 39119, 64719, 42255, 37903, 61455, 15375, 39423, 38207, 62271, 16191, 62815, 14687, 39372, 65484, 38156, 62220, 16140, 62796, 14668] 4 = some [1, 6, 9] := by decide +kernel
theorem fp29 : firstB 9 [289, 353, 305, 369, 497, 377, 505, 293, 357, 309, 373, 501, 277, 341, 469, 213, 381, 509, 349, 477, 221, 311, 375, 503, 279, 343, 471, 215, 383, 351, 479, 223, 463, 207, 382, 510, 350, 478, 222, 462, 206] 6 = some [0, 1, 3, 5, 7] := by decide +kernel
theorem ns29 : M_need_square [encM pr29.1] = some .none := by kernel_rfl
theorem ct29 : isN (M_count_told [.int 4, factsOf pr29.1 [1, 6, 9]]) 1 = true := by decide +kernel
theorem hp29 : M_heights_of [encM pr29.1] = some (encM pr29.2) := by kernel_rfl
theorem hl29 : M_w_heights [encM pr29.1] = some (encM pr29.2) := by kernel_rfl
theorem me29 : pr29 ∈ ps4 := by decide +kernel
theorem rt29 (T : Hts) : M_w_right [.int 4, .list (sq4.map encM), encM pr29.1] = some (.bool true) :=
  Sq4.right (p := pr29) (lc := [1, 6, 9]) (lp := [0, 1, 3, 5, 7]) (K := 4) (L := 6) ⟨me29, rfl, ns29, by decide, by decide, by rw [first_fast, mc29]; exact fc29, by rw [first_fast, mp29]; exact fp29⟩ T (isN_eq ct29)
def pr30 : Mat × Mat := ([[0, 1, 0, 0], [1, -1, 1, 0], [0, 0, 0, 1], [0, 1, 0, 0]], [[0, 1, 2, 3, 4], [1, 2, 1, 2, 3], [2, 1, 2, 1, 2], [3, 2, 3, 2, 1], [4, 3, 2, 1, 0]])
theorem mc30 : ((othersOf pr30.1).map Prod.fst).map (maskI sp0 pr30.1) = [50629, 63173, 50053, 61573, 38533, 62357, 38293, 50441, 62985, 49929, 61449, 38409, 53129, 64649, 39561, 22153, 62233, 38169, 65433, 39321, 21913, 49935, 61455, 38415, 53199, 64719, 39631, 22223, 62271, 38207, 39423, 22015, 40863, 21407, 62220, 38156, 65484, 39372, 21964, 40844, 21388] := by decide +kernel
theorem mp30 : ((othersOf pr30.1).map Prod.snd).map (maskI sp1 pr30.2) = [385, 449, 401, 465, 337, 473, 345, 389, 453, 405, 469, 341, 437, 501, 373, 117, 477, 349, 509, 381, 125, 407, 471, 343, 439, 503, 375, 119, 479, 351, 383, 127, 367, 111, 478, 350, 510, 382, 126, 366, 110] := by decide +kernel
theorem fc30 : firstB 16 [50629, 63173, 50053, 61573, 38533, 62357, 38293, 50441, 62985, 49929, 61449, 38409, 53129, 64649, 39561, 22153, 62233, 38169, 65433, 39321, 21913, 49935, 61455, 38415, 53199, 64719, 39631, 22223, 62271, 38207, 39423, 22015, 40863, 21407, 62220, 38156, 65484, 39372, 21964, 40844, 21388] 4 = some [4, 6, 9] := by decide +kernel
theorem fp30 : firstB 9 [385, 449, 401, 465, 337, 473, 345, 389, 453, 405, 469, 341, 437, 501, 373, 117, 477, 349, 509, 381, 125, 407, 471, 343, 439, 503, 375, 119, 479, 351, 383, 127, 367, 111, 478, 350, 510, 382, 126, 366, 110] 6 = some [0, 1, 3, 5, 7] := by decide +kernel
theorem ns30 : M_need_square [encM pr30.1] = some .none := by kernel_rfl
theorem ct30 : isN (M_count_told [.int 4, factsOf pr30.1 [4, 6, 9]]) 1 = true := by decide +kernel
theorem hp30 : M_heights_of [encM pr30.1] = some (encM pr30.2) := by kernel_rfl
theorem hl30 : M_w_heights [encM pr30.1] = some (encM pr30.2) := by kernel_rfl
theorem me30 : pr30 ∈ ps4 := by decide +kernel
theorem rt30 (T : Hts) : M_w_right [.int 4, .list (sq4.map encM), encM pr30.1] = some (.bool true) :=
  Sq4.right (p := pr30) (lc := [4, 6, 9]) (lp := [0, 1, 3, 5, 7]) (K := 4) (L := 6) ⟨me30, rfl, ns30, by decide, by decide, by rw [first_fast, mc30]; exact fc30, by rw [first_fast, mp30]; exact fp30⟩ T (isN_eq ct30)
def pr31 : Mat × Mat := ([[0, 1, 0, 0], [1, -1, 1, 0], [0, 1, -1, 1], [0, 0, 1, 0]], [[0, 1, 2, 3, 4], [1, 2, 1, 2, 3], [2, 1, 2, 1, 2], [3, 2, 1, 2, 1], [4, 3, 2, 1, 0]])
theorem mc31 : ((othersOf pr31.1).map Prod.fst).map (maskI sp0 pr31.1) = [41925, 37061, 41349, 36997, 61573, 37269, 62357, 41737, 36873, 41225, 36873, 61449, 43401, 39049, 64649, 12425, 37145, 62233, 39321, 65433, 13209, 41231, 36879, 61455, 43471, 39119, 64719, 12495, 37183, 62271, 39423, 13311, 63903, 12703, 37132, 62220, 39372, 65484, 13260, 63884, 12684] := by decide +kernel
theorem mp31 : ((othersOf pr31.1).map Prod.snd).map (maskI sp1 pr31.2) = [257, 321, 273, 337, 465, 345, 473, 261, 325, 277, 341, 469, 309, 373, 501, 245, 349, 477, 381, 509, 253, 279, 343, 471, 311, 375, 503, 247, 351, 479, 383, 255, 495, 239, 350, 478, 382, 510, 254, 494, 238] := by decide +kernel
theorem fc31 : firstB 16 [41925, 37061, 41349, 36997, 61573, 37269, 62357, 41737, 36873, 41225, 36873, 61449, 43401, 39049, 64649, 12425, 37145, 62233, 39321, 65433, 13209, 41231, 36879, 61455, 43471, 39119, 64719, 12495, 37183, 62271, 39423, 13311, 63903, 12703, 37132, 62220, 39372, 65484, 13260, 63884, 12684] 3 = some [5, 10] := by decide +kernel
theorem fp31 : firstB 9 [257, 321, 273, 337, 465, 345, 473, 261, 325, 277, 341, 469, 309, 373, 501, 245, 349, 477, 381, 509, 253, 279, 343, 471, 311, 375, 503, 247, 351, 479, 383, 255, 495, 239, 350, 478, 382, 510, 254, 494, 238] 8 = some [0, 1, 3, 4, 5, 7, 8] := by decide +kernel
theorem ns31 : M_need_square [encM pr31.1] = some .none := by kernel_rfl
theorem ct31 : isN (M_count_told [.int 4, factsOf pr31.1 [5, 10]]) 1 = true := by decide +kernel
theorem hp31 : M_heights_of [encM pr31.1] = some (encM pr31.2) := by kernel_rfl
theorem hl31 : M_w_heights [encM pr31.1] = some (encM pr31.2) := by kernel_rfl
theorem me31 : pr31 ∈ ps4 := by decide +kernel
theorem rt31 (T : Hts) : M_w_right [.int 4, .list (sq4.map encM), encM pr31.1] = some (.bool true) :=
  Sq4.right (p := pr31) (lc := [5, 10]) (lp := [0, 1, 3, 4, 5, 7, 8]) (K := 3) (L := 8) ⟨me31, rfl, ns31, by decide, by decide, by rw [first_fast, mc31]; exact fc31, by rw [first_fast, mp31]; exact fp31⟩ T (isN_eq ct31)
def pr32 : Mat × Mat := ([[0, 1, 0, 0], [1, -1, 1, 0], [0, 1, 0, 0], [0, 0, 0, 1]], [[0, 1, 2, 3, 4], [1, 2, 1, 2, 3], [2, 1, 2, 1, 2], [3, 2, 1, 0, 1], [4, 3, 2, 1, 0]])
theorem mc32 : ((othersOf pr32.1).map Prod.fst).map (maskI sp0 pr32.1) = [28613, 23749, 27013, 22661, 15493, 22933, 16277, 28425, 23561, 26889, 22537, 15369, 25993, 21641, 12425, 64649, 22809, 16153, 21913, 13209, 65433, 26895, 22543, 15375, 26063, 21711, 12495, 64719, 22847, 16191, 22015, 13311, 13727, 63903, 22796, 16140, 21964, 13260, 65484, 13708, 63884] := by decide +kernel
theorem mp32 : ((othersOf pr32.1).map Prod.snd).map (maskI sp1 pr32.2) = [1, 65, 17, 81, 209, 89, 217, 5, 69, 21, 85, 213, 53, 117, 245, 501, 93, 221, 125, 253, 509, 23, 87, 215, 55, 119, 247, 503, 95, 223, 127, 255, 239, 495, 94, 222, 126, 254, 510, 238, 494] := by decide +kernel
theorem fc32 : firstB 16 [28613, 23749, 27013, 22661, 15493, 22933, 16277, 28425, 23561, 26889, 22537, 15369, 25993, 21641, 12425, 64649, 22809, 16153, 21913, 13209, 65433, 26895, 22543, 15375, 26063, 21711, 12495, 64719, 22847, 16191, 22015, 13311, 13727, 63903, 22796, 16140, 21964, 13260, 65484, 13708, 63884] 3 = some [5, 15] := by decide +kernel
theorem fp32 : firstB 9 [1, 65, 17, 81, 209, 89, 217, 5, 69, 21, 85, 213, 53, 117, 245, 501, 93, 221, 125, 253, 509, 23, 87, 215, 55, 119, 247, 503, 95, 223, 127, 255, 239, 495, 94, 222, 126, 254, 510, 238, 494] 6 = some [0, 1, 3, 4, 8] := by decide +kernel
theorem ns32 : M_need_square [encM pr32.1] = some .none := by kernel_rfl
theorem ct32 : isN (M_count_told [.int 4, factsOf pr32.1 [5, 15]]) 1 = true := by decide +kernel
theorem hp32 : M_heights_of [encM pr32.1] = some (encM pr32.2) := by kernel_rfl
theorem hl32 : M_w_heights [encM pr32.1] = some (encM pr32.2) := by kernel_rfl
theorem me32 : pr32 ∈ ps4 := by decide +kernel
theorem rt32 (T : Hts) : M_w_right [.int 4, .list (sq4.map encM), encM pr32.1] = some (.bool true) :=
  Sq4.right (p := pr32) (lc := [5, 15]) (lp := [0, 1, 3, 4, 8]) (K := 3) (L := 6) ⟨me32, rfl, ns32, by decide, by decide, by rw [first_fast, mc32]; exact fc32, by rw [first_fast, mp32]; exact fp32⟩ T (isN_eq ct32)
end SQ
end
section
set_option Elab.async false
set_option linter.all false
set_option maxRecDepth 100000
set_option maxHeartbeats 4000000
namespace SQ
open PySem PySem.Spec PyProof.Rows L2
def pr33 : Mat × Mat := ([[0, 1, 0, 0], [1, 0, 0, 0], [0, 0, 0, 1], [0, 0, 1, 0]], [[0, 1, 2, 3, 4], [1, 2, 1, 2, 3], [2, 1, 0, 1, 2], [3, 2, 1, 2, 1], [4, 3, 2, 1, 0]])
theorem mc33 : ((othersOf pr33.1).map Prod.fst).map (maskI sp0 pr33.1) = [42405, 38565, 41925, 37061, 63173, 37877, 62965, 42345, 38505, 41737, 36873, 62985, 45001, 40137, 64201, 14025, 37689, 62777, 40953, 63993, 13817, 41839, 36975, 63087, 44975, 40111, 64175, 13999, 37727, 62815, 40863, 63903, 13727, 13311, 37740, 62828, 40876, 63916, 13740, 65484, 13260] := by decide +kernel
theorem mp33 : ((othersOf pr33.1).map Prod.snd).map (maskI sp1 pr33.2) = [257, 321, 257, 321, 449, 329, 457, 261, 325, 261, 325, 453, 293, 357, 485, 229, 333, 461, 365, 493, 237, 263, 327, 455, 295, 359, 487, 231, 335, 463, 367, 495, 239, 255, 334, 462, 366, 494, 238, 510, 254] := by decide +kernel
theorem fc33 : firstB 16 [42405, 38565, 41925, 37061, 63173, 37877, 62965, 42345, 38505, 41737, 36873, 62985, 45001, 40137, 64201, 14025, 37689, 62777, 40953, 63993, 13817, 41839, 36975, 63087, 44975, 40111, 64175, 13999, 37727, 62815, 40863, 63903, 13727, 13311, 37740, 62828, 40876, 63916, 13740, 65484, 13260] 4 = some [1, 6, 11] := by decide +kernel
theorem fp33 : firstB 9 [257, 321, 257, 321, 449, 329, 457, 261, 325, 261, 325, 453, 293, 357, 485, 229, 333, 461, 365, 493, 237, 263, 327, 455, 295, 359, 487, 231, 335, 463, 367, 495, 239, 255, 334, 462, 366, 494, 238, 510, 254] 4 = some [0, 4, 8] := by decide +kernel
theorem ns33 : M_need_square [encM pr33.1] = some .none := by kernel_rfl
theorem ct33 : isN (M_count_told [.int 4, factsOf pr33.1 [1, 6, 11]]) 1 = true := by decide +kernel
theorem hp33 : M_heights_of [encM pr33.1] = some (encM pr33.2) := by kernel_rfl
theorem hl33 : M_w_heights [encM pr33.1] = some (encM pr33.2) := by kernel_rfl
theorem me33 : pr33 ∈ ps4 := by decide +kernel
theorem rt33 (T : Hts) : M_w_right [.int 4, .list (sq4.map encM), encM pr33.1] = some (.bool true) :=
  Sq4.right (p := pr33) (lc := [1, 6, 11]) (lp := [0, 4, 8]) (K := 4) (L := 4) ⟨me33, rfl, ns33, by decide, by decide, by rw [first_fast, mc33]; exact fc33, by rw [first_fast, mp33]; exact fp33⟩ T (isN_eq ct33)
def pr34 : Mat × Mat := ([[0, 1, 0, 0], [1, 0, 0, 0], [0, 0, 1, 0], [0, 0, 0, 1]], [[0, 1, 2, 3, 4], [1, 2, 1, 2, 3], [2, 1, 0, 1, 2], [3, 2, 1, 0, 1], [4, 3, 2, 1, 0]])
theorem mc34 : ((othersOf pr34.1).map Prod.fst).map (maskI sp0 pr34.1) = [27045, 23205, 28613, 23749, 15045, 24565, 14837, 26985, 23145, 28425, 23561, 14857, 25545, 20681, 13001, 64201, 24377, 14649, 21497, 12793, 63993, 28527, 23663, 14959, 25519, 20655, 12975, 64175, 24415, 14687, 21407, 12703, 63903, 13311, 24428, 14700, 21420, 12716, 63916, 13260, 65484] := by decide +kernel
theorem mp34 : ((othersOf pr34.1).map Prod.snd).map (maskI sp1 pr34.2) = [1, 65, 1, 65, 193, 73, 201, 5, 69, 5, 69, 197, 37, 101, 229, 485, 77, 205, 109, 237, 493, 7, 71, 199, 39, 103, 231, 487, 79, 207, 111, 239, 495, 255, 78, 206, 110, 238, 494, 254, 510] := by decide +kernel
theorem fc34 : firstB 16 [27045, 23205, 28613, 23749, 15045, 24565, 14837, 26985, 23145, 28425, 23561, 14857, 25545, 20681, 13001, 64201, 24377, 14649, 21497, 12793, 63993, 28527, 23663, 14959, 25519, 20655, 12975, 64175, 24415, 14687, 21407, 12703, 63903, 13311, 24428, 14700, 21420, 12716, 63916, 13260, 65484] 4 = some [0, 10, 15] := by decide +kernel
theorem fp34 : firstB 9 [1, 65, 1, 65, 193, 73, 201, 5, 69, 5, 69, 197, 37, 101, 229, 485, 77, 205, 109, 237, 493, 7, 71, 199, 39, 103, 231, 487, 79, 207, 111, 239, 495, 255, 78, 206, 110, 238, 494, 254, 510] 4 = some [0, 4, 8] := by decide +kernel
theorem ns34 : M_need_square [encM pr34.1] = some .none := by kernel_rfl
theorem ct34 : isN (M_count_told [.int 4, factsOf pr34.1 [0, 10, 15]]) 1 = true := by decide +kernel
theorem hp34 : M_heights_of [encM pr34.1] = some (encM pr34.2) := by kernel_rfl
theorem hl34 : M_w_heights [encM pr34.1] = some (encM pr34.2) := by kernel_rfl
theorem me34 : pr34 ∈ ps4 := by decide +kernel
theorem rt34 (T : Hts) : M_w_right [.int 4, .list (sq4.map encM), encM pr34.1] = some (.bool true) :=
  Sq4.right (p := pr34) (lc := [0, 10, 15]) (lp := [0, 4, 8]) (K := 4) (L := 4) ⟨me34, rfl, ns34, by decide, by decide, by rw [first_fast, mc34]; exact fc34, by rw [first_fast, mp34]; exact fp34⟩ T (isN_eq ct34)
def pr35 : Mat × Mat := ([[1, 0, 0, 0], [0, 0, 0, 1], [0, 0, 1, 0], [0, 1, 0, 0]], [[0, 1, 2, 3, 4], [1, 0, 1, 2, 3], [2, 1, 2, 3, 2], [3, 2, 3, 2, 1], [4, 3, 2, 1, 0]])
theorem mc35 : ((othersOf pr35.1).map Prod.fst).map (maskI sp0 pr35.1) = [51510, 64054, 53078, 64598, 39510, 65382, 39270, 51706, 64250, 53146, 64666, 39578, 50010, 61530, 37466, 23130, 65450, 39338, 62314, 37226, 22890, 53244, 64764, 39676, 49980, 61500, 37436, 23100, 65484, 39372, 62220, 37132, 22796, 37740, 24428, 39423, 62271, 37183, 22847, 37727, 24415] := by decide +kernel
theorem mp35 : ((othersOf pr35.1).map Prod.snd).map (maskI sp1 pr35.2) = [416, 480, 432, 496, 368, 504, 376, 420, 484, 436, 500, 372, 404, 468, 340, 84, 508, 380, 476, 348, 92, 438, 502, 374, 406, 470, 342, 86, 510, 382, 478, 350, 94, 334, 78, 383, 479, 351, 95, 335, 79] := by decide +kernel
theorem fc35 : firstB 16 [51510, 64054, 53078, 64598, 39510, 65382, 39270, 51706, 64250, 53146, 64666, 39578, 50010, 61530, 37466, 23130, 65450, 39338, 62314, 37226, 22890, 53244, 64764, 39676, 49980, 61500, 37436, 23100, 65484, 39372, 62220, 37132, 22796, 37740, 24428, 39423, 62271, 37183, 22847, 37727, 24415] 4 = some [0, 5, 10] := by decide +kernel
theorem fp35 : firstB 9 [416, 480, 432, 496, 368, 504, 376, 420, 484, 436, 500, 372, 404, 468, 340, 84, 508, 380, 476, 348, 92, 438, 502, 374, 406, 470, 342, 86, 510, 382, 478, 350, 94, 334, 78, 383, 479, 351, 95, 335, 79] 4 = some [0, 5, 7] := by decide +kernel
theorem ns35 : M_need_square [encM pr35.1] = some .none := by kernel_rfl
theorem ct35 : isN (M_count_told [.int 4, factsOf pr35.1 [0, 5, 10]]) 1 = true := by decide +kernel
theorem hp35 : M_heights_of [encM pr35.1] = some (encM pr35.2) := by kernel_rfl
theorem hl35 : M_w_heights [encM pr35.1] = some (encM pr35.2) := by kernel_rfl
theorem me35 : pr35 ∈ ps4 := by decide +kernel
theorem rt35 (T : Hts) : M_w_right [.int 4, .list (sq4.map encM), encM pr35.1] = some (.bool true) :=
  Sq4.right (p := pr35) (lc := [0, 5, 10]) (lp := [0, 5, 7]) (K := 4) (L := 4) ⟨me35, rfl, ns35, by decide, by decide, by rw [first_fast, mc35]; exact fc35, by rw [first_fast, mp35]; exact fp35⟩ T (isN_eq ct35)
def pr36 : Mat × Mat := ([[1, 0, 0, 0], [0, 0, 0, 1], [0, 1, 0, 0], [0, 0, 1, 0]], [[0, 1, 2, 3, 4], [1, 0, 1, 2, 3], [2, 1, 2, 3, 2], [3, 2, 1, 2, 1], [4, 3, 2, 1, 0]])
theorem mc36 : ((othersOf pr36.1).map Prod.fst).map (maskI sp0 pr36.1) = [44854, 39990, 43350, 38998, 64598, 39270, 65382, 45050, 40186, 43418, 39066, 64666, 42330, 37978, 61530, 15450, 39338, 65450, 38250, 62314, 16234, 43516, 39164, 64764, 42300, 37948, 61500, 15420, 39372, 65484, 38156, 62220, 16140, 62828, 14700, 39423, 38207, 62271, 16191, 62815, 14687] := by decide +kernel
theorem mp36 : ((othersOf pr36.1).map Prod.snd).map (maskI sp1 pr36.2) = [288, 352, 304, 368, 496, 376, 504, 292, 356, 308, 372, 500, 276, 340, 468, 212, 380, 508, 348, 476, 220, 310, 374, 502, 278, 342, 470, 214, 382, 510, 350, 478, 222, 462, 206, 383, 351, 479, 223, 463, 207] := by decide +kernel
theorem fc36 : firstB 16 [44854, 39990, 43350, 38998, 64598, 39270, 65382, 45050, 40186, 43418, 39066, 64666, 42330, 37978, 61530, 15450, 39338, 65450, 38250, 62314, 16234, 43516, 39164, 64764, 42300, 37948, 61500, 15420, 39372, 65484, 38156, 62220, 16140, 62828, 14700, 39423, 38207, 62271, 16191, 62815, 14687] 4 = some [0, 6, 9] := by decide +kernel
theorem fp36 : firstB 9 [288, 352, 304, 368, 496, 376, 504, 292, 356, 308, 372, 500, 276, 340, 468, 212, 380, 508, 348, 476, 220, 310, 374, 502, 278, 342, 470, 214, 382, 510, 350, 478, 222, 462, 206, 383, 351, 479, 223, 463, 207] 4 = some [0, 5, 7] := by decide +kernel
theorem ns36 : M_need_square [encM pr36.1] = some .none := by kernel_rfl
theorem ct36 : isN (M_count_told [.int 4, factsOf pr36.1 [0, 6, 9]]) 1 = true := by decide +kernel
theorem hp36 : M_heights_of [encM pr36.1] = some (encM pr36.2) := by kernel_rfl
theorem hl36 : M_w_heights [encM pr36.1] = some (encM pr36.2) := by kernel_rfl
theorem me36 : pr36 ∈ ps4 := by decide +kernel
theorem rt36 (T : Hts) : M_w_right [.int 4, .list (sq4.map encM), encM pr36.1] = some (.bool true) :=
  Sq4.right (p := pr36) (lc := [0, 6, 9]) (lp := [0, 5, 7]) (K := 4) (L := 4) ⟨me36, rfl, ns36, by decide, by decide, by rw [first_fast, mc36]; exact fc36, by rw [first_fast, mp36]; exact fp36⟩ T (isN_eq ct36)
def pr37 : Mat × Mat := ([[1, 0, 0, 0], [0, 0, 1, 0], [0, 0, 0, 1], [0, 1, 0, 0]], [[0, 1, 2, 3, 4], [1, 0, 1, 2, 3], [2, 1, 2, 1, 2], [3, 2, 3, 2, 1], [4, 3, 2, 1, 0]])
theorem mc37 : ((othersOf pr37.1).map Prod.fst).map (maskI sp0 pr37.1) = [50678, 63222, 50070, 61590, 38550, 62374, 38310, 50490, 63034, 49946, 61466, 38426, 53146, 64666, 39578, 22170, 62250, 38186, 65450, 39338, 21930, 49980, 61500, 38460, 53244, 64764, 39676, 22268, 62220, 38156, 65484, 39372, 21964, 40876, 21420, 62271, 38207, 39423, 22015, 40863, 21407] := by decide +kernel
theorem mp37 : ((othersOf pr37.1).map Prod.snd).map (maskI sp1 pr37.2) = [384, 448, 400, 464, 336, 472, 344, 388, 452, 404, 468, 340, 436, 500, 372, 116, 476, 348, 508, 380, 124, 406, 470, 342, 438, 502, 374, 118, 478, 350, 510, 382, 126, 366, 110, 479, 351, 383, 127, 367, 111] := by decide +kernel
theorem fc37 : firstB 16 [50678, 63222, 50070, 61590, 38550, 62374, 38310, 50490, 63034, 49946, 61466, 38426, 53146, 64666, 39578, 22170, 62250, 38186, 65450, 39338, 21930, 49980, 61500, 38460, 53244, 64764, 39676, 22268, 62220, 38156, 65484, 39372, 21964, 40876, 21420, 62271, 38207, 39423, 22015, 40863, 21407] 4 = some [0, 6, 9] := by decide +kernel
theorem fp37 : firstB 9 [384, 448, 400, 464, 336, 472, 344, 388, 452, 404, 468, 340, 436, 500, 372, 116, 476, 348, 508, 380, 124, 406, 470, 342, 438, 502, 374, 118, 478, 350, 510, 382, 126, 366, 110, 479, 351, 383, 127, 367, 111] 4 = some [0, 5, 7] := by decide +kernel
theorem ns37 : M_need_square [encM pr37.1] = some .none := by kernel_rfl
theorem ct37 : isN (M_count_told [.int 4, factsOf pr37.1 [0, 6, 9]]) 1 = true := by decide +kernel
theorem hp37 : M_heights_of [encM pr37.1] = some (encM pr37.2) := by kernel_rfl
theorem hl37 : M_w_heights [encM pr37.1] = some (encM pr37.2) := by kernel_rfl
theorem me37 : pr37 ∈ ps4 := by decide +kernel
theorem rt37 (T : Hts) : M_w_right [.int 4, .list (sq4.map encM), encM pr37.1] = some (.bool true) :=
  Sq4.right (p := pr37) (lc := [0, 6, 9]) (lp := [0, 5, 7]) (K := 4) (L := 4) ⟨me37, rfl, ns37, by decide, by decide, by rw [first_fast, mc37]; exact fc37, by rw [first_fast, mp37]; exact fp37⟩ T (isN_eq ct37)
def pr38 : Mat × Mat := ([[1, 0, 0, 0], [0, 0, 1, 0], [0, 1, -1, 1], [0, 0, 1, 0]], [[0, 1, 2, 3, 4], [1, 0, 1, 2, 3], [2, 1, 2, 1, 2], [3, 2, 1, 2, 1], [4, 3, 2, 1, 0]])
theorem mc38 : ((othersOf pr38.1).map Prod.fst).map (maskI sp0 pr38.1) = [41974, 37110, 41366, 37014, 61590, 37286, 62374, 41786, 36922, 41242, 36890, 61466, 43418, 39066, 64666, 12442, 37162, 62250, 39338, 65450, 13226, 41276, 36924, 61500, 43516, 39164, 64764, 12540, 37132, 62220, 39372, 65484, 13260, 63916, 12716, 37183, 62271, 39423, 13311, 63903, 12703] := by decide +kernel
theorem mp38 : ((othersOf pr38.1).map Prod.snd).map (maskI sp1 pr38.2) = [256, 320, 272, 336, 464, 344, 472, 260, 324, 276, 340, 468, 308, 372, 500, 244, 348, 476, 380, 508, 252, 278, 342, 470, 310, 374, 502, 246, 350, 478, 382, 510, 254, 494, 238, 351, 479, 383, 255, 495, 239] := by decide +kernel
theorem fc38 : firstB 16 [41974, 37110, 41366, 37014, 61590, 37286, 62374, 41786, 36922, 41242, 36890, 61466, 43418, 39066, 64666, 12442, 37162, 62250, 39338, 65450, 13226, 41276, 36924, 61500, 43516, 39164, 64764, 12540, 37132, 62220, 39372, 65484, 13260, 63916, 12716, 37183, 62271, 39423, 13311, 63903, 12703] 3 = some [0, 10] := by decide +kernel
theorem fp38 : firstB 9 [256, 320, 272, 336, 464, 344, 472, 260, 324, 276, 340, 468, 308, 372, 500, 244, 348, 476, 380, 508, 252, 278, 342, 470, 310, 374, 502, 246, 350, 478, 382, 510, 254, 494, 238, 351, 479, 383, 255, 495, 239] 6 = some [0, 4, 5, 7, 8] := by decide +kernel
theorem ns38 : M_need_square [encM pr38.1] = some .none := by kernel_rfl
theorem ct38 : isN (M_count_told [.int 4, factsOf pr38.1 [0, 10]]) 1 = true := by decide +kernel
theorem hp38 : M_heights_of [encM pr38.1] = some (encM pr38.2) := by kernel_rfl
theorem hl38 : M_w_heights [encM pr38.1] = some (encM pr38.2) := by kernel_rfl
theorem me38 : pr38 ∈ ps4 := by decide +kernel
theorem rt38 (T : Hts) : M_w_right [.int 4, .list (sq4.map encM), encM pr38.1] = some (.bool true) :=
  Sq4.right (p := pr38) (lc := [0, 10]) (lp := [0, 4, 5, 7, 8]) (K := 3) (L := 6) ⟨me38, rfl, ns38, by decide, by decide, by rw [first_fast, mc38]; exact fc38, by rw [first_fast, mp38]; exact fp38⟩ T (isN_eq ct38)
def pr39 : Mat × Mat := ([[1, 0, 0, 0], [0, 0, 1, 0], [0, 1, 0, 0], [0, 0, 0, 1]], [[0, 1, 2, 3, 4], [1, 0, 1, 2, 3], [2, 1, 2, 1, 2], [3, 2, 1, 0, 1], [4, 3, 2, 1, 0]])
theorem mc39 : ((othersOf pr39.1).map Prod.fst).map (maskI sp0 pr39.1) = [28662, 23798, 27030, 22678, 15510, 22950, 16294, 28474, 23610, 26906, 22554, 15386, 26010, 21658, 12442, 64666, 22826, 16170, 21930, 13226, 65450, 26940, 22588, 15420, 26108, 21756, 12540, 64764, 22796, 16140, 21964, 13260, 65484, 13740, 63916, 22847, 16191, 22015, 13311, 13727, 63903] := by decide +kernel
theorem mp39 : ((othersOf pr39.1).map Prod.snd).map (maskI sp1 pr39.2) = [0, 64, 16, 80, 208, 88, 216, 4, 68, 20, 84, 212, 52, 116, 244, 500, 92, 220, 124, 252, 508, 22, 86, 214, 54, 118, 246, 502, 94, 222, 126, 254, 510, 238, 494, 95, 223, 127, 255, 239, 495] := by decide +kernel
theorem fc39 : firstB 16 [28662, 23798, 27030, 22678, 15510, 22950, 16294, 28474, 23610, 26906, 22554, 15386, 26010, 21658, 12442, 64666, 22826, 16170, 21930, 13226, 65450, 26940, 22588, 15420, 26108, 21756, 12540, 64764, 22796, 16140, 21964, 13260, 65484, 13740, 63916, 22847, 16191, 22015, 13311, 13727, 63903] 4 = some [0, 5, 15] := by decide +kernel
theorem fp39 : firstB 9 [0, 64, 16, 80, 208, 88, 216, 4, 68, 20, 84, 212, 52, 116, 244, 500, 92, 220, 124, 252, 508, 22, 86, 214, 54, 118, 246, 502, 94, 222, 126, 254, 510, 238, 494, 95, 223, 127, 255, 239, 495] 4 = some [0, 4, 8] := by decide +kernel
theorem ns39 : M_need_square [encM pr39.1] = some .none := by kernel_rfl
theorem ct39 : isN (M_count_told [.int 4, factsOf pr39.1 [0, 5, 15]]) 1 = true := by decide +kernel
theorem hp39 : M_heights_of [encM pr39.1] = some (encM pr39.2) := by kernel_rfl
theorem hl39 : M_w_heights [encM pr39.1] = some (encM pr39.2) := by kernel_rfl
theorem me39 : pr39 ∈ ps4 := by decide +kernel
theorem rt39 (T : Hts) : M_w_right [.int 4, .list (sq4.map encM), encM pr39.1] = some (.bool true) :=
  Sq4.right (p := pr39) (lc := [0, 5, 15]) (lp := [0, 4, 8]) (K := 4) (L := 4) ⟨me39, rfl, ns39, by decide, by decide, by rw [first_fast, mc39]; exact fc39, by rw [first_fast, mp39]; exact fp39⟩ T (isN_eq ct39)
def pr40 : Mat × Mat := ([[1, 0, 0, 0], [0, 1, 0, 0], [0, 0, 0, 1], [0, 0, 1, 0]], [[0, 1, 2, 3, 4], [1, 0, 1, 2, 3], [2, 1, 0, 1, 2], [3, 2, 1, 2, 1], [4, 3, 2, 1, 0]])
theorem mc40 : ((othersOf pr40.1).map Prod.fst).map (maskI sp0 pr40.1) = [42390, 38550, 41974, 37110, 63222, 37830, 62918, 42330, 38490, 41786, 36922, 63034, 45050, 40186, 64250, 14074, 37642, 62730, 40906, 63946, 13770, 41820, 36956, 63068, 44956, 40092, 64156, 13980, 37708, 62796, 40844, 63884, 13708, 65484, 13260, 37727, 62815, 40863, 63903, 13727, 13311] := by decide +kernel
theorem mp40 : ((othersOf pr40.1).map Prod.snd).map (maskI sp1 pr40.2) = [256, 320, 256, 320, 448, 328, 456, 260, 324, 260, 324, 452, 292, 356, 484, 228, 332, 460, 364, 492, 236, 262, 326, 454, 294, 358, 486, 230, 334, 462, 366, 494, 238, 510, 254, 335, 463, 367, 495, 239, 255] := by decide +kernel
theorem fc40 : firstB 16 [42390, 38550, 41974, 37110, 63222, 37830, 62918, 42330, 38490, 41786, 36922, 63034, 45050, 40186, 64250, 14074, 37642, 62730, 40906, 63946, 13770, 41820, 36956, 63068, 44956, 40092, 64156, 13980, 37708, 62796, 40844, 63884, 13708, 65484, 13260, 37727, 62815, 40863, 63903, 13727, 13311] 4 = some [0, 5, 10] := by decide +kernel
theorem fp40 : firstB 9 [256, 320, 256, 320, 448, 328, 456, 260, 324, 260, 324, 452, 292, 356, 484, 228, 332, 460, 364, 492, 236, 262, 326, 454, 294, 358, 486, 230, 334, 462, 366, 494, 238, 510, 254, 335, 463, 367, 495, 239, 255] 4 = some [0, 4, 8] := by decide +kernel
theorem ns40 : M_need_square [encM pr40.1] = some .none := by kernel_rfl
theorem ct40 : isN (M_count_told [.int 4, factsOf pr40.1 [0, 5, 10]]) 1 = true := by decide +kernel
theorem hp40 : M_heights_of [encM pr40.1] = some (encM pr40.2) := by kernel_rfl
theorem hl40 : M_w_heights [encM pr40.1] = some (encM pr40.2) := by kernel_rfl
theorem me40 : pr40 ∈ ps4 := by decide +kernel
theorem rt40 (T : Hts) : M_w_right [.int 4, .list (sq4.map encM), encM pr40.1] = some (.bool true) :=
  Sq4.right (p := pr40) (lc := [0, 5, 10]) (lp := [0, 4, 8]) (K := 4) (L := 4) ⟨me40, rfl, ns40, by decide, by decide, by rw [first_fast, mc40]; exact fc40, by rw [first_fast, mp40]; exact fp40⟩ T (isN_eq ct40)
def pr41 : Mat × Mat := ([[1, 0, 0, 0], [0, 1, 0, 0], [0, 0, 1, 0], [0, 0, 0, 1]], [[0, 1, 2, 3, 4], [1, 0, 1, 2, 3], [2, 1, 0, 1, 2], [3, 2, 1, 0, 1], [4, 3, 2, 1, 0]])
theorem mc41 : ((othersOf pr41.1).map Prod.fst).map (maskI sp0 pr41.1) = [27030, 23190, 28662, 23798, 15094, 24518, 14790, 26970, 23130, 28474, 23610, 14906, 25594, 20730, 13050, 64250, 24330, 14602, 21450, 12746, 63946, 28508, 23644, 14940, 25500, 20636, 12956, 64156, 24396, 14668, 21388, 12684, 63884, 13260, 65484, 24415, 14687, 21407, 12703, 63903, 13311] := by decide +kernel
theorem mp41 : ((othersOf pr41.1).map Prod.snd).map (maskI sp1 pr41.2) = [0, 64, 0, 64, 192, 72, 200, 4, 68, 4, 68, 196, 36, 100, 228, 484, 76, 204, 108, 236, 492, 6, 70, 198, 38, 102, 230, 486, 78, 206, 110, 238, 494, 254, 510, 79, 207, 111, 239, 495, 255] := by decide +kernel
theorem fc41 : firstB 16 [27030, 23190, 28662, 23798, 15094, 24518, 14790, 26970, 23130, 28474, 23610, 14906, 25594, 20730, 13050, 64250, 24330, 14602, 21450, 12746, 63946, 28508, 23644, 14940, 25500, 20636, 12956, 64156, 24396, 14668, 21388, 12684, 63884, 13260, 65484, 24415, 14687, 21407, 12703, 63903, 13311] 4 = some [0, 5, 10] := by decide +kernel
theorem fp41 : firstB 9 [0, 64, 0, 64, 192, 72, 200, 4, 68, 4, 68, 196, 36, 100, 228, 484, 76, 204, 108, 236, 492, 6, 70, 198, 38, 102, 230, 486, 78, 206, 110, 238, 494, 254, 510, 79, 207, 111, 239, 495, 255] 4 = some [0, 4, 8] := by decide +kernel
theorem ns41 : M_need_square [encM pr41.1] = some .none := by kernel_rfl
theorem ct41 : isN (M_count_told [.int 4, factsOf pr41.1 [0, 5, 10]]) 1 = true := by decide +kernel
theorem hp41 : M_heights_of [encM pr41.1] = some (encM pr41.2) := by kernel_rfl
theorem hl41 : M_w_heights [encM pr41.1] = some (encM pr41.2) := by kernel_rfl
theorem me41 : pr41 ∈ ps4 := by decide +kernel
theorem rt41 (T : Hts) : M_w_right [.int 4, .list (sq4.map encM), encM pr41.1] = some (.bool true) :=
  Sq4.right (p := pr41) (lc := [0, 5, 10]) (lp := [0, 4, 8]) (K := 4) (L := 4) ⟨me41, rfl, ns41, by decide, by decide, by rw [first_fast, mc41]; exact fc41, by rw [first_fast, mp41]; exact fp41⟩ T (isN_eq ct41)
end SQ
end
section
set_option Elab.async false
set_option linter.all false
set_option maxRecDepth 100000
set_option maxHeartbeats 4000000
namespace SQ
open PySem PySem.Spec PyProof.Rows L2
theorem fa_nil {α : Type} {P : α → Prop} : ∀ x ∈ ([] : List α), P x := fun x m => absurd m List.not_mem_nil
theorem fa_cons {α : Type} {P : α → Prop} {y : α} {ys : List α} (h : P y) (h' : ∀ x ∈ ys, P x) : ∀ x ∈ y :: ys, P x := fun x m => by
  rcases List.mem_cons.mp m with rfl | m
  · exact h
  · exact h' x m
theorem ps4_eq : ps4 = [pr0, pr1, pr2, pr3, pr4, pr5, pr6, pr7, pr8, pr9, pr10, pr11, pr12, pr13, pr14, pr15, pr16, pr17, pr18, pr19, pr20, pr21, pr22, pr23, pr24, pr25, pr26, pr27, pr28, pr29, pr30, pr31, pr32, pr33, pr34, pr35, pr36, pr37, pr38, pr39, pr40, pr41] := by decide +kernel
theorem hts : Hts := ⟨by
  rw [ps4_eq]
  exact (fa_cons (hp0) (fa_cons (hp1) (fa_cons (hp2) (fa_cons (hp3) (fa_cons (hp4) (fa_cons (hp5) (fa_cons (hp6) (fa_cons (hp7) (fa_cons (hp8) (fa_cons (hp9) (fa_cons (hp10) (fa_cons (hp11) (fa_cons (hp12) (fa_cons (hp13) (fa_cons (hp14) (fa_cons (hp15) (fa_cons (hp16) (fa_cons (hp17) (fa_cons (hp18) (fa_cons (hp19) (fa_cons (hp20) (fa_cons (hp21) (fa_cons (hp22) (fa_cons (hp23) (fa_cons (hp24) (fa_cons (hp25) (fa_cons (hp26) (fa_cons (hp27) (fa_cons (hp28) (fa_cons (hp29) (fa_cons (hp30) (fa_cons (hp31) (fa_cons (hp32) (fa_cons (hp33) (fa_cons (hp34) (fa_cons (hp35) (fa_cons (hp36) (fa_cons (hp37) (fa_cons (hp38) (fa_cons (hp39) (fa_cons (hp40) (fa_cons (hp41) fa_nil)))))))))))))))))))))))))))))))))))))))))), by
  rw [ps4_eq]
  exact (fa_cons (hl0) (fa_cons (hl1) (fa_cons (hl2) (fa_cons (hl3) (fa_cons (hl4) (fa_cons (hl5) (fa_cons (hl6) (fa_cons (hl7) (fa_cons (hl8) (fa_cons (hl9) (fa_cons (hl10) (fa_cons (hl11) (fa_cons (hl12) (fa_cons (hl13) (fa_cons (hl14) (fa_cons (hl15) (fa_cons (hl16) (fa_cons (hl17) (fa_cons (hl18) (fa_cons (hl19) (fa_cons (hl20) (fa_cons (hl21) (fa_cons (hl22) (fa_cons (hl23) (fa_cons (hl24) (fa_cons (hl25) (fa_cons (hl26) (fa_cons (hl27) (fa_cons (hl28) (fa_cons (hl29) (fa_cons (hl30) (fa_cons (hl31) (fa_cons (hl32) (fa_cons (hl33) (fa_cons (hl34) (fa_cons (hl35) (fa_cons (hl36) (fa_cons (hl37) (fa_cons (hl38) (fa_cons (hl39) (fa_cons (hl40) (fa_cons (hl41) fa_nil))))))))))))))))))))))))))))))))))))))))))⟩
theorem rts : ∀ p ∈ ps4, M_w_right [.int 4, .list (sq4.map encM), encM p.1] = some (.bool true) := by
  rw [ps4_eq]
  exact (fa_cons (rt0 hts) (fa_cons (rt1 hts) (fa_cons (rt2 hts) (fa_cons (rt3 hts) (fa_cons (rt4 hts) (fa_cons (rt5 hts) (fa_cons (rt6 hts) (fa_cons (rt7 hts) (fa_cons (rt8 hts) (fa_cons (rt9 hts) (fa_cons (rt10 hts) (fa_cons (rt11 hts) (fa_cons (rt12 hts) (fa_cons (rt13 hts) (fa_cons (rt14 hts) (fa_cons (rt15 hts) (fa_cons (rt16 hts) (fa_cons (rt17 hts) (fa_cons (rt18 hts) (fa_cons (rt19 hts) (fa_cons (rt20 hts) (fa_cons (rt21 hts) (fa_cons (rt22 hts) (fa_cons (rt23 hts) (fa_cons (rt24 hts) (fa_cons (rt25 hts) (fa_cons (rt26 hts) (fa_cons (rt27 hts) (fa_cons (rt28 hts) (fa_cons (rt29 hts) (fa_cons (rt30 hts) (fa_cons (rt31 hts) (fa_cons (rt32 hts) (fa_cons (rt33 hts) (fa_cons (rt34 hts) (fa_cons (rt35 hts) (fa_cons (rt36 hts) (fa_cons (rt37 hts) (fa_cons (rt38 hts) (fa_cons (rt39 hts) (fa_cons (rt40 hts) (fa_cons (rt41 hts) fa_nil))))))))))))))))))))))))))))))))))))))))))
def isT (o : Option D) : Bool := match o with
  | some (.bool true) => true
  | _ => false
theorem isT_eq {o : Option D} (h : isT o = true) : o = some (.bool true) := by
  unfold isT at h
  split at h
  case h_1 => rfl
  case h_2 => cases h
theorem rts1 : (sq1.all fun m => isT (M_w_right [.int 1, .list (sq1.map encM), encM m])) = true := by decide +kernel
theorem rts2 : (sq2.all fun m => isT (M_w_right [.int 2, .list (sq2.map encM), encM m])) = true := by decide +kernel
theorem rts3 : (sq3.all fun m => isT (M_w_right [.int 3, .list (sq3.map encM), encM m])) = true := by decide +kernel
theorem tail_ok : Body_tail st11 = some (.rt (.bool true)) := by kernel_rfl
def sqsOf (n : Int) : List D := if n = 1 then sq1.map encM else if n = 2 then sq2.map encM else if n = 3 then sq3.map encM else sq4.map encM
theorem of_all {n : Int} {ms : List Mat} (h : (ms.all fun m => isT (M_w_right [.int n, .list (ms.map encM), encM m])) = true) : ∀ d ∈ ms.map encM, M_w_right [.int n, .list (ms.map encM), d] = some (.bool true) := fun d m => by
  obtain ⟨x, mx, rfl⟩ := List.mem_map.mp m
  exact isT_eq (List.all_eq_true.mp h x mx)
theorem lay_mats (ms : List Mat) : PyData.canLayAll0 (ms.map encM) = true := layAllS fun x m => by
  obtain ⟨r, _, rfl⟩ := List.mem_map.mp m
  exact (sh_mat r).lay
theorem pureK : PureK sqsOf := ⟨fun n h => by
  rcases h with rfl | rfl | rfl | rfl
  · exact ⟨all1, by decide, by decide, lay_mats sq1⟩
  · exact ⟨all2, by decide, by decide, lay_mats sq2⟩
  · exact ⟨all3, by decide, by decide, lay_mats sq3⟩
  · exact ⟨all4, by decide, by decide, lay_mats sq4⟩, fun n h => by
  rcases h with rfl | rfl | rfl | rfl
  · exact of_all rts1
  · exact of_all rts2
  · exact of_all rts3
  · intro d m
    have m' : d ∈ sq4.map encM := m
    rw [told_enc] at m'
    obtain ⟨p, mp, rfl⟩ := List.mem_map.mp m'
    exact rts p mp, tail_ok⟩
end SQ
end
section
set_option Elab.async false
set_option linter.all false
set_option maxRecDepth 100000
set_option maxHeartbeats 4000000
namespace SQ
open PySem PySem.Spec PyProof.Rows L2 HotX L2H LamX
/-- the end, with what is known of the code object's table of the def named y -/
theorem walk_mid {l : PySem.W.OpenLaw} {n k : Nat} {q : Program} {loose : List Str} {XP : (Str → Option Value) → Heap → Prop} {YP : World → Heap → Prop} {d : DefRec} {K : Params → PySem.W.Frag} {CX : World → CXT} {x y : Str}
    (hn : l.most = some n) (hn2 : n ≤ sizeLine) (hdf : d.params.defaults = []) (hr : Room k callerA) (hrec : ((recsOf q).any fun e => e.name == y) = true) (hY : ∀ (w : World) (h : Heap), YP w h → (K w.params).In h)
    (F : ∀ (w : World) (mg : Str → Option Value) (fa : Addr) (h : Heap), (K w.params).In h → h.Ns mainGlobals mg → mg d.name = some (.ref fa) → (∀ fr, mg y = some (.ref fr) → OwnTab (K w.params) fr h) → LawAtS l w (K w.params) (CX w) k n x mg fa h)
    (hCX : ∀ (w : World) (H : Hp) (s : Shared) (e : Value) (s' : Shared), CX w [] H s (fun _ _ _ => False) e s' → False) :
    PySem.W.WalkO q loose XP YP l.row.toRowW d [] (fun f vs => PySem.call f vs) := by
  refine Att.attach_callB hn hdf fun w s₀ s₁ mg mb fa o pm cd doc a vs ns G Y ho hd hcd hmg hobj hints hlen hbits hg => ?_
  have KX := hY w _ Y
  have own : ∀ fr, mg y = some (.ref fr) → OwnTab (K w.params) fr s₁.heap := fun fr hfr c P o1 fd1 e dd vs1 sl k1 k2 k3 k4 k5 => by
    obtain ⟨dL, hm, hn1⟩ := List.any_eq_true.mp hrec
    have hn2 : dL.name = y := beq_iff_eq.mp hn1
    obtain ⟨a', o', fd', c', P', h1, h2, h3, h4, h5, h6⟩ := G.T.tab dL hm
    rw [hn2, hfr] at h1
    cases h1
    have g1 := KX _ _ k1
    rw [g1] at h2
    cases h2
    rw [k2] at h3
    cases h3
    rw [k3] at h4
    cases h4
    obtain ⟨⟨oc, vc, e1, _, e3, e4⟩, hP⟩ := h6
    have g2 := KX _ _ k4
    rw [g2] at e1
    cases e1
    cases e3
    rw [k5] at e4
    cases e4
    exact hP
  obtain ⟨fd, cs, sp, hT, nT, C, hb, hsp, hF⟩ := F w mg fa _ KX G.T.g hmg own
  exact law_callTs KX G.T.g G.T.b G.T.builtins G.T.nolimit hg hT nT C G.T.bmain hobj hints (Nat.le_trans hlen hn2) hr hF hb (fun H hH hS => hsp H a ns hlen hbits hH hS) fun H e s' => hCX w H s₁ e s'
/-- what the written part tells of a def -/
structure DefK (K : PySem.W.Frag) (x : Str) (st : Stmt) : Prop where
  ex : ∃ (f : Addr) (fd : FuncData), Fun K x x st f fd ∧ PySem.W.nsIn K mainGlobals x = some (some (.ref f))
theorem def_mk {K : PySem.W.Frag} {x : Str} {st : Stmt} {f : Addr} {oc : Value} {od an : Option Addr} {osl : Array (Option Value)} {kV doc pm cdv ct : Value} (a : PySem.W.nsIn K mainGlobals x = some (some (.ref f)))
    (l : K.lookup f = some ⟨oc, od, .func (PySem.W.fnOf x x (defArgs st) (defBody st) (defScope st) .none kV doc pm an cdv ct), osl⟩) (c : PySem.W.codeIn K cdv x = true) (k : PySem.W.keepIn K (.ref f) = true) : DefK K x st := ⟨_, _, fun_mk l c k, a⟩
/-- the same, and its code object with its table -/
structure DefT (K : PySem.W.Frag) (x : Str) (st : Stmt) (c P0 : Addr) : Prop where
  ex : ∃ (f : Addr) (fd : FuncData) (o : Obj), Fun K x x st f fd ∧ PySem.W.nsIn K mainGlobals x = some (some (.ref f)) ∧ fd.code = .ref c ∧ K.lookup f = some o ∧ o.data = .func fd
  co : ∃ (e : Value) (dd : Option Addr) (vs : Array Value) (sl : Array (Option Value)), K.lookup c = some ⟨e, dd, .fields vs, sl⟩ ∧ vs[11]? = some (.ref P0)
  hd : PySem.W.codeHdIn K c P0 = true
  no : K.lookup P0 = none
theorem deft_mk {K : PySem.W.Frag} {x : Str} {st : Stmt} {f c P0 : Addr} {oc : Value} {od an : Option Addr} {osl : Array (Option Value)} {kV doc pm ct : Value} {e : Value} {dd : Option Addr} {vs : Array Value} {sl : Array (Option Value)} (a : PySem.W.nsIn K mainGlobals x = some (some (.ref f)))
    (l : K.lookup f = some ⟨oc, od, .func (PySem.W.fnOf x x (defArgs st) (defBody st) (defScope st) .none kV doc pm an (.ref c) ct), osl⟩) (cd : PySem.W.codeIn K (.ref c) x = true) (k : PySem.W.keepIn K (.ref f) = true)
    (lc : K.lookup c = some ⟨e, dd, .fields vs, sl⟩) (l11 : vs[11]? = some (.ref P0)) (hd : PySem.W.codeHdIn K c P0 = true) (no : K.lookup P0 = none) : DefT K x st c P0 := ⟨⟨_, _, _, fun_mk l cd k, a, rfl, l, rfl⟩, ⟨_, _, _, _, lc, l11⟩, hd, no⟩
theorem at_of {K : PySem.W.Frag} {h : Heap} {mg : Str → Option Value} {x : Str} {st : Stmt} {ps : List Str} (X : K.In h) (G : h.Ns mainGlobals mg) (d : DefK K x st)
    (hb : ∀ (kV doc pm : Value) (an : Option Addr) (cdv ct : Value) (us : List Value), us.length = ps.length → bindArgs (PySem.W.fnOf x x (defArgs st) (defBody st) (defScope st) .none kV doc pm an cdv ct) ⟨us, []⟩ = pure (ps.zip us)) : At K mg x st ps := by
  obtain ⟨f, fd, F, a⟩ := d.ex
  exact ⟨f, fd, F, PySem.W.mg_of X G a, F.binds hb⟩
theorem kit_self {K : PySem.W.Frag} {a : Addr} : PySem.W.kitOne K (.ref a) (.ref a) = some true := by
  unfold PySem.W.kitOne
  rw [if_pos (by simp)]
theorem kit_ref {K : PySem.W.Frag} {a C : Addr} {b : Bool} (hne : a ≠ C) (i : PySem.W.isClsIn K C = true) (t : PySem.W.typeIn K (.ref C) = some (.type "type")) (s : PySem.W.subIn K (.ref a) (.ref C) = some b) : PySem.W.kitOne K (.ref a) (.ref C) = some b := by
  unfold PySem.W.kitOne PySem.W.kitCls
  have i' : (PySem.W.clsIn K C).isSome = true := i
  rw [if_neg (by simpa using hne)]
  show (if ((PySem.W.clsIn K C).isSome && PySem.W.typeIn K (.ref C) == some (.type "type")) = true then PySem.W.subIn K (.ref a) (.ref C) else none) = some b
  rw [i', t, if_pos (by rfl), s]
theorem kit_val {K : PySem.W.Frag} {a : Addr} {b : Bool} (s : PySem.W.subIn K (.ref a) (.type "ValueError") = some b) : PySem.W.kitOne K (.ref a) (.type "ValueError") = some b := by
  unfold PySem.W.kitOne PySem.W.kitCls
  rw [if_neg (by simp)]
  show (if PySem.W.kitMeta "ValueError" = true then _ else _) = _
  rw [if_pos (by decide +kernel), s]
theorem exm_ref {K : PySem.W.Frag} {a C : Addr} {b : Bool} (e : PySem.W.subIn K (.ref C) (.type "BaseException") = some true) (i : PySem.W.isClsIn K C = true) (t : PySem.W.typeIn K (.ref C) = some (.type "type")) (s : PySem.W.subIn K (.ref a) (.ref C) = some b) : PySem.W.exmOne K (.ref a) (.ref C) = some b := by
  have i' : (PySem.W.clsIn K C).isSome = true := i
  unfold PySem.W.exmOne
  rw [e, if_pos (by rfl)]
  show (if ((PySem.W.clsIn K C).isSome && PySem.W.typeIn K (.ref C) == some (.type "type")) = true then PySem.W.subIn K (.ref a) (.ref C) else none) = some b
  rw [i', t, if_pos (by rfl), s]
/-- what is told of a class -/
structure ClsT (K : PySem.W.Frag) (x : Str) (C : Addr) : Prop where
  a : PySem.W.nsIn K mainGlobals x = some (some (.ref C))
  i : PySem.W.isClsIn K C = true
  t : PySem.W.typeIn K (.ref C) = some (.type "type")
/-- TooMany, told by the written part alone -/
structure TmF (P : Program) (K : PySem.W.Frag) (C fI : Addr) : Prop where
  ox : OexC K C
  lim : PySem.W.findIn K (.ref C) "limit" = some none
  ini : PySem.W.findIn K (.ref C) "__init__" = some (some (.ref fI))
  tI : PySem.W.typeIn K (.ref fI) = some (.type "function")
  fn : ∃ (oc : Value) (od : Option Addr) (kV doc pm : Value) (an : Option Addr) (cda : Addr) (ct : Value) (cc : Addr) (osl : Array (Option Value)) (ccl : Value) (cdd : Option Addr) (vs : Array Value) (ccs : Array (Option Value)) (file : Str) (tf : Tok) (cl : Value) (cld : Option Addr) (csl : Array (Option Value)),
    K.lookup fI = some ⟨oc, od, .func (PySem.W.ksFn "__init__" "TooMany.__init__" (defArgs s_init) (defBody s_init) (defScope s_init) .none kV doc pm an (.ref cda) ct cc), osl⟩ ∧ PySem.W.codeIn K (.ref cda) "TooMany.__init__" = true ∧ K.lookup cda = some ⟨ccl, cdd, .fields vs, ccs⟩ ∧ vs[2]? = some (.str file tf) ∧
      ((P.main.file : Str) == file) = true ∧ K.lookup cc = some ⟨cl, cld, .cell (some (.ref C)), csl⟩
  op : PySem.W.nsIn K cStatics "thirdparty.any" = some none
  sin : PySem.W.ks_superIn K C C "__init__" = some (some (.builtin "ValueError.__init__"))
  sV : PySem.W.subIn K (.ref C) (.type "ValueError") = some true
  sC : PySem.W.mroIn K C (.ref C) = some true
  top : (P.main.scope.names.lookup ("super" : Str)).isSome = false
theorem tmf_mk {P : Program} {K : PySem.W.Frag} {C fI : Addr} {nm q : Str} {N : Addr} {bs bm : List Value} {sn : List Str} {sub : List Value} {ab : Bool} {col : Option Bool} {dd : Option Addr} {k0 k1 k2 k3 k5 : Option Value}
    {oc : Value} {od : Option Addr} {kV doc pm : Value} {an : Option Addr} {cda : Addr} {ct : Value} {cc : Addr} {osl : Array (Option Value)} {ccl : Value} {cdd : Option Addr} {vs : Array Value} {ccs : Array (Option Value)} {file : Str} {tf : Tok} {cl : Value} {cld : Option Addr} {csl : Array (Option Value)}
    (xL : K.lookup C = some (excClassObj nm q C N bs bm true sn sub ab col dd k0 k1 k2 k3 k5 "ValueError.__new__")) (rv : PySem.HandSPX.refsVE bm = true)
    (sa : PySem.W.findIn K (.ref C) "__setattr__" = some (some (.builtin "object.__setattr__"))) (exC : PySem.W.subIn K (.ref C) (.type "BaseException") = some true) (tyC : PySem.W.typeIn K (.ref C) = some (.type "type")) (kC : PySem.W.keepIn K (.ref C) = true)
    (lim : PySem.W.findIn K (.ref C) "limit" = some none) (ini : PySem.W.findIn K (.ref C) "__init__" = some (some (.ref fI))) (tI : PySem.W.typeIn K (.ref fI) = some (.type "function"))
    (l1 : K.lookup fI = some ⟨oc, od, .func (PySem.W.ksFn "__init__" "TooMany.__init__" (defArgs s_init) (defBody s_init) (defScope s_init) .none kV doc pm an (.ref cda) ct cc), osl⟩) (l2 : PySem.W.codeIn K (.ref cda) "TooMany.__init__" = true) (l3 : K.lookup cda = some ⟨ccl, cdd, .fields vs, ccs⟩) (l4 : vs[2]? = some (.str file tf))
    (l5 : ((P.main.file : Str) == file) = true) (l6 : K.lookup cc = some ⟨cl, cld, .cell (some (.ref C)), csl⟩)
    (op : PySem.W.nsIn K cStatics "thirdparty.any" = some none) (sin : PySem.W.ks_superIn K C C "__init__" = some (some (.builtin "ValueError.__init__"))) (sV : PySem.W.subIn K (.ref C) (.type "ValueError") = some true) (sC : PySem.W.mroIn K C (.ref C) = some true)
    (top : (P.main.scope.names.lookup ("super" : Str)).isSome = false) : TmF P K C fI :=
  ⟨⟨⟨_, _, _, _, _, _, _, _, _, _, _, _, _, _, _, xL, rv⟩, sa, exC, tyC, kC⟩, lim, ini, tI, ⟨_, _, _, _, _, _, _, _, _, _, _, _, _, _, _, _, _, _, _, l1, l2, l3, l4, l5, l6⟩, op, sin, sV, sC, top⟩
/-- the names that the top leaves to the built-ins -/
structure NoN (K : PySem.W.Frag) : Prop where
  n_len : PySem.W.nsIn K mainGlobals "len" = some none
  n_all : PySem.W.nsIn K mainGlobals "all" = some none
  n_sum : PySem.W.nsIn K mainGlobals "sum" = some none
  n_tuple : PySem.W.nsIn K mainGlobals "tuple" = some none
  n_isinstance : PySem.W.nsIn K mainGlobals "isinstance" = some none
  n_int : PySem.W.nsIn K mainGlobals "int" = some none
  n_bool : PySem.W.nsIn K mainGlobals "bool" = some none
  n_str : PySem.W.nsIn K mainGlobals "str" = some none
  n_range : PySem.W.nsIn K mainGlobals "range" = some none
  n_zip : PySem.W.nsIn K mainGlobals "zip" = some none
  n_enumerate : PySem.W.nsIn K mainGlobals "enumerate" = some none
  n_sorted : PySem.W.nsIn K mainGlobals "sorted" = some none
  n_dict : PySem.W.nsIn K mainGlobals "dict" = some none
  n_min : PySem.W.nsIn K mainGlobals "min" = some none
  n_max : PySem.W.nsIn K mainGlobals "max" = some none
  n_list : PySem.W.nsIn K mainGlobals "list" = some none
  n_abs : PySem.W.nsIn K mainGlobals "abs" = some none
  n_super : PySem.W.nsIn K mainGlobals "super" = some none
  n_ValueError : PySem.W.nsIn K mainGlobals "ValueError" = some none
/-- the errors that the search raises, told of one class -/
structure ErrT (K : PySem.W.Frag) (D : Addr) : Prop where
  c : ExcC K D
  sB : PySem.W.subIn K (.ref D) (.type "BaseException") = some true
  sV : PySem.W.subIn K (.ref D) (.type "ValueError") = some true
/-- which of the classes are above -/
structure SubT (K : PySem.W.Frag) (D C1 C2 C3 C4 C5 S : Addr) : Prop where
  n1 : D ≠ C1
  n2 : D ≠ C2
  n3 : D ≠ C3
  n4 : D ≠ C4
  n5 : D ≠ C5
  s1 : PySem.W.subIn K (.ref D) (.ref C1) = some false
  s2 : PySem.W.subIn K (.ref D) (.ref C2) = some false
  s3 : PySem.W.subIn K (.ref D) (.ref C3) = some false
  s4 : PySem.W.subIn K (.ref D) (.ref C4) = some false
  s5 : PySem.W.subIn K (.ref D) (.ref C5) = some false
  s6 : PySem.W.subIn K (.ref D) (.ref S) = some true
/-- all defs -/
structure Defs (K : PySem.W.Frag) (c P0 : Addr) : Prop where
  d_is_whole : DefK K "is_whole" s_is_whole
  d_turns_well : DefK K "turns_well" s_turns_well
  d_fits_line : DefK K "fits_line" s_fits_line
  d_columns_of : DefK K "columns_of" s_columns_of
  d_fits_square : DefK K "fits_square" s_fits_square
  d_need_square : DefK K "need_square" s_need_square
  d_need_sides : DefK K "need_sides" s_need_sides
  d_need_few : DefK K "need_few" s_need_few
  d_lines_behind : DefK K "lines_behind" s_lines_behind
  d_fits_fact : DefK K "fits_fact" s_fits_fact
  d_fit_facts : DefK K "fit_facts" s_fit_facts
  d_need_facts : DefK K "need_facts" s_need_facts
  d_line_goes : DefK K "line_goes" s_line_goes
  d_state_goes : DefK K "state_goes" s_state_goes
  d_told_web : DefK K "told_web" s_told_web
  d_told_counts : DefK K "told_counts" s_told_counts
  d_told_many : DefK K "told_many" s_told_many
  d_told_list : DefK K "told_list" s_told_list
  d_need_told : DefK K "need_told" s_need_told
  d_count_told : DefK K "count_told" s_count_told
  d_heights_of : DefK K "heights_of" s_heights_of
  d_lots_of : DefK K "lots_of" s_lots_of
  d_cells_of : DefK K "cells_of" s_cells_of
  d_points_within : DefK K "points_within" s_points_within
  d_fewest_spots : DefK K "fewest_spots" s_fewest_spots
  d_fewest_cells : DefK K "fewest_cells" s_fewest_cells
  d_fewest_points : DefK K "fewest_points" s_fewest_points
  d_w_lines : DefK K "_law_lines" s_w_lines
  d_w_all : DefK K "_law_all" s_w_all
  d_w_corner : DefK K "_law_corner" s_w_corner
  d_w_known : DefK K "_law_known" s_w_known
  d_w_lots : DefK K "_law_lots" s_w_lots
  d_w_fewest : DefK K "_law_fewest" s_w_fewest
  d_w_heights : DefK K "_law_heights" s_w_heights
  d_w_spots : DefK K "_law_spots" s_w_spots
  d_w_right : DefK K "_law_right" s_w_right
  d_law : DefK K "law" s_law
  d__law_cart : DefK K "_law_cart" s_cart
  d__law_lump : DefK K "_law_lump" s_lump
  d__law_any_of : DefK K "_law_any_of" s_any
  d__law_names : DefK K "_law_names" s_names
  d__law_word : DefK K "_law_word" s_word
  d_refused : DefT K "_law_refused" s_refused c P0
/-- all else -/
structure Rest (P : Program) (K : PySem.W.Frag) (C : Fin 7 → Addr) (fI : Addr) : Prop where
  no : NoN K
  c_SIDES : ∃ t, PySem.W.nsIn K mainGlobals "SIDES" = some (some (.int 12 t))
  c_FACTS : ∃ t, PySem.W.nsIn K mainGlobals "FACTS" = some (some (.int 40 t))
  c_WIDE : ∃ t, PySem.W.nsIn K mainGlobals "WIDE" = some (some (.int 8 t))
  c_FAR : ∃ t, PySem.W.nsIn K mainGlobals "FAR" = some (some (.int 40 t))
  c_SMALL : ∃ t, PySem.W.nsIn K mainGlobals "SMALL" = some (some (.int 4 t))
  k0 : ClsT K "InvalidSquare" (C 0)
  k1 : ClsT K "InvalidSides" (C 1)
  k2 : ClsT K "InvalidNumber" (C 2)
  k3 : ClsT K "InvalidFacts" (C 3)
  k4 : ClsT K "InvalidBounds" (C 4)
  k5 : ClsT K "TooMany" (C 5)
  k6 : ClsT K "SignError" (C 6)
  e0 : ErrT K (C 0)
  e5 : ErrT K (C 5)
  t0 : SubT K (C 0) (C 1) (C 2) (C 3) (C 4) (C 5) (C 6)
  t5 : SubT K (C 5) (C 0) (C 1) (C 2) (C 3) (C 4) (C 6)
  s6 : PySem.W.subIn K (.ref (C 6)) (.type "BaseException") = some true
  x0 : PySem.W.excIn K (C 0) [.type "ValueError", .type "Exception", .type "BaseException", .type "object"] "ValueError.__new__" = true
  q0 : PySem.W.keepIn K (.ref (C 0)) = true
  tm : TmF P K (C 5) fI
theorem all_mk {l : PySem.W.OpenLaw} {w : World} {K : PySem.W.Frag} {h : Heap} {mg : Str → Option Value} {fa c P0 fI : Addr} {C : Fin 7 → Addr} (X : K.In h) (G : h.Ns mainGlobals mg) (hfa : mg "law" = some (.ref fa)) (own : ∀ fr, mg "_law_refused" = some (.ref fr) → OwnTab K fr h)
    (D : Defs K c P0) (R : Rest l.prog K C fI) : LawAtS l w K CX0 9 63 "_law_script" mg fa h := by
  have M : ∀ {x : Str} {v : Value}, PySem.W.nsIn K mainGlobals x = some (some v) → mg x = some v := fun e => PySem.W.mg_of X G e
  have N : ∀ {x : Str}, PySem.W.nsIn K mainGlobals x = some none → mg x = none := fun e => PySem.W.mg_none_of X G e
  have B : Bl mg := ⟨N R.no.n_len, N R.no.n_all, N R.no.n_sum, N R.no.n_tuple, N R.no.n_isinstance, N R.no.n_int, N R.no.n_bool, N R.no.n_str, N R.no.n_range, N R.no.n_zip, N R.no.n_enumerate, N R.no.n_sorted, N R.no.n_dict, N R.no.n_min, N R.no.n_max, N R.no.n_list, N R.no.n_abs⟩
  obtain ⟨tSIDES, zSIDES⟩ := R.c_SIDES
  obtain ⟨tFACTS, zFACTS⟩ := R.c_FACTS
  obtain ⟨tWIDE, zWIDE⟩ := R.c_WIDE
  obtain ⟨tFAR, zFAR⟩ := R.c_FAR
  obtain ⟨tSMALL, zSMALL⟩ := R.c_SMALL
  have a_is_whole : At K mg "is_whole" s_is_whole ["value", "low", "high"] := at_of X G D.d_is_whole fun _ _ _ _ _ _ us hl => match us, hl with | [_, _, _], _ => rfl
  have a_turns_well : At K mg "turns_well" s_turns_well ["line"] := at_of X G D.d_turns_well fun _ _ _ _ _ _ us hl => match us, hl with | [_], _ => rfl
  have a_fits_line : At K mg "fits_line" s_fits_line ["value", "sides"] := at_of X G D.d_fits_line fun _ _ _ _ _ _ us hl => match us, hl with | [_, _], _ => rfl
  have a_columns_of : At K mg "columns_of" s_columns_of ["square"] := at_of X G D.d_columns_of fun _ _ _ _ _ _ us hl => match us, hl with | [_], _ => rfl
  have a_fits_square : At K mg "fits_square" s_fits_square ["value"] := at_of X G D.d_fits_square fun _ _ _ _ _ _ us hl => match us, hl with | [_], _ => rfl
  have a_need_square : At K mg "need_square" s_need_square ["value"] := at_of X G D.d_need_square fun _ _ _ _ _ _ us hl => match us, hl with | [_], _ => rfl
  have a_need_sides : At K mg "need_sides" s_need_sides ["value"] := at_of X G D.d_need_sides fun _ _ _ _ _ _ us hl => match us, hl with | [_], _ => rfl
  have a_need_few : At K mg "need_few" s_need_few ["many", "limit"] := at_of X G D.d_need_few fun _ _ _ _ _ _ us hl => match us, hl with | [_, _], _ => rfl
  have a_lines_behind : At K mg "lines_behind" s_lines_behind ["state"] := at_of X G D.d_lines_behind fun _ _ _ _ _ _ us hl => match us, hl with | [_], _ => rfl
  have a_fits_fact : At K mg "fits_fact" s_fits_fact ["sides", "value"] := at_of X G D.d_fits_fact fun _ _ _ _ _ _ us hl => match us, hl with | [_, _], _ => rfl
  have a_fit_facts : At K mg "fit_facts" s_fit_facts ["sides", "value"] := at_of X G D.d_fit_facts fun _ _ _ _ _ _ us hl => match us, hl with | [_, _], _ => rfl
  have a_need_facts : At K mg "need_facts" s_need_facts ["sides", "value"] := at_of X G D.d_need_facts fun _ _ _ _ _ _ us hl => match us, hl with | [_, _], _ => rfl
  have a_line_goes : At K mg "line_goes" s_line_goes ["line", "at", "facts"] := at_of X G D.d_line_goes fun _ _ _ _ _ _ us hl => match us, hl with | [_, _, _], _ => rfl
  have a_state_goes : At K mg "state_goes" s_state_goes ["state", "at", "facts"] := at_of X G D.d_state_goes fun _ _ _ _ _ _ us hl => match us, hl with | [_, _, _], _ => rfl
  have a_told_web : At K mg "told_web" s_told_web ["sides", "facts"] := at_of X G D.d_told_web fun _ _ _ _ _ _ us hl => match us, hl with | [_, _], _ => rfl
  have a_told_counts : At K mg "told_counts" s_told_counts ["levels"] := at_of X G D.d_told_counts fun _ _ _ _ _ _ us hl => match us, hl with | [_], _ => rfl
  have a_told_many : At K mg "told_many" s_told_many ["sides", "facts"] := at_of X G D.d_told_many fun _ _ _ _ _ _ us hl => match us, hl with | [_, _], _ => rfl
  have a_told_list : At K mg "told_list" s_told_list ["sides", "facts"] := at_of X G D.d_told_list fun _ _ _ _ _ _ us hl => match us, hl with | [_, _], _ => rfl
  have a_need_told : At K mg "need_told" s_need_told ["sides", "facts", "limit"] := at_of X G D.d_need_told fun _ _ _ _ _ _ us hl => match us, hl with | [_, _, _], _ => rfl
  have a_count_told : At K mg "count_told" s_count_told ["sides", "facts"] := at_of X G D.d_count_told fun _ _ _ _ _ _ us hl => match us, hl with | [_, _], _ => rfl
  have a_heights_of : At K mg "heights_of" s_heights_of ["square"] := at_of X G D.d_heights_of fun _ _ _ _ _ _ us hl => match us, hl with | [_], _ => rfl
  have a_lots_of : At K mg "lots_of" s_lots_of ["many", "some"] := at_of X G D.d_lots_of fun _ _ _ _ _ _ us hl => match us, hl with | [_, _], _ => rfl
  have a_cells_of : At K mg "cells_of" s_cells_of ["sides"] := at_of X G D.d_cells_of fun _ _ _ _ _ _ us hl => match us, hl with | [_], _ => rfl
  have a_points_within : At K mg "points_within" s_points_within ["sides"] := at_of X G D.d_points_within fun _ _ _ _ _ _ us hl => match us, hl with | [_], _ => rfl
  have a_fewest_spots : At K mg "fewest_spots" s_fewest_spots ["table", "tables", "spots"] := at_of X G D.d_fewest_spots fun _ _ _ _ _ _ us hl => match us, hl with | [_, _, _], _ => rfl
  have a_fewest_cells : At K mg "fewest_cells" s_fewest_cells ["square"] := at_of X G D.d_fewest_cells fun _ _ _ _ _ _ us hl => match us, hl with | [_], _ => rfl
  have a_fewest_points : At K mg "fewest_points" s_fewest_points ["square"] := at_of X G D.d_fewest_points fun _ _ _ _ _ _ us hl => match us, hl with | [_], _ => rfl
  have a_w_lines : At K mg "_law_lines" s_w_lines ["_law_wide"] := at_of X G D.d_w_lines fun _ _ _ _ _ _ us hl => match us, hl with | [_], _ => rfl
  have a_w_all : At K mg "_law_all" s_w_all ["_law_wide"] := at_of X G D.d_w_all fun _ _ _ _ _ _ us hl => match us, hl with | [_], _ => rfl
  have a_w_corner : At K mg "_law_corner" s_w_corner ["_law_some", "_law_high", "_law_left"] := at_of X G D.d_w_corner fun _ _ _ _ _ _ us hl => match us, hl with | [_, _, _], _ => rfl
  have a_w_known : At K mg "_law_known" s_w_known [] := at_of X G D.d_w_known fun _ _ _ _ _ _ us hl => match us, hl with | [], _ => rfl
  have a_w_lots : At K mg "_law_lots" s_w_lots ["_law_spots_so", "_law_few_so"] := at_of X G D.d_w_lots fun _ _ _ _ _ _ us hl => match us, hl with | [_, _], _ => rfl
  have a_w_fewest : At K mg "_law_fewest" s_w_fewest ["_law_mine", "_law_others", "_law_spots_so"] := at_of X G D.d_w_fewest fun _ _ _ _ _ _ us hl => match us, hl with | [_, _, _], _ => rfl
  have a_w_heights : At K mg "_law_heights" s_w_heights ["_law_some"] := at_of X G D.d_w_heights fun _ _ _ _ _ _ us hl => match us, hl with | [_], _ => rfl
  have a_w_spots : At K mg "_law_spots" s_w_spots ["_law_low", "_law_wide"] := at_of X G D.d_w_spots fun _ _ _ _ _ _ us hl => match us, hl with | [_, _], _ => rfl
  have a_w_right : At K mg "_law_right" s_w_right ["_law_wide", "_law_every", "_law_some"] := at_of X G D.d_w_right fun _ _ _ _ _ _ us hl => match us, hl with | [_, _, _], _ => rfl
  have a_law : At K mg "law" s_law ["_law_script"] := at_of X G D.d_law fun _ _ _ _ _ _ us hl => match us, hl with | [_], _ => rfl
  have a__law_cart : At K mg "_law_cart" s_cart ["_law_script"] := at_of X G D.d__law_cart fun _ _ _ _ _ _ us hl => match us, hl with | [_], _ => rfl
  have a__law_lump : At K mg "_law_lump" s_lump ["_law_cart_here", "_law_size_so"] := at_of X G D.d__law_lump fun _ _ _ _ _ _ us hl => match us, hl with | [_, _], _ => rfl
  have a__law_any_of : At K mg "_law_any_of" s_any ["_law_cart_here", "_law_row_so"] := at_of X G D.d__law_any_of fun _ _ _ _ _ _ us hl => match us, hl with | [_, _], _ => rfl
  have a__law_names : At K mg "_law_names" s_names ["_law_error"] := at_of X G D.d__law_names fun _ _ _ _ _ _ us hl => match us, hl with | [_], _ => rfl
  have a__law_word : At K mg "_law_word" s_word ["_law_call"] := at_of X G D.d__law_word fun _ _ _ _ _ _ us hl => match us, hl with | [_], _ => rfl
  have c6 : Cls6 mg C := ⟨M R.k0.a, M R.k1.a, M R.k2.a, M R.k3.a, M R.k4.a, M R.k5.a, M R.k6.a, N R.no.n_ValueError⟩
  have E0 : ErrK K C (C 0) true false false false false false true := ⟨R.e0.c, kit_self, kit_ref R.t0.n1 R.k1.i R.k1.t R.t0.s1, kit_ref R.t0.n2 R.k2.i R.k2.t R.t0.s2, kit_ref R.t0.n3 R.k3.i R.k3.t R.t0.s3, kit_ref R.t0.n4 R.k4.i R.k4.t R.t0.s4, kit_ref R.t0.n5 R.k5.i R.k5.t R.t0.s5, kit_val R.e0.sV, exm_ref R.s6 R.k6.i R.k6.t R.t0.s6⟩
  have E5 : ErrK K C (C 5) false false false false false true true := ⟨R.e5.c, kit_ref R.t5.n1 R.k0.i R.k0.t R.t5.s1, kit_ref R.t5.n2 R.k1.i R.k1.t R.t5.s2, kit_ref R.t5.n3 R.k2.i R.k2.t R.t5.s3, kit_ref R.t5.n4 R.k3.i R.k3.t R.t5.s4, kit_ref R.t5.n5 R.k4.i R.k4.t R.t5.s5, kit_self, kit_val R.e5.sV, exm_ref R.s6 R.k6.i R.k6.t R.t5.s6⟩
  have TM : TmK l.prog K mg (C 5) fI := ⟨R.tm.ox, R.tm.lim, R.tm.ini, R.tm.tI, R.tm.fn, N R.no.n_super, R.tm.op, R.tm.sin, R.tm.sV, R.tm.sC, R.tm.top⟩
  obtain ⟨fr, fdr, orr, Fr, ar, cr, lr, dr⟩ := D.d_refused.ex
  obtain ⟨ce, cdd, cvs, csl, lc, l11⟩ := D.d_refused.co
  have hP := own fr (M ar) c P0 orr fdr ce cdd cvs csl lr dr cr lc l11
  obtain ⟨fl, fdl, Fl, gl, bl⟩ := a_law.ex
  rw [hfa] at gl
  cases gl
  refine ⟨fdl, [(c, P0)], spLaw K P0, fun p m => ?_, fun p m => ?_, fun p m => ?_, fun s u => ?_, fun H a ns hl _ hT hS => ⟨a, ns, rfl, hS, by omega, hT (c, P0) (List.mem_cons_self ..), fun _ => rfl⟩, fun base kb gb tb => ?_⟩
  · cases List.mem_singleton.mp m
    exact hP
  · cases List.mem_singleton.mp m
    exact D.d_refused.no
  · cases List.mem_singleton.mp m
    exact PySem.W.codeHd_of_K X D.d_refused.hd
  · obtain ⟨oc, od, kV, doc, pm, an, cdv, ct, osl, rfl, _, _⟩ := Fl.ex
    exact .of_eq rfl
  have TB := tb (c, P0) (List.mem_cons_self ..)
  have h_is_whole : Has l.prog w K mg base "is_whole" 1 ["value", "low", "high"] M_is_whole := ok_is_whole a_is_whole B 
  have h_turns_well : Has l.prog w K mg base "turns_well" 1 ["line"] M_turns_well := ok_turns_well a_turns_well B 
  have h_fits_line : Has l.prog w K mg base "fits_line" 2 ["value", "sides"] M_fits_line := ok_fits_line a_fits_line B h_is_whole
  have h_columns_of : Has l.prog w K mg base "columns_of" 1 ["square"] M_columns_of := ok_columns_of a_columns_of B 
  have h_fits_square : Has l.prog w K mg base "fits_square" 3 ["value"] M_fits_square := ok_fits_square a_fits_square B (M zSIDES) h_fits_line h_turns_well h_columns_of
  have h_need_square : Has l.prog w K mg base "need_square" 4 ["value"] M_need_square := ok_need_square a_need_square B h_fits_square
  have h_need_sides : Has l.prog w K mg base "need_sides" 2 ["value"] M_need_sides := ok_need_sides a_need_sides B (M zSIDES) h_is_whole
  have h_need_few : Has l.prog w K mg base "need_few" 1 ["many", "limit"] M_need_few := ok_need_few a_need_few B 
  have h_lines_behind : Has l.prog w K mg base "lines_behind" 1 ["state"] M_lines_behind := ok_lines_behind a_lines_behind B 
  have h_fits_fact : Has l.prog w K mg base "fits_fact" 2 ["sides", "value"] M_fits_fact := ok_fits_fact a_fits_fact B (M zFAR) h_is_whole
  have h_fit_facts : Has l.prog w K mg base "fit_facts" 3 ["sides", "value"] M_fit_facts := ok_fit_facts a_fit_facts B (M zFACTS) h_fits_fact
  have h_need_facts : Has l.prog w K mg base "need_facts" 4 ["sides", "value"] M_need_facts := ok_need_facts a_need_facts B h_fit_facts
  have h_line_goes : Has l.prog w K mg base "line_goes" 1 ["line", "at", "facts"] M_line_goes := ok_line_goes a_line_goes B 
  have h_state_goes : Has l.prog w K mg base "state_goes" 1 ["state", "at", "facts"] M_state_goes := ok_state_goes a_state_goes B 
  have h_told_web : Has l.prog w K mg base "told_web" 2 ["sides", "facts"] M_told_web := ok_told_web a_told_web B h_state_goes h_lines_behind h_line_goes
  have h_told_counts : Has l.prog w K mg base "told_counts" 1 ["levels"] M_told_counts := ok_told_counts a_told_counts B 
  have h_told_many : Has l.prog w K mg base "told_many" 3 ["sides", "facts"] M_told_many := ok_told_many a_told_many B h_told_counts h_told_web
  have h_told_list : Has l.prog w K mg base "told_list" 3 ["sides", "facts"] M_told_list := ok_told_list a_told_list B h_told_web h_told_counts
  have h_need_told : Has l.prog w K mg base "need_told" 5 ["sides", "facts", "limit"] M_need_told := ok_need_told a_need_told B h_need_sides h_need_facts h_need_few
  have h_count_told : Has l.prog w K mg base "count_told" 6 ["sides", "facts"] M_count_told := ok_count_told a_count_told B (M zWIDE) h_need_told h_told_many
  have h_heights_of : Has l.prog w K mg base "heights_of" 1 ["square"] M_heights_of := ok_heights_of a_heights_of B 
  have h_lots_of : Has l.prog w K mg base "lots_of" 1 ["many", "some"] M_lots_of := ok_lots_of a_lots_of B 
  have h_cells_of : Has l.prog w K mg base "cells_of" 1 ["sides"] M_cells_of := ok_cells_of a_cells_of B 
  have h_points_within : Has l.prog w K mg base "points_within" 1 ["sides"] M_points_within := ok_points_within a_points_within B 
  have h_fewest_spots : Has l.prog w K mg base "fewest_spots" 2 ["table", "tables", "spots"] M_fewest_spots := ok_fewest_spots a_fewest_spots B h_lots_of
  have h_fewest_cells : Has l.prog w K mg base "fewest_cells" 5 ["square"] M_fewest_cells := ok_fewest_cells a_fewest_cells B (M zSMALL) h_need_square h_need_few h_told_list h_fewest_spots h_cells_of
  have h_fewest_points : Has l.prog w K mg base "fewest_points" 5 ["square"] M_fewest_points := ok_fewest_points a_fewest_points B (M zSMALL) h_need_square h_need_few h_told_list h_heights_of h_fewest_spots h_points_within
  have h_w_lines : Has l.prog w K mg base "_law_lines" 1 ["_law_wide"] M_w_lines := ok_w_lines a_w_lines B 
  have h_w_all : Has l.prog w K mg base "_law_all" 2 ["_law_wide"] M_w_all := ok_w_all a_w_all B h_w_lines
  have h_w_corner : Has l.prog w K mg base "_law_corner" 1 ["_law_some", "_law_high", "_law_left"] M_w_corner := ok_w_corner a_w_corner B 
  have h_w_known : Has l.prog w K mg base "_law_known" 1 [] M_w_known := ok_w_known a_w_known B 
  have h_w_lots : Has l.prog w K mg base "_law_lots" 1 ["_law_spots_so", "_law_few_so"] M_w_lots := ok_w_lots a_w_lots B 
  have h_w_fewest : Has l.prog w K mg base "_law_fewest" 2 ["_law_mine", "_law_others", "_law_spots_so"] M_w_fewest := ok_w_fewest a_w_fewest B h_w_lots
  have h_w_heights : Has l.prog w K mg base "_law_heights" 2 ["_law_some"] M_w_heights := ok_w_heights a_w_heights B h_w_corner
  have h_w_spots : Has l.prog w K mg base "_law_spots" 1 ["_law_low", "_law_wide"] M_w_spots := ok_w_spots a_w_spots B 
  have h_w_right : Has l.prog w K mg base "_law_right" 7 ["_law_wide", "_law_every", "_law_some"] M_w_right := ok_w_right a_w_right B h_fewest_cells h_w_fewest h_w_spots h_w_heights h_fewest_points h_count_told
  obtain ⟨f1, fd1, F1, g1, b1⟩ := a_fewest_cells.ex
  obtain ⟨f2, fd2, F2, g2, b2⟩ := a_fewest_points.ex
  obtain ⟨f3, fd3, F3, g3, b3⟩ := a_need_square.ex
  obtain ⟨f4, fd4, F4, g4, b4⟩ := a_need_few.ex
  have OX : OwnX K (C 0) := ⟨R.x0, R.q0, R.e0.sB, R.k0.t⟩
  have NX : NeedX l.prog w K mg base (C 0) (C 5) := ⟨⟨f3, fd3, g3, F3.kp, b3, fx_need_square F3 (M R.k0.a) OX h_fits_square⟩, ⟨f4, fd4, g4, F4.kp, b4, fx_need_few F4 TM (M R.k5.a)⟩, B.len_, ⟨tSMALL, M zSMALL⟩⟩
  obtain ⟨fw, fdw, FW, gw, bw⟩ := a__law_word.ex
  obtain ⟨fn, fdn, FN, gn, bn⟩ := a__law_names.ex
  have RK : RefK l.prog w K mg base C c P0 f1 f2 := ⟨TB, ⟨fw, fdw, FW, gw, bw⟩, ⟨fn, fdn, FN, gn, bn⟩, c6, E0, E5, ⟨fd1, g1, F1.kp, b1, fx_fewest_cells F1 NX⟩, ⟨fd2, g2, F2.kp, b2, fx_fewest_points F2 NX⟩⟩
  obtain ⟨fc, fdc, FC, gc, bc⟩ := a__law_cart.ex
  obtain ⟨fp, fdp, FP, gp, bp⟩ := a__law_lump.ex
  obtain ⟨fy, fdy, FY, gy, bY⟩ := a__law_any_of.ex
  have LP := fn_lump (P := l.prog) (w := w) (base := base) FP B.int_
  have br : Binds K fdr [] [] := Fr.binds fun _ _ _ _ _ _ us hl => match us, hl with | [], _ => rfl
  exact fn_law Fl ⟨⟨fc, fdc, gc, FC.kp, bc, fn_cart FC B.int_ B.abs_ B.list_⟩, ⟨fp, fdp, gp, FP.kp, bp, LP⟩, ⟨fy, fdy, gy, FY.kp, bY, fn_any FY B.len_ gp FP.kp bp LP⟩, ⟨fr, fdr, M ar, Fr.kp, br, fn_refused Fr cr RK B⟩, h_w_all, h_w_right, h_w_known, h_fewest_cells, h_fewest_points⟩ B pureK
end SQ
end
section
set_option Elab.async false
set_option linter.all false
set_option maxRecDepth 100000
set_option maxHeartbeats 4000000
namespace SQ
open PySem PySem.Spec PyProof.Rows L2 HotX L2H LamX
def pick (C0 C1 C2 C3 C4 C5 C6 : Addr) (i : Fin 7) : Addr := [C0, C1, C2, C3, C4, C5, C6].getD i.1 0
/-- all else -/
structure Rest0 (P : Program) (K : PySem.W.Frag) (C0 C1 C2 C3 C4 C5 C6 fI : Addr) : Prop where
  no : NoN K
  c_SIDES : ∃ t, PySem.W.nsIn K mainGlobals "SIDES" = some (some (.int 12 t))
  c_FACTS : ∃ t, PySem.W.nsIn K mainGlobals "FACTS" = some (some (.int 40 t))
  c_WIDE : ∃ t, PySem.W.nsIn K mainGlobals "WIDE" = some (some (.int 8 t))
  c_FAR : ∃ t, PySem.W.nsIn K mainGlobals "FAR" = some (some (.int 40 t))
  c_SMALL : ∃ t, PySem.W.nsIn K mainGlobals "SMALL" = some (some (.int 4 t))
  k0 : ClsT K "InvalidSquare" C0
  k1 : ClsT K "InvalidSides" C1
  k2 : ClsT K "InvalidNumber" C2
  k3 : ClsT K "InvalidFacts" C3
  k4 : ClsT K "InvalidBounds" C4
  k5 : ClsT K "TooMany" C5
  k6 : ClsT K "SignError" C6
  e0 : ErrT K C0
  e5 : ErrT K C5
  t0 : SubT K C0 C1 C2 C3 C4 C5 C6
  t5 : SubT K C5 C0 C1 C2 C3 C4 C6
  s6 : PySem.W.subIn K (.ref C6) (.type "BaseException") = some true
  x0 : PySem.W.excIn K C0 [.type "ValueError", .type "Exception", .type "BaseException", .type "object"] "ValueError.__new__" = true
  q0 : PySem.W.keepIn K (.ref C0) = true
  tm : TmF P K C5 fI
theorem rest_of {P : Program} {K : PySem.W.Frag} {C0 C1 C2 C3 C4 C5 C6 fI : Addr} (r : Rest0 P K C0 C1 C2 C3 C4 C5 C6 fI) : Rest P K (pick C0 C1 C2 C3 C4 C5 C6) fI := ⟨r.no, r.c_SIDES, r.c_FACTS, r.c_WIDE, r.c_FAR, r.c_SMALL, r.k0, r.k1, r.k2, r.k3, r.k4, r.k5, r.k6, r.e0, r.e5, r.t0, r.t5, r.s6, r.x0, r.q0, r.tm⟩
theorem cst_mk {K : PySem.W.Frag} {x : Str} {v : Int} {t : Tok} (a : PySem.W.nsIn K mainGlobals x = some (some (.int v t))) : ∃ t, PySem.W.nsIn K mainGlobals x = some (some (.int v t)) := ⟨t, a⟩
end SQ
open PySem PySem.W PyProof.Rows
set_option maxRecDepth 100000 in
set_option maxHeartbeats 0 in
theorem PySem.Challenge.cw_signsquared_k60_whole_fewest_cells_and_p_holds : PySem.Challenge.rw_signsquared_k60_whole_fewest_cells_and_p.Holds := by
  refine head ?_
  k_fill
  refine SQ.walk_mid (l := PySem.Challenge.rw_signsquared_k60_whole_fewest_cells_and_p) (n := 63) (k := 9) (x := "_law_script") (y := "_law_refused") (CX := fun _ => L2.CX0) rfl (by decide) rfl ⟨rfl, by decide, by decide⟩ (by decide +kernel) (fun w h Y => PySem.W.km_in_of Y) ?F (fun _ _ _ _ _ z => z)
  intro w mg fa h KX G hmg own
  refine' SQ.all_mk KX G hmg own ?D (SQ.rest_of ?R)
  case D =>
    refine' ⟨SQ.def_mk (st := SQ.s_is_whole) ?a0 ?l0 ?c0 ?k0, SQ.def_mk (st := SQ.s_turns_well) ?a1 ?l1 ?c1 ?k1, SQ.def_mk (st := SQ.s_fits_line) ?a2 ?l2 ?c2 ?k2, SQ.def_mk (st := SQ.s_columns_of) ?a3 ?l3 ?c3 ?k3, SQ.def_mk (st := SQ.s_fits_square) ?a4 ?l4 ?c4 ?k4, SQ.def_mk (st := SQ.s_need_square) ?a5 ?l5 ?c5 ?k5, SQ.def_mk (st := SQ.s_need_sides) ?a6 ?l6 ?c6 ?k6, SQ.def_mk (st := SQ.s_need_few) ?a7 ?l7 ?c7 ?k7, SQ.def_mk (st := SQ.s_lines_behind) ?a8 ?l8 ?c8 ?k8, SQ.def_mk (st := SQ.s_fits_fact) ?a9 ?l9 ?c9 ?k9, SQ.def_mk (st := SQ.s_fit_facts) ?a10 ?l10 ?c10 ?k10, SQ.def_mk (st := SQ.s_need_facts) ?a11 ?l11 ?c11 ?k11, SQ.def_mk (st := SQ.s_line_goes) ?a12 ?l12 ?c12 ?k12, SQ.def_mk (st := SQ.s_state_goes) ?a13 ?l13 ?c13 ?k13, SQ.def_mk (st := SQ.s_told_web) ?a14 ?l14 ?c14 ?k14, SQ.def_mk (st := SQ.s_told_counts) ?a15 ?l15 ?c15 ?k15, SQ.def_mk (st := SQ.s_told_many) ?a16 ?l16 ?c16 ?k16, SQ.def_mk (st := SQ.s_told_list) ?a17 ?l17 ?c17 ?k17, SQ.def_mk (st := SQ.s_need_told) ?a18 ?l18 ?c18 ?k18, SQ.def_mk (st := SQ.s_count_told) ?a19 ?l19 ?c19 ?k19, SQ.def_mk (st := SQ.s_heights_of) ?a20 ?l20 ?c20 ?k20, SQ.def_mk (st := SQ.s_lots_of) ?a21 ?l21 ?c21 ?k21, SQ.def_mk (st := SQ.s_cells_of) ?a22 ?l22 ?c22 ?k22, SQ.def_mk (st := SQ.s_points_within) ?a23 ?l23 ?c23 ?k23, SQ.def_mk (st := SQ.s_fewest_spots) ?a24 ?l24 ?c24 ?k24, SQ.def_mk (st := SQ.s_fewest_cells) ?a25 ?l25 ?c25 ?k25, SQ.def_mk (st := SQ.s_fewest_points) ?a26 ?l26 ?c26 ?k26, SQ.def_mk (st := SQ.s_w_lines) ?a27 ?l27 ?c27 ?k27, SQ.def_mk (st := SQ.s_w_all) ?a28 ?l28 ?c28 ?k28, SQ.def_mk (st := SQ.s_w_corner) ?a29 ?l29 ?c29 ?k29, SQ.def_mk (st := SQ.s_w_known) ?a30 ?l30 ?c30 ?k30, SQ.def_mk (st := SQ.s_w_lots) ?a31 ?l31 ?c31 ?k31, SQ.def_mk (st := SQ.s_w_fewest) ?a32 ?l32 ?c32 ?k32, SQ.def_mk (st := SQ.s_w_heights) ?a33 ?l33 ?c33 ?k33, SQ.def_mk (st := SQ.s_w_spots) ?a34 ?l34 ?c34 ?k34, SQ.def_mk (st := SQ.s_w_right) ?a35 ?l35 ?c35 ?k35, SQ.def_mk (st := SQ.s_law) ?a36 ?l36 ?c36 ?k36, SQ.def_mk (st := SQ.s_cart) ?a37 ?l37 ?c37 ?k37, SQ.def_mk (st := SQ.s_lump) ?a38 ?l38 ?c38 ?k38, SQ.def_mk (st := SQ.s_any) ?a39 ?l39 ?c39 ?k39, SQ.def_mk (st := SQ.s_names) ?a40 ?l40 ?c40 ?k40, SQ.def_mk (st := SQ.s_word) ?a41 ?l41 ?c41 ?k41, SQ.deft_mk (st := SQ.s_refused) ?ra ?rl ?rc ?rk ?rlc ?r11 ?rhd ?rno⟩
    (case a0 => k_is)
    (case l0 => k_is)
    (case c0 => k_is)
    (case k0 => k_is)
    (case a1 => k_is)
    (case l1 => k_is)
    (case c1 => k_is)
    (case k1 => k_is)
    (case a2 => k_is)
    (case l2 => k_is)
    (case c2 => k_is)
    (case k2 => k_is)
    (case a3 => k_is)
    (case l3 => k_is)
    (case c3 => k_is)
    (case k3 => k_is)
    (case a4 => k_is)
    (case l4 => k_is)
    (case c4 => k_is)
    (case k4 => k_is)
    (case a5 => k_is)
    (case l5 => k_is)
    (case c5 => k_is)
    (case k5 => k_is)
    (case a6 => k_is)
    (case l6 => k_is)
    (case c6 => k_is)
    (case k6 => k_is)
    (case a7 => k_is)
    (case l7 => k_is)
    (case c7 => k_is)
    (case k7 => k_is)
    (case a8 => k_is)
    (case l8 => k_is)
    (case c8 => k_is)
    (case k8 => k_is)
    (case a9 => k_is)
    (case l9 => k_is)
    (case c9 => k_is)
    (case k9 => k_is)
    (case a10 => k_is)
    (case l10 => k_is)
    (case c10 => k_is)
    (case k10 => k_is)
    (case a11 => k_is)
    (case l11 => k_is)
    (case c11 => k_is)
    (case k11 => k_is)
    (case a12 => k_is)
    (case l12 => k_is)
    (case c12 => k_is)
    (case k12 => k_is)
    (case a13 => k_is)
    (case l13 => k_is)
    (case c13 => k_is)
    (case k13 => k_is)
    (case a14 => k_is)
    (case l14 => k_is)
    (case c14 => k_is)
    (case k14 => k_is)
    (case a15 => k_is)
    (case l15 => k_is)
    (case c15 => k_is)
    (case k15 => k_is)
    (case a16 => k_is)
    (case l16 => k_is)
    (case c16 => k_is)
    (case k16 => k_is)
    (case a17 => k_is)
    (case l17 => k_is)
    (case c17 => k_is)
    (case k17 => k_is)
    (case a18 => k_is)
    (case l18 => k_is)
    (case c18 => k_is)
    (case k18 => k_is)
    (case a19 => k_is)
    (case l19 => k_is)
    (case c19 => k_is)
    (case k19 => k_is)
    (case a20 => k_is)
    (case l20 => k_is)
    (case c20 => k_is)
    (case k20 => k_is)
    (case a21 => k_is)
    (case l21 => k_is)
    (case c21 => k_is)
    (case k21 => k_is)
    (case a22 => k_is)
    (case l22 => k_is)
    (case c22 => k_is)
    (case k22 => k_is)
    (case a23 => k_is)
    (case l23 => k_is)
    (case c23 => k_is)
    (case k23 => k_is)
    (case a24 => k_is)
    (case l24 => k_is)
    (case c24 => k_is)
    (case k24 => k_is)
    (case a25 => k_is)
    (case l25 => k_is)
    (case c25 => k_is)
    (case k25 => k_is)
    (case a26 => k_is)
    (case l26 => k_is)
    (case c26 => k_is)
    (case k26 => k_is)
    (case a27 => k_is)
    (case l27 => k_is)
    (case c27 => k_is)
    (case k27 => k_is)
    (case a28 => k_is)
    (case l28 => k_is)
    (case c28 => k_is)
    (case k28 => k_is)
    (case a29 => k_is)
    (case l29 => k_is)
    (case c29 => k_is)
    (case k29 => k_is)
    (case a30 => k_is)
    (case l30 => k_is)
    (case c30 => k_is)
    (case k30 => k_is)
    (case a31 => k_is)
    (case l31 => k_is)
    (case c31 => k_is)
    (case k31 => k_is)
    (case a32 => k_is)
    (case l32 => k_is)
    (case c32 => k_is)
    (case k32 => k_is)
    (case a33 => k_is)
    (case l33 => k_is)
    (case c33 => k_is)
    (case k33 => k_is)
    (case a34 => k_is)
    (case l34 => k_is)
    (case c34 => k_is)
    (case k34 => k_is)
    (case a35 => k_is)
    (case l35 => k_is)
    (case c35 => k_is)
    (case k35 => k_is)
    (case a36 => k_is)
    (case l36 => k_is)
    (case c36 => k_is)
    (case k36 => k_is)
    (case a37 => k_is)
    (case l37 => k_is)
    (case c37 => k_is)
    (case k37 => k_is)
    (case a38 => k_is)
    (case l38 => k_is)
    (case c38 => k_is)
    (case k38 => k_is)
    (case a39 => k_is)
    (case l39 => k_is)
    (case c39 => k_is)
    (case k39 => k_is)
    (case a40 => k_is)
    (case l40 => k_is)
    (case c40 => k_is)
    (case k40 => k_is)
    (case a41 => k_is)
    (case l41 => k_is)
    (case c41 => k_is)
    (case k41 => k_is)
    (case ra => k_is)
    (case rl => k_is)
    (case rc => k_is)
    (case rk => k_is)
    (case rlc => k_is)
    (case r11 => rfl)
    (case rhd => first | rfl | kernel_rfl)
    (case rno => first | rfl | kernel_rfl)
  case R =>
    refine' ⟨⟨?n0, ?n1, ?n2, ?n3, ?n4, ?n5, ?n6, ?n7, ?n8, ?n9, ?n10, ?n11, ?n12, ?n13, ?n14, ?n15, ?n16, ?n17, ?n18⟩, SQ.cst_mk ?zSIDES, SQ.cst_mk ?zFACTS, SQ.cst_mk ?zWIDE, SQ.cst_mk ?zFAR, SQ.cst_mk ?zSMALL, ⟨?ka0, ?ki0, ?kt0⟩, ⟨?ka1, ?ki1, ?kt1⟩, ⟨?ka2, ?ki2, ?kt2⟩, ⟨?ka3, ?ki3, ?kt3⟩, ⟨?ka4, ?ki4, ?kt4⟩, ⟨?ka5, ?ki5, ?kt5⟩, ⟨?ka6, ?ki6, ?kt6⟩, ⟨⟨?e0hg, ?e0hk, ?e0hs, ?e0hd, ?e0ha, ?e0hn, ?e0ht, ?e0hm⟩, ?eB0, ?eV0⟩, ⟨⟨?e5hg, ?e5hk, ?e5hs, ?e5hd, ?e5ha, ?e5hn, ?e5ht, ?e5hm⟩, ?eB5, ?eV5⟩, ⟨?t0n1, ?t0n2, ?t0n3, ?t0n4, ?t0n5, ?t0s1, ?t0s2, ?t0s3, ?t0s4, ?t0s5, ?t0s6⟩, ⟨?t5n1, ?t5n2, ?t5n3, ?t5n4, ?t5n5, ?t5s1, ?t5s2, ?t5s3, ?t5s4, ?t5s5, ?t5s6⟩, ?s6, ?x0, ?q0, SQ.tmf_mk ?tmxL ?tmrv ?tmsa ?tmexC ?tmtyC ?tmkC ?tmlim ?tmini ?tmtI ?tml1 ?tml2 ?tml3 ?tml4 ?tml5 ?tml6 ?tmop ?tmsin ?tmsV ?tmsC ?tmtop⟩
    (case n0 => k_is)
    (case n1 => k_is)
    (case n2 => k_is)
    (case n3 => k_is)
    (case n4 => k_is)
    (case n5 => k_is)
    (case n6 => k_is)
    (case n7 => k_is)
    (case n8 => k_is)
    (case n9 => k_is)
    (case n10 => k_is)
    (case n11 => k_is)
    (case n12 => k_is)
    (case n13 => k_is)
    (case n14 => k_is)
    (case n15 => k_is)
    (case n16 => k_is)
    (case n17 => k_is)
    (case n18 => k_is)
    (case zSIDES => k_is)
    (case zFACTS => k_is)
    (case zWIDE => k_is)
    (case zFAR => k_is)
    (case zSMALL => k_is)
    (case ka0 => k_is)
    (case ki0 => k_is)
    (case kt0 => k_is)
    (case ka1 => k_is)
    (case ki1 => k_is)
    (case kt1 => k_is)
    (case ka2 => k_is)
    (case ki2 => k_is)
    (case kt2 => k_is)
    (case ka3 => k_is)
    (case ki3 => k_is)
    (case kt3 => k_is)
    (case ka4 => k_is)
    (case ki4 => k_is)
    (case kt4 => k_is)
    (case ka5 => k_is)
    (case ki5 => k_is)
    (case kt5 => k_is)
    (case ka6 => k_is)
    (case ki6 => k_is)
    (case kt6 => k_is)
    (case e0hg => k_is)
    (case e0hk => k_is)
    (case e0hs => k_is)
    (case e0hd => k_is)
    (case e0ha => k_is)
    (case e0hn => k_is)
    (case e0ht => k_is)
    (case e0hm => k_is)
    (case eB0 => k_is)
    (case eV0 => k_is)
    (case e5hg => k_is)
    (case e5hk => k_is)
    (case e5hs => k_is)
    (case e5hd => k_is)
    (case e5ha => k_is)
    (case e5hn => k_is)
    (case e5ht => k_is)
    (case e5hm => k_is)
    (case eB5 => k_is)
    (case eV5 => k_is)
    (case t0n1 => decide)
    (case t0n2 => decide)
    (case t0n3 => decide)
    (case t0n4 => decide)
    (case t0n5 => decide)
    (case t0s1 => k_is)
    (case t0s2 => k_is)
    (case t0s3 => k_is)
    (case t0s4 => k_is)
    (case t0s5 => k_is)
    (case t0s6 => k_is)
    (case t5n1 => decide)
    (case t5n2 => decide)
    (case t5n3 => decide)
    (case t5n4 => decide)
    (case t5n5 => decide)
    (case t5s1 => k_is)
    (case t5s2 => k_is)
    (case t5s3 => k_is)
    (case t5s4 => k_is)
    (case t5s5 => k_is)
    (case t5s6 => k_is)
    (case s6 => k_is)
    (case x0 => first | rfl | kernel_rfl)
    (case q0 => k_is)
    (case tmxL => k_is)
    (case tmini => k_is)
    (case tml1 => k_is)
    (case tml3 => k_is)
    (case tml6 => k_is)
    (case tmrv => decide +kernel)
    (case tmsa => k_is)
    (case tmexC => k_is)
    (case tmtyC => k_is)
    (case tmkC => k_is)
    (case tmlim => k_is)
    (case tmtI => k_is)
    (case tml2 => k_is)
    (case tml4 => rfl)
    (case tml5 => decide +kernel)
    (case tmop => k_is)
    (case tmsin => first | rfl | kernel_rfl)
    (case tmsV => k_is)
    (case tmsC => k_is)
    (case tmtop => decide +kernel)
end
