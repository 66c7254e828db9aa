import PyProof.Rows.All
import Wide.All
import OpenK.AllK
import Wide.FinOn
import HandS.ForMost
import HandS.IsInst
import HandS.DictComp
import HandS.MakeKwOnly
import HandS.Codes
import HandS.NoneIn
import HandS.ListItems
import HandS.TupLen
import HandS.TupAny
import HandS.RaiseMore
import HandS.Conv
import HandS.Zip
import HandS.Flow
import HandS.Style
import HandS.More
import HandS.Star
import KE.DataEq
import KE.KSortedM
import HandS.Deep
import KE.KDictPairs
import KE.KDictZip
import HandS.SortKw
import HandS.HeadHook1
import HandS.HeadHook2
import PySem.Challenge.RW_refundtrees_k67_whole_least_wants
import KE.KDictDisplayH
import KE.KStateDown
import Lean
import HandS.Base
import HandS.Call
import HandS.Ends
import HandS.Words
import HandS.WordsExc
import HandS.Defaults
import HandS.Head0
import HandS.Head1
import HandS.Head2
import HandS.HeadEnd
section
set_option Elab.async false
set_option linter.all false
set_option maxRecDepth 100000
set_option maxHeartbeats 4000000
/-! Data without a heap, and what a reading gives over it. -/
namespace Ab
open PySem L2
/-- data -/
inductive Dt where
  | non | bl (b : Bool) | int (i : Int) | str (s : Str) | ty (n : String) | adr (a : Addr)
  | lst (xs : List Dt) | tup (xs : List Dt) | ft (xs : List Dt) | fl (xs : List Dt) | fk (ks : List (Key × Dt)) | dk (ks : List (Key × Dt)) | dt (ks : List (List Key × Dt)) | ins (C : Addr) (fs : List (Str × Dt))
abbrev Kn (H H' : Hp) : Prop := ∀ a o, H a = some o → H' a = some o
mutual
inductive Rp (H : Hp) : V → Dt → Prop
  | non : Rp H .non .non
  | bl (b : Bool) : Rp H (.bl b) (.bl b)
  | int (i : Int) : Rp H (.int i) (.int i)
  | str (x : Str) : Rp H (.str x) (.str x)
  | ty (n : String) : Rp H (.ty n) (.ty n)
  | adr (a : Addr) : Rp H (.ref a) (.adr a)
  | lst {a : Addr} {vs : List V} {ds : List Dt} : H a = some (.lst vs) → Rps H vs ds → Rp H (.ref a) (.lst ds)
  | tup {a : Addr} {vs : List V} {ds : List Dt} : H a = some (.tup vs) → Rps H vs ds → Rp H (.ref a) (.tup ds)
  | ft {a : Addr} {o : Obj} {vs : List V} {ds : List Dt} : o.dict = none → H a = some (.frz o (.tup vs)) → Rps H vs ds → Rp H (.ref a) (.ft ds)
  | fl {a : Addr} {o : Obj} {vs : List V} {ds : List Dt} : H a = some (.frz o (.lst vs)) → Rps H vs ds → Rp H (.ref a) (.fl ds)
  | fk {a : Addr} {o : Obj} {kvs : List (Key × V)} {ks : List (Key × Dt)} : H a = some (.frz o (.dK kvs)) → kvs.map (·.1) = ks.map (·.1) → Rps H (kvs.map (·.2)) (ks.map (·.2)) → Rp H (.ref a) (.fk ks)
  | dk {a : Addr} {kvs : List (Key × V)} {ks : List (Key × Dt)} : H a = some (.dK kvs) → kvs.map (·.1) = ks.map (·.1) → Rps H (kvs.map (·.2)) (ks.map (·.2)) → Rp H (.ref a) (.dk ks)
  | dt {a : Addr} {kvs : List (List Key × V)} {ks : List (List Key × Dt)} : H a = some (.dT kvs) → kvs.map (·.1) = ks.map (·.1) → Rps H (kvs.map (·.2)) (ks.map (·.2)) → Rp H (.ref a) (.dt ks)
  | ins {a C dx : Addr} {fs : List (Str × V)} {gs : List (Str × Dt)} : H a = some (.ins C dx fs) → fs.map (·.1) = gs.map (·.1) → Rps H (fs.map (·.2)) (gs.map (·.2)) → Rp H (.ref a) (.ins C gs)
inductive Rps (H : Hp) : List V → List Dt → Prop
  | nil : Rps H [] []
  | cons {v : V} {d : Dt} {vs : List V} {ds : List Dt} : Rp H v d → Rps H vs ds → Rps H (v :: vs) (d :: ds)
end
/-- a change of the heap that keeps what the data of d lean on -/
theorem Rp.chg {H H' : Hp} (P : HO → Prop) (k : ∀ a o, P o → H a = some o → H' a = some o)
    (hl : ∀ xs, P (.lst xs)) (ht : ∀ xs, P (.tup xs)) (hz : ∀ o u, P (.frz o u)) (hk : ∀ xs, P (.dK xs)) (hT : ∀ xs, P (.dT xs)) (hi : ∀ C dx fs, P (.ins C dx fs)) {v : V} {d : Dt} (r : Rp H v d) : Rp H' v d := by
  refine Rp.rec (H := H) (motive_1 := fun v d _ => Rp H' v d) (motive_2 := fun vs ds _ => Rps H' vs ds) .non .bl .int .str .ty .adr ?_ ?_ ?_ ?_ ?_ ?_ ?_ ?_ .nil ?_ r
  · intro a vs ds e _ q; exact .lst (k _ _ (hl _) e) q
  · intro a vs ds e _ q; exact .tup (k _ _ (ht _) e) q
  · intro a o vs ds h e _ q; exact .ft h (k _ _ (hz _ _) e) q
  · intro a o vs ds e _ q; exact .fl (k _ _ (hz _ _) e) q
  · intro a o kvs ks e e2 _ q; exact .fk (k _ _ (hz _ _) e) e2 q
  · intro a kvs ks e e2 _ q; exact .dk (k _ _ (hk _) e) e2 q
  · intro a kvs ks e e2 _ q; exact .dt (k _ _ (hT _) e) e2 q
  · intro a C dx fs gs e e2 _ q; exact .ins (k _ _ (hi _ _ _) e) e2 q
  · intro v d vs ds _ _ q1 q2; exact .cons q1 q2
theorem Rp.mono {H H' : Hp} (k : Kn H H') {v : V} {d : Dt} (r : Rp H v d) : Rp H' v d := r.chg (fun _ => True) (fun a o _ e => k a o e) (fun _ => trivial) (fun _ => trivial) (fun _ _ => trivial) (fun _ => trivial) (fun _ => trivial) (fun _ _ _ => trivial)
theorem Rps.mono {H H' : Hp} (k : Kn H H') : ∀ {vs : List V} {ds : List Dt}, Rps H vs ds → Rps H' vs ds
  | _, _, .nil => .nil
  | _, _, .cons a b => .cons (a.mono k) (Rps.mono k b)
theorem Rps.length {H : Hp} : ∀ {vs : List V} {ds : List Dt}, Rps H vs ds → vs.length = ds.length
  | _, _, .nil => rfl
  | _, _, .cons _ b => congrArg (· + 1) b.length
theorem Rps.get {H : Hp} : ∀ {vs : List V} {ds : List Dt} {i : Nat} {d : Dt}, Rps H vs ds → ds[i]? = some d → ∃ v, vs[i]? = some v ∧ Rp H v d
  | _, _, i, d, .nil, e => by simp at e
  | _, _, 0, d, .cons a b, e => by
    simp only [List.getElem?_cons_zero, Option.some.injEq] at e
    subst e
    exact ⟨_, rfl, a⟩
  | _, _, i + 1, d, .cons a b, e => by
    obtain ⟨v, h1, h2⟩ := Rps.get b (i := i) (d := d) (by simpa using e)
    exact ⟨v, by simpa using h1, h2⟩
theorem Rps.append {H : Hp} : ∀ {vs : List V} {ds : List Dt} {ws : List V} {es : List Dt}, Rps H vs ds → Rps H ws es → Rps H (vs ++ ws) (ds ++ es)
  | _, _, _, _, .nil, b => b
  | _, _, _, _, .cons a c, b => .cons a (Rps.append c b)
theorem Rps.take {H : Hp} : ∀ {vs : List V} {ds : List Dt} (n : Nat), Rps H vs ds → Rps H (vs.take n) (ds.take n)
  | _, _, 0, _ => by simp; exact .nil
  | _, _, n + 1, .nil => .nil
  | _, _, n + 1, .cons a b => .cons a (Rps.take n b)
theorem Rps.drop {H : Hp} : ∀ {vs : List V} {ds : List Dt} (n : Nat), Rps H vs ds → Rps H (vs.drop n) (ds.drop n)
  | _, _, 0, r => r
  | _, _, n + 1, .nil => .nil
  | _, _, n + 1, .cons a b => Rps.drop n b
theorem Rps.reverse {H : Hp} : ∀ {vs : List V} {ds : List Dt}, Rps H vs ds → Rps H vs.reverse ds.reverse
  | _, _, .nil => .nil
  | _, _, .cons a b => by
    rw [List.reverse_cons, List.reverse_cons]
    exact (Rps.reverse b).append (.cons a .nil)
theorem Rps.eraseIdx {H : Hp} : ∀ {vs : List V} {ds : List Dt} (n : Nat), Rps H vs ds → Rps H (vs.eraseIdx n) (ds.eraseIdx n)
  | _, _, _, .nil => .nil
  | _, _, 0, .cons a b => b
  | _, _, n + 1, .cons a b => .cons a (Rps.eraseIdx n b)
/-- flat data: the value is told by the data -/
theorem Rps.ints {H : Hp} : ∀ {vs : List V} {ns : List Int}, Rps H vs (ns.map Dt.int) → vs = ns.map V.int
  | _, [], .nil => rfl
  | _, n :: ns, .cons a b => by cases a; rw [Rps.ints b]; rfl
theorem Rps.strs {H : Hp} : ∀ {vs : List V} {ns : List Str}, Rps H vs (ns.map Dt.str) → vs = ns.map V.str
  | _, [], .nil => rfl
  | _, n :: ns, .cons a b => by cases a; rw [Rps.strs b]; rfl
theorem Rps.bls {H : Hp} : ∀ {vs : List V} {ns : List Bool}, Rps H vs (ns.map Dt.bl) → vs = ns.map V.bl
  | _, [], .nil => rfl
  | _, n :: ns, .cons a b => by cases a; rw [Rps.bls b]; rfl
theorem Rps.of_ints {H : Hp} : ∀ ns : List Int, Rps H (ns.map V.int) (ns.map Dt.int)
  | [] => .nil
  | n :: ns => .cons (.int n) (Rps.of_ints ns)
theorem Rps.of_strs {H : Hp} : ∀ ns : List Str, Rps H (ns.map V.str) (ns.map Dt.str)
  | [] => .nil
  | n :: ns => .cons (.str n) (Rps.of_strs ns)

/-! ### the known heap grows -/
structure Grow (F : Addr → Prop) (Hk H Hk' H' : Hp) : Prop where
  kk : Kn Hk Hk'
  hh : ∀ a o, ¬ F a → H a = some o → H' a = some o
  th : ∀ a, H a ≠ none → H' a ≠ none
  kh : Kn Hk' H'
  nw : ∀ a, Hk' a ≠ none → Hk a ≠ none ∨ H a = none
def noF : Addr → Prop := fun _ => False
theorem Grow.refl {F : Addr → Prop} {Hk H : Hp} (h : Kn Hk H) : Grow F Hk H Hk H := ⟨fun _ _ e => e, fun _ _ _ e => e, fun _ e => e, h, fun _ e => .inl e⟩
theorem Grow.trans {F : Addr → Prop} {A0 B0 A1 B1 A2 B2 : Hp} (x : Grow F A0 B0 A1 B1) (y : Grow F A1 B1 A2 B2) : Grow F A0 B0 A2 B2 where
  kk := fun a o e => y.kk a o (x.kk a o e)
  hh := fun a o f e => y.hh a o f (x.hh a o f e)
  th := fun a e => y.th a (x.th a e)
  kh := y.kh
  nw := fun a e => by
    rcases y.nw a e with h | h
    · exact x.nw a h
    · refine .inr ?_
      cases q : B0 a with
      | none => rfl
      | some o => exact absurd h (x.th a (by rw [q]; simp))
theorem Grow.weak {F G : Addr → Prop} {A0 B0 A1 B1 : Hp} (x : Grow F A0 B0 A1 B1) (h : ∀ a, F a → G a) : Grow G A0 B0 A1 B1 :=
  ⟨x.kk, fun a o g e => x.hh a o (fun f => g (h a f)) e, x.th, x.kh, x.nw⟩
theorem Kn.upd {H : Hp} {p : Addr} {o : HO} (h : H p = none) : Kn H (upd H p o) := fun a u e => by rw [upd_ne (ne_of_none e h)]; exact e
theorem Kn.free {Hk H : Hp} (k : Kn Hk H) {p : Addr} (h : H p = none) : Hk p = none := by
  cases q : Hk p with
  | none => rfl
  | some o => rw [k p o q] at h; cases h
/-- a new thing, known -/
theorem Grow.new {F : Addr → Prop} {Hk H : Hp} (k : Kn Hk H) {p : Addr} (o : HO) (h : H p = none) : Grow F Hk H (upd Hk p o) (upd H p o) where
  kk := Kn.upd (k.free h)
  hh := fun a u _ e => Kn.upd h a u e
  th := fun a e => by
    by_cases q : a = p
    · rw [q, upd_same]; simp
    · rw [upd_ne q]; exact e
  kh := fun a u e => by
    by_cases q : a = p
    · rw [q, upd_same] at e ⊢; exact e
    · rw [upd_ne q] at e ⊢; exact k a u e
  nw := fun a e => by
    by_cases q : a = p
    · rw [q]; exact .inr h
    · rw [upd_ne q] at e; exact .inl e

/-! ### the pool of draws: nothing is known of its two numbers but their bounds -/
def PoolOk (p : Option Addr) (Hk H : Hp) : Prop := ∀ a, p = some a → Hk a = none ∧ ∃ x y : Int, H a = some (.lst [.int x, .int y]) ∧ 0 ≤ x ∧ 0 ≤ y ∧ y < 2147483647
def fr (p : Option Addr) : Addr → Prop := fun a => p = some a
theorem PoolOk.none {Hk H : Hp} : PoolOk none Hk H := fun _ e => nomatch e
/-- growth that leaves the pool alone -/
theorem PoolOk.grow {p : Option Addr} {A0 B0 A1 B1 : Hp} (x : Grow noF A0 B0 A1 B1) (h : PoolOk p A0 B0) : PoolOk p A1 B1 := fun a e => by
  obtain ⟨h1, x1, y1, h2, h3⟩ := h a e
  refine ⟨?_, x1, y1, x.hh a _ (fun z => z) h2, h3⟩
  cases q : A1 a with
  | none => rfl
  | some o =>
    rcases x.nw a (by rw [q]; simp) with z | z
    · exact absurd h1 z
    · rw [h2] at z; cases z
theorem Grow.up {p : Option Addr} {A0 B0 A1 B1 : Hp} (x : Grow noF A0 B0 A1 B1) : Grow (fr p) A0 B0 A1 B1 := x.weak fun _ z => False.elim z

/-! ### stores of data -/
def Sto (H : Hp) (σ : L2.St) (δ : List (Option Dt)) : Prop := σ.length = δ.length ∧ ∀ (i : Nat) d, δ[i]? = some (some d) → ∃ v, σ[i]? = some (some v) ∧ Rp H v d
theorem Sto.mono {H H' : Hp} {σ : L2.St} {δ : List (Option Dt)} (k : Kn H H') (s : Sto H σ δ) : Sto H' σ δ := ⟨s.1, fun i d e => let ⟨v, h1, h2⟩ := s.2 i d e; ⟨v, h1, h2.mono k⟩⟩
theorem Sto.set {H : Hp} {σ : L2.St} {δ : List (Option Dt)} (s : Sto H σ δ) (i : Nat) {v : V} {d : Dt} (r : Rp H v d) : Sto H (σ.set i (some v)) (δ.set i (some d)) := by
  refine ⟨by rw [List.length_set, List.length_set]; exact s.1, fun j e h => ?_⟩
  by_cases q : i = j
  · subst q
    have hi : i < δ.length := by
      have := (List.getElem?_eq_some_iff.mp h).1
      simpa using this
    rw [List.getElem?_set_self hi] at h
    cases h
    exact ⟨v, List.getElem?_set_self (by rw [s.1]; exact hi), r⟩
  · rw [List.getElem?_set_ne q] at h
    obtain ⟨u, h1, h2⟩ := s.2 j e h
    exact ⟨u, by rw [List.getElem?_set_ne q]; exact h1, h2⟩
/-- forgetting -/
theorem Sto.unset {H : Hp} {σ : L2.St} {δ : List (Option Dt)} (s : Sto H σ δ) (i : Nat) (x : Option V) : Sto H (σ.set i x) (δ.set i none) := by
  refine ⟨by rw [List.length_set, List.length_set]; exact s.1, fun j e h => ?_⟩
  by_cases q : i = j
  · subst q
    by_cases hi : i < δ.length
    · rw [List.getElem?_set_self hi] at h; cases h
    · rw [List.getElem?_eq_none (by simpa using hi)] at h; cases h
  · rw [List.getElem?_set_ne q] at h
    obtain ⟨u, h1, h2⟩ := s.2 j e h
    exact ⟨u, by rw [List.getElem?_set_ne q]; exact h1, h2⟩
def wipeD (δ : List (Option Dt)) : List Nat → List (Option Dt)
  | [] => δ
  | v :: vs => (wipeD δ vs).set v none
theorem Sto.wipe {H : Hp} {σ : L2.St} {δ : List (Option Dt)} (s : Sto H σ δ) : ∀ vs : List Nat, Sto H (L2.wipe σ vs) (wipeD δ vs)
  | [] => s
  | v :: vs => (Sto.wipe s vs).unset v none
theorem wipe_set {σ : L2.St} {i : Nat} {x : Option V} : ∀ {vs : List Nat}, i ∈ vs → L2.wipe (σ.set i x) vs = L2.wipe σ vs
  | [], h => by cases h
  | v :: vs, h => by
    unfold L2.wipe
    by_cases e : v = i
    · subst e
      by_cases q : v ∈ vs
      · rw [wipe_set q]
      · have z : ∀ ws : List Nat, v ∉ ws → L2.wipe (σ.set v x) ws = (L2.wipe σ ws).set v x := by
          intro ws
          induction ws with
          | nil => intro _; rfl
          | cons w ws ih =>
            intro hw
            unfold L2.wipe
            rw [ih (fun m => hw (List.mem_cons_of_mem _ m)), List.set_comm _ _ (fun e => hw (by rw [e]; exact List.mem_cons_self))]
        rw [z vs q, List.set_set]
    · rcases List.mem_cons.mp h with q | q
      · exact absurd q.symm e
      · rw [wipe_set q]
theorem wipe_wipe (σ : L2.St) : ∀ vs : List Nat, L2.wipe (L2.wipe σ vs) vs = L2.wipe σ vs
  | [] => rfl
  | v :: vs => by
    have e : L2.wipe σ (v :: vs) = (L2.wipe σ vs).set v none := rfl
    rw [e]
    show (L2.wipe ((L2.wipe σ vs).set v none) vs).set v none = (L2.wipe σ vs).set v none
    by_cases q : v ∈ vs
    · rw [wipe_set q, wipe_wipe]
    · have z : ∀ (τ : L2.St) (ws : List Nat), v ∉ ws → L2.wipe (τ.set v none) ws = (L2.wipe τ ws).set v none := by
        intro τ ws
        induction ws with
        | nil => intro _; rfl
        | cons w ws ih =>
          intro hw
          unfold L2.wipe
          rw [ih (fun m => hw (List.mem_cons_of_mem _ m)), List.set_comm _ _ (fun e => hw (by rw [e]; exact List.mem_cons_self))]
      rw [z _ vs q, List.set_set, wipe_wipe]

/-! ### what a reading gives -/
def EvP (p : Option Addr) (te : TE) (δ : List (Option Dt)) (P : Dt → Prop) : Prop := ∀ σ Hk H, Sto Hk σ δ → Kn Hk H → PoolOk p Hk H →
  ∀ Q : VK, (∀ v d Hk' H', Grow (fr p) Hk H Hk' H' → PoolOk p Hk' H' → P d → Rp Hk' v d → Q v H') → te σ H Q
abbrev EvD (p : Option Addr) (te : TE) (δ : List (Option Dt)) (d : Dt) : Prop := EvP p te δ (fun x => x = d)
def EvA (p : Option Addr) (ta : TA) (δ : List (Option Dt)) (P : List Dt → Prop) : Prop := ∀ σ Hk H, Sto Hk σ δ → Kn Hk H → PoolOk p Hk H →
  ∀ Q : List V → Hp → Prop, (∀ vs ds Hk' H', Grow (fr p) Hk H Hk' H' → PoolOk p Hk' H' → P ds → Rps Hk' vs ds → Q vs H') → ta σ H Q
abbrev EvAD (p : Option Addr) (ta : TA) (δ : List (Option Dt)) (ds : List Dt) : Prop := EvA p ta δ (fun x => x = ds)
def EvT (p : Option Addr) (tt : TT) (δ : List (Option Dt)) (P : Bool → Prop) : Prop := ∀ σ Hk H, Sto Hk σ δ → Kn Hk H → PoolOk p Hk H →
  ∀ Q : Bool → Hp → Prop, (∀ b Hk' H', Grow (fr p) Hk H Hk' H' → PoolOk p Hk' H' → P b → Q b H') → tt σ H Q
abbrev EvTD (p : Option Addr) (tt : TT) (δ : List (Option Dt)) (b : Bool) : Prop := EvT p tt δ (fun x => x = b)
/-- by values: an operator, a call -/
def RvP (p : Option Addr) (r : R2) (x y : Dt) (P : Dt → Prop) : Prop := ∀ u v Hk H, Rp Hk u x → Rp Hk v y → Kn Hk H → PoolOk p Hk H →
  ∀ Q : VK, (∀ v d Hk' H', Grow (fr p) Hk H Hk' H' → PoolOk p Hk' H' → P d → Rp Hk' v d → Q v H') → r u v H Q
abbrev RvD (p : Option Addr) (r : R2) (x y z : Dt) : Prop := RvP p r x y (fun d => d = z)
def RuD (p : Option Addr) (r : V → Hp → VK → Prop) (x z : Dt) : Prop := ∀ u Hk H, Rp Hk u x → Kn Hk H → PoolOk p Hk H →
  ∀ Q : VK, (∀ v Hk' H', Grow (fr p) Hk H Hk' H' → PoolOk p Hk' H' → Rp Hk' v z → Q v H') → r u H Q
def RcP (p : Option Addr) (r : List V → Hp → VK → Prop) (xs : List Dt) (P : Dt → Prop) : Prop := ∀ us Hk H, Rps Hk us xs → Kn Hk H → PoolOk p Hk H →
  ∀ Q : VK, (∀ v d Hk' H', Grow (fr p) Hk H Hk' H' → PoolOk p Hk' H' → P d → Rp Hk' v d → Q v H') → r us H Q
abbrev RcD (p : Option Addr) (r : List V → Hp → VK → Prop) (xs : List Dt) (z : Dt) : Prop := RcP p r xs (fun d => d = z)
section
variable {p : Option Addr} {δ : List (Option Dt)} {ta tb tc te : TE} {t u : TT} {x y z d : Dt} {P P' : Dt → Prop}
theorem EvP.imp (h : EvP p te δ P) (i : ∀ d, P d → P' d) : EvP p te δ P' := fun σ Hk H s k o Q q => h σ Hk H s k o Q fun v d Hk' H' g po pd r => q v d Hk' H' g po (i d pd) r
theorem EvD.eq (h : EvD p te δ x) (e : x = y) : EvD p te δ y := e ▸ h
theorem EvTD.eq {a b : Bool} (h : EvTD p t δ a) (e : a = b) : EvTD p t δ b := e ▸ h
theorem EvT.imp {B B' : Bool → Prop} (h : EvT p t δ B) (i : ∀ d, B d → B' d) : EvT p t δ B' := fun σ Hk H s k o Q q => h σ Hk H s k o Q fun b Hk' H' g po pd => q b Hk' H' g po (i b pd)
/-- no change -/
theorem nochg {Hk H : Hp} (k : Kn Hk H) (o : PoolOk p Hk H) {Q : VK} {v : V} (r : Rp Hk v d) (q : ∀ v d' Hk' H', Grow (fr p) Hk H Hk' H' → PoolOk p Hk' H' → d' = d → Rp Hk' v d' → Q v H') : Q v H := q v d Hk H (.refl k) o rfl r
theorem ev_var {i : Nat} (h : δ[i]? = some (some d)) : EvD p (tVar i) δ d := fun σ Hk H s k o Q q => by
  obtain ⟨v, h1, h2⟩ := s.2 i d h
  exact ⟨v, h1, nochg k o h2 q⟩
theorem ev_int {i : Int} : EvD p (tC (.int i)) δ (.int i) := fun σ Hk H s k o Q q => nochg k o (.int i) q
theorem ev_bl {i : Bool} : EvD p (tC (.bl i)) δ (.bl i) := fun σ Hk H s k o Q q => nochg k o (.bl i) q
theorem ev_str {i : Str} : EvD p (tC (.str i)) δ (.str i) := fun σ Hk H s k o Q q => nochg k o (.str i) q
theorem ev_non : EvD p (tC .non) δ .non := fun σ Hk H s k o Q q => nochg k o .non q
theorem ev_ty {n : String} : EvD p (tC (.ty n)) δ (.ty n) := fun σ Hk H s k o Q q => nochg k o (.ty n) q
/-- two, one behind the other -/
theorem evp_op {r : R2} {Pb : Dt → Dt → Prop} (ha : EvP p ta δ P) (hb : ∀ a, P a → EvP p tb δ (Pb a)) {R : Dt → Prop} (hr : ∀ a b, P a → Pb a b → RvP p r a b R) : EvP p (tOp r ta tb) δ R := fun σ Hk H s k o Q q =>
  ha σ Hk H s k o _ fun u a H1k H1 g1 o1 pa r1 => hb a pa σ H1k H1 (s.mono g1.kk) g1.kh o1 _ fun v b H2k H2 g2 o2 pb r2 =>
    hr a b pa pb u v H2k H2 (r1.mono g2.kk) r2 g2.kh o2 Q fun w c H3k H3 g3 o3 pc r3 => q w c H3k H3 ((g1.trans g2).trans g3) o3 pc r3
theorem ev_op {r : R2} (ha : EvD p ta δ x) (hb : EvD p tb δ y) (hr : RvD p r x y z) : EvD p (tOp r ta tb) δ z := evp_op ha (fun _ _ => hb) fun a b ea eb => by subst ea eb; exact hr
theorem ev_un {r : V → Hp → VK → Prop} (ha : EvD p ta δ x) (hr : RuD p r x z) : EvD p (tUn r ta) δ z := fun σ Hk H s k o Q q =>
  ha σ Hk H s k o _ fun u a H1k H1 g1 o1 pa r1 => by
    subst pa
    exact hr u H1k H1 r1 g1.kh o1 Q fun w H2k H2 g2 o2 r2 => q w z H2k H2 (g1.trans g2) o2 rfl r2
theorem ea_nil : EvAD p tNil δ [] := fun σ Hk H s k o Q q => q [] [] Hk H (.refl k) o rfl .nil
theorem eap_cons {tr : TA} {Pr : Dt → List Dt → Prop} {R : List Dt → Prop} (ha : EvP p ta δ P) (hr : ∀ a, P a → EvA p tr δ (Pr a)) (h : ∀ a as, P a → Pr a as → R (a :: as)) : EvA p (tCons ta tr) δ R := fun σ Hk H s k o Q q =>
  ha σ Hk H s k o _ fun u a H1k H1 g1 o1 pa r1 => hr a pa σ H1k H1 (s.mono g1.kk) g1.kh o1 _ fun us as H2k H2 g2 o2 pb r2 =>
    q (u :: us) (a :: as) H2k H2 (g1.trans g2) o2 (h a as pa pb) (.cons (r1.mono g2.kk) r2)
theorem ea_cons {tr : TA} {xs : List Dt} (ha : EvD p ta δ x) (hr : EvAD p tr δ xs) : EvAD p (tCons ta tr) δ (x :: xs) := eap_cons ha (fun _ _ => hr) fun a as e1 e2 => by rw [e1, e2]
/-- a new tuple, a new list -/
theorem newT {Hk H : Hp} {q : Addr} {vs : List V} {ds : List Dt} (k : Kn Hk H) (o : PoolOk p Hk H) (h : H q = none) (r : Rps Hk vs ds) : Grow (fr p) Hk H (upd Hk q (.tup vs)) (upd H q (.tup vs)) ∧ PoolOk p (upd Hk q (.tup vs)) (upd H q (.tup vs)) ∧ Rp (upd Hk q (.tup vs)) (.ref q) (.tup ds) :=
  ⟨.new k _ h, o.grow (.new k _ h), .tup upd_same (r.mono (Kn.upd (k.free h)))⟩
theorem newL {Hk H : Hp} {q : Addr} {vs : List V} {ds : List Dt} (k : Kn Hk H) (o : PoolOk p Hk H) (h : H q = none) (r : Rps Hk vs ds) : Grow (fr p) Hk H (upd Hk q (.lst vs)) (upd H q (.lst vs)) ∧ PoolOk p (upd Hk q (.lst vs)) (upd H q (.lst vs)) ∧ Rp (upd Hk q (.lst vs)) (.ref q) (.lst ds) :=
  ⟨.new k _ h, o.grow (.new k _ h), .lst upd_same (r.mono (Kn.upd (k.free h)))⟩
theorem szL {n : Nat} (h : n ≤ 100000) : n ≤ sizeLine := Nat.le_trans h (by decide)
theorem szl {n : Nat} (h : n < 100000) : n < sizeLine := Nat.lt_of_lt_of_le h (by decide)
theorem evp_tup {t : TA} {R : List Dt → Prop} (h : EvA p t δ R) (hl : ∀ xs, R xs → xs.length ≤ 100000) : EvP p (tTup t) δ (fun d => ∃ xs, R xs ∧ d = .tup xs) := fun σ Hk H s k o Q q =>
  h σ Hk H s k o _ fun vs ds H1k H1 g1 o1 pd r1 => ⟨by rw [r1.length]; exact szL (hl ds pd), fun a ha => by
    obtain ⟨g2, o2, r2⟩ := newT g1.kh o1 ha r1
    exact q _ _ _ _ (g1.trans g2) o2 ⟨ds, pd, rfl⟩ r2⟩
theorem evp_lst {t : TA} {R : List Dt → Prop} (h : EvA p t δ R) (hl : ∀ xs, R xs → xs.length ≤ 100000) : EvP p (tLst t) δ (fun d => ∃ xs, R xs ∧ d = .lst xs) := fun σ Hk H s k o Q q =>
  h σ Hk H s k o _ fun vs ds H1k H1 g1 o1 pd r1 => ⟨by rw [r1.length]; exact szL (hl ds pd), fun a ha => by
    obtain ⟨g2, o2, r2⟩ := newL g1.kh o1 ha r1
    exact q _ _ _ _ (g1.trans g2) o2 ⟨ds, pd, rfl⟩ r2⟩
theorem ev_tup {t : TA} {xs : List Dt} (h : EvAD p t δ xs) (hl : xs.length ≤ 100000 := by first | decide | (simp only [List.length_cons, List.length_nil]; omega) | assumption) : EvD p (tTup t) δ (.tup xs) := (evp_tup h fun _ e => by rw [e]; exact hl).imp fun d ⟨ys, e, e2⟩ => by rw [e2, e]
theorem ev_lst {t : TA} {xs : List Dt} (h : EvAD p t δ xs) (hl : xs.length ≤ 100000 := by first | decide | (simp only [List.length_cons, List.length_nil]; omega) | assumption) : EvD p (tLst t) δ (.lst xs) := (evp_lst h fun _ e => by rw [e]; exact hl).imp fun d ⟨ys, e, e2⟩ => by rw [e2, e]
/-- a built-in called -/
theorem evp_cb {r : List V → Hp → VK → Prop} {t : TA} {R : List Dt → Prop} (h : EvA p t δ R) (hr : ∀ xs, R xs → RcP p r xs P) : EvP p (tCB r t) δ P := fun σ Hk H s k o Q q =>
  h σ Hk H s k o _ fun vs ds H1k H1 g1 o1 pd r1 => hr ds pd vs H1k H1 r1 g1.kh o1 Q fun v d H2k H2 g2 o2 p2 r2 => q v d H2k H2 (g1.trans g2) o2 p2 r2
theorem ev_cb {r : List V → Hp → VK → Prop} {t : TA} {xs : List Dt} (h : EvAD p t δ xs) (hr : RcD p r xs z) : EvD p (tCB r t) δ z := evp_cb h fun ys e => by rw [e]; exact hr
/-- and, or, not; if .. else .. -/
theorem ev_and {a b : Bool} (h1 : EvD p ta δ (.bl a)) (h2 : a = true → EvD p tb δ (.bl b)) : EvD p (tAndV ta tb) δ (.bl (a && b)) := fun σ Hk H s k o Q q =>
  h1 σ Hk H s k o _ fun v d H1k H1 g1 o1 e r => by
    subst e
    cases r
    refine ⟨a, rfl, ?_⟩
    cases a with
    | true => exact h2 rfl σ H1k H1 (s.mono g1.kk) g1.kh o1 Q fun w e H2k H2 g2 o2 e2 r2 => q w e H2k H2 (g1.trans g2) o2 e2 r2
    | false => exact q _ _ H1k H1 g1 o1 rfl (.bl false)
theorem ev_or {a b : Bool} (h1 : EvD p ta δ (.bl a)) (h2 : a = false → EvD p tb δ (.bl b)) : EvD p (tOrV ta tb) δ (.bl (a || b)) := fun σ Hk H s k o Q q =>
  h1 σ Hk H s k o _ fun v d H1k H1 g1 o1 e r => by
    subst e
    cases r
    refine ⟨a, rfl, ?_⟩
    cases a with
    | false => exact h2 rfl σ H1k H1 (s.mono g1.kk) g1.kh o1 Q fun w e H2k H2 g2 o2 e2 r2 => q w e H2k H2 (g1.trans g2) o2 e2 r2
    | true => exact q _ _ H1k H1 g1 o1 rfl (.bl true)
theorem ev_not {a : Bool} (h1 : EvD p ta δ (.bl a)) : EvD p (tNotV ta) δ (.bl (!a)) := fun σ Hk H s k o Q q =>
  h1 σ Hk H s k o _ fun v d H1k H1 g1 o1 e r => by
    subst e
    cases r
    exact ⟨a, rfl, q _ _ H1k H1 g1 o1 rfl (.bl _)⟩
theorem et_val {b : Bool} (h : EvD p te δ (.bl b)) : EvTD p (tB te) δ b := fun σ Hk H s k o Q q => h σ Hk H s k o _ fun v d H1k H1 g1 o1 e r => by
  subst e
  cases r
  exact ⟨b, rfl, q b H1k H1 g1 o1 rfl⟩
theorem et_test {b : Bool} (h : EvD p te δ (.bl b)) : EvTD p (tTest te) δ b := et_val h
theorem etp_test {B : Bool → Prop} (h : EvP p te δ fun d => ∃ b, B b ∧ d = .bl b) : EvT p (tTest te) δ B := fun σ Hk H s k o Q q => h σ Hk H s k o _ fun v d H1k H1 g1 o1 e r => by
  obtain ⟨b, hb, rfl⟩ := e
  cases r
  exact ⟨b, rfl, q b H1k H1 g1 o1 hb⟩
theorem et_and {a b : Bool} (h1 : EvTD p t δ a) (h2 : a = true → EvTD p u δ b) : EvTD p (tAnd t u) δ (a && b) := fun σ Hk H s k o Q q => h1 σ Hk H s k o _ fun c H1k H1 g1 o1 e => by
  subst e
  cases c with
  | true => exact h2 rfl σ H1k H1 (s.mono g1.kk) g1.kh o1 Q fun c H2k H2 g2 o2 e2 => q c H2k H2 (g1.trans g2) o2 e2
  | false => exact q false H1k H1 g1 o1 rfl
theorem et_or {a b : Bool} (h1 : EvTD p t δ a) (h2 : a = false → EvTD p u δ b) : EvTD p (tOr t u) δ (a || b) := fun σ Hk H s k o Q q => h1 σ Hk H s k o _ fun c H1k H1 g1 o1 e => by
  subst e
  cases c with
  | false => exact h2 rfl σ H1k H1 (s.mono g1.kk) g1.kh o1 Q fun c H2k H2 g2 o2 e2 => q c H2k H2 (g1.trans g2) o2 e2
  | true => exact q true H1k H1 g1 o1 rfl
theorem et_not {a : Bool} (h : EvTD p t δ a) : EvTD p (tNot t) δ (!a) := fun σ Hk H s k o Q q => h σ Hk H s k o _ fun c H1k H1 g1 o1 e => q _ H1k H1 g1 o1 (by rw [e])
theorem et_yes : EvTD p tYes δ true := fun σ Hk H s k o Q q => q true Hk H (.refl k) o rfl
theorem evp_if {B : Bool → Prop} (h : EvT p t δ B) (h1 : B true → EvP p ta δ P) (h2 : B false → EvP p tb δ P) : EvP p (tIf t ta tb) δ P := fun σ Hk H s k o Q q => h σ Hk H s k o _ fun c H1k H1 g1 o1 e => by
  cases c with
  | true => exact h1 e σ H1k H1 (s.mono g1.kk) g1.kh o1 Q fun w e H2k H2 g2 o2 e2 r2 => q w e H2k H2 (g1.trans g2) o2 e2 r2
  | false => exact h2 e σ H1k H1 (s.mono g1.kk) g1.kh o1 Q fun w e H2k H2 g2 o2 e2 r2 => q w e H2k H2 (g1.trans g2) o2 e2 r2
theorem ev_if {b : Bool} (h : EvTD p t δ b) (h1 : b = true → EvD p ta δ x) (h2 : b = false → EvD p tb δ y) : EvD p (tIf t ta tb) δ (if b then x else y) := by
  refine evp_if h (fun e => ?_) (fun e => ?_)
  · subst e; exact h1 rfl
  · subst e; exact h2 rfl
/-- truth of a value -/
def truD : Dt → Option Bool
  | .non => some false
  | .bl b => some b
  | .int i => some (i != 0)
  | .lst xs => some (!xs.isEmpty)
  | .tup xs => some (!xs.isEmpty)
  | .dk ks => some (!ks.isEmpty)
  | _ => none
/-- a < b < c -/
theorem ev_chain {r r' : R2} {a b : Bool} (ha : EvD p ta δ x) (hb : EvD p tb δ y) (hr : RvD p r x y (.bl a)) (hc : a = true → EvD p tc δ z) (hr' : a = true → RvD p r' y z (.bl b)) : EvD p (tChain r r' ta tb tc) δ (.bl (a && b)) := fun σ Hk H s k o Q q =>
  ha σ Hk H s k o _ fun u xx H1k H1 g1 o1 e1 r1 => hb σ H1k H1 (s.mono g1.kk) g1.kh o1 _ fun v yy H2k H2 g2 o2 e2 r2 => by
    subst e1 e2
    refine hr u v H2k H2 (r1.mono g2.kk) r2 g2.kh o2 _ fun w cc H3k H3 g3 o3 e3 r3 => ?_
    subst e3
    cases r3
    refine ⟨a, rfl, ?_⟩
    cases a with
    | false => exact q _ _ H3k H3 ((g1.trans g2).trans g3) o3 rfl (.bl false)
    | true =>
      have G := (g1.trans g2).trans g3
      refine hc rfl σ H3k H3 (s.mono G.kk) G.kh o3 _ fun w4 zz H4k H4 g4 o4 e4 r4 => ?_
      subst e4
      exact hr' rfl v w4 H4k H4 (r2.mono fun a o e => g4.kk a o (g3.kk a o e)) r4 g4.kh o4 Q fun w5 c5 H5k H5 g5 o5 e5 r5 => q w5 c5 H5k H5 ((G.trans g4).trans g5) o5 e5 r5
theorem et_B {b : Bool} (h : EvD p te δ (.bl b)) : EvTD p (tB te) δ b := et_val h
end
end Ab
end

section
set_option Elab.async false
set_option linter.all false
set_option maxRecDepth 100000
set_option maxHeartbeats 4000000
namespace Ab
open PySem L2
/-! ### pairs: keys as they are, values by their data -/
inductive KRp {κ : Type} (H : Hp) : List (κ × V) → List (κ × Dt) → Prop
  | nil : KRp H [] []
  | cons {k : κ} {v : V} {d : Dt} {kvs : List (κ × V)} {ks : List (κ × Dt)} : Rp H v d → KRp H kvs ks → KRp H ((k, v) :: kvs) ((k, d) :: ks)
section
variable {κ : Type}
theorem KRp.of {H : Hp} : ∀ {kvs : List (κ × V)} {ks : List (κ × Dt)}, kvs.map (·.1) = ks.map (·.1) → Rps H (kvs.map (·.2)) (ks.map (·.2)) → KRp H kvs ks
  | [], [], _, _ => .nil
  | [], _ :: _, e, _ => by simp at e
  | _ :: _, [], e, _ => by simp at e
  | (k, v) :: kvs, (j, d) :: ks, e, r => by
    simp only [List.map_cons, List.cons.injEq] at e
    obtain ⟨e1, e2⟩ := e
    subst e1
    cases r with
    | cons a b => exact .cons a (KRp.of e2 b)
theorem KRp.keys {H : Hp} {kvs : List (κ × V)} {ks : List (κ × Dt)} (r : KRp H kvs ks) : kvs.map (·.1) = ks.map (·.1) := by
  induction r with
  | nil => rfl
  | cons a b ih => rw [List.map_cons, List.map_cons, ih]
theorem KRp.vals {H : Hp} {kvs : List (κ × V)} {ks : List (κ × Dt)} (r : KRp H kvs ks) : Rps H (kvs.map (·.2)) (ks.map (·.2)) := by
  induction r with
  | nil => exact .nil
  | cons a b ih => exact .cons a ih
theorem KRp.mono {H H' : Hp} (k : Kn H H') {kvs : List (κ × V)} {ks : List (κ × Dt)} (r : KRp H kvs ks) : KRp H' kvs ks := by
  induction r with
  | nil => exact .nil
  | cons a b ih => exact .cons (a.mono k) ih
theorem KRp.length {H : Hp} {kvs : List (κ × V)} {ks : List (κ × Dt)} (r : KRp H kvs ks) : kvs.length = ks.length := by
  have := congrArg List.length r.keys
  simpa using this
variable [DecidableEq κ]
/-- what stands at a key -/
def lkG {β : Type} (ks : List (κ × β)) (k : κ) : Option β := (ks.find? fun kv => decide (kv.1 = k)).map (·.2)
def putG {β : Type} (ks : List (κ × β)) (k : κ) (v : β) : List (κ × β) := if (ks.any fun kv => decide (kv.1 = k)) = true then ks.map (fun kv => if kv.1 = k then (kv.1, v) else kv) else ks ++ [(k, v)]
theorem lkG_nil {β : Type} (k : κ) : lkG ([] : List (κ × β)) k = none := rfl
theorem lkG_cons {β : Type} (q : κ × β) (ks : List (κ × β)) (k : κ) : lkG (q :: ks) k = if q.1 = k then some q.2 else lkG ks k := by
  unfold lkG
  rw [List.find?_cons]
  by_cases e : q.1 = k
  · simp [e]
  · simp [e]
theorem KRp.get {H : Hp} {kvs : List (κ × V)} {ks : List (κ × Dt)} (r : KRp H kvs ks) (k : κ) : (∀ d, lkG ks k = some d → ∃ v, valV kvs k = some v ∧ Rp H v d) ∧ (lkG ks k = none → valV kvs k = none) := by
  induction r with
  | nil => exact ⟨fun d e => by simp [lkG_nil] at e, fun _ => rfl⟩
  | @cons j v d kvs ks a b ih =>
    by_cases e : j = k
    · rw [lkG_cons, if_pos e, valV_pos (p := (j, v)) e]
      exact ⟨fun d' q => by cases q; exact ⟨v, rfl, a⟩, fun q => nomatch q⟩
    · rw [lkG_cons, if_neg e, valV_neg (p := (j, v)) e]
      exact ih
theorem KRp.any {H : Hp} {kvs : List (κ × V)} {ks : List (κ × Dt)} (r : KRp H kvs ks) (k : κ) : (kvs.any fun kv => decide (kv.1 = k)) = (ks.any fun kv => decide (kv.1 = k)) := by
  induction r with
  | nil => rfl
  | cons a b ih => rw [List.any_cons, List.any_cons, ih]
theorem KRp.snoc {H : Hp} {kvs : List (κ × V)} {ks : List (κ × Dt)} (r : KRp H kvs ks) {k : κ} {v : V} {d : Dt} (h : Rp H v d) : KRp H (kvs ++ [(k, v)]) (ks ++ [(k, d)]) := by
  induction r with
  | nil => exact .cons h .nil
  | cons a b ih => exact .cons a ih
theorem KRp.mapPut {H : Hp} {kvs : List (κ × V)} {ks : List (κ × Dt)} (r : KRp H kvs ks) {k : κ} {v : V} {d : Dt} (h : Rp H v d) : KRp H (kvs.map fun kv => if kv.1 = k then (kv.1, v) else kv) (ks.map fun kv => if kv.1 = k then (kv.1, d) else kv) := by
  induction r with
  | nil => exact .nil
  | @cons j u e kvs ks a b ih =>
    rw [List.map_cons, List.map_cons]
    by_cases q : j = k
    · simp only [q, if_true]
      exact .cons h ih
    · simp only [q, if_false]
      exact .cons a ih
theorem KRp.put {H : Hp} {kvs : List (κ × V)} {ks : List (κ × Dt)} (r : KRp H kvs ks) {k : κ} {v : V} {d : Dt} (h : Rp H v d) : KRp H (putK kvs k v) (putG ks k d) := by
  unfold putK putG
  rw [r.any k]
  split
  · exact r.mapPut h
  · exact r.snoc h
theorem putG_len {β : Type} (ks : List (κ × β)) (k : κ) (v : β) : (putG ks k v).length ≤ ks.length + 1 := by
  unfold putG
  split <;> simp
end
theorem Rp.dk' {H : Hp} {a : Addr} {kvs : List (Key × V)} {ks : List (Key × Dt)} (e : H a = some (.dK kvs)) (r : KRp H kvs ks) : Rp H (.ref a) (.dk ks) := .dk e r.keys r.vals
theorem Rp.fk' {H : Hp} {a : Addr} {o : Obj} {kvs : List (Key × V)} {ks : List (Key × Dt)} (e : H a = some (.frz o (.dK kvs))) (r : KRp H kvs ks) : Rp H (.ref a) (.fk ks) := .fk e r.keys r.vals
theorem Rp.fk_inv {H : Hp} {v : V} {ks : List (Key × Dt)} (r : Rp H v (.fk ks)) : ∃ a o kvs, v = .ref a ∧ H a = some (.frz o (.dK kvs)) ∧ KRp H kvs ks := by
  cases r with
  | fk e e2 r => exact ⟨_, _, _, rfl, e, .of e2 r⟩
theorem Rp.dt' {H : Hp} {a : Addr} {kvs : List (List Key × V)} {ks : List (List Key × Dt)} (e : H a = some (.dT kvs)) (r : KRp H kvs ks) : Rp H (.ref a) (.dt ks) := .dt e r.keys r.vals
theorem Rp.ins' {H : Hp} {a C dx : Addr} {fs : List (Str × V)} {gs : List (Str × Dt)} (e : H a = some (.ins C dx fs)) (r : KRp H fs gs) : Rp H (.ref a) (.ins C gs) := .ins e r.keys r.vals
/-! ### inversions -/
theorem Rp.lst_inv {H : Hp} {v : V} {ds : List Dt} (r : Rp H v (.lst ds)) : ∃ a vs, v = .ref a ∧ H a = some (.lst vs) ∧ Rps H vs ds := by
  cases r with
  | lst e r => exact ⟨_, _, rfl, e, r⟩
theorem Rp.tup_inv {H : Hp} {v : V} {ds : List Dt} (r : Rp H v (.tup ds)) : ∃ a vs, v = .ref a ∧ H a = some (.tup vs) ∧ Rps H vs ds := by
  cases r with
  | tup e r => exact ⟨_, _, rfl, e, r⟩
theorem Rp.dk_inv {H : Hp} {v : V} {ks : List (Key × Dt)} (r : Rp H v (.dk ks)) : ∃ a kvs, v = .ref a ∧ H a = some (.dK kvs) ∧ KRp H kvs ks := by
  cases r with
  | dk e e2 r => exact ⟨_, _, rfl, e, .of e2 r⟩
theorem Rp.dt_inv {H : Hp} {v : V} {ks : List (List Key × Dt)} (r : Rp H v (.dt ks)) : ∃ a kvs, v = .ref a ∧ H a = some (.dT kvs) ∧ KRp H kvs ks := by
  cases r with
  | dt e e2 r => exact ⟨_, _, rfl, e, .of e2 r⟩
theorem Rp.ins_inv {H : Hp} {v : V} {C : Addr} {gs : List (Str × Dt)} (r : Rp H v (.ins C gs)) : ∃ a dx fs, v = .ref a ∧ H a = some (.ins C dx fs) ∧ KRp H fs gs := by
  cases r with
  | ins e e2 r => exact ⟨_, _, _, rfl, e, .of e2 r⟩
/-- a list; a tuple; a tuple that is known to have no dict -/
inductive Sq where
  | l | t | f
def seqD (t : Sq) (ds : List Dt) : Dt := match t with
  | .l => .lst ds
  | .t => .tup ds
  | .f => .ft ds
theorem Rp.ft_inv {H : Hp} {v : V} {ds : List Dt} (r : Rp H v (.ft ds)) : ∃ a vs o, v = .ref a ∧ o.dict = none ∧ H a = some (.frz o (.tup vs)) ∧ Rps H vs ds := by
  cases r with
  | ft h e r => exact ⟨_, _, _, rfl, h, e, r⟩
theorem seq_sq {K : PySem.W.Frag} {H H' : Hp} (k : Kn H H') {v : V} {t : Sq} {ds : List Dt} (r : Rp H v (seqD t ds)) : ∃ a vs, v = .ref a ∧ Rps H vs ds ∧ ((t = .l ∧ H a = some (.lst vs) ∧ SqL K H' a vs) ∨ (t ≠ .l ∧ Rd H a (.tup vs) ∧ SqT K H' a vs)) := by
  cases t with
  | l =>
    obtain ⟨a, vs, e1, e2, r⟩ := Rp.lst_inv r
    exact ⟨a, vs, e1, r, .inl ⟨rfl, e2, .inl (.inl (k _ _ e2))⟩⟩
  | t =>
    obtain ⟨a, vs, e1, e2, r⟩ := Rp.tup_inv r
    exact ⟨a, vs, e1, r, .inr ⟨(fun z => nomatch z), .inl e2, .inl (.inl (k _ _ e2))⟩⟩
  | f =>
    obtain ⟨a, vs, o, e1, _, e2, r⟩ := Rp.ft_inv r
    exact ⟨a, vs, e1, r, .inr ⟨(fun z => nomatch z), .inr ⟨o, e2⟩, .inl (.inr ⟨o, k _ _ e2⟩)⟩⟩
theorem seq_any {K : PySem.W.Frag} {H H' : Hp} (k : Kn H H') {v : V} {t : Sq} {ds : List Dt} (r : Rp H v (seqD t ds)) : ∃ a vs, v = .ref a ∧ Rps H vs ds ∧ (SqL K H' a vs ∨ SqT K H' a vs) := by
  obtain ⟨a, vs, e, r, h⟩ := seq_sq (K := K) k r
  exact ⟨a, vs, e, r, h.elim (fun z => .inl z.2.2) fun z => .inr z.2.2⟩

/-! ### operators on values -/
section
variable {p : Option Addr} {K : PySem.W.Frag}
theorem rvd {r : R2} {x y z : Dt} (h : ∀ u v Hk H, Rp Hk u x → Rp Hk v y → Kn Hk H → ∀ Q : VK, (∀ w, Rp Hk w z → Q w H) → r u v H Q) : RvD p r x y z := fun u v Hk H r1 r2 k o Q q => h u v Hk H r1 r2 k Q fun w rw => q w z Hk H (.refl k) o rfl rw
theorem rv_I0i {g : Int → Int → Int} {i j : Int} : RvD p (rI0 fun i j => .int (g i j)) (.int i) (.int j) (.int (g i j)) := rvd fun u v Hk H r1 r2 k Q q => by cases r1; cases r2; exact ⟨i, j, rfl, rfl, q _ (.int _)⟩
theorem rv_I0b {g : Int → Int → Bool} {i j : Int} : RvD p (rI0 fun i j => .bl (g i j)) (.int i) (.int j) (.bl (g i j)) := rvd fun u v Hk H r1 r2 k Q q => by cases r1; cases r2; exact ⟨i, j, rfl, rfl, q _ (.bl _)⟩
theorem rv_Ii {C : Int → Int → Prop} {g : Int → Int → Int} {i j : Int} (c : C i j) : RvD p (rI C fun i j => .int (g i j)) (.int i) (.int j) (.int (g i j)) := rvd fun u v Hk H r1 r2 k Q q => by cases r1; cases r2; exact ⟨i, j, rfl, rfl, c, q _ (.int _)⟩
theorem rv_eqI {i j : Int} : RvD p rEq (.int i) (.int j) (.bl (decide (i = j))) := rvd fun u v Hk H r1 r2 k Q q => by cases r1; cases r2; exact ⟨rfl, q _ (by rw [show decide (V.int i = V.int j) = decide (i = j) from by simp]; exact .bl _)⟩
theorem rv_eqS {i j : Str} : RvD p rEq (.str i) (.str j) (.bl (decide (i = j))) := rvd fun u v Hk H r1 r2 k Q q => by cases r1; cases r2; exact ⟨rfl, q _ (by rw [show decide (V.str i = V.str j) = decide (i = j) from by simp]; exact .bl _)⟩
theorem rv_eqB {i j : Bool} : RvD p rEq (.bl i) (.bl j) (.bl (decide (i = j))) := rvd fun u v Hk H r1 r2 k Q q => by cases r1; cases r2; exact ⟨rfl, q _ (by rw [show decide (V.bl i = V.bl j) = decide (i = j) from by simp]; exact .bl _)⟩
theorem rv_neI {i j : Int} : RvD p rNe (.int i) (.int j) (.bl (!decide (i = j))) := rvd fun u v Hk H r1 r2 k Q q => by cases r1; cases r2; exact ⟨rfl, q _ (by rw [show decide (V.int i = V.int j) = decide (i = j) from by simp]; exact .bl _)⟩
theorem rv_neS {i j : Str} : RvD p rNe (.str i) (.str j) (.bl (!decide (i = j))) := rvd fun u v Hk H r1 r2 k Q q => by cases r1; cases r2; exact ⟨rfl, q _ (by rw [show decide (V.str i = V.str j) = decide (i = j) from by simp]; exact .bl _)⟩
theorem rv_isN {d : Dt} {b : Bool} (hb : (match d with | .non => true | _ => false) = b) : RvD p (fun x y H Q => y = .non ∧ Q (.bl (decide (x = .non))) H) d .non (.bl b) := rvd fun u v Hk H r1 r2 k Q q => by
  cases r2
  subst hb
  refine ⟨rfl, q _ ?_⟩
  cases r1 <;> first | exact .bl true | exact .bl false
theorem rv_notN {d : Dt} {b : Bool} (hb : (match d with | .non => false | _ => true) = b) : RvD p (fun x y H Q => y = .non ∧ Q (.bl (!decide (x = .non))) H) d .non (.bl b) := rvd fun u v Hk H r1 r2 k Q q => by
  cases r2
  subst hb
  refine ⟨rfl, q _ ?_⟩
  cases r1 <;> first | exact .bl true | exact .bl false
theorem inV_strs (s : Str) : ∀ ss : List Str, inV (.str s) (ss.map V.str) = decide (s ∈ ss)
  | [] => by simp [inV]
  | t :: ss => by
    have ih := inV_strs s ss
    unfold inV at ih ⊢
    rw [List.map_cons, List.any_cons, ih]
    have e : eqV (V.str t) (V.str s) = decide (s = t) := by
      show (t == s) = decide (s = t)
      by_cases z : s = t
      · subst z; simp
      · rw [decide_eq_false z]
        exact beq_eq_false_iff_ne.mpr (Ne.symm z)
    rw [e]
    simp [List.mem_cons, Bool.decide_or]
theorem inV_ints (s : Int) : ∀ ss : List Int, inV (.int s) (ss.map V.int) = decide (s ∈ ss)
  | [] => by simp [inV]
  | t :: ss => by
    have ih := inV_ints s ss
    unfold inV at ih ⊢
    rw [List.map_cons, List.any_cons, ih]
    have e : eqV (V.int t) (V.int s) = decide (s = t) := by
      show (t == s) = decide (s = t)
      by_cases z : s = t
      · subst z; simp
      · rw [decide_eq_false z]
        exact beq_eq_false_iff_ne.mpr (Ne.symm z)
    rw [e]
    simp [List.mem_cons, Bool.decide_or]
theorem flat_strs : ∀ ss : List Str, (ss.map V.str).all flatV = true
  | [] => rfl
  | s :: ss => by rw [List.map_cons, List.all_cons, flat_strs ss]; rfl
theorem flat_ints : ∀ ss : List Int, (ss.map V.int).all flatV = true
  | [] => rfl
  | s :: ss => by rw [List.map_cons, List.all_cons, flat_ints ss]; rfl
theorem rv_inS {t : Sq} {s : Str} {ss : List Str} : RvD p (rIn K false) (.str s) (seqD t (ss.map Dt.str)) (.bl (decide (s ∈ ss))) := rvd fun u v Hk H r1 r2 k Q q => by
  cases r1
  obtain ⟨a, vs, e, r, h⟩ := seq_any (K := K) k r2
  have := r.strs
  subst this
  exact ⟨a, _, e, h, rfl, flat_strs ss, q _ (by show Rp Hk (.bl (if false = true then !inV (.str s) (ss.map V.str) else inV (.str s) (ss.map V.str))) _; rw [if_neg Bool.false_ne_true, inV_strs]; exact .bl _)⟩
theorem rv_ninS {t : Sq} {s : Str} {ss : List Str} : RvD p (rIn K true) (.str s) (seqD t (ss.map Dt.str)) (.bl (!decide (s ∈ ss))) := rvd fun u v Hk H r1 r2 k Q q => by
  cases r1
  obtain ⟨a, vs, e, r, h⟩ := seq_any (K := K) k r2
  have := r.strs
  subst this
  exact ⟨a, _, e, h, rfl, flat_strs ss, q _ (by show Rp Hk (.bl (if true = true then !inV (.str s) (ss.map V.str) else inV (.str s) (ss.map V.str))) _; rw [if_pos rfl, inV_strs]; exact .bl _)⟩
theorem rv_inI {t : Sq} {s : Int} {ss : List Int} : RvD p (rIn K false) (.int s) (seqD t (ss.map Dt.int)) (.bl (decide (s ∈ ss))) := rvd fun u v Hk H r1 r2 k Q q => by
  cases r1
  obtain ⟨a, vs, e, r, h⟩ := seq_any (K := K) k r2
  have := r.ints
  subst this
  exact ⟨a, _, e, h, rfl, flat_ints ss, q _ (by show Rp Hk (.bl (if false = true then !inV (.int s) (ss.map V.int) else inV (.int s) (ss.map V.int))) _; rw [if_neg Bool.false_ne_true, inV_ints]; exact .bl _)⟩
theorem rv_ninI {t : Sq} {s : Int} {ss : List Int} : RvD p (rIn K true) (.int s) (seqD t (ss.map Dt.int)) (.bl (!decide (s ∈ ss))) := rvd fun u v Hk H r1 r2 k Q q => by
  cases r1
  obtain ⟨a, vs, e, r, h⟩ := seq_any (K := K) k r2
  have := r.ints
  subst this
  exact ⟨a, _, e, h, rfl, flat_ints ss, q _ (by show Rp Hk (.bl (if true = true then !inV (.int s) (ss.map V.int) else inV (.int s) (ss.map V.int))) _; rw [if_pos rfl, inV_ints]; exact .bl _)⟩
/-- an item -/
theorem atI_rps {H : Hp} {vs : List V} {ds : List Dt} {i : Int} {d : Dt} (r : Rps H vs ds) (h : atI ds i = some d) : ∃ v, atI vs i = some v ∧ Rp H v d := by
  unfold atI at h ⊢
  rw [r.length]
  cases e : ixN ds.length i with
  | none => rw [e] at h; cases h
  | some j =>
    rw [e] at h
    exact r.get (i := j) h
theorem rv_ix {t : Sq} {ds : List Dt} {i : Int} {d : Dt} (h : atI ds i = some d) : RvD p (rIx K) (seqD t ds) (.int i) d := rvd fun u v Hk H r1 r2 k Q q => by
  cases r2
  obtain ⟨a, vs, e, r, hs⟩ := seq_any (K := K) k r1
  obtain ⟨w, h1, h2⟩ := atI_rps r h
  rcases hs with hs | hs
  · exact .inl ⟨a, vs, i, w, e, rfl, hs, h1, q w h2⟩
  · exact .inr (.inl ⟨a, vs, i, w, e, rfl, hs, h1, q w h2⟩)
/-- tuple + tuple, list + list, list * int -/
theorem rv_catT {xs ys : List Dt} (hl : xs.length + ys.length ≤ 100000) : RvD p (rCatA K) (.tup xs) (.tup ys) (.tup (xs ++ ys)) := fun u v Hk H r1 r2 k o Q q => by
  obtain ⟨a, vs, e1, h1, s1⟩ := r1.tup_inv
  obtain ⟨b, ws, e2, h2, s2⟩ := r2.tup_inv
  subst e1 e2
  refine ⟨a, b, vs, ws, rfl, rfl, .inl (.inl (k _ _ h1)), .inl (.inl (k _ _ h2)), by rw [s1.length, s2.length]; exact szL hl, fun e => ?_, fun _ e => ?_, fun _ _ c hc => ?_⟩
  · subst e
    cases s1
    exact q _ _ Hk H (.refl k) o rfl (.tup h2 s2)
  · subst e
    cases s2
    exact q _ _ Hk H (.refl k) o rfl (by rw [List.append_nil]; exact .tup h1 s1)
  · obtain ⟨g, o', r⟩ := newT (p := p) k o hc (s1.append s2)
    exact q _ _ _ _ g o' rfl r
theorem rv_catL {xs ys : List Dt} (hl : xs.length + ys.length ≤ 100000) : RvD p rCat (.lst xs) (.lst ys) (.lst (xs ++ ys)) := fun u v Hk H r1 r2 k o Q q => by
  obtain ⟨a, vs, e1, h1, s1⟩ := r1.lst_inv
  obtain ⟨b, ws, e2, h2, s2⟩ := r2.lst_inv
  subst e1 e2
  refine ⟨a, b, vs, ws, rfl, rfl, k _ _ h1, k _ _ h2, by rw [s1.length, s2.length]; exact szL hl, fun c hc => ?_⟩
  obtain ⟨g, o', r⟩ := newL (p := p) k o hc (s1.append s2)
  exact q _ _ _ _ g o' rfl r
theorem Rps.rep {H : Hp} {vs : List V} {ds : List Dt} (r : Rps H vs ds) : ∀ n : Nat, Rps H (List.replicate n vs).flatten (List.replicate n ds).flatten
  | 0 => .nil
  | n + 1 => by
    rw [List.replicate_succ, List.replicate_succ, List.flatten_cons, List.flatten_cons]
    exact r.append (Rps.rep r n)
theorem rv_repL {xs : List Dt} {n : Int} (h0 : 0 ≤ n) (h1 : n < 1000) (hl : xs.length < 1000) : RvD p rRep (.lst xs) (.int n) (.lst (List.replicate n.toNat xs).flatten) := fun u v Hk H r1 r2 k o Q q => by
  obtain ⟨a, vs, e1, h1', s1⟩ := r1.lst_inv
  subst e1
  cases r2
  refine ⟨a, n, vs, rfl, rfl, k _ _ h1', by omega, by omega, ?_, fun c hc => ?_⟩
  · rw [s1.length]
    have : xs.length * n.toNat ≤ 1000 * 1000 := Nat.mul_le_mul (by omega) (by omega)
    exact Nat.le_trans this (by decide)
  · obtain ⟨g, o', r⟩ := newL (p := p) k o hc (s1.rep n.toNat)
    exact q _ _ _ _ g o' rfl r
/-- one sign in a text -/
theorem rv_sign {c : Nat} {z : Str} : RvD p (fun x y H Q => ∃ (c : Nat) (z : Str), x = .str ⟨#[c]⟩ ∧ y = .str z ∧ Q (.bl (decide (c ∈ z.cps.toList))) H) (.str ⟨#[c]⟩) (.str z) (.bl (decide (c ∈ z.cps.toList))) := rvd fun u v Hk H r1 r2 k Q q => by
  cases r1; cases r2
  exact ⟨c, z, rfl, rfl, q _ (.bl _)⟩
/-! ### dicts read -/
/-- a key as data -/
def keyD : Dt → Option Key
  | .int i => some (.inl i)
  | .str s => some (.inr s)
  | _ => none
theorem keyD_kV {H : Hp} {v : V} {d : Dt} {k : Key} (r : Rp H v d) (e : keyD d = some k) : v = kV k := by
  cases r <;> first | (cases e; rfl) | cases e
def keysD : List Dt → Option (List Key)
  | [] => some []
  | d :: ds => match keyD d, keysD ds with
    | some k, some ks => some (k :: ks)
    | _, _ => none
theorem keysD_kV {H : Hp} : ∀ {vs : List V} {ds : List Dt} {ks : List Key}, Rps H vs ds → keysD ds = some ks → vs = ks.map kV
  | [], [], ks, .nil, e => by cases e; rfl
  | v :: vs, d :: ds, ks, .cons a b, e => by
    unfold keysD at e
    cases e1 : keyD d with
    | none => rw [e1] at e; cases e
    | some k =>
      cases e2 : keysD ds with
      | none => rw [e1, e2] at e; cases e
      | some ks' =>
        rw [e1, e2] at e
        cases e
        rw [keyD_kV a e1, keysD_kV b e2]
        rfl
/-- what a dict holds at a key -/
def getD? : Dt → Dt → Option (Option Dt)
  | .dk ks, y => (keyD y).map fun k => lkG ks k
  | .dt ks, .tup ys => (keysD ys).map fun k => lkG ks k
  | _, _ => none
theorem dget_of {Hk H : Hp} {v y : V} {d e : Dt} {r : Option Dt} (rd : Rp Hk v d) (re : Rp Hk y e) (k : Kn Hk H) (h : getD? d e = some r) : ∃ a o, v = .ref a ∧ DGet H a y o ∧ IsD H a ∧ (∀ x, r = some x → ∃ w, o = some w ∧ Rp Hk w x) ∧ (r = none → o = none) := by
  cases rd with
  | @dk a kvs ks e1 e2 r1 =>
    unfold getD? at h
    obtain ⟨key, h1, h2⟩ := Option.map_eq_some_iff.mp h
    have := keyD_kV re h1
    subst this
    obtain ⟨g1, g2⟩ := (KRp.of e2 r1).get key
    rw [h2] at g1 g2
    exact ⟨a, valV kvs key, rfl, .k (k _ _ e1), .inl ⟨_, .inl (k _ _ e1)⟩, fun x e => g1 x e, g2⟩
  | @dt a kvs ks e1 e2 r1 =>
    cases re with
    | @tup b vs ys e3 r3 =>
      unfold getD? at h
      obtain ⟨key, h1, h2⟩ := Option.map_eq_some_iff.mp h
      have := keysD_kV r3 h1
      subst this
      obtain ⟨g1, g2⟩ := (KRp.of e2 r1).get key
      rw [h2] at g1 g2
      exact ⟨a, valV kvs key, rfl, .t (k _ _ e1) (k _ _ e3), .inr ⟨_, .inl (k _ _ e1)⟩, fun x e => g1 x e, g2⟩
    | _ => cases h
  | _ => cases re <;> cases h
section
variable {δ : List (Option Dt)} {td ty tx te : TE} {d e x z : Dt}
theorem ev_dget (hd : EvD p td δ d) (hy : EvD p ty δ e) (h : getD? d e = some (some x)) : EvD p (tDGet td ty) δ x := fun σ Hk H s k o Q q =>
  hd σ Hk H s k o _ fun u a H1k H1 g1 o1 e1 r1 => hy σ H1k H1 (s.mono g1.kk) g1.kh o1 _ fun v b H2k H2 g2 o2 e2 r2 => by
    subst e1 e2
    obtain ⟨ad, ov, h1, h2, _, h3, _⟩ := dget_of (r1.mono g2.kk) r2 g2.kh h
    obtain ⟨w, hw, rw'⟩ := h3 x rfl
    subst hw
    exact ⟨ad, w, h1, h2, q w x H2k H2 (g1.trans g2) o2 rfl rw'⟩
theorem ev_dget2 {r : Option Dt} (hd : EvD p td δ d) (hy : EvD p ty δ e) (hx : EvD p tx δ z) (h : getD? d e = some r) : EvD p (tDGet2 td ty tx) δ (r.getD z) := fun σ Hk H s k o Q q =>
  hd σ Hk H s k o _ fun u a H1k H1 g1 o1 e1 r1 => by
    subst e1
    have hI : ∃ ad, u = .ref ad ∧ IsD H1 ad := by
      cases r1 with
      | dk e1 e2 r => exact ⟨_, rfl, .inl ⟨_, .inl (g1.kh _ _ e1)⟩⟩
      | dt e1 e2 r => exact ⟨_, rfl, .inr ⟨_, .inl (g1.kh _ _ e1)⟩⟩
      | _ => cases e <;> cases h
    obtain ⟨ad, eu, hI⟩ := hI
    refine ⟨ad, eu, hI, hy σ H1k H1 (s.mono g1.kk) g1.kh o1 _ fun v b H2k H2 g2 o2 e2 r2 => ?_⟩
    refine hx σ H2k H2 (s.mono (g1.trans g2).kk) g2.kh o2 _ fun w c H3k H3 g3 o3 e3 r3 => ?_
    subst e2 e3
    obtain ⟨ad', ov, h1, h2, _, h3, h4⟩ := dget_of ((r1.mono g2.kk).mono g3.kk) (r2.mono g3.kk) g3.kh h
    rw [eu] at h1
    cases h1
    refine ⟨ov, h2, ?_⟩
    cases r with
    | none => rw [h4 rfl]; exact q w _ H3k H3 ((g1.trans g2).trans g3) o3 rfl r3
    | some x =>
      obtain ⟨w', hw, rw'⟩ := h3 x rfl
      rw [hw]
      exact q w' _ H3k H3 ((g1.trans g2).trans g3) o3 rfl rw'
theorem ev_din {r : Option Dt} (hy : EvD p ty δ e) (hd : EvD p td δ d) (h : getD? d e = some r) : EvD p (tDIn ty td) δ (.bl r.isSome) := fun σ Hk H s k o Q q =>
  hy σ Hk H s k o _ fun u a H1k H1 g1 o1 e1 r1 => hd σ H1k H1 (s.mono g1.kk) g1.kh o1 _ fun v b H2k H2 g2 o2 e2 r2 => by
    subst e1 e2
    obtain ⟨ad, ov, h1, h2, _, h3, h4⟩ := dget_of r2 (r1.mono g2.kk) g2.kh h
    refine ⟨ad, ov, h1, h2, ?_⟩
    have e : ov.isSome = r.isSome := by
      cases r with
      | none => rw [h4 rfl]; rfl
      | some x => obtain ⟨w', hw, _⟩ := h3 x rfl; rw [hw]; rfl
    rw [e]
    exact q _ _ H2k H2 (g1.trans g2) o2 rfl (.bl _)
theorem ev_dnin {r : Option Dt} (hy : EvD p ty δ e) (hd : EvD p td δ d) (h : getD? d e = some r) : EvD p (tDNotIn ty td) δ (.bl (!r.isSome)) := fun σ Hk H s k o Q q =>
  hy σ Hk H s k o _ fun u a H1k H1 g1 o1 e1 r1 => hd σ H1k H1 (s.mono g1.kk) g1.kh o1 _ fun v b H2k H2 g2 o2 e2 r2 => by
    subst e1 e2
    obtain ⟨ad, ov, h1, h2, _, h3, h4⟩ := dget_of r2 (r1.mono g2.kk) g2.kh h
    refine ⟨ad, ov, h1, h2, ?_⟩
    have e : ov.isSome = r.isSome := by
      cases r with
      | none => rw [h4 rfl]; rfl
      | some x => obtain ⟨w', hw, _⟩ := h3 x rfl; rw [hw]; rfl
    rw [e]
    exact q _ _ H2k H2 (g1.trans g2) o2 rfl (.bl _)
/-- a field of an instance -/
theorem krp_lookup {H : Hp} : ∀ {fs : List (Str × V)} {gs : List (Str × Dt)} {f : Str} {d : Dt}, KRp H fs gs → gs.lookup f = some d → ∃ v, fs.lookup f = some v ∧ Rp H v d
  | _, _, f, d, .nil, e => by simp at e
  | _, _, f, d, .cons (k := k) a b, e => by
    rw [List.lookup_cons] at e ⊢
    cases q : (f == k) with
    | true => rw [q] at e; cases e; exact ⟨_, rfl, a⟩
    | false => rw [q] at e; exact krp_lookup b e
theorem krp_lookup_none {H : Hp} : ∀ {fs : List (Str × V)} {gs : List (Str × Dt)} {f : Str}, KRp H fs gs → gs.lookup f = none → fs.lookup f = none
  | _, _, f, .nil, e => rfl
  | _, _, f, .cons (k := k) a b, e => by
    rw [List.lookup_cons] at e ⊢
    cases q : (f == k) with
    | true => rw [q] at e; cases e
    | false => rw [q] at e; exact krp_lookup_none b e
theorem ev_fld {C : Addr} {gs : List (Str × Dt)} {f : Str} (h : EvD p te δ (.ins C gs)) (c : Cls K C) (n : NoAttr K C f) (l : gs.lookup f = some d) : EvD p (tFld K te f) δ d := fun σ Hk H s k o Q q =>
  h σ Hk H s k o _ fun u a H1k H1 g1 o1 e1 r1 => by
    subst e1
    obtain ⟨ad, dx, fs, e, h1, r⟩ := r1.ins_inv
    obtain ⟨v, h2, h3⟩ := krp_lookup r l
    exact ⟨ad, C, dx, fs, v, e, g1.kh _ _ h1, c, n, h2, q v d H1k H1 g1 o1 rfl h3⟩
end
end
end Ab
end

section
set_option Elab.async false
set_option linter.all false
set_option maxRecDepth 100000
set_option maxHeartbeats 4000000
namespace Ab
open PySem PySem.Spec PyProof.Rows L2
/-! ### targets -/
def BindD (g : TG) (d : Dt) (δ δ' : List (Option Dt)) (vs : List Nat) : Prop := ∀ σ Hk H x, Sto Hk σ δ → Rp Hk x d → Kn Hk H → ∀ Q : L2.St → Hp → Prop, (∀ σ', Sto Hk σ' δ' → L2.wipe σ' vs = L2.wipe σ vs → Q σ' H) → g x σ H Q
def BindsD (g : TGs) (ds : List Dt) (δ δ' : List (Option Dt)) (vs : List Nat) : Prop := ∀ σ Hk H xs, Sto Hk σ δ → Rps Hk xs ds → Kn Hk H → ∀ Q : L2.St → Hp → Prop, (∀ σ', Sto Hk σ' δ' → L2.wipe σ' vs = L2.wipe σ vs → Q σ' H) → g xs σ H Q
section
variable {δ δ1 δ2 : List (Option Dt)} {vs : List Nat} {d : Dt} {ds : List Dt} {K : PySem.W.Frag}
theorem bind_name {i : Nat} (h : i ∈ vs := by decide) : BindD (gName i) d δ (δ.set i (some d)) vs := fun σ Hk H x s r k Q q => q _ (s.set i r) (wipe_set h)
theorem bind_nil : BindsD gNil [] δ δ vs := fun σ Hk H xs s r k Q q => by cases r; exact ⟨rfl, q σ s rfl⟩
theorem bind_cons {g : TG} {gs : TGs} (h1 : BindD g d δ δ1 vs) (h2 : BindsD gs ds δ1 δ2 vs) : BindsD (gCons g gs) (d :: ds) δ δ2 vs := fun σ Hk H xs s r k Q q => by
  cases r with
  | cons a b => exact ⟨_, _, rfl, h1 σ Hk H _ s a k _ fun σ1 s1 e1 => h2 σ1 Hk H _ s1 b k _ fun σ2 s2 e2 => q σ2 s2 (e2.trans e1)⟩
theorem bind_tup {n : Nat} {gs : TGs} (h : BindsD gs ds δ δ1 vs) (hn : ds.length = n := by rfl) : BindD (gTup K n gs) (.tup ds) δ δ1 vs := fun σ Hk H x s r k Q q => by
  obtain ⟨a, xs, e, h1, h2⟩ := r.tup_inv
  exact ⟨a, xs, e, .inl (.inl (k _ _ h1)), h2.length.trans hn, h σ Hk H xs s h2 k Q q⟩
theorem bind_unl {n : Nat} {gs : TGs} (h : BindsD gs ds δ δ1 vs) (hn : ds.length = n := by rfl) : BindD (gUnl K n gs) (.lst ds) δ δ1 vs := fun σ Hk H x s r k Q q => by
  obtain ⟨a, xs, e, h1, h2⟩ := r.lst_inv
  exact ⟨a, xs, e, .inl (.inl (k _ _ h1)), h2.length.trans hn, h σ Hk H xs s h2 k Q q⟩
end
/-! ### what is walked -/
def WalkD (J : It) (Hk : Hp) (ds : List Dt) : Prop := ∀ Hk1 H, Kn Hk Hk1 → Kn Hk1 H →
  (∀ i d, ds[i]? = some d → J.go i H ∧ ∀ x H', J.yld i H x H' → ∃ Hk2, Grow noF Hk1 H Hk2 H' ∧ Rp Hk2 x d) ∧ ∀ i, ds.length ≤ i → J.stop i H
def EvI (p : Option Addr) (wi : TI) (δ : List (Option Dt)) (P : List Dt → Prop) : Prop := ∀ σ Hk H, Sto Hk σ δ → Kn Hk H → PoolOk p Hk H →
  ∀ R : It → Hp → Prop, (∀ J ds Hk' H', Grow (fr p) Hk H Hk' H' → PoolOk p Hk' H' → P ds → WalkD J Hk' ds → R J H') → wi σ H R
abbrev EvID (p : Option Addr) (wi : TI) (δ : List (Option Dt)) (ds : List Dt) : Prop := EvI p wi δ (fun x => x = ds)
/-- a list or a tuple, whichever it is -/
def iSeq (K : PySem.W.Frag) (tl : TE) : TI := fun σ H R => tl σ H fun x H1 => ∃ a xs, x = .ref a ∧ ((SqL K H1 a xs ∧ R (Itl K a) H1) ∨ (SqT K H1 a xs ∧ R (Itt K a) H1))
theorem pi_seq {X : Cx} {tg l : Expr} {tl : TE} (hl : PE X l tl) : PI X tg l (iSeq X.K tl) := by
  refine ⟨fun pins s σ H R I h => ?_⟩
  refine thn (hl.run pins s σ H _ I h) fun v s1 ⟨x, H1, I1, r1, q1⟩ => ?_
  obtain ⟨a, xs, e, q⟩ := q1
  subst e
  cases r1
  have done : ∀ b ∈ [s1.heap.objs.size], FpOk X pins H1 b := fun b hb => by
    have e : b = s1.heap.objs.size := List.mem_singleton.mp hb
    rw [e]
    exact I1.fpOk (Nat.le_refl _) (I1.hok.fresh (Nat.le_refl _))
  rcases q with ⟨hq, q⟩ | ⟨hq, q⟩
  · obtain ⟨its, _, pl, _⟩ := I1.list hq
    exact wpAny_pyIter_list pl.isList ⟨s1.heap.objs.size, [s1.heap.objs.size], _, Itl X.K a, H1, rfl, I1.kept (t' := s1.toks) fun b o e => Heap.get?_push_of_some _ e, turn_list a _, ⟨_, Heap.get?_push_size _ rfl, rfl, rfl⟩, done, q⟩
  · obtain ⟨its, _, pl, _⟩ := I1.tuple hq
    exact wpAny_pyIter_tuple pl ⟨s1.heap.objs.size, [s1.heap.objs.size], _, Itt X.K a, H1, rfl, I1.kept (t' := s1.toks) fun b o e => Heap.get?_push_of_some _ e, turn_tuple a _, ⟨_, Heap.get?_push_size _ rfl, rfl, rfl⟩, done, q⟩
section
variable {p : Option Addr} {K : PySem.W.Frag} {δ : List (Option Dt)} {te : TE} {ta : TA}
theorem walk_l {Hk : Hp} {a : Addr} {vs : List V} {ds : List Dt} (h : Hk a = some (.lst vs)) (r : Rps Hk vs ds) : WalkD (Itl K a) Hk ds := fun Hk1 H k1 k2 => by
  have hS : SqL K H a vs := .inl (.inl (k2 _ _ (k1 _ _ h)))
  refine ⟨fun i d e => ?_, fun i hi => ⟨vs, hS, by rw [r.length]; exact hi⟩⟩
  obtain ⟨v, h1, h2⟩ := r.get e
  refine ⟨⟨vs, v, hS, h1⟩, fun x H' y => ?_⟩
  obtain ⟨e1, y⟩ := y
  subst e1
  have := y vs hS
  rw [h1] at this
  cases this
  exact ⟨Hk1, .refl k2, h2.mono k1⟩
theorem walk_t {Hk : Hp} {a : Addr} {vs : List V} {ds : List Dt} (h : Rd Hk a (.tup vs)) (r : Rps Hk vs ds) : WalkD (Itt K a) Hk ds := fun Hk1 H k1 k2 => by
  have hS : SqT K H a vs := .inl (h.elim (fun z => .inl (k2 _ _ (k1 _ _ z))) fun ⟨o, z⟩ => .inr ⟨o, k2 _ _ (k1 _ _ z)⟩)
  refine ⟨fun i d e => ?_, fun i hi => ⟨vs, hS, by rw [r.length]; exact hi⟩⟩
  obtain ⟨v, h1, h2⟩ := r.get e
  refine ⟨⟨vs, v, hS, h1⟩, fun x H' y => ?_⟩
  obtain ⟨e1, y⟩ := y
  subst e1
  have := y vs hS
  rw [h1] at this
  cases this
  exact ⟨Hk1, .refl k2, h2.mono k1⟩
theorem eip_seq {P : List Dt → Prop} (h : EvP p te δ fun d => ∃ t ds, P ds ∧ d = seqD t ds) : EvI p (iSeq K te) δ P := fun σ Hk H s k o R q =>
  h σ Hk H s k o _ fun v d H1k H1 g1 o1 ⟨t, ds, pd, e⟩ r => by
    subst e
    obtain ⟨a, vs, e, r2, hs⟩ := seq_sq (K := K) g1.kh r
    rcases hs with ⟨_, h1, h2⟩ | ⟨_, h1, h2⟩
    · exact ⟨a, vs, e, .inl ⟨h2, q _ ds H1k H1 g1 o1 pd (walk_l h1 r2)⟩⟩
    · exact ⟨a, vs, e, .inr ⟨h2, q _ ds H1k H1 g1 o1 pd (walk_t h1 r2)⟩⟩
theorem ei_seq {t : Sq} {ds : List Dt} (h : EvD p te δ (seqD t ds)) : EvID p (iSeq K te) δ ds := eip_seq (h.imp fun d e => ⟨t, ds, rfl, e⟩)
theorem ei_lst {ds : List Dt} (h : EvD p te δ (.lst ds)) : EvID p (iSeq K te) δ ds := ei_seq (t := .l) h
theorem ei_tup {ds : List Dt} (h : EvD p te δ (.tup ds)) : EvID p (iSeq K te) δ ds := ei_seq (t := .t) h
/-- lo, lo + 1, .. -/
def rngD (lo : Int) (n : Nat) : List Dt := (List.range n).map fun i => .int (lo + (i : Nat))
theorem rngD_len {lo : Int} {n : Nat} : (rngD lo n).length = n := by unfold rngD; rw [List.length_map, List.length_range]
theorem walk_r {Hk : Hp} {lo : Int} {n : Nat} : WalkD (Itr lo n) Hk (rngD lo n) := fun Hk1 H k1 k2 => by
  refine ⟨fun i d e => ?_, fun i hi => by rw [rngD_len] at hi; exact hi⟩
  unfold rngD at e
  rw [List.getElem?_map] at e
  obtain ⟨j, e1, e2⟩ := Option.map_eq_some_iff.mp e
  obtain ⟨hi, e3⟩ := List.getElem?_eq_some_iff.mp e1
  rw [List.length_range] at hi
  rw [List.getElem_range] at e3
  subst e3 e2
  refine ⟨hi, fun x H' y => ?_⟩
  obtain ⟨e1, e2⟩ := y
  subst e1 e2
  exact ⟨Hk1, .refl k2, .int _⟩
theorem eip_rng1 {P : Int → Prop} (h : EvA p ta δ fun xs => ∃ j, P j ∧ xs = [.int j]) (hb : ∀ j, P j → -(2 ^ 62) ≤ j ∧ j < 2 ^ 62) : EvI p (iRng1 ta) δ (fun ds => ∃ j, P j ∧ ds = rngD 0 j.toNat) := fun σ Hk H s k o R q =>
  h σ Hk H s k o _ fun vs ds H1k H1 g1 o1 ⟨j, pj, e⟩ r => by
    subst e
    cases r with
    | cons a b =>
      cases a; cases b
      exact ⟨j, rfl, (hb j pj).1, (hb j pj).2, q _ _ H1k H1 g1 o1 ⟨j, pj, rfl⟩ walk_r⟩
theorem ei_rng1 {j : Int} (h : EvAD p ta δ [.int j]) (h0 : -(2 ^ 62) ≤ j) (h1 : j < 2 ^ 62) : EvID p (iRng1 ta) δ (rngD 0 j.toNat) := fun σ Hk H s k o R q =>
  eip_rng1 (P := fun i => i = j) (fun σ Hk H s k o Q q => h σ Hk H s k o Q fun vs ds Hk' H' g o' e r => q vs ds Hk' H' g o' ⟨j, rfl, e⟩ r) (fun i e => by rw [e]; exact ⟨h0, h1⟩) σ Hk H s k o R fun J ds Hk' H' g o' ⟨i, e1, e2⟩ w => q J ds Hk' H' g o' (by rw [e2, e1]) w
theorem ei_rng2 {i j : Int} (h : EvAD p ta δ [.int i, .int j]) (h0 : -(2 ^ 62) ≤ i ∧ i < 2 ^ 62 ∧ -(2 ^ 62) ≤ j ∧ j < 2 ^ 62) : EvID p (iRng2 ta) δ (rngD i (j - i).toNat) := fun σ Hk H s k o R q =>
  h σ Hk H s k o _ fun vs ds H1k H1 g1 o1 e r => by
    subst e
    cases r with
    | cons a b =>
      cases a
      cases b with
      | cons a b =>
        cases a; cases b
        exact ⟨i, j, rfl, h0, q _ _ H1k H1 g1 o1 rfl walk_r⟩
/-- the signs of a text -/
def signsD (z : Str) : List Dt := z.cps.toList.map fun c => .str ⟨#[c]⟩
theorem ei_str {z : Str} (h : EvD p te δ (.str z)) : EvID p (iStr te) δ (signsD z) := fun σ Hk H s k o R q =>
  h σ Hk H s k o _ fun v d H1k H1 g1 o1 e r => by
    subst e
    cases r
    refine ⟨z, rfl, q _ _ H1k H1 g1 o1 rfl fun Hk1 H2 k1 k2 => ⟨fun i d e => ?_, fun i hi => ?_⟩⟩
    · unfold signsD at e
      rw [List.getElem?_map] at e
      obtain ⟨c, e1, e2⟩ := Option.map_eq_some_iff.mp e
      subst e2
      have e1' : z.cps[i]? = some c := by rw [← Array.getElem?_toList]; exact e1
      refine ⟨?_, fun x H' y => ?_⟩
      · exact (Array.getElem?_eq_some_iff.mp e1').1
      · obtain ⟨e3, c', e4, e5⟩ := y
        subst e3 e5
        rw [e1'] at e4
        cases e4
        exact ⟨Hk1, .refl k2, .str _⟩
    · show z.cps.size ≤ i
      unfold signsD at hi
      simpa using hi
/-- with their places -/
def enumD : Nat → List Dt → List Dt
  | _, [] => []
  | n, d :: ds => .tup [.int (n : Nat), d] :: enumD (n + 1) ds
theorem enumD_len : ∀ (ds : List Dt) (n : Nat), (enumD n ds).length = ds.length
  | [], _ => rfl
  | d :: ds, n => congrArg (· + 1) (enumD_len ds (n + 1))
theorem enumD_get : ∀ (ds : List Dt) (n i : Nat) (d : Dt), (enumD n ds)[i]? = some d → ∃ e, ds[i]? = some e ∧ d = .tup [.int ((n + i : Nat) : Int), e]
  | [], n, i, d, h => by simp [enumD] at h
  | e :: ds, n, 0, d, h => by
    simp only [enumD, List.getElem?_cons_zero, Option.some.injEq] at h
    exact ⟨e, rfl, h.symm⟩
  | e :: ds, n, i + 1, d, h => by
    simp only [enumD, List.getElem?_cons_succ] at h
    obtain ⟨e', h1, h2⟩ := enumD_get ds (n + 1) i d h
    exact ⟨e', by simpa using h1, by rw [h2, show n + 1 + i = n + (i + 1) from by omega]⟩
theorem newT0 {Hk H : Hp} {q : Addr} {vs : List V} {ds : List Dt} (k : Kn Hk H) (h : H q = none) (r : Rps Hk vs ds) : ∃ Hk2, Grow noF Hk H Hk2 (upd H q (.tup vs)) ∧ Rp Hk2 (.ref q) (.tup ds) :=
  ⟨_, .new k _ h, .tup upd_same (r.mono (Kn.upd (k.free h)))⟩
theorem ei_enum {ds : List Dt} (h : EvAD p ta δ [.lst ds]) : EvID p (iEnum K ta) δ (enumD 0 ds) := fun σ Hk H s k o R q =>
  h σ Hk H s k o _ fun vs es H1k H1 g1 o1 e r => by
    subst e
    cases r with
    | cons a b =>
      cases b
      obtain ⟨ad, ws, e, h1, h2⟩ := a.lst_inv
      subst e
      refine ⟨ad, ws, rfl, .inl (.inl (g1.kh _ _ h1)), q _ _ H1k H1 g1 o1 rfl fun Hk1 H2 k1 k2 => ⟨fun i d e => ?_, fun i hi => ?_⟩⟩
      · obtain ⟨e', e1, e2⟩ := enumD_get _ _ _ _ e
        obtain ⟨v, h3, h4⟩ := h2.get e1
        have hS : SqL K H2 ad ws := .inl (.inl (k2 _ _ (k1 _ _ h1)))
        refine ⟨⟨ws, v, hS, h3⟩, fun x H' y => ?_⟩
        obtain ⟨T, u, e3, e4, e5, e6⟩ := y
        have := e6 ws hS
        rw [h3] at this
        cases this
        subst e3 e5 e2
        rw [Nat.zero_add]
        exact newT0 k2 e4 (.cons (.int _) (.cons (h4.mono k1) .nil))
      · rw [enumD_len] at hi
        exact ⟨ws, .inl (.inl (k2 _ _ (k1 _ _ h1))), by rw [h2.length]; exact hi⟩
def zipD : List Dt → List Dt → List Dt
  | a :: as, b :: bs => .tup [a, b] :: zipD as bs
  | _, _ => []
theorem zipD_get : ∀ (as bs : List Dt) (i : Nat) (d : Dt), (zipD as bs)[i]? = some d → ∃ a b, as[i]? = some a ∧ bs[i]? = some b ∧ d = .tup [a, b]
  | [], _, i, d, h => by simp [zipD] at h
  | _ :: _, [], i, d, h => by simp [zipD] at h
  | a :: as, b :: bs, 0, d, h => by
    simp only [zipD, List.getElem?_cons_zero, Option.some.injEq] at h
    exact ⟨a, b, rfl, rfl, h.symm⟩
  | a :: as, b :: bs, i + 1, d, h => by
    simp only [zipD, List.getElem?_cons_succ] at h
    obtain ⟨x, y, h1, h2, h3⟩ := zipD_get as bs i d h
    exact ⟨x, y, by simpa using h1, by simpa using h2, h3⟩
theorem zipD_len : ∀ (as bs : List Dt), (zipD as bs).length = min as.length bs.length
  | [], _ => by simp [zipD]
  | _ :: _, [] => by simp [zipD]
  | a :: as, b :: bs => by simp only [zipD, List.length_cons, zipD_len as bs]; omega
theorem ei_zip {as bs : List Dt} (h : EvAD p ta δ [.lst as, .lst bs]) : EvID p (iZip K ta) δ (zipD as bs) := fun σ Hk H s k o R q =>
  h σ Hk H s k o _ fun vs es H1k H1 g1 o1 e r => by
    subst e
    cases r with
    | cons a b =>
      cases b with
      | cons b c =>
        cases c
        obtain ⟨ad, ws, e, h1, h2⟩ := a.lst_inv
        subst e
        obtain ⟨bd, us, e, h3, h4⟩ := b.lst_inv
        subst e
        refine ⟨ad, bd, ws, us, rfl, .inl (.inl (g1.kh _ _ h1)), .inl (.inl (g1.kh _ _ h3)), q _ _ H1k H1 g1 o1 rfl fun Hk1 H2 k1 k2 => ?_⟩
        have hS : SqL K H2 ad ws := .inl (.inl (k2 _ _ (k1 _ _ h1)))
        have hS2 : SqL K H2 bd us := .inl (.inl (k2 _ _ (k1 _ _ h3)))
        refine ⟨fun i d e => ?_, fun i hi => ⟨ws, us, hS, hS2, by rw [zipD_len] at hi; rw [h2.length, h4.length]; omega⟩⟩
        obtain ⟨x, y, e1, e2, e3⟩ := zipD_get _ _ _ _ e
        obtain ⟨v, h5, h6⟩ := h2.get e1
        obtain ⟨w, h7, h8⟩ := h4.get e2
        refine ⟨⟨ws, us, v, w, hS, hS2, h5, h7⟩, fun x H' y => ?_⟩
        obtain ⟨T, x1, y1, f3, f4, f5, f6, f7⟩ := y
        have z1 := f6 ws hS
        have z2 := f7 us hS2
        rw [h5] at z1
        rw [h7] at z2
        cases z1; cases z2
        subst f3 f5 e3
        exact newT0 k2 f4 (.cons (h6.mono k1) (.cons (h8.mono k1) .nil))
end
/-! ### comprehensions -/
/-- a thing of ours that is made meanwhile -/
structure Mine (p : Option Addr) (A0 B0 : Hp) (D : Addr) (Hk H : Hp) : Prop where
  gr : Grow (fr p) A0 B0 Hk H
  po : PoolOk p Hk H
  nw : B0 D = none
  uk : Hk D = none
  pn : p ≠ some D
section
variable {p : Option Addr} {A0 B0 Hk H Hk' H' : Hp} {D : Addr}
theorem Mine.start (k : Kn A0 B0) (o : PoolOk p A0 B0) (h : B0 D = none) (u : HO) : Mine p A0 B0 D A0 (upd B0 D u) := by
  have hp : p ≠ some D := fun e => by obtain ⟨_, x, y, h2, _⟩ := o D e; rw [h] at h2; cases h2
  refine ⟨⟨fun _ _ e => e, fun a o _ e => Kn.upd h a o e, fun a e => ?_, fun a o e => Kn.upd h a o (k a o e), fun a e => .inl e⟩, fun a e => ?_, h, k.free h, hp⟩
  · by_cases q : a = D
    · rw [q, upd_same]; simp
    · rw [upd_ne q]; exact e
  · obtain ⟨h1, x, y, h2, h3⟩ := o a e
    exact ⟨h1, x, y, Kn.upd h a _ h2, h3⟩
theorem Mine.step (m : Mine p A0 B0 D Hk H) (g : Grow (fr p) Hk H Hk' H') (o : PoolOk p Hk' H') (hD : H D ≠ none) : Mine p A0 B0 D Hk' H' :=
  ⟨m.gr.trans g, o, m.nw, by
    cases q : Hk' D with
    | none => rfl
    | some u =>
      rcases g.nw D (by rw [q]; simp) with z | z
      · exact absurd m.uk z
      · exact absurd z hD, m.pn⟩
theorem Mine.put (m : Mine p A0 B0 D Hk H) (u : HO) : Mine p A0 B0 D Hk (upd H D u) := by
  refine ⟨⟨m.gr.kk, fun a o f e => ?_, fun a e => ?_, fun a o e => ?_, m.gr.nw⟩, fun a e => ?_, m.nw, m.uk, m.pn⟩
  · rw [upd_ne (ne_of_none e m.nw)]; exact m.gr.hh a o f e
  · by_cases q : a = D
    · rw [q, upd_same]; simp
    · rw [upd_ne q]; exact m.gr.th a e
  · rw [upd_ne (ne_of_none e m.uk)]; exact m.gr.kh a o e
  · obtain ⟨h1, x, y, h2, h3⟩ := m.po a e
    exact ⟨h1, x, y, by rw [upd_ne (fun z => m.pn (by rw [← z]; exact e))]; exact h2, h3⟩
/-- it is known from now on -/
theorem Mine.told (m : Mine p A0 B0 D Hk H) {u : HO} (hD : H D = some u) : Grow (fr p) A0 B0 (upd Hk D u) H ∧ PoolOk p (upd Hk D u) H ∧ Kn Hk (upd Hk D u) := by
  refine ⟨⟨fun a o e => Kn.upd m.uk a o (m.gr.kk a o e), m.gr.hh, m.gr.th, fun a o e => ?_, fun a e => ?_⟩, fun a e => ?_, Kn.upd m.uk⟩
  · by_cases q : a = D
    · rw [q, upd_same] at e; rw [q, hD]; exact e
    · rw [upd_ne q] at e; exact m.gr.kh a o e
  · by_cases q : a = D
    · exact .inr (by rw [q]; exact m.nw)
    · rw [upd_ne q] at e; exact m.gr.nw a e
  · obtain ⟨h1, x, y, h2, h3⟩ := m.po a e
    exact ⟨by rw [upd_ne (fun z => m.pn (by rw [← z]; exact e))]; exact h1, x, y, h2, h3⟩
theorem Mine.keep (m : Mine p A0 B0 D Hk H) (g : Grow (fr p) Hk H Hk' H') {u : HO} (hD : H D = some u) : H' D = some u := g.hh D u m.pn hD
end
/-- what a comprehension makes of its items, one behind the other -/
inductive Mk {α : Type} (B : α → Bool → Prop) (F : α → Dt → Prop) : List α → List Dt → Prop
  | nil : Mk B F [] []
  | skip {xs : List α} {ys : List Dt} {x : α} : Mk B F xs ys → B x false → Mk B F (xs ++ [x]) ys
  | take {xs : List α} {ys : List Dt} {x : α} {y : Dt} : Mk B F xs ys → B x true → F x y → Mk B F (xs ++ [x]) (ys ++ [y])
theorem Mk.len {α : Type} {B : α → Bool → Prop} {F : α → Dt → Prop} {xs : List α} {ys : List Dt} (m : Mk B F xs ys) : ys.length ≤ xs.length := by
  induction m with
  | nil => exact Nat.le_refl _
  | skip m b ih => rw [List.length_append]; omega
  | take m b f ih => rw [List.length_append, List.length_append]; simp; exact ih
theorem Mk.det {α : Type} {b : α → Bool} {f : α → Dt} {xs : List α} {ys : List Dt} (m : Mk (fun x c => c = b x) (fun x y => y = f x) xs ys) : ys = (xs.filter b).map f := by
  induction m with
  | nil => rfl
  | skip m e ih => rw [ih, List.filter_append]; simp [← e]
  | take m e e2 ih => rw [ih, List.filter_append]; simp [← e, e2]
theorem Rps.snoc {H : Hp} {vs : List V} {ds : List Dt} {v : V} {d : Dt} (r : Rps H vs ds) (h : Rp H v d) : Rps H (vs ++ [v]) (ds ++ [d]) := r.append (.cons h .nil)
section
variable {p : Option Addr} {δ : List (Option Dt)} {wi : TI} {g : TG} {tt : TT} {te tk tv : TE} {vs : List Nat}
theorem evp_lc {α : Type} {enc : α → Dt} {X : List α → Prop} {B : α → Bool → Prop} {F : α → Dt → Prop} (hi : EvI p wi δ fun ds => ∃ xs, X xs ∧ ds = xs.map enc)
    (hs : ∀ xs, X xs → ∀ x ∈ xs, ∃ δ', BindD g (enc x) (wipeD δ vs) δ' vs ∧ EvT p tt δ' (B x) ∧ (B x true → EvP p te δ' (F x))) (hl : ∀ xs, X xs → xs.length ≤ 100000) :
    EvP p (tLc wi g tt te vs) δ (fun d => ∃ xs ys, X xs ∧ Mk B F xs ys ∧ d = .lst ys) := fun σ Hk H s k o Q q => by
  refine hi σ Hk H s k o _ fun J ds Hk1 H1 g1 o1 ⟨xs, hx, e⟩ w => ?_
  subst e
  intro D hD
  let W : Nat → Nat → Hp → Prop := fun i m H' => m = xs.length - i ∧ i ≤ xs.length ∧ ∃ Hk' acc ys, Mine p Hk1 H1 D Hk' H' ∧ H' D = some (.lst acc) ∧ Rps Hk' acc ys ∧ Mk B F (xs.take i) ys
  have hlen : (xs.map enc).length = xs.length := List.length_map ..
  refine ⟨W, ⟨xs.length, by simp, Nat.zero_le _, Hk1, [], [], .start g1.kh o1 hD _, upd_same, .nil, .nil⟩, ?_⟩
  rintro i m H' ⟨rfl, hi', Hk', acc, ys, M, hacc, hr, hm⟩
  obtain ⟨w1, w2⟩ := w Hk' H' M.gr.kk M.gr.kh
  by_cases hlt : i < xs.length
  · have hget : (xs.map enc)[i]? = some (enc xs[i]) := by simp [hlt]
    obtain ⟨go, yl⟩ := w1 i _ hget
    refine .inr ⟨go, W (i + 1) (xs.length - (i + 1)), fun H'' p' => ⟨_, by omega, p'⟩, fun x H2 y => ?_⟩
    obtain ⟨Hk2, g2, r2⟩ := yl x H2 y
    have ne : ∀ {u : Hp} {o : HO}, u D = some o → u D ≠ none := fun e => by rw [e]; simp
    have M2 := M.step g2.up (M.po.grow g2) (ne hacc)
    have a2 := M.keep g2.up hacc
    obtain ⟨δ', hb, ht, he⟩ := hs xs hx xs[i] (List.getElem_mem hlt)
    have s2 : Sto Hk2 (L2.wipe σ vs) (wipeD δ vs) := ((s.wipe vs).mono g1.kk).mono M2.gr.kk
    have tk1 : xs.take (i + 1) = xs.take i ++ [xs[i]] := by rw [List.take_add_one]; simp [hlt]
    refine hb _ Hk2 H2 x s2 r2 g2.kh _ fun σ2 s3 e2 => ⟨by rw [e2, wipe_wipe], ?_⟩
    refine ht σ2 Hk2 H2 s3 g2.kh M2.po _ fun b Hk3 H3 g3 o3 hb3 => ?_
    have M3 := M2.step g3 o3 (ne a2)
    have a3 := M2.keep g3 a2
    have kk23 := g3.kk
    cases b with
    | false =>
      show W (i + 1) _ H3
      exact ⟨rfl, hlt, Hk3, acc, ys, M3, a3, (hr.mono g2.kk).mono g3.kk, by rw [tk1]; exact .skip hm hb3⟩
    | true =>
      show te σ2 H3 _
      refine he hb3 σ2 Hk3 H3 (s3.mono g3.kk) g3.kh o3 _ fun v d Hk4 H4 g4 o4 hd r4 => ?_
      have M4 := M3.step g4 o4 (ne a3)
      have a4 := M3.keep g4 a3
      refine ⟨acc, a4, ?_, rfl, hlt, Hk4, acc ++ [v], ys ++ [d], M4.put _, upd_same, (((hr.mono g2.kk).mono g3.kk).mono g4.kk).snoc r4, by rw [tk1]; exact .take hm hb3 hd⟩
      have h1 := hm.len
      rw [hr.length]
      rw [List.length_take] at h1
      have h2 := hl xs hx
      exact szl (by omega)
  · have e : i = xs.length := by omega
    subst e
    refine .inl ⟨w2 _ (by rw [hlen]; exact Nat.le_refl _), ?_⟩
    obtain ⟨g3, o3, k3⟩ := M.told hacc
    rw [List.take_length] at hm
    exact q (.ref D) (.lst ys) _ H' (g1.trans g3) o3 ⟨xs, ys, hx, hm, rfl⟩ (.lst upd_same (hr.mono k3))
theorem ev_lc {α : Type} (xs : List α) (enc : α → Dt) (b : α → Bool) (f : α → Dt) (hi : EvID p wi δ (xs.map enc))
    (hs : ∀ x ∈ xs, ∃ δ', BindD g (enc x) (wipeD δ vs) δ' vs ∧ EvTD p tt δ' (b x) ∧ (b x = true → EvD p te δ' (f x))) (hl : xs.length ≤ 100000) :
    EvD p (tLc wi g tt te vs) δ (.lst ((xs.filter b).map f)) := by
  refine (evp_lc (α := α) (enc := enc) (X := fun ys => ys = xs) (B := fun x c => c = b x) (F := fun x y => y = f x) (fun σ Hk H s k o R q => hi σ Hk H s k o R fun J ds Hk' H' g o' e w => q J ds Hk' H' g o' ⟨xs, rfl, e⟩ w) ?_ (fun ys e => by rw [e]; exact hl)).imp ?_
  · intro ys e x hx
    rw [e] at hx
    obtain ⟨δ', h1, h2, h3⟩ := hs x hx
    exact ⟨δ', h1, h2, fun e => h3 e.symm⟩
  · rintro d ⟨ys, zs, rfl, m, rfl⟩
    rw [m.det]
/-- without a test -/
theorem ev_lc0 {α : Type} (xs : List α) (enc : α → Dt) (f : α → Dt) (hi : EvID p wi δ (xs.map enc))
    (hs : ∀ x ∈ xs, ∃ δ', BindD g (enc x) (wipeD δ vs) δ' vs ∧ EvD p te δ' (f x)) (hl : xs.length ≤ 100000) : EvD p (tLc wi g tYes te vs) δ (.lst (xs.map f)) := by
  have h := ev_lc (p := p) (g := g) (tt := tYes) (te := te) xs enc (fun _ => true) f hi (fun x hx => let ⟨δ', h1, h2⟩ := hs x hx; ⟨δ', h1, et_yes, fun _ => h2⟩) hl
  rw [List.filter_eq_self.mpr (fun _ _ => rfl)] at h
  exact h
/-- {k: v for ..}, keys ints or texts -/
theorem ev_dc {α : Type} (xs : List α) (enc : α → Dt) (ky : α → Key) (f : α → Dt) (hi : EvID p wi δ (xs.map enc))
    (hs : ∀ x ∈ xs, ∃ δ' kd, BindD g (enc x) (wipeD δ vs) δ' vs ∧ EvD p tk δ' kd ∧ keyD kd = some (ky x) ∧ EvD p tv δ' (f x)) (hl : xs.length ≤ 100000) :
    EvD p (tDc wi g tYes tk tv vs) δ (.dk (xs.foldl (fun acc x => putG acc (ky x) (f x)) [])) := fun σ Hk H s k o Q q => by
  refine hi σ Hk H s k o _ fun J ds Hk1 H1 g1 o1 e w => ?_
  subst e
  intro D hD
  let G : Nat → List (Key × Dt) := fun i => (xs.take i).foldl (fun acc x => putG acc (ky x) (f x)) []
  let W : Nat → Nat → Hp → Prop := fun i m H' => m = xs.length - i ∧ i ≤ xs.length ∧ ∃ Hk' acc, Mine p Hk1 H1 D Hk' H' ∧ H' D = some (.dK acc) ∧ KRp Hk' acc (G i) ∧ acc.length ≤ i
  have hlen : (xs.map enc).length = xs.length := List.length_map ..
  refine ⟨W, ⟨xs.length, by simp, Nat.zero_le _, Hk1, [], .start g1.kh o1 hD _, upd_same, .nil, Nat.le_refl _⟩, ?_⟩
  rintro i m H' ⟨rfl, hi', Hk', acc, M, hacc, hr, hz⟩
  obtain ⟨w1, w2⟩ := w Hk' H' M.gr.kk M.gr.kh
  by_cases hlt : i < xs.length
  · have hget : (xs.map enc)[i]? = some (enc xs[i]) := by simp [hlt]
    obtain ⟨go, yl⟩ := w1 i _ hget
    refine .inr ⟨go, W (i + 1) (xs.length - (i + 1)), fun H'' p' => ⟨_, by omega, p'⟩, fun x H2 y => ?_⟩
    obtain ⟨Hk2, g2, r2⟩ := yl x H2 y
    have ne : ∀ {u : Hp} {o : HO}, u D = some o → u D ≠ none := fun e => by rw [e]; simp
    have M2 := M.step g2.up (M.po.grow g2) (ne hacc)
    have a2 := M.keep g2.up hacc
    obtain ⟨δ', kd, hb, hk, hkd, hv⟩ := hs xs[i] (List.getElem_mem hlt)
    have s2 : Sto Hk2 (L2.wipe σ vs) (wipeD δ vs) := ((s.wipe vs).mono g1.kk).mono M2.gr.kk
    have tk1 : xs.take (i + 1) = xs.take i ++ [xs[i]] := by rw [List.take_add_one]; simp [hlt]
    refine hb _ Hk2 H2 x s2 r2 g2.kh _ fun σ2 s3 e2 => ⟨by rw [e2, wipe_wipe], ?_⟩
    show tk σ2 H2 _
    refine hk σ2 Hk2 H2 s3 g2.kh M2.po _ fun yv yd Hk3 H3 g3 o3 e3 r3 => ?_
    subst e3
    have M3 := M2.step g3 o3 (ne a2)
    have a3 := M2.keep g3 a2
    refine hv σ2 Hk3 H3 (s3.mono g3.kk) g3.kh o3 _ fun v d Hk4 H4 g4 o4 hd r4 => ?_
    subst hd
    have M4 := M3.step g4 o4 (ne a3)
    have a4 := M3.keep g4 a3
    have ey := keyD_kV r3 hkd
    have hr4 := ((hr.mono g2.kk).mono g3.kk).mono g4.kk
    have hsz : acc.length < 100000 := by omega
    refine ⟨acc, ky xs[i], ey, a4, szl hsz, rfl, hlt, Hk4, _, M4.put _, upd_same, ?_, ?_⟩
    · show KRp Hk4 _ ((xs.take (i + 1)).foldl _ [])
      rw [tk1, List.foldl_append]
      exact hr4.put r4
    · have := length_putK acc (ky xs[i]) v
      omega
  · have e : i = xs.length := by omega
    subst e
    refine .inl ⟨w2 _ (by rw [hlen]; exact Nat.le_refl _), ?_⟩
    obtain ⟨g3, o3, k3⟩ := M.told hacc
    have hr' : KRp Hk' acc (xs.foldl (fun acc x => putG acc (ky x) (f x)) []) := by
      have := hr
      show KRp Hk' acc _
      simp only [G, List.take_length] at this
      exact this
    exact q (.ref D) _ _ H' (g1.trans g3) o3 rfl (.dk' upd_same (hr'.mono k3))
end
end Ab
end

section
set_option Elab.async false
set_option linter.all false
set_option maxRecDepth 100000
set_option maxHeartbeats 4000000
namespace Ab
open PySem PySem.Spec PyProof.Rows L2
/-! ### data compared -/
mutual
def py : Dt → PyData
  | .non => .none
  | .bl b => .bool b
  | .int i => .int i
  | .str s => .str s
  | .lst xs => .list (pys xs)
  | .tup xs => .tuple (pys xs)
  | .ft _ => .dict []
  | .fl _ => .dict []
  | .fk _ => .dict []
  | .dk _ => .dict []
  | .dt _ => .dict []
  | .ins _ _ => .dict []
  | .adr _ => .dict []
  | .ty _ => .dict []
def pys : List Dt → List PyData
  | [] => []
  | d :: ds => py d :: pys ds
end
mutual
theorem Rp.dp {K : PySem.W.Frag} {H H' : Hp} (k : Kn H H') : ∀ (d : Dt) (v : V), Rp H v d → (py d).plain = true → Dp K H' v (py d)
  | .non, _, .non, _ => .non
  | .bl b, _, .bl _, _ => .bl b
  | .int b, _, .int _, _ => .int b
  | .str b, _, .str _, _ => .str b
  | .lst ds, _, .lst e r, h => .lst (.inl (.inl (k _ _ e))) (Rps.dp k ds _ r h)
  | .tup ds, _, .tup e r, h => .tup (.inl (.inl (k _ _ e))) (Rps.dp k ds _ r h)
  | .ft _, _, _, h => nomatch h
  | .fl _, _, _, h => nomatch h
  | .fk _, _, _, h => nomatch h
  | .dk _, _, _, h => nomatch h
  | .dt _, _, _, h => nomatch h
  | .ins _ _, _, _, h => nomatch h
  | .adr _, _, _, h => nomatch h
  | .ty _, _, _, h => nomatch h
theorem Rps.dp {K : PySem.W.Frag} {H H' : Hp} (k : Kn H H') : ∀ (ds : List Dt) (vs : List V), Rps H vs ds → PyData.plainAll (pys ds) = true → DpAll K H' vs (pys ds)
  | [], _, .nil, _ => .nil
  | d :: ds, _, .cons a b, h => by
    have h' : (py d).plain = true ∧ PyData.plainAll (pys ds) = true := Bool.and_eq_true_iff.mp h
    exact .cons (Rp.dp k d _ a h'.1) (Rps.dp k ds _ b h'.2)
end
/-- == and != of plain data -/
def rEqP (K : PySem.W.Frag) : R2 := fun x y H Q => ∃ d e, Dp K H x d ∧ Dp K H y e ∧ d.plain = true ∧ e.plain = true ∧ min d.depth e.depth ≤ 63 ∧ Q (.bl (PyData.eqv d e)) H
def rNeP (K : PySem.W.Frag) : R2 := fun x y H Q => ∃ d e, Dp K H x d ∧ Dp K H y e ∧ d.plain = true ∧ e.plain = true ∧ min d.depth e.depth ≤ 63 ∧ Q (.bl (!PyData.eqv d e)) H
def rNinP (K : PySem.W.Frag) : R2 := fun x y H Q => ∃ d ds, Dp K H x d ∧ Dp K H y (.list ds) ∧ d.plain = true ∧ PyData.plainAll ds = true ∧ d.depth ≤ 60 ∧ Q (.bl (!ds.any fun z => PyData.eqv z d)) H
theorem op_eqP {X : Cx} (hu : X.A.units + 64 < cLine) : OpR X (compareOp .Eq) (rEqP X.K) := fun pins s σ H x y v u Q I rx ry ⟨d, e, hd, he, p1, p2, p3, q⟩ => by
  obtain ⟨as, r1⟩ := Dp.reads I d x v hd rx
  obtain ⟨bs, r2⟩ := Dp.reads I e y u he ry
  exact SeqAt.eq_plain r1 r2 p1 p2 (by omega) ⟨.bl _, H, I, rfl, q⟩
theorem op_neP {X : Cx} (hu : X.A.units + 64 < cLine) : OpR X (compareOp .NotEq) (rNeP X.K) := fun pins s σ H x y v u Q I rx ry ⟨d, e, hd, he, p1, p2, p3, q⟩ => by
  obtain ⟨as, r1⟩ := Dp.reads I d x v hd rx
  obtain ⟨bs, r2⟩ := Dp.reads I e y u he ry
  exact SeqAt.ne_plain r1 r2 p1 p2 (by omega) ⟨.bl _, H, I, rfl, q⟩
theorem op_ninP {X : Cx} (hu : X.A.units + 64 < cLine) : OpR X (compareOp .NotIn) (rNinP X.K) := fun pins s σ H x y v u Q I rx ry ⟨d, ds, hd, he, p1, p2, p3, q⟩ => by
  obtain ⟨as, r1⟩ := Dp.reads I d x v hd rx
  obtain ⟨bs, r2⟩ := Dp.reads I (.list ds) y u he ry
  refine SeqAt.notIn_list_data r2 r1 p2 p1 ?_ ⟨.bl _, H, I, rfl, q⟩
  have : min (PyData.depthAll ds) d.depth ≤ d.depth := Nat.min_le_right _ _
  omega
section
variable {p : Option Addr} {K : PySem.W.Frag}
theorem rv_eqP {x y : Dt} {b : Bool} (h1 : (py x).plain = true) (h2 : (py y).plain = true) (h3 : min (py x).depth (py y).depth ≤ 63) (h4 : PyData.eqv (py x) (py y) = b) : RvD p (rEqP K) x y (.bl b) :=
  rvd fun u v Hk H r1 r2 k Q q => ⟨py x, py y, Rp.dp k x u r1 h1, Rp.dp k y v r2 h2, h1, h2, h3, q _ (by rw [h4]; exact .bl b)⟩
theorem rv_neP {x y : Dt} {b : Bool} (h1 : (py x).plain = true) (h2 : (py y).plain = true) (h3 : min (py x).depth (py y).depth ≤ 63) (h4 : PyData.eqv (py x) (py y) = b) : RvD p (rNeP K) x y (.bl (!b)) :=
  rvd fun u v Hk H r1 r2 k Q q => ⟨py x, py y, Rp.dp k x u r1 h1, Rp.dp k y v r2 h2, h1, h2, h3, q _ (by rw [h4]; exact .bl _)⟩
theorem rv_ninP {x : Dt} {ys : List Dt} {b : Bool} (h1 : (py x).plain = true) (h2 : PyData.plainAll (pys ys) = true) (h3 : (py x).depth ≤ 60) (h4 : ((pys ys).any fun z => PyData.eqv z (py x)) = b) : RvD p (rNinP K) x (.lst ys) (.bl (!b)) :=
  rvd fun u v Hk H r1 r2 k Q q => ⟨py x, pys ys, Rp.dp k x u r1 h1, Rp.dp k (.lst ys) v r2 h2, h1, h2, h3, q _ (by rw [h4]; exact .bl _)⟩
end
/-! what == tells of the shapes that are met -/
theorem pys_map {α : Type} (f : α → Dt) : ∀ xs : List α, pys (xs.map f) = xs.map fun x => py (f x)
  | [] => rfl
  | x :: xs => by rw [List.map_cons, List.map_cons]; show py (f x) :: pys (xs.map f) = _; rw [pys_map f xs]
theorem plainAll_map {α : Type} (f : α → PyData) : ∀ xs : List α, (∀ x ∈ xs, (f x).plain = true) → PyData.plainAll (xs.map f) = true
  | [], _ => rfl
  | x :: xs, h => by
    show ((f x).plain && PyData.plainAll (xs.map f)) = true
    rw [h x List.mem_cons_self, plainAll_map f xs fun y hy => h y (List.mem_cons_of_mem _ hy)]
    rfl
theorem depthAll_map {α : Type} (f : α → PyData) (n : Nat) : ∀ xs : List α, (∀ x ∈ xs, (f x).depth ≤ n) → PyData.depthAll (xs.map f) ≤ n
  | [], _ => Nat.zero_le _
  | x :: xs, h => by
    show max (f x).depth (PyData.depthAll (xs.map f)) ≤ n
    have := h x List.mem_cons_self
    have := depthAll_map f n xs fun y hy => h y (List.mem_cons_of_mem _ hy)
    omega
/-- two lists mapped by something that == tells apart -/
theorem eqvAll_map {α : Type} [DecidableEq α] (f : α → PyData) (h : ∀ x y, PyData.eqv (f x) (f y) = decide (x = y)) : ∀ xs ys : List α, PyData.eqvAll (xs.map f) (ys.map f) = decide (xs = ys)
  | [], [] => rfl
  | [], y :: ys => by simp [PyData.eqvAll]
  | x :: xs, [] => by simp [PyData.eqvAll]
  | x :: xs, y :: ys => by
    show (PyData.eqv (f x) (f y) && PyData.eqvAll (xs.map f) (ys.map f)) = _
    rw [h x y, eqvAll_map f h xs ys]
    by_cases e1 : x = y <;> by_cases e2 : xs = ys <;> simp [e1, e2]
theorem eqvAll_nil : ∀ xs : List PyData, PyData.eqvAll xs [] = xs.isEmpty
  | [] => rfl
  | _ :: _ => rfl
def tupI (ns : List Int) : Dt := .tup (ns.map .int)
def tupS (ns : List Str) : Dt := .tup (ns.map .str)
def lstI (ns : List Int) : Dt := .lst (ns.map .int)
def lstS (ns : List Str) : Dt := .lst (ns.map .str)
theorem eqv_int (x y : Int) : PyData.eqv (.int x) (.int y) = decide (x = y) := by
  show (x == y) = _
  by_cases e : x = y <;> simp [e]
theorem eqv_str (x y : Str) : PyData.eqv (.str x) (.str y) = decide (x = y) := by
  show (x == y) = _
  by_cases e : x = y <;> simp [e]
theorem py_tupI (ns : List Int) : py (tupI ns) = .tuple (ns.map .int) := by show PyData.tuple (pys (ns.map Dt.int)) = _; rw [pys_map]; rfl
theorem py_lstI (ns : List Int) : py (lstI ns) = .list (ns.map .int) := by show PyData.list (pys (ns.map Dt.int)) = _; rw [pys_map]; rfl
theorem py_tupS (ns : List Str) : py (tupS ns) = .tuple (ns.map .str) := by show PyData.tuple (pys (ns.map Dt.str)) = _; rw [pys_map]; rfl
theorem py_lstS (ns : List Str) : py (lstS ns) = .list (ns.map .str) := by show PyData.list (pys (ns.map Dt.str)) = _; rw [pys_map]; rfl
theorem eqv_tupI (x y : List Int) : PyData.eqv (py (tupI x)) (py (tupI y)) = decide (x = y) := by
  rw [py_tupI, py_tupI]
  exact eqvAll_map _ eqv_int x y
theorem eqv_lstI (x y : List Int) : PyData.eqv (py (lstI x)) (py (lstI y)) = decide (x = y) := by
  rw [py_lstI, py_lstI]
  exact eqvAll_map _ eqv_int x y
theorem eqv_tupS (x y : List Str) : PyData.eqv (py (tupS x)) (py (tupS y)) = decide (x = y) := by
  rw [py_tupS, py_tupS]
  exact eqvAll_map _ eqv_str x y
theorem plain_tupI (x : List Int) : (py (tupI x)).plain = true := by rw [py_tupI]; exact plainAll_map _ x fun _ _ => rfl
theorem plain_lstI (x : List Int) : (py (lstI x)).plain = true := by rw [py_lstI]; exact plainAll_map _ x fun _ _ => rfl
theorem plain_tupS (x : List Str) : (py (tupS x)).plain = true := by rw [py_tupS]; exact plainAll_map _ x fun _ _ => rfl
theorem plain_lstS (x : List Str) : (py (lstS x)).plain = true := by rw [py_lstS]; exact plainAll_map _ x fun _ _ => rfl
theorem depth_tupI (x : List Int) : (py (tupI x)).depth ≤ 1 := by rw [py_tupI]; exact Nat.succ_le_succ (depthAll_map _ 0 x fun _ _ => Nat.le_refl _)
theorem depth_lstI (x : List Int) : (py (lstI x)).depth ≤ 1 := by rw [py_lstI]; exact Nat.succ_le_succ (depthAll_map _ 0 x fun _ _ => Nat.le_refl _)
theorem depth_tupS (x : List Str) : (py (tupS x)).depth ≤ 1 := by rw [py_tupS]; exact Nat.succ_le_succ (depthAll_map _ 0 x fun _ _ => Nat.le_refl _)
section
variable {p : Option Addr} {K : PySem.W.Frag}
theorem rv_eqTI {x y : List Int} : RvD p (rEqP K) (tupI x) (tupI y) (.bl (decide (x = y))) := rv_eqP (plain_tupI x) (plain_tupI y) (by have := depth_tupI x; omega) (eqv_tupI x y)
theorem rv_neTI {x y : List Int} : RvD p (rNeP K) (tupI x) (tupI y) (.bl (!decide (x = y))) := rv_neP (plain_tupI x) (plain_tupI y) (by have := depth_tupI x; omega) (eqv_tupI x y)
theorem rv_eqLI {x y : List Int} : RvD p (rEqP K) (lstI x) (lstI y) (.bl (decide (x = y))) := rv_eqP (plain_lstI x) (plain_lstI y) (by have := depth_lstI x; omega) (eqv_lstI x y)
theorem rv_neTS {x y : List Str} : RvD p (rNeP K) (tupS x) (tupS y) (.bl (!decide (x = y))) := rv_neP (plain_tupS x) (plain_tupS y) (by have := depth_tupS x; omega) (eqv_tupS x y)
/-- lists of such tuples -/
theorem rv_eqLTS {x y : List (List Str)} : RvD p (rEqP K) (.lst (x.map tupS)) (.lst (y.map tupS)) (.bl (decide (x = y))) := by
  refine rv_eqP ?_ ?_ ?_ ?_
  · show PyData.plainAll (pys (x.map tupS)) = true; rw [pys_map]; exact plainAll_map _ x fun z _ => plain_tupS z
  · show PyData.plainAll (pys (y.map tupS)) = true; rw [pys_map]; exact plainAll_map _ y fun z _ => plain_tupS z
  · have : (py (.lst (x.map tupS))).depth ≤ 2 := by
      show PyData.depthAll (pys (x.map tupS)) + 1 ≤ 2
      rw [pys_map]
      exact Nat.succ_le_succ (depthAll_map _ 1 x fun z _ => depth_tupS z)
    omega
  · show PyData.eqvAll (pys (x.map tupS)) (pys (y.map tupS)) = _
    rw [pys_map, pys_map]
    exact eqvAll_map _ eqv_tupS x y
theorem rv_neLTI {x y : List (List Int)} : RvD p (rNeP K) (.lst (x.map tupI)) (.lst (y.map tupI)) (.bl (!decide (x = y))) := by
  refine rv_neP ?_ ?_ ?_ ?_
  · show PyData.plainAll (pys (x.map tupI)) = true; rw [pys_map]; exact plainAll_map _ x fun z _ => plain_tupI z
  · show PyData.plainAll (pys (y.map tupI)) = true; rw [pys_map]; exact plainAll_map _ y fun z _ => plain_tupI z
  · have : (py (.lst (x.map tupI))).depth ≤ 2 := by
      show PyData.depthAll (pys (x.map tupI)) + 1 ≤ 2
      rw [pys_map]
      exact Nat.succ_le_succ (depthAll_map _ 1 x fun z _ => depth_tupI z)
    omega
  · show PyData.eqvAll (pys (x.map tupI)) (pys (y.map tupI)) = _
    rw [pys_map, pys_map]
    exact eqvAll_map _ eqv_tupI x y
/-- with the empty list -/
theorem rv_eqNil {xs : List Dt} (h : PyData.plainAll (pys xs) = true) : RvD p (rEqP K) (.lst xs) (.lst []) (.bl xs.isEmpty) := rv_eqP h rfl (by show min _ 1 ≤ 63; omega) (by show PyData.eqvAll (pys xs) [] = _; rw [eqvAll_nil]; cases xs <;> rfl)
theorem rv_neNil {xs : List Dt} (h : PyData.plainAll (pys xs) = true) : RvD p (rNeP K) (.lst xs) (.lst []) (.bl (!xs.isEmpty)) := rv_neP h rfl (by show min _ 1 ≤ 63; omega) (by show PyData.eqvAll (pys xs) [] = _; rw [eqvAll_nil]; cases xs <;> rfl)
theorem rv_ninTS {x : List Str} {ys : List (List Str)} : RvD p (rNinP K) (tupS x) (.lst (ys.map tupS)) (.bl (!decide (x ∈ ys))) := by
  refine rv_ninP (plain_tupS x) (by rw [pys_map]; exact plainAll_map _ ys fun z _ => plain_tupS z) (by have := depth_tupS x; omega) ?_
  rw [pys_map]
  induction ys with
  | nil => simp
  | cons y ys ih =>
    rw [List.map_cons, List.any_cons, ih, eqv_tupS]
    by_cases e : x = y
    · subst e; simp
    · have e' : ¬ y = x := fun z => e z.symm
      simp [e, e']
end
/-! ### built-ins by values -/
section
variable {p : Option Addr} {K : PySem.W.Frag}
theorem rcd {r : List V → Hp → VK → Prop} {xs : List Dt} {z : Dt} (h : ∀ us Hk H, Rps Hk us xs → Kn Hk H → ∀ Q : VK, (∀ w, Rp Hk w z → Q w H) → r us H Q) : RcD p r xs z := fun us Hk H r1 k o Q q => h us Hk H r1 k Q fun w rw => q w z Hk H (.refl k) o rfl rw
theorem rps1 {H : Hp} {us : List V} {d : Dt} (r : Rps H us [d]) : ∃ v, us = [v] ∧ Rp H v d := by
  cases r with
  | cons a b => cases b; exact ⟨_, rfl, a⟩
theorem rps2 {H : Hp} {us : List V} {d e : Dt} (r : Rps H us [d, e]) : ∃ v w, us = [v, w] ∧ Rp H v d ∧ Rp H w e := by
  cases r with
  | cons a b =>
    obtain ⟨w, e, h⟩ := rps1 b
    exact ⟨_, w, by rw [e], a, h⟩
theorem rc_len {t : Sq} {ds : List Dt} : RcD p (fun xs H Q => ∃ p ys, xs = [.ref p] ∧ (SqL K H p ys ∨ SqT K H p ys) ∧ Q (.int ys.length) H) [seqD t ds] (.int (ds.length : Nat)) := rcd fun us Hk H r k Q q => by
  obtain ⟨v, rfl, h⟩ := rps1 r
  obtain ⟨a, vs, e, h1, h2⟩ := seq_any (K := K) k h
  exact ⟨a, vs, by rw [e], h2, q _ (by rw [h1.length]; exact .int _)⟩
theorem rc_lenS {z : Str} (hz : z.length ≤ 100000) : RcD p (fun xs H Q => ∃ z, xs = [.str z] ∧ z.length ≤ sizeLine ∧ Q (.int z.length) H) [.str z] (.int (z.length : Nat)) := rcd fun us Hk H r k Q q => by
  obtain ⟨v, rfl, h⟩ := rps1 r
  cases h
  exact ⟨z, rfl, szL hz, q _ (.int _)⟩
theorem rc_lenD {ks : List (Key × Dt)} : RcD p (fun xs H Q => ∃ a kvs, xs = [V.ref a] ∧ H a = some (.dK kvs) ∧ Q (.int kvs.length) H) [.dk ks] (.int (ks.length : Nat)) := rcd fun us Hk H r k Q q => by
  obtain ⟨v, rfl, h⟩ := rps1 r
  obtain ⟨a, kvs, e, h1, h2⟩ := h.dk_inv
  exact ⟨a, kvs, by rw [e], k _ _ h1, q _ (by rw [h2.length]; exact .int _)⟩
theorem rc_lenDT {ks : List (List Key × Dt)} : RcD p rLenT [.dt ks] (.int (ks.length : Nat)) := rcd fun us Hk H r k Q q => by
  obtain ⟨v, rfl, h⟩ := rps1 r
  obtain ⟨a, kvs, e, h1, h2⟩ := h.dt_inv
  exact ⟨a, kvs, by rw [e], k _ _ h1, q _ (by rw [h2.length]; exact .int _)⟩
theorem sqL_of {Hk H : Hp} {v : V} {ds : List Dt} (k : Kn Hk H) (h : Rp Hk v (.lst ds)) : ∃ a vs, v = .ref a ∧ SqL K H a vs ∧ Rps Hk vs ds := by
  obtain ⟨a, vs, e, h1, h2⟩ := h.lst_inv
  exact ⟨a, vs, e, .inl (.inl (k _ _ h1)), h2⟩
theorem rc_all {bs : List Bool} : RcD p (rAll K) [.lst (bs.map .bl)] (.bl (bs.all id)) := rcd fun us Hk H r k Q q => by
  obtain ⟨v, rfl, h⟩ := rps1 r
  obtain ⟨a, vs, e, h1, h2⟩ := sqL_of (K := K) k h
  have := h2.bls
  subst this e
  exact ⟨a, bs, rfl, h1, q _ (.bl _)⟩
theorem rc_any {bs : List Bool} : RcD p (rAny K) [.lst (bs.map .bl)] (.bl (bs.any id)) := rcd fun us Hk H r k Q q => by
  obtain ⟨v, rfl, h⟩ := rps1 r
  obtain ⟨a, vs, e, h1, h2⟩ := sqL_of (K := K) k h
  have := h2.bls
  subst this e
  exact ⟨a, bs, rfl, h1, q _ (.bl _)⟩
theorem rc_sum {ns : List Int} : RcD p (rSum K) [lstI ns] (.int ns.sum) := rcd fun us Hk H r k Q q => by
  obtain ⟨v, rfl, h⟩ := rps1 r
  obtain ⟨a, vs, e, h1, h2⟩ := sqL_of (K := K) k h
  have := h2.ints
  subst this e
  exact ⟨a, ns, rfl, h1, q _ (.int _)⟩
/-- ints in their order -/
def srtI (ns : List Int) : List Int := ns.mergeSort fun a b => decide (a ≤ b)
theorem srtI_perm (ns : List Int) : (srtI ns).Perm ns := List.mergeSort_perm _ _
theorem srtI_up (ns : List Int) : (srtI ns).Pairwise (· ≤ ·) := by
  have h := List.pairwise_mergeSort (le := fun a b : Int => decide (a ≤ b)) (fun a b c h1 h2 => by simp at *; omega) (fun a b => by simp; omega) ns
  exact h.imp fun z => by simpa using z
theorem srtI_of {ns ms : List Int} (h1 : ms.Perm ns) (h2 : ms.Pairwise (· ≤ ·)) : ms = srtI ns := PySem.W.ksm_same (h1.trans (srtI_perm ns).symm) h2 (srtI_up ns)
theorem rc_sortI {ns : List Int} (hl : ns.length < 64) : RcD p (rSorted K) [lstI ns] (lstI (srtI ns)) := fun us Hk H r k o Q q => by
  obtain ⟨v, rfl, h⟩ := rps1 r
  obtain ⟨a, vs, e, h1, h2⟩ := sqL_of (K := K) k h
  have := h2.ints
  subst this e
  refine ⟨a, ns, rfl, h1, hl, fun ms l p1 p2 hl' => ?_⟩
  rw [srtI_of p1 p2]
  obtain ⟨g, o', r⟩ := newL (p := p) k o hl' (Rps.of_ints (srtI ns))
  exact q _ _ _ _ g o' rfl r
theorem rc_sortD {ks : List (Key × Dt)} {is : List Int} (hk : ks.map (·.1) = is.map Sum.inl) (hl : is.length < 64) : RcD p (fun xs H Q => ∃ (a : Addr) (kvs : List (Key × V)) (ks : List Int), xs = [.ref a] ∧ Rd H a (.dK kvs) ∧ kvs.map (·.1) = ks.map Sum.inl ∧ ks.length < 64 ∧ ∀ (ys : List Int) (p : Addr), ys.Perm ks → ys.Pairwise (· ≤ ·) → H p = none → Q (.ref p) (upd H p (.lst (ys.map V.int)))) [.dk ks] (lstI (srtI is)) := fun us Hk H r k o Q q => by
  obtain ⟨v, rfl, h⟩ := rps1 r
  obtain ⟨a, kvs, e, h1, h2⟩ := h.dk_inv
  subst e
  refine ⟨a, kvs, is, rfl, .inl (k _ _ h1), by rw [h2.keys, hk], hl, fun ms l p1 p2 hl' => ?_⟩
  rw [srtI_of p1 p2]
  obtain ⟨g, o', r⟩ := newL (p := p) k o hl' (Rps.of_ints (srtI is))
  exact q _ _ _ _ g o' rfl r
/-- texts in their order: some such list (there is one) -/
noncomputable def srtS (xs : List Str) : List Str := open Classical in if h : ∃ ys : List Str, ys.Perm xs ∧ sortedS ys = true then h.choose else xs
theorem ltCps_tri : ∀ a b : List Nat, ltCps a b = false → ltCps b a = false → a = b
  | [], [], _, _ => rfl
  | [], _ :: _, h, _ => by simp [ltCps] at h
  | _ :: _, [], _, h => by simp [ltCps] at h
  | x :: xs, y :: ys, h1, h2 => by
    unfold ltCps at h1 h2
    by_cases e : x = y
    · subst e
      simp at h1 h2
      rw [ltCps_tri xs ys h1 h2]
    · exfalso
      have : x < y ∨ y < x := Nat.lt_or_gt_of_ne e
      rcases this with z | z
      · have z' : ¬ y < x := by omega
        simp [z, z', e] at h1
      · have z' : ¬ x < y := by omega
        have e' : ¬ y = x := fun q => e q.symm
        simp [z, z', e'] at h2
def upS : List Str → Prop := fun xs => xs.Pairwise fun a b => ltCps b.cps.toList a.cps.toList = false
theorem ltCps_trans : ∀ a b c : List Nat, ltCps b a = false → ltCps c b = false → ltCps c a = false
  | [], [], [], _, _ => rfl
  | [], [], _ :: _, _, _ => rfl
  | [], _ :: _, [], h1, h2 => by simp [ltCps] at h2
  | [], _ :: _, _ :: _, h1, h2 => rfl
  | _ :: _, [], [], h1, h2 => by simp [ltCps] at h1
  | _ :: _, [], _ :: _, h1, h2 => by simp [ltCps] at h1
  | _ :: _, _ :: _, [], h1, h2 => by simp [ltCps] at h2
  | x :: xs, y :: ys, z :: zs, h1, h2 => by
    unfold ltCps at h1 h2 ⊢
    simp only [Bool.or_eq_false_iff, decide_eq_false_iff_not, Bool.and_eq_false_iff, beq_eq_false_iff_ne, ne_eq] at h1 h2 ⊢
    obtain ⟨a1, a2⟩ := h1
    obtain ⟨b1, b2⟩ := h2
    refine ⟨by omega, ?_⟩
    by_cases e : z = x
    · right
      have e1 : y = x := by omega
      have e2 : z = y := by omega
      exact ltCps_trans xs ys zs (a2.resolve_left (fun q => q e1)) (b2.resolve_left (fun q => q e2))
    · exact .inl e
theorem up_of : ∀ (xs : List Str), sortedS xs = true → upS xs := by
  have go : ∀ (xs : List Str) (x : Str), risingS x xs = true → upS (x :: xs) := by
    intro xs
    induction xs with
    | nil => intro x _; exact List.pairwise_singleton _ _
    | cons y ys ih =>
      intro x h
      have h' : (!ltCps y.cps.toList x.cps.toList && risingS y ys) = true := h
      obtain ⟨h1, h2⟩ := Bool.and_eq_true_iff.mp h'
      have u := ih y h2
      have e1 : ltCps y.cps.toList x.cps.toList = false := by simpa using h1
      refine List.pairwise_cons.mpr ⟨fun z hz => ?_, u⟩
      rcases List.mem_cons.mp hz with rfl | hz
      · exact e1
      · exact ltCps_trans _ _ _ e1 ((List.pairwise_cons.mp u).1 z hz)
  intro xs h
  cases xs with
  | nil => exact List.Pairwise.nil
  | cons x xs => exact go xs x h
theorem str_ext' {a b : Str} (h : a.cps.toList = b.cps.toList) : a = b := by
  cases a; cases b
  simp only [Str.mk.injEq]
  exact Array.toList_inj.mp h
theorem up_same : ∀ {xs ys : List Str}, xs.Perm ys → upS xs → upS ys → xs = ys
  | [], ys, h, _, _ => (List.nil_perm.mp h).symm
  | x :: xs, [], h, _, _ => (List.perm_nil.mp h)
  | x :: xs, y :: ys, h, h1, h2 => by
    have e : x = y := by
      by_cases q : x = y
      · exact q
      · have m1 : y ∈ xs := by
          rcases List.mem_cons.mp (h.mem_iff.mpr (List.mem_cons_self (a := y))) with z | z
          · exact absurd z.symm q
          · exact z
        have m2 : x ∈ ys := by
          rcases List.mem_cons.mp (h.mem_iff.mp (List.mem_cons_self (a := x))) with z | z
          · exact absurd z q
          · exact z
        exact str_ext' (ltCps_tri _ _ ((List.pairwise_cons.mp h2).1 x m2) ((List.pairwise_cons.mp h1).1 y m1))
    subst e
    rw [up_same (List.Perm.cons_inv h) (List.pairwise_cons.mp h1).2 (List.pairwise_cons.mp h2).2]
theorem srtS_of {xs ys : List Str} (h1 : ys.Perm xs) (h2 : sortedS ys = true) : ys = srtS xs ∧ (srtS xs).Perm xs := by
  have ex : ∃ ys : List Str, ys.Perm xs ∧ sortedS ys = true := ⟨ys, h1, h2⟩
  unfold srtS
  rw [dif_pos ex]
  obtain ⟨c1, c2⟩ := ex.choose_spec
  exact ⟨up_same (h1.trans c1.symm) (up_of _ h2) (up_of _ c2), c1⟩
theorem rc_sortS {xs : List Str} (hl : xs.length < 64) : RcP p (rSortedS K) [lstS xs] (fun d => d = lstS (srtS xs) ∧ (srtS xs).Perm xs) := fun us Hk H r k o Q q => by
  obtain ⟨v, rfl, h⟩ := rps1 r
  obtain ⟨a, vs, e, h1, h2⟩ := sqL_of (K := K) k h
  have := h2.strs
  subst this e
  refine ⟨a, xs, rfl, h1, hl, fun ms l p1 p2 hl' => ?_⟩
  obtain ⟨e1, e2⟩ := srtS_of p1 p2
  rw [e1]
  obtain ⟨g, o', r⟩ := newL (p := p) k o hl' (Rps.of_strs (srtS xs))
  exact q _ _ _ _ g o' ⟨rfl, e2⟩ r
theorem rc_int {i : Int} : RcD p (fun xs H Q => (∃ i, xs = [.int i] ∧ Q (.int i) H) ∨ ∃ k, xs = [.bl k] ∧ Q (.int (if k then 1 else 0)) H) [.int i] (.int i) := rcd fun us Hk H r k Q q => by
  obtain ⟨v, rfl, h⟩ := rps1 r
  cases h
  exact .inl ⟨i, rfl, q _ (.int _)⟩
theorem rc_intB {i : Bool} : RcD p (fun xs H Q => (∃ i, xs = [.int i] ∧ Q (.int i) H) ∨ ∃ k, xs = [.bl k] ∧ Q (.int (if k then 1 else 0)) H) [.bl i] (.int (if i then 1 else 0)) := rcd fun us Hk H r k Q q => by
  obtain ⟨v, rfl, h⟩ := rps1 r
  cases h
  exact .inr ⟨i, rfl, q _ (.int _)⟩
theorem rc_strS {z : Str} : RcD p (fun xs H Q => ∃ a, xs = [.str a] ∧ Q (.str a) H) [.str z] (.str z) := rcd fun us Hk H r k Q q => by
  obtain ⟨v, rfl, h⟩ := rps1 r
  cases h
  exact ⟨z, rfl, q _ (.str _)⟩
theorem rc_max {i j : Int} : RcD p (fun xs H Q => ∃ i j, xs = [.int i, .int j] ∧ Q (.int (if j > i then j else i)) H) [.int i, .int j] (.int (if j > i then j else i)) := rcd fun us Hk H r k Q q => by
  obtain ⟨v, w, rfl, h1, h2⟩ := rps2 r
  cases h1; cases h2
  exact ⟨i, j, rfl, q _ (.int _)⟩
theorem rc_min {i j : Int} : RcD p (fun xs H Q => ∃ i j, xs = [.int i, .int j] ∧ Q (.int (if j < i then j else i)) H) [.int i, .int j] (.int (if j < i then j else i)) := rcd fun us Hk H r k Q q => by
  obtain ⟨v, w, rfl, h1, h2⟩ := rps2 r
  cases h1; cases h2
  exact ⟨i, j, rfl, q _ (.int _)⟩
theorem rc_list {t : Sq} {ds : List Dt} : RcD p (fun xs H Q => ∃ p ys, xs = [.ref p] ∧ (SqL K H p ys ∨ SqT K H p ys) ∧ ∀ l, H l = none → Q (.ref l) (upd H l (.lst ys))) [seqD t ds] (.lst ds) := fun us Hk H r k o Q q => by
  obtain ⟨v, rfl, h⟩ := rps1 r
  obtain ⟨a, vs, e, h1, h2⟩ := seq_any (K := K) k h
  refine ⟨a, vs, by rw [e], h2, fun l hl' => ?_⟩
  obtain ⟨g, o', r⟩ := newL (p := p) k o hl' h1
  exact q _ _ _ _ g o' rfl r
theorem rc_tuple {ds : List Dt} : RcD p (fun xs H Q => ∃ p ys, xs = [.ref p] ∧ ((SqL K H p ys ∧ ∀ l, H l = none → Q (.ref l) (upd H l (.tup ys))) ∨ (SqT K H p ys ∧ Q (.ref p) H))) [.lst ds] (.tup ds) := fun us Hk H r k o Q q => by
  obtain ⟨v, rfl, h⟩ := rps1 r
  obtain ⟨a, vs, e, e2, h1⟩ := h.lst_inv
  refine ⟨a, vs, by rw [e], .inl ⟨.inl (.inl (k _ _ e2)), fun l hl' => ?_⟩⟩
  obtain ⟨g, o', r⟩ := newT (p := p) k o hl' h1
  exact q _ _ _ _ g o' rfl r
/-- isinstance -/
def tyD : Dt → Option String
  | .non => some "NoneType"
  | .bl _ => some "bool"
  | .int _ => some "int"
  | .str _ => some "str"
  | .lst _ => some "list"
  | .tup _ => some "tuple"
  | .ft _ => some "tuple"
  | .dk _ => some "dict"
  | _ => none
theorem tyD_ok {Hk H : Hp} (k : Kn Hk H) {v : V} {d : Dt} (r : Rp Hk v d) {T : String} (h : tyD d = some T) : TyX K H v (.type T) := by
  cases r with
  | non => cases h; exact .base .non
  | bl b => cases h; exact .base (.bl b)
  | int b => cases h; exact .base (.int b)
  | str b => cases h; exact .base (.str b)
  | lst e _ => cases h; exact .base (.lst (k _ _ e))
  | tup e _ => cases h; exact .base (.tup (k _ _ e))
  | ft _ e _ => cases h; exact .fTuple (k _ _ e)
  | dk e _ _ => cases h; exact .base (.dK (k _ _ e))
  | _ => cases h
theorem rc_isi {d : Dt} {T n : String} {b : Bool} (h : tyD d = some T) (hb : kitB T n = some b) : RcD p (rIsi K) [d, .ty n] (.bl b) := rcd fun us Hk H r k Q q => by
  obtain ⟨v, w, rfl, h1, h2⟩ := rps2 r
  cases h2
  exact ⟨v, .ty n, .type T, .type n, b, rfl, .ty n, tyD_ok k h1 h, kit_ty hb, q _ (.bl _)⟩
theorem rc_isiT2 {d : Dt} {T n m : String} {b c : Bool} (h : tyD d = some T) (hb : kitB T n = some b) (hc : kitB T m = some c) : RcD p (rIsiT K) [d, .tup [.ty n, .ty m]] (.bl (b || c)) := rcd fun us Hk H r k Q q => by
  obtain ⟨v, w, rfl, h1, h2⟩ := rps2 r
  obtain ⟨a, vs, e, h3, h4⟩ := h2.tup_inv
  obtain ⟨v1, v2, e2, h5, h6⟩ := rps2 h4
  cases h5; cases h6
  subst e e2
  refine ⟨v, a, [.ty n, .ty m], .type T, [.type n, .type m], b || c, rfl, k _ _ h3, .cons (.ty n) (.cons (.ty m) .nil), tyD_ok k h1 h, ?_, q _ (.bl _)⟩
  refine kitAny_cons (kit_ty hb) (fun e => ?_) (fun e => by rw [e]; rfl)
  rw [e]
  exact kitAny_cons (kit_ty hc) (fun e => by rw [e]; exact kitAny_nil) (fun e => by rw [e]; rfl)
end
end Ab
end

section
set_option Elab.async false
set_option linter.all false
set_option maxRecDepth 100000
set_option maxHeartbeats 4000000
namespace Ab
open PySem PySem.Spec PyProof.Rows L2
/-! ### promises -/
def SpD (R : List Dt → Dt → Prop) : Sp := fun vs H Q _ => ∃ Hk ds d, Kn Hk H ∧ Rps Hk vs ds ∧ R ds d ∧ ∀ v Hk' H', Grow noF Hk H Hk' H' → Rp Hk' v d → Q v H'
def SpP (R : List Dt → (Dt → Prop) → Prop) : Sp := fun vs H Q _ => ∃ a Hk ds P, Kn Hk H ∧ PoolOk (some a) Hk H ∧ Rps Hk vs (.adr a :: ds) ∧ R ds P ∧
  ∀ v d Hk' H', Grow (fr (some a)) Hk H Hk' H' → PoolOk (some a) Hk' H' → P d → Rp Hk' v d → Q v H'
section
variable {p : Option Addr} {K : PySem.W.Frag} {δ : List (Option Dt)} {te td : TE} {t : TA} {ds : List Dt} {d x : Dt} {E : XK}
theorem evp_call {R : List Dt → Dt → Prop} {T : List Dt → Prop} {P : Dt → Prop} (h : EvA p t δ T) (hr : ∀ ds, T ds → ∃ d, R ds d ∧ P d) : EvP p (tCall (SpD R) [] E t) δ P := fun σ Hk H s k o Q q =>
  h σ Hk H s k o _ fun vs es H1k H1 g1 o1 e r => by
    obtain ⟨d, hd, pd⟩ := hr es e
    show SpD R (vs ++ []) H1 Q E
    rw [List.append_nil]
    exact ⟨H1k, es, d, g1.kh, r, hd, fun v H2k H2 g2 r2 => q v d H2k H2 (g1.trans g2.up) (o1.grow g2) pd r2⟩
theorem ev_call {R : List Dt → Dt → Prop} (h : EvAD p t δ ds) (hr : R ds d) : EvD p (tCall (SpD R) [] E t) δ d := evp_call h fun es e => ⟨d, by rw [e]; exact hr, rfl⟩
theorem evp_callP {a : Addr} {R : List Dt → (Dt → Prop) → Prop} {T : List Dt → Prop} {P : Dt → Prop} (h : EvA (some a) t δ fun xs => ∃ ds, T ds ∧ xs = .adr a :: ds) (hr : ∀ ds, T ds → R ds P) : EvP (some a) (tCall (SpP R) [] E t) δ P := fun σ Hk H s k o Q q =>
  h σ Hk H s k o _ fun vs es H1k H1 g1 o1 ⟨xs, tx, e⟩ r => by
    subst e
    show SpP R (vs ++ []) H1 Q E
    rw [List.append_nil]
    exact ⟨a, H1k, xs, P, g1.kh, o1, r, hr xs tx, fun v d H2k H2 g2 o2 pd r2 => q v d H2k H2 (g1.trans g2) o2 pd r2⟩
/-- a method of an instance -/
theorem ev_meth {C : Addr} {m : Str} {R : List Dt → Dt → Prop} {gs : List (Str × Dt)} (h : EvD p te δ (.ins C gs)) (hm : gs.lookup m = none) (ha : EvAD p t δ ds) (hr : R (.ins C gs :: ds) d) : EvD p (tMeth C m (SpD R) [] E te t) δ d := fun σ Hk H s k o Q q =>
  h σ Hk H s k o _ fun u e0 H1k H1 g1 o1 e r => by
    subst e
    obtain ⟨ad, dx, fs, e, h1, h2⟩ := id r.ins_inv
    refine ⟨ad, dx, fs, e, g1.kh _ _ h1, krp_lookup_none h2 hm, ?_⟩
    refine ha σ H1k H1 (s.mono g1.kk) g1.kh o1 _ fun vs es H2k H2 g2 o2 e2 r2 => ?_
    subst e2
    show SpD R (u :: (vs ++ [])) H2 Q E
    rw [List.append_nil]
    exact ⟨H2k, _, d, g2.kh, .cons (r.mono g2.kk) r2, hr, fun v H3k H3 g3 r3 => q v d H3k H3 ((g1.trans g2).trans g3.up) (o2.grow g3) rfl r3⟩
/-- truth -/
theorem et_truth {b : Bool} (h : EvD p te δ d) (hb : truD d = some b) : EvTD p (fun σ H Q => te σ H fun x H' => ∃ k, TruV K x H' k ∧ Q k H') δ b := fun σ Hk H s k o Q q =>
  h σ Hk H s k o _ fun u e0 H1k H1 g1 o1 e r => by
    subst e
    refine ⟨b, ?_, q b H1k H1 g1 o1 rfl⟩
    cases r with
    | non => cases hb; rfl
    | bl c => cases hb; rfl
    | int i => cases hb; rfl
    | lst e r =>
      cases hb
      refine .inl ⟨_, .inl (.inl (g1.kh _ _ e)), ?_⟩
      cases r <;> rfl
    | tup e r =>
      cases hb
      refine .inr (.inl ⟨_, .inl (.inl (g1.kh _ _ e)), ?_⟩)
      cases r <;> rfl
    | @dk a kvs ks e e2 r =>
      cases hb
      refine .inr (.inr ⟨_, g1.kh _ _ e, ?_⟩)
      have := (KRp.of e2 r).length
      cases ks <;> cases kvs <;> simp at this ⊢
    | _ => cases hb
/-- xs[a:b] of a list -/
def EvO (p : Option Addr) (to : TO) (δ : List (Option Dt)) (P : Option Int → Prop) : Prop := ∀ σ Hk H, Sto Hk σ δ → Kn Hk H → PoolOk p Hk H →
  ∀ Q : Option Int → Hp → Prop, (∀ i Hk' H', Grow (fr p) Hk H Hk' H' → PoolOk p Hk' H' → P i → Q i H') → to σ H Q
theorem eo_none : EvO p tNoPart δ (fun i => i = none) := fun σ Hk H s k o Q q => q none Hk H (.refl k) o rfl
theorem eop_some {P : Int → Prop} (h : EvP p te δ fun d => ∃ i, P i ∧ d = .int i) : EvO p (tPart te) δ (fun o => ∃ i, P i ∧ o = some i) := fun σ Hk H s k o Q q => h σ Hk H s k o _ fun v d H1k H1 g1 o1 ⟨i, pi, e⟩ r => by
  subst e
  cases r
  exact ⟨i, rfl, q _ H1k H1 g1 o1 ⟨i, pi, rfl⟩⟩
theorem eo_some {i : Int} (h : EvD p te δ (.int i)) : EvO p (tPart te) δ (fun o => o = some i) := fun σ Hk H s k o Q q =>
  eop_some (P := fun j => j = i) (h.imp fun d e => ⟨i, rfl, e⟩) σ Hk H s k o Q fun j H1k H1 g o' ⟨i', e, e2⟩ => q j H1k H1 g o' (by rw [e2, e])
def cutD (xs : List Dt) (lo hi : Option Int) : List Dt := (xs.drop (HT.sIx xs.length 0 lo)).take (HT.sIx xs.length xs.length hi - HT.sIx xs.length 0 lo)
theorem cut_rps {H : Hp} {vs : List V} {ds : List Dt} (r : Rps H vs ds) (lo hi : Option Int) : Rps H (cutV vs lo hi) (cutD ds lo hi) := by
  unfold cutV cutD
  rw [r.length]
  exact (r.drop _).take _
theorem evp_slice {tl th : TO} {X : List Dt → Prop} {A B : Option Int → Prop} (h : EvP p te δ fun d => ∃ xs, X xs ∧ d = .lst xs) (h1 : EvO p tl δ A) (h2 : EvO p th δ B) :
    EvP p (tSl (rSlL K) te tl th) δ (fun d => ∃ xs a b, X xs ∧ A a ∧ B b ∧ d = .lst (cutD xs a b)) := fun σ Hk H s k o Q q =>
  h σ Hk H s k o _ fun v d H1k H1 g1 o1 ⟨xs, hx, e⟩ r1 => h1 σ H1k H1 (s.mono g1.kk) g1.kh o1 _ fun a H2k H2 g2 o2 ha => h2 σ H2k H2 ((s.mono g1.kk).mono g2.kk) g2.kh o2 _ fun b H3k H3 g3 o3 hb => by
    subst e
    obtain ⟨ad, ws, e, e1, e2⟩ := ((r1.mono g2.kk).mono g3.kk).lst_inv
    refine ⟨ad, ws, e, .inl (.inl (g3.kh _ _ e1)), fun l hl => ?_⟩
    obtain ⟨g, o', r⟩ := newL (p := p) g3.kh o3 hl (cut_rps e2 a b)
    exact q _ _ _ _ (((g1.trans g2).trans g3).trans g) o' ⟨xs, a, b, hx, ha, hb, rfl⟩ r
theorem ev_slice {tl th : TO} {xs : List Dt} {lo hi : Option Int} (h : EvD p te δ (.lst xs)) (h1 : EvO p tl δ (fun i => i = lo)) (h2 : EvO p th δ (fun i => i = hi)) : EvD p (tSl (rSlL K) te tl th) δ (.lst (cutD xs lo hi)) :=
  (evp_slice (X := fun ys => ys = xs) (h.imp fun d e => ⟨xs, rfl, e⟩) h1 h2).imp fun d ⟨ys, a, b, e1, e2, e3, e4⟩ => by rw [e4, e1, e2, e3]
/-- {k: v, ..} -/
def EvPs (p : Option Addr) (trs : List (TE × TE)) (δ : List (Option Dt)) (ps : List (Dt × Dt)) : Prop := ∀ σ Hk H, Sto Hk σ δ → Kn Hk H → PoolOk p Hk H →
  ∀ Q : List (V × V) → Hp → Prop, (∀ qs Hk' H', Grow (fr p) Hk H Hk' H' → PoolOk p Hk' H' → Rps Hk' (qs.map (·.1)) (ps.map (·.1)) → Rps Hk' (qs.map (·.2)) (ps.map (·.2)) → Q qs H') → tPairs trs σ H Q
theorem eps_nil : EvPs p [] δ [] := fun σ Hk H s k o Q q => q [] Hk H (.refl k) o .nil .nil
theorem eps_cons {tk tv : TE} {trs : List (TE × TE)} {a b : Dt} {ps : List (Dt × Dt)} (h1 : EvD p tk δ a) (h2 : EvD p tv δ b) (h3 : EvPs p trs δ ps) : EvPs p ((tk, tv) :: trs) δ ((a, b) :: ps) := fun σ Hk H s k o Q q =>
  h1 σ Hk H s k o _ fun u e0 H1k H1 g1 o1 e r1 => h2 σ H1k H1 (s.mono g1.kk) g1.kh o1 _ fun v e1 H2k H2 g2 o2 e' r2 => h3 σ H2k H2 ((s.mono g1.kk).mono g2.kk) g2.kh o2 _ fun qs H3k H3 g3 o3 r3 r4 => by
    subst e e'
    exact q ((u, v) :: qs) H3k H3 ((g1.trans g2).trans g3) o3 (.cons ((r1.mono g2.kk).mono g3.kk) r3) (.cons (r2.mono g3.kk) r4)
def mergeG (acc more : List (Key × Dt)) : List (Key × Dt) := more.foldl (fun acc kv => putG acc kv.1 kv.2) acc
theorem merge_krp {H : Hp} : ∀ {more : List (Key × V)} {ms : List (Key × Dt)} {kvs : List (Key × V)} {ks : List (Key × Dt)}, KRp H more ms → KRp H kvs ks → KRp H (mergeK kvs more) (mergeG ks ms)
  | _, _, _, _, .nil, b => b
  | _, _, kvs, ks, .cons (k := k) (v := v) (d := d) a c, b => merge_krp (kvs := putK kvs k v) (ks := putG ks k d) c (b.put a)
theorem pairs_key {H : Hp} : ∀ {qs : List (V × V)} {ps : List (Dt × Dt)} {kd : List (Key × Dt)}, Rps H (qs.map (·.1)) (ps.map (·.1)) → Rps H (qs.map (·.2)) (ps.map (·.2)) → ps.map (fun q => (keyD q.1, q.2)) = kd.map (fun q => (some q.1, q.2)) →
    ∃ kvs : List (Key × V), qs = kvs.map (fun kv => (kV kv.1, kv.2)) ∧ KRp H kvs kd
  | [], [], [], _, _, _ => ⟨[], rfl, .nil⟩
  | [], [], _ :: _, _, _, e => by simp at e
  | [], _ :: _, _, r, _, _ => by cases r
  | _ :: _, [], _, r, _, _ => by cases r
  | _ :: _, _ :: _, [], _, _, e => by simp at e
  | (u, v) :: qs, (a, b) :: ps, (k, d) :: kd, .cons r1 r2, .cons r3 r4, e => by
    simp only [List.map_cons, List.cons.injEq, Prod.mk.injEq] at e
    obtain ⟨⟨e1, e2⟩, e3⟩ := e
    obtain ⟨kvs, h1, h2⟩ := pairs_key r2 r4 e3
    subst e2
    refine ⟨(k, v) :: kvs, ?_, .cons r3 h2⟩
    rw [List.map_cons, ← h1, ← keyD_kV r1 e1]
theorem ev_disp {trs : List (TE × TE)} {ps : List (Dt × Dt)} {kd : List (Key × Dt)} (h : EvPs p trs δ ps) (hk : ps.map (fun q => (keyD q.1, q.2)) = kd.map (fun q => (some q.1, q.2))) (hl : kd.length ≤ 15) : EvD p (tDisp trs) δ (.dk (mergeG [] kd)) := fun σ Hk H s k o Q q => by
  intro D hD
  have M := Mine.start k o hD (.dK [])
  refine h σ Hk _ s M.gr.kh M.po _ fun qs H1k H1 g1 o1 r1 r2 => ?_
  have M1 := M.step g1 o1 (by rw [upd_same]; simp)
  have a1 := M.keep g1 upd_same
  obtain ⟨kvs, e1, e2⟩ := pairs_key r1 r2 hk
  refine ⟨a1, kvs, e1, by rw [e2.length]; exact hl, ?_⟩
  have M2 := M1.put (.dK (mergeK [] kvs))
  obtain ⟨g3, o3, k3⟩ := M2.told upd_same
  exact q (.ref D) _ _ _ g3 o3 rfl (.dk' upd_same ((merge_krp e2 .nil).mono k3))
/-- {} -/
theorem ev_dnew : EvD p tDNewK δ (.dk []) := fun σ Hk H s k o Q q => fun D hD => by
  refine q (.ref D) _ (upd Hk D (.dK [])) _ (.new k _ hD) (o.grow (.new k _ hD)) rfl (.dk' upd_same .nil)
/-- list(range(n)) -/
theorem ev_lstRg1 {j : Int} (h : EvD p te δ (.int j)) (hj : 0 ≤ j ∧ j ≤ 1000) : EvD p (tLstRg (tRg1 te)) δ (.lst (rngD 0 j.toNat)) := fun σ Hk H s k o Q q => h σ Hk H s k o _ fun v d H1k H1 g1 o1 e r => by
  subst e
  cases r
  refine ⟨j, rfl, .of_le (by omega) (by omega) (by omega) (by omega), fun l hl => ?_⟩
  have rr : Rps H1k (rgV 0 j) (rngD 0 j.toNat) := by
    unfold rgV rngD
    rw [Int.sub_zero]
    have : ∀ xs : List Nat, Rps H1k (xs.map fun i => V.int (0 + (i : Nat))) (xs.map fun i => Dt.int (0 + (i : Nat))) := by
      intro xs
      induction xs with
      | nil => exact .nil
      | cons x xs ih => exact .cons (.int _) ih
    exact this _
  obtain ⟨g, o', r⟩ := newL (p := p) g1.kh o1 hl rr
  exact q _ _ _ _ (g1.trans g) o' rfl r
/-- xs.index(s), texts -/
theorem ev_index {ss : List Str} {s : Str} {j : Nat} (h : EvD p te δ (lstS ss)) (ha : EvAD p t δ [.str s]) (hj : ss[j]? = some s) (hn : ∀ m, m < j → ss[m]? ≠ some s) : EvD p (tBM K "list" (rIndex K) te t) δ (.int (j : Nat)) := fun σ Hk H st k o Q q =>
  h σ Hk H st k o _ fun u e0 H1k H1 g1 o1 e r => by
    subst e
    obtain ⟨ad, ws, e, h1, h2⟩ := id (Rp.lst_inv r)
    refine ⟨?_, ?_⟩
    · subst e; exact .inl ⟨rfl, ws, .inl (.inl (g1.kh _ _ h1))⟩
    · refine ha σ H1k H1 (st.mono g1.kk) g1.kh o1 _ fun vs es H2k H2 g2 o2 e2 r2 => ?_
      subst e2
      obtain ⟨v, rfl, r3⟩ := rps1 r2
      cases r3
      have := h2.strs
      subst this
      refine ⟨ad, ss.map V.str, .str s, j, .str s, e, rfl, .inl (.inl (g2.kh _ _ (g2.kk _ _ h1))), rfl, flat_strs ss, by rw [List.getElem?_map, hj]; rfl, by show (s == s) = true; simp, fun m z hm hz => ?_, q _ _ H2k H2 (g1.trans g2) o2 rfl (.int _)⟩
      rw [List.getElem?_map] at hz
      obtain ⟨x, e1, e2⟩ := Option.map_eq_some_iff.mp hz
      subst e2
      have ne : x ≠ s := fun z => hn m hm (by rw [e1, z])
      show (x == s) = false
      exact beq_eq_false_iff_ne.mpr ne
end
/-! ### statements: what is owned (made here, changed here), and the rest -/
def Own (Hk H : Hp) (a : Addr) : Dt → Prop
  | .lst ds => ∃ vs, H a = some (.lst vs) ∧ Rps Hk vs ds
  | .dk ks => ∃ kvs, H a = some (.dK kvs) ∧ KRp Hk kvs ks
  | .dt ks => ∃ kvs, H a = some (.dT kvs) ∧ KRp Hk kvs ks
  | .ins C gs => ∃ dx fs, H a = some (.ins C dx fs) ∧ KRp Hk fs gs
  | _ => False
abbrev Led := Addr → Option Dt
def noM : Led := fun _ => none
def updM (M : Led) (a : Addr) (d : Dt) : Led := fun b => if b = a then some d else M b
def delM (M : Led) (a : Addr) : Led := fun b => if b = a then none else M b
theorem updM_same {M : Led} {a : Addr} {d : Dt} : updM M a d a = some d := if_pos rfl
theorem updM_ne {M : Led} {a b : Addr} {d : Dt} (h : b ≠ a) : updM M a d b = M b := if_neg h
theorem updM_updM {M : Led} {a : Addr} {d e : Dt} : updM (updM M a d) a e = updM M a e := by funext b; unfold updM; split <;> rfl
theorem delM_updM {M : Led} {a : Addr} {d : Dt} (h : M a = none) : delM (updM M a d) a = M := by
  funext b
  unfold delM updM
  by_cases e : b = a
  · rw [if_pos e, e, h]
  · rw [if_neg e, if_neg e]
theorem Own.ne {Hk H : Hp} {a : Addr} {d : Dt} (o : Own Hk H a d) : H a ≠ none := by
  cases d <;> first | exact False.elim o | (obtain ⟨_, h, _⟩ := o; rw [h]; simp) | (obtain ⟨_, _, h, _⟩ := o; rw [h]; simp)
theorem Own.mono {Hk H Hk' H' : Hp} {a : Addr} {d : Dt} (o : Own Hk H a d) (k : Kn Hk Hk') (e : ∀ u, H a = some u → H' a = some u) : Own Hk' H' a d := by
  cases d <;> first
    | exact False.elim o
    | (obtain ⟨vs, h, r⟩ := o; exact ⟨vs, e _ h, r.mono k⟩)
    | (obtain ⟨dx, vs, h, r⟩ := o; exact ⟨dx, vs, e _ h, r.mono k⟩)
theorem Own.rp {Hk H : Hp} {a : Addr} {d : Dt} (o : Own Hk H a d) {Hk' : Hp} (k : Kn Hk Hk') (e : ∀ u, H a = some u → Hk' a = some u) : Rp Hk' (.ref a) d := by
  cases d <;> first
    | exact False.elim o
    | (obtain ⟨vs, h, r⟩ := o; first | exact .lst (e _ h) (r.mono k) | exact .dk' (e _ h) (r.mono k) | exact .dt' (e _ h) (r.mono k))
    | (obtain ⟨dx, vs, h, r⟩ := o; exact .ins' (e _ h) (r.mono k))
/-- the state of a body: A0, B0 the entry's known and whole heap; F what may be changed of it -/
structure Hst (F : Addr → Prop) (p : Option Addr) (A0 B0 : Hp) (M : Led) (δ : List (Option Dt)) (Hk : Hp) (σ : L2.St) (H : Hp) : Prop where
  gr : Grow F A0 B0 Hk H
  po : PoolOk p Hk H
  st : Sto Hk σ δ
  ow : ∀ a d, M a = some d → Hk a = none ∧ p ≠ some a ∧ (B0 a = none ∨ F a) ∧ Own Hk H a d
section
variable {F : Addr → Prop} {p : Option Addr} {A0 B0 : Hp} {M : Led} {δ : List (Option Dt)} {Hk H Hk' H' : Hp} {σ : L2.St}
theorem Hst.step (h : Hst F p A0 B0 M δ Hk σ H) (g : Grow (fr p) Hk H Hk' H') (o : PoolOk p Hk' H') (hF : ∀ a, p = some a → F a) : Hst F p A0 B0 M δ Hk' σ H' := by
  refine ⟨h.gr.trans (g.weak hF), o, h.st.mono g.kk, fun a d e => ?_⟩
  obtain ⟨h1, h2, h3, h4⟩ := h.ow a d e
  refine ⟨?_, h2, h3, h4.mono g.kk fun u e => g.hh a u h2 e⟩
  cases q : Hk' a with
  | none => rfl
  | some u =>
    rcases g.nw a (by rw [q]; simp) with z | z
    · exact absurd h1 z
    · exact absurd z h4.ne
/-- what is owned seen as data -/
def Fz (δ : List (Option Dt)) (M : Led) (δ' : List (Option Dt)) : Prop := δ'.length = δ.length ∧ ∀ (i : Nat) (d : Dt), δ'[i]? = some (some d) → δ[i]? = some (some d) ∨ ∃ a, δ[i]? = some (some (Dt.adr a)) ∧ M a = some d
theorem Fz.refl : Fz δ M δ := ⟨rfl, fun _ _ e => .inl e⟩
theorem Fz.set {δ' : List (Option Dt)} (h : Fz δ M δ') {i : Nat} {a : Addr} {d : Dt} (h1 : δ[i]? = some (some (Dt.adr a))) (h2 : M a = some d) : Fz δ M (δ'.set i (some d)) := by
  refine ⟨by rw [List.length_set]; exact h.1, fun j e q => ?_⟩
  by_cases z : i = j
  · subst z
    have hi : i < δ'.length := by
      have := (List.getElem?_eq_some_iff.mp q).1
      simpa using this
    rw [List.getElem?_set_self hi] at q
    cases q
    exact .inr ⟨a, h1, h2⟩
  · rw [List.getElem?_set_ne z] at q
    exact h.2 j e q
/-- the known heap with all that is owned -/
def withM (Hk H : Hp) (M : Led) : Hp := fun b => if (M b).isSome = true then H b else Hk b
theorem Hst.fz (h : Hst F p A0 B0 M δ Hk σ H) {δ' : List (Option Dt)} (f : Fz δ M δ') : Kn Hk (withM Hk H M) ∧ Kn (withM Hk H M) H ∧ Sto (withM Hk H M) σ δ' ∧ PoolOk p (withM Hk H M) H := by
  have k1 : Kn Hk (withM Hk H M) := fun a o e => by
    unfold withM
    split
    · exact h.gr.kh a o e
    · exact e
  refine ⟨k1, fun a o e => ?_, ⟨h.st.1.trans f.1.symm, fun i d e => ?_⟩, fun a e => ?_⟩
  · unfold withM at e
    split at e
    · exact e
    · exact h.gr.kh a o e
  · rcases f.2 i d e with z | ⟨a, z, hm⟩
    · obtain ⟨v, h1, h2⟩ := h.st.2 i d z
      exact ⟨v, h1, h2.mono k1⟩
    · obtain ⟨v, h1, h2⟩ := h.st.2 i _ z
      cases h2
      obtain ⟨_, _, _, h4⟩ := h.ow a d hm
      exact ⟨.ref a, h1, h4.rp k1 fun u e => by unfold withM; rw [hm]; exact e⟩
  · obtain ⟨h1, h2⟩ := h.po a e
    refine ⟨?_, h2⟩
    unfold withM
    cases q : M a with
    | none => exact h1
    | some d => exact absurd e (h.ow a d q).2.1
/-- .. and behind: the known heap as it was -/
theorem Hst.back (h : Hst F p A0 B0 M δ Hk σ H) (g : Grow (fr p) (withM Hk H M) H Hk' H') (o : PoolOk p Hk' H') (hF : ∀ a, p = some a → F a) : Hst F p A0 B0 M δ Hk σ H' := by
  have k1 : Kn Hk (withM Hk H M) := fun a o e => by
    unfold withM
    split
    · exact h.gr.kh a o e
    · exact e
  refine ⟨⟨h.gr.kk, fun a o f e => g.hh a o (fun z => f (hF a z)) (h.gr.hh a o f e), fun a e => g.th a (h.gr.th a e), fun a o e => g.kh a o (g.kk a o (k1 a o e)), h.gr.nw⟩, fun a e => ?_, h.st, fun a d e => ?_⟩
  · obtain ⟨h1, h2⟩ := o a e
    exact ⟨(h.po a e).1, h2⟩
  · obtain ⟨h1, h2, h3, h4⟩ := h.ow a d e
    exact ⟨h1, h2, h3, h4.mono (fun _ _ z => z) fun u e => g.hh a u h2 e⟩
/-- data that what is owned has no part in -/
def Sep (M : Led) (d : Dt) : Prop := ∀ (Hk H : Hp) v, (∀ a e, M a = some e → Own Hk H a e) → (∀ a, (M a).isSome = true → Hk a = H a) → Rp Hk v d → Rp (fun b => if (M b).isSome = true then none else Hk b) v d
theorem Sep.flat {M : Led} {d : Dt} (h : keyD d ≠ none ∨ (∃ b, d = .bl b) ∨ d = .non) : Sep M d := fun Hk H v _ _ r => by
  cases r <;> first | exact .non | exact .bl _ | exact .int _ | exact .str _ | (rcases h with h | ⟨b, h⟩ | h <;> first | exact absurd rfl h | cases h)
end
mutual
/-- no instance within -/
inductive NI : Dt → Prop
  | non : NI .non
  | bl (b : Bool) : NI (.bl b)
  | int (i : Int) : NI (.int i)
  | str (x : Str) : NI (.str x)
  | ty (n : String) : NI (.ty n)
  | adr (a : Addr) : NI (.adr a)
  | lst {ds : List Dt} : NIs ds → NI (.lst ds)
  | tup {ds : List Dt} : NIs ds → NI (.tup ds)
  | ft {ds : List Dt} : NIs ds → NI (.ft ds)
  | fl {ds : List Dt} : NIs ds → NI (.fl ds)
  | fk {ks : List (Key × Dt)} : NIs (ks.map (·.2)) → NI (.fk ks)
  | dk {ks : List (Key × Dt)} : NIs (ks.map (·.2)) → NI (.dk ks)
  | dt {ks : List (List Key × Dt)} : NIs (ks.map (·.2)) → NI (.dt ks)
inductive NIs : List Dt → Prop
  | nil : NIs []
  | cons {d : Dt} {ds : List Dt} : NI d → NIs ds → NIs (d :: ds)
end
theorem NIs.of {ds : List Dt} (h : ∀ d ∈ ds, NI d) : NIs ds := by
  induction ds with
  | nil => exact .nil
  | cons d ds ih => exact .cons (h d List.mem_cons_self) (ih fun e he => h e (List.mem_cons_of_mem _ he))
theorem NIs.map {α : Type} {f : α → Dt} (h : ∀ x, NI (f x)) (xs : List α) : NIs (xs.map f) := .of fun d hd => by
  obtain ⟨x, _, rfl⟩ := List.mem_map.mp hd
  exact h x
theorem Rp.ni {H H' : Hp} (k : ∀ a o, (∀ C dx fs, o ≠ .ins C dx fs) → H a = some o → H' a = some o) {v : V} {d : Dt} (r : Rp H v d) : NI d → Rp H' v d := by
  refine Rp.rec (H := H) (motive_1 := fun v d _ => NI d → Rp H' v d) (motive_2 := fun vs ds _ => NIs ds → Rps H' vs ds) (fun _ => .non) (fun b _ => .bl b) (fun b _ => .int b) (fun b _ => .str b) (fun b _ => .ty b) (fun b _ => .adr b) ?_ ?_ ?_ ?_ ?_ ?_ ?_ ?_ (fun _ => .nil) ?_ r
  · intro a vs ds e _ q n; cases n with | lst n => exact .lst (k _ _ (fun _ _ _ z => nomatch z) e) (q n)
  · intro a vs ds e _ q n; cases n with | tup n => exact .tup (k _ _ (fun _ _ _ z => nomatch z) e) (q n)
  · intro a o vs ds h e _ q n; cases n with | ft n => exact .ft h (k _ _ (fun _ _ _ z => nomatch z) e) (q n)
  · intro a o vs ds e _ q n; cases n with | fl n => exact .fl (k _ _ (fun _ _ _ z => nomatch z) e) (q n)
  · intro a o kvs ks e e2 _ q n; cases n with | fk n => exact .fk (k _ _ (fun _ _ _ z => nomatch z) e) e2 (q n)
  · intro a kvs ks e e2 _ q n; cases n with | dk n => exact .dk (k _ _ (fun _ _ _ z => nomatch z) e) e2 (q n)
  · intro a kvs ks e e2 _ q n; cases n with | dt n => exact .dt (k _ _ (fun _ _ _ z => nomatch z) e) e2 (q n)
  · intro a C dx fs gs e e2 _ q n; cases n
  · intro v d vs ds _ _ q1 q2 n; cases n with | cons n1 n2 => exact .cons (q1 n1) (q2 n2)
/-- where only instances are owned -/
theorem Sep.ni {M : Led} {d : Dt} (h : NI d) (hM : ∀ a e, M a = some e → ∃ C gs, e = .ins C gs) : Sep M d := fun Hk H v o e r => by
  refine r.ni (fun a u hu ha => ?_) h
  show (if (M a).isSome = true then none else Hk a) = some u
  cases q : M a with
  | none => exact ha
  | some x =>
    obtain ⟨C, gs, rfl⟩ := hM a x q
    obtain ⟨dx, fs, h1, _⟩ := o a _ q
    rw [← e a (by rw [q]; rfl), ha] at h1
    exact absurd (Option.some.inj h1) (hu _ _ _)
end Ab
end

section
set_option Elab.async false
set_option linter.all false
set_option maxRecDepth 100000
set_option maxHeartbeats 4000000
namespace Ab
open PySem PySem.Spec PyProof.Rows L2 C8
abbrev Dst := List (Option Dt)
def Ez (F : Addr → Prop) (p : Option Addr) (M : Led) (δ : Dst) (te : TE) (P : Dt → Prop) : Prop := (∀ a, p = some a → F a) → ∀ A0 B0 Hk σ H (Q : VK), Hst F p A0 B0 M δ Hk σ H →
  (∀ v d Hk' H', P d → Hst F p A0 B0 M δ Hk' σ H' → Kn Hk Hk' → Rp Hk' v d → Q v H') → te σ H Q
def Tz (F : Addr → Prop) (p : Option Addr) (M : Led) (δ : Dst) (tt : TT) (B : Bool → Prop) : Prop := (∀ a, p = some a → F a) → ∀ A0 B0 Hk σ H (Q : Bool → Hp → Prop), Hst F p A0 B0 M δ Hk σ H →
  (∀ b Hk' H', B b → Hst F p A0 B0 M δ Hk' σ H' → Kn Hk Hk' → Q b H') → tt σ H Q
def Iz (F : Addr → Prop) (p : Option Addr) (M : Led) (δ : Dst) (wi : TI) (P : List Dt → Prop) : Prop := (∀ a, p = some a → F a) → ∀ A0 B0 Hk σ H (R : It → Hp → Prop), Hst F p A0 B0 M δ Hk σ H →
  (∀ J ds Hk' H', P ds → Hst F p A0 B0 M δ Hk' σ H' → Kn Hk Hk' → WalkD J Hk' ds → R J H') → wi σ H R
def Run (F : Addr → Prop) (p : Option Addr) (t : TS) (δ : Dst) (M : Led) (N : Dst → Led → Prop) (R : Dt → Led → Prop) : Prop := (∀ a, p = some a → F a) → ∀ A0 B0 Hk σ H (D : Ends), Hst F p A0 B0 M δ Hk σ H →
  (∀ δ' M' Hk' σ' H', N δ' M' → Hst F p A0 B0 M' δ' Hk' σ' H' → Kn Hk Hk' → D.nx σ' H') → (∀ d M' v δ' Hk' σ' H', R d M' → Hst F p A0 B0 M' δ' Hk' σ' H' → Kn Hk Hk' → Rp Hk' v d → D.rt v H') → t D σ H
section
variable {F : Addr → Prop} {p : Option Addr} {M : Led} {δ δ' : Dst} {te td ty tv : TE} {tt : TT} {wi : TI} {g : TG} {t u : TS} {P : Dt → Prop} {B : Bool → Prop} {N : Dst → Led → Prop} {R : Dt → Led → Prop} {K : PySem.W.Frag} {i : Nat} {a : Addr}
theorem Kn.refl {H : Hp} : Kn H H := fun _ _ e => e
theorem Kn.trans {A B C : Hp} (x : Kn A B) (y : Kn B C) : Kn A C := fun a o e => y a o (x a o e)
theorem ez_of (h : EvP p te δ P) : Ez F p M δ te P := fun hF A0 B0 Hk σ H Q s q => h σ Hk H s.st s.gr.kh s.po Q fun v d Hk' H' g o pd r => q v d Hk' H' pd (s.step g o hF) g.kk r
theorem tz_of (h : EvT p tt δ B) : Tz F p M δ tt B := fun hF A0 B0 Hk σ H Q s q => h σ Hk H s.st s.gr.kh s.po Q fun b Hk' H' g o pd => q b Hk' H' pd (s.step g o hF) g.kk
theorem iz_of {P : List Dt → Prop} (h : EvI p wi δ P) : Iz F p M δ wi P := fun hF A0 B0 Hk σ H Q s q => h σ Hk H s.st s.gr.kh s.po Q fun J ds Hk' H' g o pd w => q J ds Hk' H' pd (s.step g o hF) g.kk w
theorem Ez.imp {P' : Dt → Prop} (h : Ez F p M δ te P) (i : ∀ d, P d → P' d) : Ez F p M δ te P' := fun hF A0 B0 Hk σ H Q s q => h hF A0 B0 Hk σ H Q s fun v d Hk' H' pd => q v d Hk' H' (i d pd)
theorem tz_fz (f : Fz δ M δ') (h : EvT p tt δ' B) : Tz F p M δ tt B := fun hF A0 B0 Hk σ H Q s q => by
  obtain ⟨_, k2, k3, k4⟩ := s.fz f
  exact h σ _ H k3 k2 k4 Q fun b Hk' H' g o pd => q b Hk H' pd (s.back g o hF) Kn.refl
theorem ez_fz (f : Fz δ M δ') (h : EvP p te δ' P) (sp : ∀ d, P d → Sep M d) : Ez F p M δ te P := fun hF A0 B0 Hk σ H Q s q => by
  obtain ⟨k1, k2, k3, k4⟩ := s.fz f
  refine h σ _ H k3 k2 k4 Q fun v d H1k H1 g o pd r => ?_
  have hM : ∀ a, (Hk a ≠ none) → M a = none := fun a e => by
    cases q : M a with
    | none => rfl
    | some x => exact absurd (s.ow a x q).1 e
  have k5 : Kn Hk (fun b => if (M b).isSome = true then none else H1k b) := fun a o e => by
    have := hM a (by rw [e]; simp)
    show (if (M a).isSome = true then none else H1k a) = some o
    rw [this]
    exact g.kk a o (k1 a o e)
  have hOw : ∀ a e, M a = some e → Own H1k H1 a e := fun a e q => (s.ow a e q).2.2.2.mono (k1.trans g.kk) fun u z => g.hh a u (s.ow a e q).2.1 z
  refine q v d _ H1 pd ⟨⟨s.gr.kk.trans k5, fun a o f e => g.hh a o (fun z => f (hF a z)) (s.gr.hh a o f e), fun a e => g.th a (s.gr.th a e), fun a o e => ?_, fun a e => ?_⟩, fun a e => ?_, s.st.mono k5, fun a e q => ?_⟩ k5 (sp d pd H1k H1 v hOw (fun a e => ?_) r)
  · cases z : M a with
    | none => simp only [z] at e; exact g.kh a o e
    | some x => simp only [z] at e; cases e
  · cases z : M a with
    | some x => simp only [z] at e; exact absurd rfl e
    | none =>
      simp only [z] at e
      rcases g.nw a e with w | w
      · unfold withM at w
        rw [z] at w
        exact s.gr.nw a w
      · refine .inr ?_
        cases y : B0 a with
        | none => rfl
        | some o => exact absurd w (s.gr.th a (by rw [y]; simp))
  · obtain ⟨h1, h2⟩ := o a e
    exact ⟨by show (if (M a).isSome = true then none else H1k a) = none; rw [h1]; split <;> rfl, h2⟩
  · obtain ⟨h1, h2, h3, h4⟩ := s.ow a e q
    exact ⟨by show (if (M a).isSome = true then none else H1k a) = none; rw [q]; rfl, h2, h3, h4.mono k5 fun u z => g.hh a u h2 z⟩
  · obtain ⟨x, hx⟩ := Option.isSome_iff_exists.mp e
    obtain ⟨h1, h2, h3, h4⟩ := s.ow a x hx
    cases y : H a with
    | none => exact absurd y h4.ne
    | some o =>
      rw [g.hh a o h2 y]
      exact g.kk a o (by unfold withM; rw [hx]; exact y)
theorem iz_seq {P : List Dt → Prop} (h : Ez F p M δ te fun d => ∃ t ds, P ds ∧ d = seqD t ds) : Iz F p M δ (iSeq K te) P := fun hF A0 B0 Hk σ H Q s q =>
  h hF A0 B0 Hk σ H _ s fun v d Hk' H' ⟨t, ds, pd, e⟩ s' k r => by
    subst e
    obtain ⟨a, vs, e, r2, hs⟩ := seq_sq (K := K) s'.gr.kh r
    rcases hs with ⟨_, h1, h2⟩ | ⟨_, h1, h2⟩
    · exact ⟨a, vs, e, .inl ⟨h2, q _ ds Hk' H' pd s' k (walk_l h1 r2)⟩⟩
    · exact ⟨a, vs, e, .inr ⟨h2, q _ ds Hk' H' pd s' k (walk_t h1 r2)⟩⟩
/-! statements -/
theorem Run.imp {N' : Dst → Led → Prop} {R' : Dt → Led → Prop} (h : Run F p t δ M N R) (i : ∀ d m, N d m → N' d m) (j : ∀ d m, R d m → R' d m) : Run F p t δ M N' R' := fun hF A0 B0 Hk σ H D s nx rt =>
  h hF A0 B0 Hk σ H D s (fun δ' M' Hk' σ' H' n => nx δ' M' Hk' σ' H' (i _ _ n)) fun d M' v δ' Hk' σ' H' r => rt d M' v δ' Hk' σ' H' (j _ _ r)
theorem run_next (h : N δ M) : Run F p tNext δ M N R := fun hF A0 B0 Hk σ H D s nx rt => nx δ M Hk σ H h s Kn.refl
theorem run_seq (h : Run F p t δ M (fun δ' M' => Run F p u δ' M' N R) R) : Run F p (tSeq t u) δ M N R := fun hF A0 B0 Hk σ H D s nx rt =>
  h hF A0 B0 Hk σ H _ s (fun δ' M' Hk' σ' H' r s' k => r hF A0 B0 Hk' σ' H' D s' (fun δ2 M2 Hk2 σ2 H2 n s2 k2 => nx δ2 M2 Hk2 σ2 H2 n s2 (k.trans k2)) fun d M2 v δ2 Hk2 σ2 H2 n s2 k2 => rt d M2 v δ2 Hk2 σ2 H2 n s2 (k.trans k2)) rt
theorem Hst.set {A0 B0 Hk H : Hp} {σ : L2.St} (s : Hst F p A0 B0 M δ Hk σ H) (i : Nat) {v : V} {d : Dt} (r : Rp Hk v d) : Hst F p A0 B0 M (δ.set i (some d)) Hk (σ.set i (some v)) H := ⟨s.gr, s.po, s.st.set i r, s.ow⟩
theorem run_set (h : Ez F p M δ te P) (k : ∀ d, P d → N (δ.set i (some d)) M) : Run F p (tAsg te (gName i)) δ M N R := fun hF A0 B0 Hk σ H D s nx rt =>
  h hF A0 B0 Hk σ H _ s fun v d Hk' H' pd s' k' r => nx _ M Hk' _ H' (k d pd) (s'.set i r) k'
theorem run_asg {vs : List Nat} (h : Ez F p M δ te P) (k : ∀ d, P d → ∃ δ', BindD g d δ δ' vs ∧ N δ' M) : Run F p (tAsg te g) δ M N R := fun hF A0 B0 Hk σ H D s nx rt =>
  h hF A0 B0 Hk σ H _ s fun v d Hk' H' pd s' k' r => by
    obtain ⟨δ', hb, n⟩ := k d pd
    exact hb σ Hk' H' v s'.st r s'.gr.kh _ fun σ' st' _ => nx δ' M Hk' σ' H' n ⟨s'.gr, s'.po, st', s'.ow⟩ k'
theorem run_ret (h : Ez F p M δ te P) (k : ∀ d, P d → R d M) : Run F p (tRet te) δ M N R := fun hF A0 B0 Hk σ H D s nx rt =>
  h hF A0 B0 Hk σ H _ s fun v d Hk' H' pd s' k' r => rt d M v δ Hk' σ H' (k d pd) s' k' r
theorem run_retN (k : R .non M) : Run F p tRetN δ M N R := fun hF A0 B0 Hk σ H D s nx rt => rt .non M .non δ Hk σ H k s Kn.refl .non
theorem run_drop (h : Ez F p M δ te P) (k : ∀ d, P d → N δ M) : Run F p (tDrop te) δ M N R := fun hF A0 B0 Hk σ H D s nx rt =>
  h hF A0 B0 Hk σ H _ s fun v d Hk' H' pd s' k' r => nx δ M Hk' σ H' (k d pd) s' k'
theorem run_if (h : Tz F p M δ tt B) (h1 : B true → Run F p t δ M N R) (h2 : B false → Run F p u δ M N R) : Run F p (tIfS tt t u) δ M N R := fun hF A0 B0 Hk σ H D s nx rt =>
  h hF A0 B0 Hk σ H _ s fun b Hk' H' pb s' k' => by
    cases b with
    | true => exact h1 pb hF A0 B0 Hk' σ H' D s' (fun δ2 M2 Hk2 σ2 H2 n s2 k2 => nx δ2 M2 Hk2 σ2 H2 n s2 (k'.trans k2)) fun d M2 v δ2 Hk2 σ2 H2 n s2 k2 => rt d M2 v δ2 Hk2 σ2 H2 n s2 (k'.trans k2)
    | false => exact h2 pb hF A0 B0 Hk' σ H' D s' (fun δ2 M2 Hk2 σ2 H2 n s2 k2 => nx δ2 M2 Hk2 σ2 H2 n s2 (k'.trans k2)) fun d M2 v δ2 Hk2 σ2 H2 n s2 k2 => rt d M2 v δ2 Hk2 σ2 H2 n s2 (k'.trans k2)
theorem run_for {tb : TS} {vs : List Nat} {P : List Dt → Prop} (hi : Iz F p M δ wi P) (Inv : List Dt → Nat → Dst → Led → Prop) (h0 : ∀ ds, P ds → Inv ds 0 δ M)
    (hs : ∀ ds i d δ1 M1, P ds → ds[i]? = some d → Inv ds i δ1 M1 → ∃ δ2, BindD g d δ1 δ2 vs ∧ Run F p tb δ2 M1 (Inv ds (i + 1)) R) (hd : ∀ ds δ1 M1, P ds → Inv ds ds.length δ1 M1 → N δ1 M1) : Run F p (tFor wi g tb) δ M N R := fun hF A0 B0 Hk σ H D s nx rt => by
  refine hi hF A0 B0 Hk σ H _ s fun J ds H1k H1 pd s1 k1 w => ?_
  let W : Nat → Nat → L2.St → Hp → Prop := fun i m σ' H' => m = ds.length - i ∧ i ≤ ds.length ∧ ∃ δ1 M1 Hk', Inv ds i δ1 M1 ∧ Hst F p A0 B0 M1 δ1 Hk' σ' H' ∧ Kn H1k Hk'
  refine ⟨W, ⟨ds.length, by simp, Nat.zero_le _, δ, M, H1k, h0 ds pd, s1, Kn.refl⟩, ?_⟩
  rintro i m σ' H' ⟨rfl, hi', δ1, M1, Hk', iv, s', k'⟩
  obtain ⟨w1, w2⟩ := w Hk' H' k' s'.gr.kh
  by_cases hlt : i < ds.length
  · obtain ⟨go, yl⟩ := w1 i ds[i] (by simp [hlt])
    refine .inr ⟨go, W (i + 1) (ds.length - (i + 1)), fun σ2 H2 p' => ⟨_, by omega, p'⟩, fun x H2 y => ?_⟩
    obtain ⟨Hk2, g2, r2⟩ := yl x H2 y
    have s2 := s'.step g2.up (s'.po.grow g2) hF
    obtain ⟨δ2, hb, hr⟩ := hs ds i ds[i] δ1 M1 pd (by simp [hlt]) iv
    refine hb σ' Hk2 H2 x s2.st r2 g2.kh _ fun σ3 st3 _ => ?_
    exact hr hF A0 B0 Hk2 σ3 H2 _ ⟨s2.gr, s2.po, st3, s2.ow⟩ (fun δ3 M3 Hk3 σ4 H3 n s3 k3 => ⟨rfl, hlt, δ3, M3, Hk3, n, s3, (k'.trans g2.kk).trans k3⟩)
      fun d M3 v δ3 Hk3 σ4 H3 n s3 k3 r3 => rt d M3 v δ3 Hk3 σ4 H3 n s3 (((k1.trans k').trans g2.kk).trans k3) r3
  · have e : i = ds.length := by omega
    subst e
    exact .inl ⟨w2 _ (Nat.le_refl _), nx δ1 M1 Hk' σ' H' (hd ds δ1 M1 pd iv) s' (k1.trans k')⟩
theorem run_while {tb : TS} (Inv : Nat → Dst → Led → Prop) {m0 : Nat} (h0 : Inv m0 δ M)
    (hs : ∀ m δ1 M1, Inv m δ1 M1 → ∃ B, Tz F p M1 δ1 tt B ∧ (B true → Run F p tb δ1 M1 (fun δ2 M2 => ∃ m', m' < m ∧ Inv m' δ2 M2) R) ∧ (B false → N δ1 M1)) : Run F p (tWhile tt tb) δ M N R := fun hF A0 B0 Hk σ H D s nx rt => by
  refine ⟨fun m σ' H' => ∃ δ1 M1 Hk', Inv m δ1 M1 ∧ Hst F p A0 B0 M1 δ1 Hk' σ' H' ∧ Kn Hk Hk', ⟨m0, δ, M, Hk, h0, s, Kn.refl⟩, ?_⟩
  rintro m σ' H' ⟨δ1, M1, Hk', iv, s', k'⟩
  obtain ⟨B, hB, h1, h2⟩ := hs m δ1 M1 iv
  refine hB hF A0 B0 Hk' σ' H' _ s' fun b Hk2 H2 pb s2 k2 => ?_
  cases b with
  | false => exact nx δ1 M1 Hk2 σ' H2 (h2 pb) s2 (k'.trans k2)
  | true =>
    refine ⟨fun σ3 H3 => ∃ m', m' < m ∧ ∃ δ1 M1 Hk', Inv m' δ1 M1 ∧ Hst F p A0 B0 M1 δ1 Hk' σ3 H3 ∧ Kn Hk Hk', fun σ3 H3 q => q, ?_⟩
    exact h1 pb hF A0 B0 Hk2 σ' H2 _ s2 (fun δ3 M3 Hk3 σ4 H3 ⟨m', lt, iv3⟩ s3 k3 => ⟨m', lt, δ3, M3, Hk3, iv3, s3, (k'.trans k2).trans k3⟩) fun d M3 v δ3 Hk3 σ4 H3 n s3 k3 r3 => rt d M3 v δ3 Hk3 σ4 H3 n s3 ((k'.trans k2).trans k3) r3
/-! what is owned -/
theorem Hst.own {A0 B0 Hk H : Hp} {σ : L2.St} (s : Hst F p A0 B0 M δ Hk σ H) {a : Addr} (h : H a = none) {o : HO} {d : Dt} (w : Own Hk (upd H a o) a d) : M a = none ∧ Hst F p A0 B0 (updM M a d) δ Hk σ (upd H a o) := by
  have hB : B0 a = none := by
    cases q : B0 a with
    | none => rfl
    | some u => exact absurd h (s.gr.th a (by rw [q]; simp))
  have hp : p ≠ some a := fun e => by obtain ⟨_, x, y, h2, _⟩ := s.po a e; rw [h] at h2; cases h2
  have hm : M a = none := by
    cases q : M a with
    | none => rfl
    | some d => exact absurd h (s.ow a d q).2.2.2.ne
  refine ⟨hm, ⟨s.gr.kk, fun b u f e => Kn.upd h b u (s.gr.hh b u f e), fun b e => ?_, s.gr.kh.trans (Kn.upd h), s.gr.nw⟩, fun b e => ?_, s.st, fun b e q => ?_⟩
  · by_cases z : b = a
    · rw [z, upd_same]; simp
    · rw [upd_ne z]; exact s.gr.th b e
  · obtain ⟨h1, x, y, h2, h3⟩ := s.po b e
    exact ⟨h1, x, y, Kn.upd h b _ h2, h3⟩
  · by_cases z : b = a
    · rw [z, updM_same] at q
      cases q
      rw [z]
      exact ⟨s.gr.kh.free h, hp, .inl hB, w⟩
    · rw [updM_ne z] at q
      obtain ⟨h1, h2, h3, h4⟩ := s.ow b e q
      exact ⟨h1, h2, h3, h4.mono Kn.refl fun u e => Kn.upd h b u e⟩
theorem Hst.put {A0 B0 Hk H : Hp} {σ : L2.St} (s : Hst F p A0 B0 M δ Hk σ H) {a : Addr} {d0 : Dt} (h : M a = some d0) {o : HO} {d : Dt} (w : Own Hk (upd H a o) a d) : Hst F p A0 B0 (updM M a d) δ Hk σ (upd H a o) := by
  obtain ⟨h1, h2, h3, h4⟩ := s.ow a d0 h
  have neK : ∀ b u, Hk b = some u → b ≠ a := fun b u e => ne_of_none e h1
  refine ⟨⟨s.gr.kk, fun b u f e => ?_, fun b e => ?_, fun b u e => by rw [upd_ne (neK b u e)]; exact s.gr.kh b u e, s.gr.nw⟩, fun b e => ?_, s.st, fun b e q => ?_⟩
  · have : b ≠ a := fun z => by
      rcases h3 with y | y
      · rw [z, y] at e; cases e
      · exact f (by rw [z]; exact y)
    rw [upd_ne this]
    exact s.gr.hh b u f e
  · by_cases z : b = a
    · rw [z, upd_same]; simp
    · rw [upd_ne z]; exact s.gr.th b e
  · obtain ⟨g1, x, y, g2, g3⟩ := s.po b e
    exact ⟨g1, x, y, by rw [upd_ne (fun z => h2 (by rw [← z]; exact e))]; exact g2, g3⟩
  · by_cases z : b = a
    · rw [z, updM_same] at q
      cases q
      rw [z]
      exact ⟨h1, h2, h3, w⟩
    · rw [updM_ne z] at q
      obtain ⟨g1, g2, g3, g4⟩ := s.ow b e q
      exact ⟨g1, g2, g3, g4.mono Kn.refl fun u e => by rw [upd_ne z]; exact e⟩
/-- name = [] -/
theorem run_own (k : ∀ a, M a = none → N (δ.set i (some (.adr a))) (updM M a (.lst []))) : Run F p (tAsg (tLst tNil) (gName i)) δ M N R := fun hF A0 B0 Hk σ H D s nx rt => by
  refine ⟨Nat.zero_le _, fun a ha => ?_⟩
  obtain ⟨hm, s'⟩ := s.own ha (o := .lst []) (d := .lst []) ⟨[], upd_same, .nil⟩
  exact nx _ _ Hk _ _ (k a hm) (s'.set i (.adr a)) Kn.refl
/-- name.append(e) -/
theorem run_append {ds : List Dt} (hi : δ[i]? = some (some (.adr a))) (hm : M a = some (.lst ds)) (hl : ds.length < 100000) (h : Ez F p M δ te P) (k : ∀ d, P d → N δ (updM M a (.lst (ds ++ [d])))) : Run F p (tDrop (tBM K "list" rAppend (tVar i) (tCons te tNil))) δ M N R := fun hF A0 B0 Hk σ H D s nx rt => by
  obtain ⟨v, h1, h2⟩ := s.st.2 i _ hi
  cases h2
  obtain ⟨_, _, _, vs, h3, _⟩ := s.ow a _ hm
  refine ⟨.ref a, h1, .inl ⟨rfl, vs, .inl (.inl h3)⟩, ?_⟩
  refine h hF A0 B0 Hk σ H _ s fun w d Hk' H' pd s' k' r => ?_
  obtain ⟨_, _, _, ws, h5, h6⟩ := s'.ow a _ hm
  refine ⟨a, ws, w, rfl, rfl, h5, by rw [h6.length]; exact szl hl, ?_⟩
  exact nx δ _ Hk' σ _ (k d pd) (s'.put hm ⟨ws ++ [w], upd_same, h6.snoc r⟩) k'
/-- name.extend(e), a list beside it -/
theorem run_extend {ds : List Dt} (hi : δ[i]? = some (some (.adr a))) (hm : M a = some (.lst ds)) (hl : ds.length < 50000) (h : Ez F p M δ te fun d => ∃ es, P (.lst es) ∧ es.length < 50000 ∧ d = .lst es) (k : ∀ es, P (.lst es) → N δ (updM M a (.lst (ds ++ es)))) : Run F p (tDrop (tBM K "list" rExtend (tVar i) (tCons te tNil))) δ M N R := fun hF A0 B0 Hk σ H D s nx rt => by
  obtain ⟨v, h1, h2⟩ := s.st.2 i _ hi
  cases h2
  obtain ⟨_, _, _, vs, h3, _⟩ := s.ow a _ hm
  refine ⟨.ref a, h1, .inl ⟨rfl, vs, .inl (.inl h3)⟩, ?_⟩
  refine h hF A0 B0 Hk σ H _ s fun w d Hk' H' ⟨es, pe, le, ed⟩ s' k' r => ?_
  subst ed
  obtain ⟨b, us, e1, e2, e3⟩ := r.lst_inv
  subst e1
  obtain ⟨_, _, _, ws, h5, h6⟩ := s'.ow a _ hm
  refine ⟨a, b, ws, us, rfl, rfl, h5, s'.gr.kh _ _ e2, by rw [h6.length, e3.length]; exact szL (by omega), ?_⟩
  exact nx δ _ Hk' σ _ (k es pe) (s'.put hm ⟨ws ++ us, upd_same, h6.append e3⟩) k'
/-- from here on it is data -/
theorem run_pub {d : Dt} (hi : δ[i]? = some (some (.adr a))) (hm : M a = some d) (hF' : ¬ F a) (h : Run F p t (δ.set i (some d)) (delM M a) N R) : Run F p t δ M N R := fun hF A0 B0 Hk σ H D s nx rt => by
  obtain ⟨h1, h2, h3, h4⟩ := s.ow a d hm
  have hB : B0 a = none := h3.resolve_right hF'
  cases y : H a with
  | none => exact absurd y h4.ne
  | some o =>
    have k1 : Kn Hk (upd Hk a o) := Kn.upd h1
    obtain ⟨v, e1, e2⟩ := s.st.2 i _ hi
    cases e2
    have s' : Hst F p A0 B0 (delM M a) (δ.set i (some d)) (upd Hk a o) σ H := by
      refine ⟨⟨s.gr.kk.trans k1, s.gr.hh, s.gr.th, fun b u e => ?_, fun b e => ?_⟩, fun b e => ?_, ?_, fun b e q => ?_⟩
      · by_cases z : b = a
        · rw [z, upd_same] at e; rw [z, y]; exact e
        · rw [upd_ne z] at e; exact s.gr.kh b u e
      · by_cases z : b = a
        · exact .inr (by rw [z]; exact hB)
        · rw [upd_ne z] at e; exact s.gr.nw b e
      · obtain ⟨g1, x, y', g2, g3⟩ := s.po b e
        exact ⟨by rw [upd_ne (fun z => h2 (by rw [← z]; exact e))]; exact g1, x, y', g2, g3⟩
      · have := (s.st.mono k1).set i (h4.rp k1 (fun u e => by rw [y] at e; cases e; exact upd_same))
        have e5 : σ.set i (some (.ref a)) = σ := by
          apply List.ext_getElem?
          intro j
          by_cases z : i = j
          · subst z
            rw [List.getElem?_set_self (List.getElem?_eq_some_iff.mp e1).1, e1]
          · rw [List.getElem?_set_ne z]
        rw [e5] at this
        exact this
      · by_cases z : b = a
        · rw [z] at q; unfold delM at q; rw [if_pos rfl] at q; cases q
        · unfold delM at q
          rw [if_neg z] at q
          obtain ⟨g1, g2, g3, g4⟩ := s.ow b e q
          exact ⟨by rw [upd_ne z]; exact g1, g2, g3, g4.mono k1 fun u e => e⟩
    exact h hF A0 B0 (upd Hk a o) σ H D s' (fun δ2 M2 Hk2 σ2 H2 n s2 k2 => nx δ2 M2 Hk2 σ2 H2 n s2 (k1.trans k2)) fun d M2 v δ2 Hk2 σ2 H2 n s2 k2 => rt d M2 v δ2 Hk2 σ2 H2 n s2 (k1.trans k2)
/-- return of what is owned -/
theorem run_retO {d : Dt} (hi : δ[i]? = some (some (.adr a))) (hm : M a = some d) (hF' : ¬ F a) (k : R d (delM M a)) : Run F p (tRet (tVar i)) δ M N R := by
  refine run_pub hi hm hF' (run_ret (P := fun x => x = d) (ez_of (ev_var ?_)) fun x e => by rw [e]; exact k)
  have := (List.getElem?_eq_some_iff.mp hi).1
  exact List.getElem?_set_self this
/-- a, b = e, [] and the like -/
theorem run_par {ta : TA} {j : Nat} {T : Dt → Dt → Prop} (h : EvA p ta δ fun xs => ∃ d e, T d e ∧ xs = [d, e]) (k : ∀ d e, T d e → N ((δ.set i (some d)).set j (some e)) M) : Run F p (tPar i j ta) δ M N R := fun hF A0 B0 Hk σ H D s nx rt =>
  h σ Hk H s.st s.gr.kh s.po _ fun vs ds Hk' H' g o ⟨d, e, td, eq⟩ r => by
    subst eq
    obtain ⟨v, w, rfl, r1, r2⟩ := rps2 r
    exact ⟨v, w, rfl, nx _ M Hk' _ H' (k d e td) (((s.step g o hF).set i r1).set j r2) g.kk⟩
theorem run_parO {j : Nat} (h : Ez F p M δ te P) (k : ∀ d a, P d → M a = none → N ((δ.set i (some d)).set j (some (.adr a))) (updM M a (.lst []))) : Run F p (tPar i j (tCons te (tCons (tLst tNil) tNil))) δ M N R := fun hF A0 B0 Hk σ H D s nx rt =>
  h hF A0 B0 Hk σ H _ s fun v d Hk' H' pd s' k' r => ⟨Nat.zero_le _, fun a ha => by
    obtain ⟨hm, s2⟩ := s'.own ha (o := .lst []) (d := .lst []) ⟨[], upd_same, .nil⟩
    exact ⟨v, .ref a, rfl, nx _ _ Hk' _ _ (k d a pd hm) ((s2.set i r).set j (.adr a)) k'⟩⟩
/-- d[k] = e, d owned -/
theorem run_dput {ks : List (Key × Dt)} {key : Key} {kd : Dt} (hi : δ[i]? = some (some (.adr a))) (hm : M a = some (.dk ks)) (hl : ks.length < 100000) (hv : Ez F p M δ tv P) (hk : EvD p ty δ kd) (hkd : keyD kd = some key) (k : ∀ d, P d → N δ (updM M a (.dk (putG ks key d)))) : Run F p (sDPut (tVar i) ty tv) δ M N R := fun hF A0 B0 Hk σ H D s nx rt =>
  hv hF A0 B0 Hk σ H _ s fun v d Hk' H' pd s' k' r => by
    obtain ⟨u, h1, h2⟩ := s'.st.2 i _ hi
    cases h2
    refine ⟨.ref a, h1, ?_⟩
    refine hk σ Hk' H' s'.st s'.gr.kh s'.po _ fun w e Hk2 H2 g2 o2 e2 r2 => ?_
    subst e2
    have s2 := s'.step g2 o2 hF
    obtain ⟨_, _, _, kvs, h5, h6⟩ := s2.ow a _ hm
    rw [keyD_kV r2 hkd]
    exact ⟨a, _, rfl, .k h5 (by rw [h6.length]; exact szl hl), nx δ _ Hk2 σ _ (k d pd) (s2.put hm ⟨_, upd_same, h6.put (r.mono g2.kk)⟩) (k'.trans g2.kk)⟩
/-- o.f = e, o owned -/
def putFD (f : Str) (d : Dt) : List (Str × Dt) → List (Str × Dt)
  | [] => [(f, d)]
  | (g, e) :: r => if g = f then (g, d) :: r else (g, e) :: putFD f d r
theorem krp_putF {H : Hp} {f : Str} {v : V} {d : Dt} (h : Rp H v d) : ∀ {fs : List (Str × V)} {gs : List (Str × Dt)}, KRp H fs gs → KRp H (putF f v fs) (putFD f d gs)
  | _, _, .nil => .cons h .nil
  | _, _, .cons (k := k) a b => by
    unfold putF putFD
    by_cases e : k = f
    · rw [if_pos e, if_pos e]; exact .cons h b
    · rw [if_neg e, if_neg e]; exact .cons a (krp_putF h b)
theorem run_sfld {C : Addr} {gs : List (Str × Dt)} {f : Str} (hi : δ[i]? = some (some (.adr a))) (hm : M a = some (.ins C gs)) (hl : gs.length < 1000) (c : Cls K C) (n : NoAttr K C f) (hv : Ez F p M δ tv P) (k : ∀ d, P d → N δ (updM M a (.ins C (putFD f d gs)))) : Run F p (sFld K (tVar i) tv f) δ M N R := fun hF A0 B0 Hk σ H D s nx rt =>
  hv hF A0 B0 Hk σ H _ s fun v d Hk' H' pd s' k' r => by
    obtain ⟨u, h1, h2⟩ := s'.st.2 i _ hi
    cases h2
    obtain ⟨_, _, _, dx, fs, h5, h6⟩ := s'.ow a _ hm
    refine ⟨.ref a, h1, a, C, dx, fs, rfl, h5, c, n, by rw [h6.length]; exact hl, ?_⟩
    exact nx δ _ Hk' σ _ (k d pd) (s'.put hm ⟨dx, _, upd_same, krp_putF r h6⟩) k'
end
/-! ### a def's promise by its body -/
def startD (n : Nat) (ds : List Dt) : Dst := ds.map some ++ List.replicate (n - ds.length) none
theorem sto_start {H : Hp} {N : List Str} {vs : List V} {ds : List Dt} (r : Rps H vs ds) : Sto H (L2.start N vs) (startD N.length ds) := by
  unfold L2.start startD
  refine ⟨by simp only [List.length_append, List.length_map, List.length_replicate]; rw [r.length], fun i d e => ?_⟩
  by_cases h : i < ds.length
  · rw [List.getElem?_append_left (by simpa using h), List.getElem?_map] at e
    obtain ⟨x, e1, e2⟩ := Option.map_eq_some_iff.mp e
    cases e2
    obtain ⟨v, h1, h2⟩ := r.get e1
    exact ⟨v, by rw [List.getElem?_append_left (by rw [List.length_map, r.length]; exact h), List.getElem?_map, h1]; rfl, h2⟩
  · rw [List.getElem?_append_right (by simpa using Nat.le_of_not_lt h), List.getElem?_replicate] at e
    split at e <;> cases e
abbrev RunD (t : TS) (n : Nat) (ds : List Dt) (d : Dt) : Prop := Run noF none t (startD n ds) noM (fun _ _ => d = .non) (fun e _ => e = d)
abbrev RunP (a : Addr) (t : TS) (n : Nat) (ds : List Dt) (P : Dt → Prop) : Prop := Run (fr (some a)) (some a) t (startD n (.adr a :: ds)) noM (fun _ _ => P .non) (fun e _ => P e)
theorem spD_of {R : List Dt → Dt → Prop} {t : TS} {N : List Str} (h : ∀ ds d, R ds d → RunD t N.length ds d) {vs : List V} {H : Hp} {Q : VK} {E : XK} (s : SpD R vs H Q E) : t { nx := fun _ H' => Q .non H', rt := Q } (L2.start N vs) H := by
  obtain ⟨Hk, ds, d, k, r, hr, q⟩ := s
  refine h ds d hr (fun _ e => nomatch e) Hk H Hk (L2.start N vs) H _ ⟨.refl k, .none, sto_start r, fun a d e => nomatch e⟩ (fun δ' M' Hk' σ' H' e s' _ => ?_) fun e M' v δ' Hk' σ' H' e2 s' _ r' => ?_
  · exact q .non Hk' H' s'.gr (by rw [e]; exact .non)
  · rw [e2] at r'
    exact q v Hk' H' s'.gr r'
theorem spP_of {R : List Dt → (Dt → Prop) → Prop} {t : TS} {N : List Str} (h : ∀ a ds P, R ds P → RunP a t N.length ds P) {vs : List V} {H : Hp} {Q : VK} {E : XK} (s : SpP R vs H Q E) : t { nx := fun _ H' => Q .non H', rt := Q } (L2.start N vs) H := by
  obtain ⟨a, Hk, ds, P, k, o, r, hr, q⟩ := s
  refine h a ds P hr (fun _ e => e) Hk H Hk (L2.start N vs) H _ ⟨.refl k, o, sto_start r, fun a d e => nomatch e⟩ (fun δ' M' Hk' σ' H' e s' _ => ?_) fun e M' v δ' Hk' σ' H' e2 s' _ r' => ?_
  · exact q .non .non Hk' H' s'.gr s'.po e .non
  · exact q v e Hk' H' s'.gr s'.po e2 r'
theorem spD_len {R : List Dt → Dt → Prop} {n : Nat} (h : ∀ ds d, R ds d → ds.length = n) : ∀ vs H Q E, SpD R vs H Q E → vs.length = n := fun vs H Q E ⟨Hk, ds, d, k, r, hr, _⟩ => by rw [r.length]; exact h ds d hr
theorem spP_len {R : List Dt → (Dt → Prop) → Prop} {n : Nat} (h : ∀ ds d, R ds d → ds.length + 1 = n) : ∀ vs H Q E, SpP R vs H Q E → vs.length = n := fun vs H Q E ⟨a, Hk, ds, d, k, o, r, hr, _⟩ => by rw [r.length]; exact h ds d hr
section
variable {P : Program} {w : World} {K : PySem.W.Frag} {mg : Str → Option Value} {base : Heap} {x qual : Str} {params : Arguments} {body : List Stmt} {scope : Scope} {f : Addr} {fd : FuncData} {N ps : List Str} {k : Nat}
/-- a function of the top -/
theorem cal {sp : Sp} (F : FunD K x x params body scope [] [] f fd) (hm : mg x = some (.ref f)) (S : FnScope N ps scope)
    (hb : ∀ (kV doc pm : Value) (an : Option Addr) (cdv ct : Value) (us : List Value), us.length = ps.length → bindArgs (PySem.W.fnOf x x params body scope .none kV doc pm an cdv ct) ⟨us, []⟩ = pure (ps.zip us))
    (len : ∀ vs H Q E, sp vs H Q E → vs.length = ps.length)
    (hbody : ∀ (cdv : Value) (A : Around) (outer : List Env) (s : Shared) (H : Hp) (E : XK), Room k (A.deeper (envOfC x scope s.heap.objs.size f cdv)) →
      ∃ t, PSs (cxOf L2.CX0 P w K mg base N x scope f cdv A outer s H E).nox body t ∧ ∀ vs Q, sp vs H Q E → t { nx := fun _ H' => Q .non H', rt := Q } (L2.start N vs) H) : Cal P w K mg base (k + 1) x sp [] :=
  ⟨f, fd, ps, [], F.ok S len fun cdv A outer s H vs Q E hr h => by
    obtain ⟨t, h1, h2⟩ := hbody cdv A outer s H E hr
    exact ⟨t, PSs.nox h1, h2 vs Q h⟩, hm, F.kp, F.bindsN hb, .nil⟩
/-- a method -/
theorem met {sp : Sp} {C : Addr} (c : Cls K C) (me : Meth K C x f) (F : FunD K x qual params body scope [] [] f fd) (S : FnScope N ps scope)
    (hb : ∀ (kV doc pm : Value) (an : Option Addr) (cdv ct : Value) (us : List Value), us.length = ps.length → bindArgs (PySem.W.fnOf x qual params body scope .none kV doc pm an cdv ct) ⟨us, []⟩ = pure (ps.zip us))
    (len : ∀ vs H Q E, sp vs H Q E → vs.length = ps.length)
    (hbody : ∀ (cdv : Value) (A : Around) (outer : List Env) (s : Shared) (H : Hp) (E : XK), Room k (A.deeper (envOfC qual scope s.heap.objs.size f cdv)) →
      ∃ t, PSs (cxOf L2.CX0 P w K mg base N qual scope f cdv A outer s H E).nox body t ∧ ∀ vs Q, sp vs H Q E → t { nx := fun _ H' => Q .non H', rt := Q } (L2.start N vs) H) : Met P w K mg base (k + 1) C x sp [] :=
  ⟨f, fd, ps, [], c, me, F.ok S len fun cdv A outer s H vs Q E hr h => by
    obtain ⟨t, h1, h2⟩ := hbody cdv A outer s H E hr
    exact ⟨t, PSs.nox h1, h2 vs Q h⟩, F.bindsN hb, .nil⟩
end
end Ab
end

section
set_option Elab.async false
set_option linter.all false
set_option maxRecDepth 100000
set_option maxHeartbeats 4000000
namespace Ab
open PySem PySem.Spec PyProof.Rows L2 C8
mutual
/-- tuples and flat things alone -/
inductive TT : Dt → Prop
  | non : TT .non
  | bl (b : Bool) : TT (.bl b)
  | int (i : Int) : TT (.int i)
  | str (x : Str) : TT (.str x)
  | ty (n : String) : TT (.ty n)
  | adr (a : Addr) : TT (.adr a)
  | tup {ds : List Dt} : TTs ds → TT (.tup ds)
inductive TTs : List Dt → Prop
  | nil : TTs []
  | cons {d : Dt} {ds : List Dt} : TT d → TTs ds → TTs (d :: ds)
end
theorem TTs.of {ds : List Dt} (h : ∀ d ∈ ds, TT d) : TTs ds := by
  induction ds with
  | nil => exact .nil
  | cons d ds ih => exact .cons (h d List.mem_cons_self) (ih fun e he => h e (List.mem_cons_of_mem _ he))
theorem TTs.map {α : Type} {f : α → Dt} (h : ∀ x, TT (f x)) (xs : List α) : TTs (xs.map f) := .of fun d hd => by
  obtain ⟨x, _, rfl⟩ := List.mem_map.mp hd
  exact h x
theorem tt_tupS (xs : List Str) : TT (tupS xs) := .tup (.map (fun x => .str x) xs)
theorem tt_tupI (xs : List Int) : TT (tupI xs) := .tup (.map (fun x => .int x) xs)
theorem Rp.tt {H H' : Hp} (k : ∀ a vs, H a = some (.tup vs) → H' a = some (.tup vs)) {v : V} {d : Dt} (r : Rp H v d) : TT d → Rp H' v d := by
  refine Rp.rec (H := H) (motive_1 := fun v d _ => TT d → Rp H' v d) (motive_2 := fun vs ds _ => TTs ds → Rps H' vs ds) (fun _ => .non) (fun b _ => .bl b) (fun b _ => .int b) (fun b _ => .str b) (fun b _ => .ty b) (fun b _ => .adr b) ?_ ?_ ?_ ?_ ?_ ?_ ?_ ?_ (fun _ => .nil) ?_ r
  · intro a vs ds e _ q n; cases n
  · intro a vs ds e _ q n; cases n with | tup n => exact .tup (k _ _ e) (q n)
  · intro a o vs ds h e _ q n; cases n
  · intro a o vs ds e _ q n; cases n
  · intro a o kvs ks e e2 _ q n; cases n
  · intro a kvs ks e e2 _ q n; cases n
  · intro a kvs ks e e2 _ q n; cases n
  · intro a C dx fs gs e e2 _ q n; cases n
  · intro v d vs ds _ _ q1 q2 n; cases n with | cons n1 n2 => exact .cons (q1 n1) (q2 n2)
theorem Own.notTup {Hk H : Hp} {a : Addr} {d : Dt} (o : Own Hk H a d) : ∀ vs, H a ≠ some (.tup vs) := fun vs e => by
  cases d <;> first | exact False.elim o | (obtain ⟨_, h, _⟩ := o; rw [h] at e; cases e) | (obtain ⟨_, _, h, _⟩ := o; rw [h] at e; cases e)
theorem Sep.tt {M : Led} {d : Dt} (h : TT d) : Sep M d := fun Hk H v o e r => by
  refine r.tt (fun a vs ha => ?_) h
  show (if (M a).isSome = true then none else Hk a) = some (.tup vs)
  cases q : M a with
  | none => exact ha
  | some x => exact absurd (by rw [← e a (by rw [q]; rfl)]; exact ha) ((o a x q).notTup vs)
/-! argument lists with what is owned -/
def EzA (F : Addr → Prop) (p : Option Addr) (M : Led) (δ : Dst) (ta : TA) (P : List Dt → Prop) : Prop := (∀ a, p = some a → F a) → ∀ A0 B0 Hk σ H (Q : List V → Hp → Prop), Hst F p A0 B0 M δ Hk σ H →
  (∀ vs ds Hk' H', P ds → Hst F p A0 B0 M δ Hk' σ H' → Kn Hk Hk' → Rps Hk' vs ds → Q vs H') → ta σ H Q
def SpN (R : List Dt → (Dt → Prop) → Prop) : Sp := fun vs H Q _ => ∃ Hk ds P, Kn Hk H ∧ Rps Hk vs ds ∧ R ds P ∧ ∀ v d Hk' H', Grow noF Hk H Hk' H' → P d → Rp Hk' v d → Q v H'
section
variable {F : Addr → Prop} {p : Option Addr} {M : Led} {δ δ' : Dst} {te : TE} {t : TA} {P : Dt → Prop} {K : PySem.W.Frag} {E : XK}
theorem eza_nil : EzA F p M δ tNil (fun ds => ds = []) := fun hF A0 B0 Hk σ H Q s q => q [] [] Hk H rfl s Kn.refl .nil
theorem eza_cons {tr : TA} {Pr : List Dt → Prop} (h : Ez F p M δ te P) (hr : EzA F p M δ tr Pr) : EzA F p M δ (tCons te tr) (fun ds => ∃ d es, P d ∧ Pr es ∧ ds = d :: es) := fun hF A0 B0 Hk σ H Q s q =>
  h hF A0 B0 Hk σ H _ s fun v d H1k H1 pd s1 k1 r1 => hr hF A0 B0 H1k σ H1 _ s1 fun vs es H2k H2 pe s2 k2 r2 => q (v :: vs) (d :: es) H2k H2 ⟨d, es, pd, pe, rfl⟩ s2 (k1.trans k2) (.cons (r1.mono k2) r2)
theorem Hst.grow0 {A0 B0 Hk H Hk' H' : Hp} {σ : L2.St} (s : Hst F p A0 B0 M δ Hk σ H) (g : Grow noF Hk H Hk' H') : Hst F p A0 B0 M δ Hk' σ H' := by
  refine ⟨s.gr.trans (g.weak fun _ z => False.elim z), s.po.grow g, s.st.mono g.kk, fun a d e => ?_⟩
  obtain ⟨h1, h2, h3, h4⟩ := s.ow a d e
  refine ⟨?_, h2, h3, h4.mono g.kk fun u e => g.hh a u (fun z => z) e⟩
  cases q : Hk' a with
  | none => rfl
  | some u =>
    rcases g.nw a (by rw [q]; simp) with z | z
    · exact absurd h1 z
    · exact absurd z h4.ne
theorem ez_call {R : List Dt → Dt → Prop} {T : List Dt → Prop} (h : EzA F p M δ t T) (hr : ∀ ds, T ds → ∃ d, R ds d ∧ P d) : Ez F p M δ (tCall (SpD R) [] E t) P := fun hF A0 B0 Hk σ H Q s q =>
  h hF A0 B0 Hk σ H _ s fun vs ds H1k H1 td s1 k1 r1 => by
    obtain ⟨d, hd, pd⟩ := hr ds td
    show SpD R (vs ++ []) H1 Q E
    rw [List.append_nil]
    exact ⟨H1k, ds, d, s1.gr.kh, r1, hd, fun v H2k H2 g r => q v d H2k H2 pd (s1.grow0 g) (k1.trans g.kk) r⟩
theorem evp_callN {R : List Dt → (Dt → Prop) → Prop} {ds : List Dt} (h : EvAD p t δ ds) (hr : R ds P) : EvP p (tCall (SpN R) [] E t) δ P := fun σ Hk H s k o Q q =>
  h σ Hk H s k o _ fun vs es H1k H1 g1 o1 e r => by
    subst e
    show SpN R (vs ++ []) H1 Q E
    rw [List.append_nil]
    exact ⟨H1k, _, P, g1.kh, r, hr, fun v d H2k H2 g2 pd r2 => q v d H2k H2 (g1.trans g2.up) (o1.grow g2) pd r2⟩
theorem spN_of {R : List Dt → (Dt → Prop) → Prop} {t : TS} {N : List Str} (h : ∀ ds P, R ds P → Run noF none t (startD N.length ds) noM (fun _ _ => P .non) (fun e _ => P e)) {vs : List V} {H : Hp} {Q : VK} {E : XK} (s : SpN R vs H Q E) : t { nx := fun _ H' => Q .non H', rt := Q } (L2.start N vs) H := by
  obtain ⟨Hk, ds, P, k, r, hr, q⟩ := s
  refine h ds P hr (fun _ e => nomatch e) Hk H Hk (L2.start N vs) H _ ⟨.refl k, .none, sto_start r, fun a d e => nomatch e⟩ (fun δ' M' Hk' σ' H' e s' _ => ?_) fun e M' v δ' Hk' σ' H' e2 s' _ r' => ?_
  · exact q .non .non Hk' H' s'.gr e .non
  · exact q v e Hk' H' s'.gr e2 r'
theorem spN_len {R : List Dt → (Dt → Prop) → Prop} {n : Nat} (h : ∀ ds d, R ds d → ds.length = n) : ∀ vs H Q E, SpN R vs H Q E → vs.length = n := fun vs H Q E ⟨Hk, ds, d, k, r, hr, _⟩ => by rw [r.length]; exact h ds d hr
/-! an instance made: __init__ fills it -/
def SpI (C : Addr) (R : List Dt → (List (Str × Dt) → Prop) → Prop) : Sp := fun vs H Q _ => ∃ (a dx : Addr) (Hk : Hp) (ws : List V) (ds : List Dt) (G : List (Str × Dt) → Prop), vs = .ref a :: ws ∧ Kn Hk H ∧ Hk a = none ∧ H a = some (.ins C dx []) ∧ Rps Hk ws ds ∧ R ds G ∧
  ∀ (Hk' H' : Hp) (dy : Addr) (fs : List (Str × V)) (gs : List (Str × Dt)), Grow (fun b => b = a) Hk H Hk' H' → Hk' a = none → H' a = some (.ins C dy fs) → KRp Hk' fs gs → G gs → Q .non H'
/-- the state behind: what the caller gets -/
theorem made {C : Addr} {A0 B0 Hk H : Hp} {x dx dy : Addr} (k : Kn A0 B0) (o : PoolOk p A0 B0) (hx : B0 x = none) (hd : B0 dx = none) (ne : dx ≠ x) {fs : List (Str × V)} {gs : List (Str × Dt)}
    (g : Grow (fun b => b = x) A0 (upd (upd B0 dx (.own x)) x (.ins C dx [])) Hk H) (hk : Hk x = none) (h : H x = some (.ins C dy fs)) (r : KRp Hk fs gs) :
    Grow (fr p) A0 B0 (upd Hk x (.ins C dy fs)) H ∧ PoolOk p (upd Hk x (.ins C dy fs)) H ∧ Rp (upd Hk x (.ins C dy fs)) (.ref x) (.ins C gs) := by
  have k1 : Kn Hk (upd Hk x (.ins C dy fs)) := Kn.upd hk
  have kB : ∀ a u, B0 a = some u → a ≠ x ∧ (upd (upd B0 dx (.own x)) x (.ins C dx [])) a = some u := fun a u e => by
    have h1 : a ≠ x := ne_of_none e hx
    exact ⟨h1, by rw [upd_ne h1, upd_ne (ne_of_none e hd)]; exact e⟩
  have G0 : Grow noF A0 B0 (upd Hk x (.ins C dy fs)) H := by
    refine ⟨g.kk.trans k1, fun a u _ e => g.hh a u (kB a u e).1 (kB a u e).2, fun a e => ?_, fun a u e => ?_, fun a e => ?_⟩
    · cases q : B0 a with
      | none => exact absurd q e
      | some u => exact g.th a (by rw [(kB a u q).2]; simp)
    · by_cases z : a = x
      · rw [z, upd_same] at e; rw [z, h]; exact e
      · rw [upd_ne z] at e; exact g.kh a u e
    · by_cases z : a = x
      · exact .inr (by rw [z]; exact hx)
      · rw [upd_ne z] at e
        rcases g.nw a e with w | w
        · exact .inl w
        · rw [upd_ne z] at w
          by_cases y : a = dx
          · exact .inr (by rw [y]; exact hd)
          · rw [upd_ne y] at w; exact .inr w
  exact ⟨G0.up, o.grow G0, .ins' upd_same (r.mono k1)⟩
theorem evp_make {C : Addr} {R : List Dt → (List (Str × Dt) → Prop) → Prop} {G : List (Str × Dt) → Prop} {ds : List Dt} (h : EvAD p t δ ds) (hr : R ds G) : EvP p (tMake C (SpI C R) [] E t) δ (fun d => ∃ gs, G gs ∧ d = .ins C gs) := fun σ Hk H s k o Q q =>
  h σ Hk H s k o _ fun vs es H1k H1 g1 o1 e r => by
    subst e
    intro x dx hx hd ne
    have kB : Kn H1k (upd (upd H1 dx (.own x)) x (.ins C dx [])) := fun a u e => by
      have e' := g1.kh a u e
      rw [upd_ne (ne_of_none e' hx), upd_ne (ne_of_none e' hd)]
      exact e'
    refine ⟨x, dx, H1k, vs, _, G, by rw [List.append_nil], kB, g1.kh.free hx, upd_same, r, hr, fun Hk' H' dy fs gs g hk hh rr hG => ⟨rfl, ?_⟩⟩
    obtain ⟨g2, o2, r2⟩ := made (p := p) g1.kh o1 hx hd ne g hk hh rr
    exact q _ _ _ _ (g1.trans g2) o2 ⟨gs, hG, rfl⟩ r2
theorem spI_of {C : Addr} {R : List Dt → (List (Str × Dt) → Prop) → Prop} {t : TS} {N : List Str} (h : ∀ a ds G, R ds G → Run (fun b => b = a) none t (startD N.length (.adr a :: ds)) (updM noM a (.ins C [])) (fun _ M => ∃ gs, M a = some (.ins C gs) ∧ G gs) (fun _ _ => False)) {vs : List V} {H : Hp} {Q : VK} {E : XK} (s : SpI C R vs H Q E) : t { nx := fun _ H' => Q .non H', rt := Q } (L2.start N vs) H := by
  obtain ⟨a, dx, Hk, ws, ds, G, rfl, k, hk, ha, r, hr, q⟩ := s
  refine h a ds G hr (fun _ e => nomatch e) Hk H Hk (L2.start N _) H _ ⟨.refl k, .none, sto_start (.cons (.adr a) r), fun b d e => ?_⟩ (fun δ' M' Hk' σ' H' e s' _ => ?_) fun e M' v δ' Hk' σ' H' e2 s' _ r' => e2.elim
  · by_cases z : b = a
    · subst z
      rw [updM_same] at e
      cases e
      exact ⟨hk, (fun e => nomatch e), .inr rfl, dx, [], ha, .nil⟩
    · rw [updM_ne z] at e; cases e
  · obtain ⟨gs, hm, hG⟩ := e
    obtain ⟨h1, _, _, dx', fs, h4, h5⟩ := s'.ow a _ hm
    exact q Hk' H' dx' fs gs s'.gr h1 h4 h5 hG
theorem spI_len {C : Addr} {R : List Dt → (List (Str × Dt) → Prop) → Prop} {n : Nat} (h : ∀ ds d, R ds d → ds.length + 1 = n) : ∀ vs H Q E, SpI C R vs H Q E → vs.length = n := fun vs H Q E ⟨a, dx, Hk, ws, ds, G, e, k, _, _, r, hr, _⟩ => by rw [e, List.length_cons, r.length]; exact h ds G hr
end
end Ab
end

section
set_option Elab.async false
set_option linter.all false
set_option maxRecDepth 100000
set_option maxHeartbeats 4000000
namespace Ab
open PySem PySem.Spec PyProof.Rows L2 C8
section
variable {F : Addr → Prop} {p : Option Addr} {A0 B0 : Hp} {M : Led} {δ : Dst} {Hk H : Hp} {σ : L2.St}
/-- from here on it is data -/
theorem Hst.pub0 (s : Hst F p A0 B0 M δ Hk σ H) {a : Addr} {d : Dt} (hm : M a = some d) (hF' : ¬ F a) : ∃ o, H a = some o ∧ Hst F p A0 B0 (delM M a) δ (upd Hk a o) σ H ∧ Kn Hk (upd Hk a o) ∧ Rp (upd Hk a o) (.ref a) d := by
  obtain ⟨h1, h2, h3, h4⟩ := s.ow a d hm
  have hB : B0 a = none := h3.resolve_right hF'
  cases y : H a with
  | none => exact absurd y h4.ne
  | some o =>
    have k1 : Kn Hk (upd Hk a o) := Kn.upd h1
    refine ⟨o, rfl, ⟨⟨s.gr.kk.trans k1, s.gr.hh, s.gr.th, fun b u e => ?_, fun b e => ?_⟩, fun b e => ?_, s.st.mono k1, fun b e q => ?_⟩, k1, h4.rp k1 fun u e => by rw [y] at e; cases e; exact upd_same⟩
    · by_cases z : b = a
      · rw [z, upd_same] at e; rw [z, y]; exact e
      · rw [upd_ne z] at e; exact s.gr.kh b u e
    · by_cases z : b = a
      · exact .inr (by rw [z]; exact hB)
      · rw [upd_ne z] at e; exact s.gr.nw b e
    · obtain ⟨g1, x, y', g2, g3⟩ := s.po b e
      exact ⟨by rw [upd_ne (fun z => h2 (by rw [← z]; exact e))]; exact g1, x, y', g2, g3⟩
    · by_cases z : b = a
      · rw [z] at q; unfold delM at q; rw [if_pos rfl] at q; cases q
      · unfold delM at q
        rw [if_neg z] at q
        obtain ⟨g1, g2, g3, g4⟩ := s.ow b e q
        exact ⟨by rw [upd_ne z]; exact g1, g2, g3, g4.mono k1 fun u e => e⟩
theorem krp_field {H : Hp} {f : Str} {d : Addr} {x : Dt} (h : Rp H (.ref d) x) : ∀ {fs : List (Str × V)} {gs : List (Str × Dt)}, KRp H fs gs → gs.lookup f = some (.adr d) → KRp H fs (putFD f x gs)
  | _, _, .nil, e => by cases e
  | _, _, .cons (k := k) (d := y) a b, e => by
    unfold putFD
    by_cases z : k = f
    · rw [if_pos z]
      subst z
      simp only [List.lookup_cons, beq_self_eq_true, Option.some.injEq] at e
      subst e
      cases a
      exact .cons h b
    · rw [if_neg z]
      refine .cons a (krp_field h b ?_)
      have : (f == k) = false := beq_eq_false_iff_ne.mpr fun q => z q.symm
      rw [List.lookup_cons, this] at e
      exact e
/-- a field of what is owned, owned itself, is data from here on -/
theorem run_pubF {t : TS} {N : Dst → Led → Prop} {R : Dt → Led → Prop} {C a : Addr} {f : Str} (h : Run F p t δ M (fun δ' M' => ∃ gs d x, M' a = some (.ins C gs) ∧ gs.lookup f = some (.adr d) ∧ M' d = some x ∧ ¬ F d ∧ d ≠ a ∧ N δ' (updM (delM M' d) a (.ins C (putFD f x gs)))) R) : Run F p t δ M N R := fun hF A0 B0 Hk σ H D s nx rt =>
  h hF A0 B0 Hk σ H D s (fun δ' M' Hk' σ' H' ⟨gs, d, x, e1, e2, e3, e4, e5, n⟩ s' k' => by
    obtain ⟨o, ho, s2, k2, r2⟩ := s'.pub0 e3 e4
    refine nx δ' _ _ σ' H' n ⟨s2.gr, s2.po, s2.st, fun b e q => ?_⟩ (k'.trans k2)
    by_cases z : b = a
    · rw [z, updM_same] at q
      cases q
      have e6 : delM M' d a = some (.ins C gs) := by unfold delM; rw [if_neg (fun w => e5 w.symm), e1]
      obtain ⟨g1, g2, g3, dx, fs, g4, g5⟩ := s2.ow a _ e6
      rw [z]
      exact ⟨g1, g2, g3, dx, fs, g4, krp_field r2 g5 e2⟩
    · rw [updM_ne z] at q
      exact s2.ow b e q) rt
end
section
variable {p : Option Addr} {δ : Dst} {te : TE} {K : PySem.W.Frag} {P : Dt → Prop}
theorem evp_fld {C : Addr} {f : Str} {G : List (Str × Dt) → Prop} (h : EvP p te δ fun d => ∃ gs, G gs ∧ d = .ins C gs) (c : Cls K C) (n : NoAttr K C f) (l : ∀ gs, G gs → ∃ d, gs.lookup f = some d ∧ P d) : EvP p (tFld K te f) δ P := fun σ Hk H s k o Q q =>
  h σ Hk H s k o _ fun u a H1k H1 g1 o1 ⟨gs, hg, e1⟩ r1 => by
    subst e1
    obtain ⟨d, hd, pd⟩ := l gs hg
    obtain ⟨ad, dx, fs, e, h1, r⟩ := r1.ins_inv
    obtain ⟨v, h2, h3⟩ := krp_lookup r hd
    exact ⟨ad, C, dx, fs, v, e, g1.kh _ _ h1, c, n, h2, q v d H1k H1 g1 o1 pd h3⟩
end
section
variable {P : Program} {w : World} {K : PySem.W.Frag} {mg : Str → Option Value} {base : Heap} {x qual : Str} {params : Arguments} {body : List Stmt} {scope : Scope} {f : Addr} {fd : FuncData} {N ps : List Str} {k : Nat}
/-- a class made by its name -/
theorem mak {sp : Sp} {C : Addr} (M : L2.Mk K C f) (hm : mg x = some (.ref C)) (F : FunD K "__init__" qual params body scope [] [] f fd) (S : FnScope N ps scope)
    (hb : ∀ (kV doc pm : Value) (an : Option Addr) (cdv ct : Value) (us : List Value), us.length = ps.length → bindArgs (PySem.W.fnOf "__init__" qual params body scope .none kV doc pm an cdv ct) ⟨us, []⟩ = pure (ps.zip us))
    (len : ∀ vs H Q E, sp vs H Q E → vs.length = ps.length)
    (hbody : ∀ (cdv : Value) (A : Around) (outer : List Env) (s : Shared) (H : Hp) (E : XK), Room k (A.deeper (envOfC qual scope s.heap.objs.size f cdv)) →
      ∃ t, PSs (cxOf L2.CX0 P w K mg base N qual scope f cdv A outer s H E).nox body t ∧ ∀ vs Q, sp vs H Q E → t { nx := fun _ H' => Q .non H', rt := Q } (L2.start N vs) H) : Mak P w K mg base (k + 1) x C sp [] :=
  ⟨f, fd, ps, [], M, F.ok S len fun cdv A outer s H vs Q E hr h => by
    obtain ⟨t, h1, h2⟩ := hbody cdv A outer s H E hr
    exact ⟨t, PSs.nox h1, h2 vs Q h⟩, hm, F.bindsN hb, .nil⟩
end
end Ab
end

section
set_option Elab.async false
set_option linter.all false
set_option maxRecDepth 100000
set_option maxHeartbeats 4000000
/-! The rules that speak of the written part, with it as a letter of its own (within a comprehension it must not lean on the block). -/
namespace Kr
open PySem PySem.Spec PyProof.Rows L2 C8 Ab StX
variable {X : Cx} {K : PySem.W.Frag}
theorem len (e : X.K = K) : CallR X (.builtin "len") (fun xs H Q => ∃ p ys, xs = [.ref p] ∧ (SqL K H p ys ∨ SqT K H p ys) ∧ Q (.int ys.length) H) := by subst e; exact call_len_seq
theorem all (e : X.K = K) (hc : X.calm = true := by rfl) : CallR X (.builtin "all") (rAll K) := by subst e; exact cr_all hc
theorem any (e : X.K = K) (hc : X.calm = true := by rfl) : CallR X (.builtin "any") (rAny K) := by subst e; exact cr_any hc
theorem sum (e : X.K = K) (hc : X.calm = true := by rfl) : CallR X (.builtin "sum") (rSum K) := by subst e; exact cr_sum hc
theorem sorted (e : X.K = K) : CallR X (.builtin "sorted") (rSorted K) := by subst e; exact cr_sorted
theorem sortedS (e : X.K = K) : CallR X (.builtin "sorted") (rSortedS K) := by subst e; exact cr_sortedS
theorem list (e : X.K = K) : CallR X (.type "list") (fun xs H Q => ∃ p ys, xs = [.ref p] ∧ (SqL K H p ys ∨ SqT K H p ys) ∧ ∀ l, H l = none → Q (.ref l) (upd H l (.lst ys))) := by subst e; exact call_list_of
theorem tuple (e : X.K = K) : CallR X (.type "tuple") (fun xs H Q => ∃ p ys, xs = [.ref p] ∧ ((SqL K H p ys ∧ ∀ l, H l = none → Q (.ref l) (upd H l (.tup ys))) ∨ (SqT K H p ys ∧ Q (.ref p) H))) := by subst e; exact call_tuple_of
theorem isi (e : X.K = K) : CallR X (.builtin "isinstance") (rIsi K) := by subst e; exact call_isi
theorem isiT (e : X.K = K) : CallR X (.builtin "isinstance") (rIsiT K) := by subst e; exact call_isiT
theorem ix (e : X.K = K) : IxR X (rIx K) := by subst e; exact ix_seq
theorem oin (e : X.K = K) : OpR X (compareOp .In) (rIn K false) := by subst e; exact op_in_seq
theorem onin (e : X.K = K) : OpR X (compareOp .NotIn) (rIn K true) := by subst e; exact op_notIn_seq
theorem eqP (e : X.K = K) (hu : X.A.units + 64 < cLine) : OpR X (compareOp .Eq) (rEqP K) := by subst e; exact op_eqP hu
theorem neP (e : X.K = K) (hu : X.A.units + 64 < cLine) : OpR X (compareOp .NotEq) (rNeP K) := by subst e; exact op_neP hu
theorem ninP (e : X.K = K) (hu : X.A.units + 64 < cLine) : OpR X (compareOp .NotIn) (rNinP K) := by subst e; exact op_ninP hu
theorem catT (e : X.K = K) : OpR X (binaryOp .Add) (rCatA K) := by subst e; exact op_catA
theorem sl (e : X.K = K) : SlR X (rSlL K) := by subst e; exact sl_list
theorem index (e : X.K = K) : MtR X "list.index" (rIndex K) := by subst e; exact mt_index
theorem fld (e : X.K = K) {o : Expr} {f : Str} {pos : Pos} {ta : TE} (h : PE X o ta) (hb : attributeBase o f X.env (eval o X.env) = eval o X.env := by rfl) : PE X (.Attribute o f pos) (tFld K ta f) := by subst e; exact pe_fld h hb
theorem tup (e : X.K = K) {es : List Expr} {k : Nat} {t : TGs} {n : Nat} {pos : Pos} (hc : X.calm = true) (h : PGs X es t) (hn : (assignEach es X.env).length = n := by rfl) (hst : (assignEach es X.env).findIdx? (·.1) = none := by rfl) : PG X (.Tuple es k pos) (gTup K n t) := by subst e; exact pg_tup hc h hn hst
theorem unl (e : X.K = K) {es : List Expr} {k : Nat} {t : TGs} {n : Nat} {pos : Pos} (hc : X.calm = true) (h : PGs X es t) (hn : (assignEach es X.env).length = n := by rfl) (hst : (assignEach es X.env).findIdx? (·.1) = none := by rfl) : PG X (.Tuple es k pos) (gUnl K n t) := by subst e; exact pg_unl hc h hn hst
theorem truth (e : X.K = K) {a : Expr} {ta : TE} (h : PE X a ta) (he : ∀ whole, isTrue a X.env whole = (do let v ← whole; standAt a.pos; holding [v] (truthy v))) : PT X a (fun σ H Q => ta σ H fun x H' => ∃ k, TruV K x H' k ∧ Q k H') := by subst e; exact pt_truth h he
theorem seq (e : X.K = K) {tg l : Expr} {tl : TE} (h : PE X l tl) : PI X tg l (iSeq K tl) := by subst e; exact pi_seq h
theorem enum (e : X.K = K) {a : Expr} {ta : TA} {p pos tpos : Pos} {elts : List Expr} {kk : Nat} (hg : Gl X "enumerate") (hm : X.mg "enumerate" = none) (ha : PA X [a] ta) (hs : starEach [a] X.env = [(false, eval a X.env)] := by rfl) :
    PI X (.Tuple elts kk tpos) (.Call (.Name "enumerate" p) [a] [] pos) (iEnum K ta) := by subst e; exact pi_enum hg hm ha hs
theorem zip (e : X.K = K) {a b : Expr} {ta : TA} {p pos tpos : Pos} {elts : List Expr} {kk : Nat} (hg : Gl X "zip") (hm : X.mg "zip" = none) (ha : PA X [a, b] ta)
    (hs : starEach [a, b] X.env = (false, eval a X.env) :: starEach [b] X.env := by rfl) (hpl : (backTo pos (starEach [b] X.env)).any (·.1) = false := by rfl) : PI X (.Tuple elts kk tpos) (.Call (.Name "zip" p) [a, b] [] pos) (iZip K ta) := by subst e; exact pi_zip hg hm ha hs hpl
theorem bm (e : X.K = K) {o a : Expr} {es : List Expr} {to : TE} {t : TA} {name : Str} {apos cpos : Pos} {T id : String} {r : V → List V → Hp → VK → Prop} (pa : PlainAttrs T) (slot : Slot T name id) (hty : typeOf (.builtin id) = pure (.type "method_descriptor")) (hm : MtR X id r) (ho : PE X o to) (ha : PA X (a :: es) t) (hbase : attributeBase o name X.env (eval o X.env) = eval o X.env := by rfl) (hfew : ((backTo cpos (starEach (a :: es) X.env)).all (fun x => !x.1) && (backToKw cpos (keywordEach [] X.env)).all (fun x => x.1.isSome) && decide ((a :: es).length + ([] : List Keyword).length + (if ([] : List Keyword).isEmpty then 0 else 1) < 30)) = true := by rfl) (hline : (apos.endLine == cpos.line) = true := by rfl) (hs : starEach (a :: es) X.env = (false, eval a X.env) :: starEach es X.env := by rfl) (hplain : (backTo cpos (starEach es X.env)).any (·.1) = false := by rfl) : PE X (.Call (.Attribute o name apos) (a :: es) [] cpos) (tBM K T r to t) := by subst e; exact pe_bm pa slot hty hm ho ha hbase hfew hline hs hplain
theorem cast {e : Expr} {t t' : TE} (h : PE X e t) (q : t = t') : PE X e t' := q ▸ h
theorem star (e : X.K = K) {a : Expr} {es : List Expr} {p : Pos} {te : TE} {t : TA} (he : PE X a te) (hr : PA X es t) (hs : starEach (.Starred a p :: es) X.env = (true, eval a X.env) :: starEach es X.env := by rfl) : PA X (.Starred a p :: es) (tStar K te t) := by subst e; exact pa_star he hr hs
end Kr
end

section
set_option Elab.async false
set_option linter.all false
set_option maxRecDepth 100000
set_option maxHeartbeats 4000000
/-! Rules of our own: what the library lacks for this program. -/
namespace Cr
open PySem PySem.Spec PyProof.Rows L2 C8 Ab
section
variable {X : Cx} {K : PySem.W.Frag}
/-! ### tuple(xs) of a list: an object that has no dict -/
def rTupF (K : PySem.W.Frag) : List V → Hp → VK → Prop := fun xs H Q => ∃ a ys, xs = [.ref a] ∧ ((SqL K H a ys ∧ ∀ l o, o.dict = none → H l = none → Q (.ref l) (upd H l (.frz o (.tup ys)))) ∨ (SqT K H a ys ∧ Q (.ref a) H))
theorem call_tupF (e : X.K = K) : CallR X (.type "tuple") (rTupF K) := by
  subst e
  intro pins s σ H xs us Q I r hw
  obtain ⟨a, ys, e, hw⟩ := hw
  subst e
  obtain ⟨u, e, ru⟩ := vals1 r
  subst e
  cases ru
  rcases hw with ⟨sq, q⟩ | ⟨sq, q⟩
  · obtain ⟨its, rv, pl, hz⟩ := I.list sq
    have hl := rv.length
    refine call_tuple_list pl.isList (fun g kp => ?_) (by rw [List.size_toArray]; omega)
    have J : Inv X pins σ H { s with heap := g } := I.kept (t' := s.toks) kp
    have new : ObjOk X.prog X.w (upd H g.objs.size (.frz { cls := .type "tuple", data := .seq its.toArray } (.tup ys))) (g.push { cls := .type "tuple", data := .seq its.toArray }) g.objs.size (.frz { cls := .type "tuple", data := .seq its.toArray } (.tup ys)) :=
      ⟨Heap.get?_push_size _ rfl, hz, its, rv, IsTup.new _ _⟩
    exact ⟨.ref g.objs.size, _, J.laid (t' := s.toks) (fun b o w => Heap.get?_push_of_some _ w) (Nat.le_refl _) new, rfl, q _ _ rfl (J.hok.fresh (Nat.le_refl _))⟩
  · obtain ⟨its, rv, pl, _⟩ := I.tuple sq
    exact call_tuple_same pl ⟨.ref a, H, I, rfl, q⟩
theorem rc_tupF {p : Option Addr} {t : Sq} {ds : List Dt} (ht : t ≠ .t) : RcD p (rTupF K) [seqD t ds] (.ft ds) := fun us Hk H r k o Q q => by
  obtain ⟨v, rfl, h⟩ := rps1 r
  cases t with
  | t => exact absurd rfl ht
  | l =>
    obtain ⟨a, vs, e, e2, h1⟩ := Rp.lst_inv h
    refine ⟨a, vs, by rw [e], .inl ⟨.inl (.inl (k _ _ e2)), fun l ob hd hl => ?_⟩⟩
    exact q _ _ _ _ (.new k _ hl) (o.grow (.new k _ hl)) rfl (.ft hd upd_same (h1.mono (Kn.upd (k.free hl))))
  | f =>
    obtain ⟨a, vs, ob, e, hd, e2, h1⟩ := Rp.ft_inv h
    subst e
    exact ⟨a, vs, rfl, .inr ⟨.inl (.inr ⟨ob, k _ _ e2⟩), q _ _ Hk H (.refl k) o rfl (.ft hd e2 h1)⟩⟩
/-! ### behind a statement a dict is locked for good -/
def tEndL (t : TS) : TS := fun D σ H => t { D with nx := fun σ' H' => ∃ d u, H' d = some u ∧ Mut (some u) ∧ ∀ ob, D.nx σ' (upd H' d (.frz ob u)) } σ H
theorem ps_endL {st : Stmt} {t : TS} (h : PS X st t) : PS X st (tEndL t) := by
  refine ⟨fun pins s σ H D I hw => thn (h.run pins s σ H _ I hw) fun fl s1 q => ?_⟩
  cases fl with
  | next =>
    obtain ⟨σ1, H1, J, d, u, hd, mu, q⟩ := q
    obtain ⟨ob, J2⟩ := J.lock hd mu
    exact ⟨σ1, _, J2, q ob⟩
  | brk => exact q
  | cont => exact q
  | ret v => exact q
/-! ### dict(xs): a list of pairs, or a tuple of pairs that has no dict -/
theorem pairs_two {pins : List (Addr × Obj)} {σ : L2.St} {H : Hp} {s : Shared} (I : Inv X pins σ H s) : ∀ {ps : List Addr} {kvs : List (Key × V)}, Paired (fun p kv => SqT X.K H p [kV kv.1, kv.2]) ps kvs →
    ∃ (prs : List (Key × Value)) (qs : List (Value × Value)), KV kvs prs ∧ prs.length = ps.length ∧ qs.length = ps.length ∧
      ∀ (j : Nat) u v, qs[j]? = some (u, v) → ∃ b key, ps[j]? = some b ∧ prs[j]? = some (key, v) ∧ IsTup s.heap b #[u, v] ∧ keyIs key u = true
  | _, _, .nil => ⟨[], [], .nil, rfl, rfl, fun j u v e => by simp at e⟩
  | _, _, .cons (a := p) (b := kv) h t => by
    obtain ⟨prs, qs, r, l1, l2, hq⟩ := pairs_two I t
    obtain ⟨its, rv, ht, _⟩ := I.tuple h
    obtain ⟨u, y, ei, ru, ry⟩ := vals2 rv
    subst ei
    refine ⟨(kv.1, y) :: prs, (u, y) :: qs, .cons ⟨rfl, ry⟩ r, congrArg (· + 1) l1, congrArg (· + 1) l2, fun j u1 v1 e => ?_⟩
    cases j with
    | zero =>
      have e' : (u, y) = (u1, v1) := Option.some.inj e
      cases e'
      exact ⟨p, kv.1, rfl, rfl, ht, kV_is (P := X.prog) (w := X.w) ru⟩
    | succ j =>
      obtain ⟨b, key, e1, e2, e3, e4⟩ := hq j u1 v1 (by simpa using e)
      exact ⟨b, key, by simpa using e1, by simpa using e2, e3, e4⟩
def rDictS (K : PySem.W.Frag) : List V → Hp → VK → Prop := fun xs H Q => ∃ (a : Addr) (ps : List Addr) (kvs : List (Key × V)), xs = [.ref a] ∧ (SqL K H a (ps.map V.ref) ∨ ∃ ob, ob.dict = none ∧ H a = some (.frz ob (.tup (ps.map V.ref)))) ∧ Paired (fun p kv => SqT K H p [kV kv.1, kv.2]) ps kvs ∧
    ∀ p, H p = none → Q (.ref p) (upd H p (.dK (mergeK [] kvs)))
theorem call_dictS (hcalm : X.calm = true) (e : X.K = K) : CallR X (.type "dict") (rDictS K) := by
  subst e
  intro pins s σ H xs us Q I r hw
  obtain ⟨a, ps, kvs, ex, hq, hp, q⟩ := hw
  rcases hq with hq | ⟨ob, hd, hq⟩
  · exact call_dictP hcalm pins s σ H xs us Q I r ⟨a, ps, kvs, ex, hq, hp, q⟩
  · subst ex
    obtain ⟨u, eu, rx⟩ := vals1 r
    subst eu
    cases rx
    obtain ⟨hob, hz, its, rv, o', g1, g2, n, g3⟩ := (show ObjOk X.prog X.w H s.heap a (.frz ob (.tup (ps.map V.ref))) from I.hok a _ hq)
    rw [hob] at g1
    cases g1
    have ei := refs_at rv
    rw [List.length_map] at hz
    obtain ⟨prs, qs, rel, hl, hl2, hqs⟩ := pairs_two I hp
    have hqi : PairItems s.heap its.toArray (fun j => ps.getD j 0) qs := by
      refine ⟨by rw [ei, hl2]; simp, fun j u v e => ?_⟩
      obtain ⟨b, key, h1, _, ⟨o3, g4, g5, n3, g6⟩, _⟩ := hqs j u v e
      have e5 : ps.getD j 0 = b := by rw [List.getD_eq_getElem?_getD, h1]; rfl
      refine ⟨by rw [ei]; simp [h1], .inl ?_⟩
      show s.heap.IsTuple (ps.getD j 0) #[u, v]
      rw [e5]
      exact ⟨o3, g4, g5, n3, g6⟩
    refine PySem.call_dict_pairs (knd := mixKind X.prog X.w) (kvs := prs) (PairArg.tuple a its.toArray (fun j => ps.getD j 0) qs) (I.ok.hd hcalm) ⟨⟨ob, n, hob, g2, hd, g3⟩, hqi⟩ ⟨hl.trans hl2.symm, fun i key v hr => ?_⟩ (by rw [hl2]; exact hz) fun h' tk hd' hk => ?_
    · obtain ⟨b, k, _, h2, _, h4⟩ := hqs i key v hr
      exact ⟨k, h2, h4⟩
    · have hm : (s.heap.objs.size == sysModules) = false := beq_eq_false_iff_ne.mpr (Nat.ne_of_gt I.big)
      have hlen : (mergeK [] kvs).length ≤ sizeLine := by
        refine Nat.le_trans (length_mergeK kvs []) ?_
        rw [List.length_nil, Nat.zero_add, rel.length, hl]
        exact hz
      exact ⟨.ref s.heap.objs.size, _, I.laid (t' := tk) (fun b o w => hk b o (fun z => nomatch z) w) (Nat.le_refl _) (show ObjOk X.prog X.w _ _ _ (.dK (mergeK [] kvs)) from ⟨hlen, hm, merged [] prs, KV.merge rel .nil, hd'⟩), rfl, q _ (I.hok.fresh (Nat.le_refl _))⟩
/-- pairs as data -/
def kDt : Key → Dt
  | .inl i => .int i
  | .inr s => .str s
def prD (x : Key × Dt) : Dt := .tup [kDt x.1, x.2]
theorem kDt_kV {Hk : Hp} {v : V} {k : Key} (r : Rp Hk v (kDt k)) : v = kV k := by
  cases k with
  | inl i => cases r; rfl
  | inr s => cases r; rfl
theorem prs_of {Hk H : Hp} (k : Kn Hk H) : ∀ {vs : List V} {xs : List (Key × Dt)}, Rps Hk vs (xs.map prD) → ∃ (ps : List Addr) (kvs : List (Key × V)), vs = ps.map V.ref ∧ Paired (fun p kv => SqT K H p [kV kv.1, kv.2]) ps kvs ∧ KRp Hk kvs xs
  | _, [], .nil => ⟨[], [], rfl, .nil, .nil⟩
  | _, x :: xs, .cons a b => by
    obtain ⟨ps, kvs, e1, e2, e3⟩ := prs_of k b
    obtain ⟨q, vs2, e4, e5, e6⟩ := a.tup_inv
    obtain ⟨v1, v2, e7, r1, r2⟩ := rps2 e6
    subst e4 e7
    rw [kDt_kV r1] at e5
    exact ⟨q :: ps, (x.1, v2) :: kvs, by rw [e1]; rfl, .cons (.inl (.inl (k _ _ e5))) e2, .cons r2 e3⟩
theorem rc_dictS {p : Option Addr} {t : Sq} {xs : List (Key × Dt)} (ht : t ≠ .t) : RcD p (rDictS K) [seqD t (xs.map prD)] (.dk (mergeG [] xs)) := fun us Hk H r k o Q q => by
  obtain ⟨v, rfl, h⟩ := rps1 r
  have fin : ∀ {kvs : List (Key × V)}, KRp Hk kvs xs → ∀ p, H p = none → Q (.ref p) (upd H p (.dK (mergeK [] kvs))) := fun {kvs} hr l hl =>
    q _ _ _ _ (.new k _ hl) (o.grow (.new k _ hl)) rfl (.dk' upd_same ((merge_krp hr .nil).mono (Kn.upd (k.free hl))))
  cases t with
  | t => exact absurd rfl ht
  | l =>
    obtain ⟨a, vs, e, e2, h1⟩ := Rp.lst_inv h
    obtain ⟨ps, kvs, e3, e4, e5⟩ := prs_of (K := K) k h1
    subst e e3
    exact ⟨a, ps, kvs, rfl, .inl (.inl (.inl (k _ _ e2))), e4, fin e5⟩
  | f =>
    obtain ⟨a, vs, ob, e, hd, e2, h1⟩ := Rp.ft_inv h
    obtain ⟨ps, kvs, e3, e4, e5⟩ := prs_of (K := K) k h1
    subst e e3
    exact ⟨a, ps, kvs, rfl, .inr ⟨ob, hd, k _ _ e2⟩, e4, fin e5⟩
end
end Cr
end

section
set_option Elab.async false
set_option linter.all false
set_option maxRecDepth 100000
set_option maxHeartbeats 4000000
/-! dict(zip(a, b)) of two tuples, of two lists. -/
namespace Cr
open PySem PySem.Spec PyProof.Rows
section
variable {prog : Program} {w : World} {A : Around} {E : Value → Shared → Prop} {s : Shared} {z TI TO T i1 i2 l1 l2 : Addr} {f : Bool} {oT : Obj} {k1 k2 : Nat} {xs ys : Array Value}
/-- the pair that was told last is still out -/
theorem zipT_held_item {u v : Value} {Q : Option Value → Shared → Prop} (D : ZipApart z TI TO i1 i2 l1 l2) (hz : IsZipHeld s.heap z TI TO T f) (aT : s.heap.get? T = some oT) (hp : IsPair s.heap TI (.ref i1) (.ref i2))
    (n1 : s.heap.IsTupleIter i1 l1 k1) (n2 : s.heap.IsTupleIter i2 l2 k2) (t1 : s.heap.IsTuple l1 xs) (t2 : s.heap.IsTuple l2 ys) (e1 : xs[k1]? = some u) (e2 : ys[k2]? = some v)
    (h : ∀ g, IsZipHeld g z TI TO T true → g.IsTupleIter i1 l1 (k1 + 1) → g.IsTupleIter i2 l2 (k2 + 1) → IsPair g s.heap.objs.size u v → (∀ c o, c ≠ z → c ≠ i1 → c ≠ i2 → s.heap.get? c = some o → g.get? c = some o) →
      Q (some (.ref s.heap.objs.size)) { s with heap := g }) : wpAny (model prog w) A (pyNext (.ref z)) Q E s := by
  have ty : s.TypeIs (.ref z) "zip" := ⟨_, hz, rfl⟩
  unfold pyNext
  refine wpAny_bind (wpAny_attempt (wpAny_callSpecial?_slot (name := Str.ofString "__next__") ty F.slot_zip_next (wpAny_call_entry F.slot_zip_next ty F.entry_zip_next ?_ (F.args_zip_next_1 _))))
  refine wpAny_bind (m := field (.ref z) 2) (wpAny_field hz rfl (x := .bool false) rfl ?_)
  refine wpAny_bind (m := field (.ref z) 3) (wpAny_field hz rfl (x := .ref TI) rfl ?_)
  refine wpAny_bind (wpAny_seqItems hp rfl ?_)
  refine wpAny_bind (m := Builtin.SmallTypes.ownedTupleIsFree (.ref z)) (wpAny_tupleHeld_zip hz aT fun g1 y1 b1 => ?_)
  simp only [Bool.false_eq_true, if_false]
  refine wpAny_bind ?_
  rw [← Array.forIn_toList]
  simp only [List.forIn_cons, List.forIn_nil]
  refine wpAny_bind (wpAny_bind (wpAny_holding (wpAny_bind (m := Builtin.SmallTypes.nextOf (.ref i1)) ?_)))
  refine RZ.nextOf_tuple_item (s := { s with heap := g1 }) (n1.extBut b1.extBut D.i1z) (t1.extBut b1.extBut D.l1z) e1 fun g2 y2 b2 => wpAny_pure (wpAny_pure ?_)
  refine wpAny_bind (wpAny_bind (wpAny_holding (wpAny_bind (m := Builtin.SmallTypes.nextOf (.ref i2)) ?_)))
  refine RZ.nextOf_tuple_item (s := { s with heap := g2 }) ((n2.extBut b1.extBut D.i2z).extBut b2.extBut D.i12.symm) ((t2.extBut b1.extBut D.l2z).extBut b2.extBut D.l2i1) e2 fun g3 y3 b3 => wpAny_pure (wpAny_pure (wpAny_pure ?_))
  refine wpAny_bind (m := newTuple [u, v]) (wpAny_newTuple (wpAny_pure ⟨_, rfl, ?_⟩))
  have sz : g3.objs.size = s.heap.objs.size := (b3.1.trans b2.1).trans b1.1
  have kz : IsZipHeld g3 z TI TO T true := b3.extBut _ _ D.i2z.symm (b2.extBut _ _ D.i1z.symm y1)
  have stay : ∀ c o, c ≠ z → c ≠ i1 → c ≠ i2 → s.heap.get? c = some o → g3.get? c = some o := fun c o q1 q2 q3 e => b3.extBut _ _ q3 (b2.extBut _ _ q2 (b1.extBut _ _ q1 e))
  have m1 : g3.IsTupleIter i1 l1 (k1 + 1) := y2.extBut b3.extBut D.i12
  have pr : IsPair (g3.push { cls := .type "tuple", data := .seq #[u, v] }) g3.objs.size u v := Heap.get?_push_size _ rfl
  refine wpAny_pure ?_
  show Q (some (.ref g3.objs.size)) _
  rw [sz] at pr ⊢
  exact h _ (Heap.get?_push_of_some _ kz) (m1.at fun o e => Heap.get?_push_of_some _ e) (y3.at fun o e => Heap.get?_push_of_some _ e) pr fun c o q1 q2 q3 e => Heap.get?_push_of_some _ (stay c o q1 q2 q3 e)
theorem zipT_held_end {Q : Option Value → Shared → Prop} (calm : A.handled = none) (D : ZipApart z TI TO i1 i2 l1 l2) (hz : IsZipHeld s.heap z TI TO T f) (aT : s.heap.get? T = some oT) (hp : IsPair s.heap TI (.ref i1) (.ref i2))
    (n1 : s.heap.IsTupleIter i1 l1 k1) (n2 : s.heap.IsTupleIter i2 l2 k2) (t1 : s.heap.IsTuple l1 xs) (t2 : s.heap.IsTuple l2 ys) (fin : xs[k1]? = none ∨ ys[k2]? = none)
    (h : ∀ g, (∀ c o, c ≠ z → c ≠ i1 → c ≠ i2 → s.heap.get? c = some o → g.get? c = some o) → Q none { s with heap := g }) : wpAny (model prog w) A (pyNext (.ref z)) Q E s := by
  have ty : s.TypeIs (.ref z) "zip" := ⟨_, hz, rfl⟩
  have stop : ∀ (g : Heap) (x : Addr), (∀ c o, c ≠ z → c ≠ i1 → c ≠ i2 → s.heap.get? c = some o → g.get? c = some o) → (∃ o, g.get? x = some o ∧ o.cls = .type "StopIteration") →
      wpAny (model prog w) A (isInstance (.ref x) (.type "StopIteration") >>= fun b => if b = true then pure none else throw (.ref x)) Q E { s with heap := g } := fun g x st ⟨o, ho, hc⟩ =>
    wpAny_bind (wpAny_isInstance (T := "StopIteration") (b := true) ⟨o, ho, hc⟩ isSubtype_stop (wpAny_pure (h g st)))
  unfold pyNext
  refine wpAny_bind (wpAny_attempt (wpAny_callSpecial?_slot (name := Str.ofString "__next__") ty F.slot_zip_next (wpAny_call_entry F.slot_zip_next ty F.entry_zip_next ?_ (F.args_zip_next_1 _))))
  refine wpAny_bind (m := field (.ref z) 2) (wpAny_field hz rfl (x := .bool false) rfl ?_)
  refine wpAny_bind (m := field (.ref z) 3) (wpAny_field hz rfl (x := .ref TI) rfl ?_)
  refine wpAny_bind (wpAny_seqItems hp rfl ?_)
  refine wpAny_bind (m := Builtin.SmallTypes.ownedTupleIsFree (.ref z)) (wpAny_tupleHeld_zip hz aT fun g1 y1 b1 => ?_)
  simp only [Bool.false_eq_true, if_false]
  refine wpAny_bind ?_
  rw [← Array.forIn_toList]
  simp only [List.forIn_cons, List.forIn_nil]
  refine wpAny_bind (wpAny_bind (wpAny_holding (wpAny_bind (m := Builtin.SmallTypes.nextOf (.ref i1)) ?_)))
  cases e1 : xs[k1]? with
  | none =>
    refine RZ.nextOf_tuple_end (s := { s with heap := g1 }) calm (n1.extBut b1.extBut D.i1z) (t1.extBut b1.extBut D.l1z) e1 fun g2 x b2 hx => ?_
    exact stop g2 x (fun c o q1 q2 _ e => b2 _ _ q2 (b1.extBut _ _ q1 e)) hx
  | some u =>
    have e2 : ys[k2]? = none := fin.elim (fun q => by rw [e1] at q; cases q) id
    refine RZ.nextOf_tuple_item (s := { s with heap := g1 }) (n1.extBut b1.extBut D.i1z) (t1.extBut b1.extBut D.l1z) e1 fun g2 y2 b2 => wpAny_pure (wpAny_pure ?_)
    refine wpAny_bind (wpAny_bind (wpAny_holding (wpAny_bind (m := Builtin.SmallTypes.nextOf (.ref i2)) ?_)))
    refine RZ.nextOf_tuple_end (s := { s with heap := g2 }) calm ((n2.extBut b1.extBut D.i2z).extBut b2.extBut D.i12.symm) ((t2.extBut b1.extBut D.l2z).extBut b2.extBut D.l2i1) e2 fun g3 x b3 hx => ?_
    exact stop g3 x (fun c o q1 q2 q3 e => b3 _ _ q3 (b2.extBut _ _ q2 (b1.extBut _ _ q1 e))) hx
end
section
variable {prog : Program} {w : World}
theorem argZipT (z TI TO i1 i2 l1 l2 : Addr) (D : ZipApart z TI TO i1 i2 l1 l2) (xs ys : Array Value) :
    PairArg prog w "zip" z [z, TI, TO, i1, i2, l1, l2] [z, TO, i1, i2] (min xs.size ys.size) (fun i k v => xs[i]? = some k ∧ ys[i]? = some v)
      (fun h => IsZip h z TI TO .none ∧ IsPair h TI (.ref i1) (.ref i2) ∧ (∃ a b, IsPair h TO a b) ∧ h.IsTupleIter i1 l1 0 ∧ h.IsTupleIter i2 l2 0 ∧ h.IsTuple l1 xs ∧ h.IsTuple l2 ys) where
  type := fun s ok => ⟨_, ok.1, rfl⟩
  notDict := by decide
  keep := fun h g ⟨y1, y2, ⟨a, b, y3⟩, y4, y5, y6, y7⟩ k => ⟨k _ _ y1, k _ _ y2, ⟨a, b, k _ _ y3⟩, y4.at (k _), y5.at (k _), y6.at (k _), y7.at (k _)⟩
  there := fun h ⟨y1, y2, ⟨_, _, y3⟩, ⟨_, y4, _⟩, ⟨_, y5, _⟩, ⟨_, y6, _⟩, ⟨_, y7, _⟩⟩ b m => by
    rcases (by simpa using m : b = z ∨ b = TI ∨ b = TO ∨ b = i1 ∨ b = i2 ∨ b = l1 ∨ b = l2) with e | e | e | e | e | e | e <;> subst e
    · exact ⟨_, y1⟩
    · exact ⟨_, y2⟩
    · exact ⟨_, y3⟩
    · exact ⟨_, y4⟩
    · exact ⟨_, y5⟩
    · exact ⟨_, y6⟩
    · exact ⟨_, y7⟩
  sub := fun b m => by
    rcases (by simpa using m : b = z ∨ b = TO ∨ b = i1 ∨ b = i2) with e | e | e | e <;> simp [e]
  noKeys := fun A s Q E c ok h => getAttrOr_miss_zip ok.1 rfl rfl rfl zip_no_keys (by decide +kernel) c h
  iter := fun A s d Q E c ⟨y1, y2, ⟨a, b, y3⟩, y4, y5, y6, y7⟩ hd off h => by
    obtain ⟨dz, dTI, dTO, d1, d2, d3, d4⟩ : d ≠ z ∧ d ≠ TI ∧ d ≠ TO ∧ d ≠ i1 ∧ d ≠ i2 ∧ d ≠ l1 ∧ d ≠ l2 := by simpa [not_or] using off
    refine wpAny_pyIter_zip y1 (h z [z, TO, i1, i2] (fun i g => IsPair g TI (.ref i1) (.ref i2) ∧ g.IsTupleIter i1 l1 i ∧ g.IsTupleIter i2 l2 i ∧ g.IsTuple l1 xs ∧ g.IsTuple l2 ys ∧
      ((IsZip g z TI TO .none ∧ ∃ a b, IsPair g TO a b) ∨ ∃ T f oT, IsZipHeld g z TI TO T f ∧ g.get? T = some oT ∧ T ≠ z ∧ T ≠ i1 ∧ T ≠ i2 ∧ T ≠ d)) s.heap s.toks ?_ ⟨y2, y4, y5, y6, y7, .inl ⟨y1, a, b, y3⟩⟩ (fun _ _ e => e) fun b m => .inl m)
    refine ⟨fun m => ?_, fun i g1 g2 ⟨q1, q2, q3, q4, q5, q6⟩ k => ⟨k _ _ dTI.symm q1, q2.at fun o e => k _ o d1.symm e, q3.at fun o e => k _ o d2.symm e, q4.at fun o e => k _ o d3.symm e, q5.at fun o e => k _ o d4.symm e, ?_⟩, ?_, ?_⟩
    · rcases (by simpa using m : d = z ∨ d = TO ∨ d = i1 ∨ d = i2) with e | e | e | e
      · exact dz e
      · exact dTO e
      · exact d1 e
      · exact d2 e
    · rcases q6 with ⟨q6, a', b', q7⟩ | ⟨T, f, oT, q6, q7, q8, q9, q10, q11⟩
      · exact .inl ⟨k _ _ dz.symm q6, a', b', k _ _ dTO.symm q7⟩
      · exact .inr ⟨T, f, oT, k _ _ dz.symm q6, k _ _ q11 q7, q8, q9, q10, q11⟩
    · intro i s1 Q1 E1 hi ⟨q1, q2, q3, q4, q5, q6⟩ hds hQ
      have ex := Array.getElem?_eq_getElem (Nat.lt_of_lt_of_le hi (Nat.min_le_left xs.size ys.size))
      have ey := Array.getElem?_eq_getElem (Nat.lt_of_lt_of_le hi (Nat.min_le_right xs.size ys.size))
      have lt : ∀ {c o}, s1.heap.get? c = some o → s1.heap.objs.size ≠ c := fun e => Nat.ne_of_gt (Heap.lt_size e)
      obtain ⟨o1, w1, _⟩ := id q2
      obtain ⟨o2, w2, _⟩ := id q3
      rcases q6 with ⟨q6, a', b', q7⟩ | ⟨T, f, oT, q6, q7, q8, q9, q10, q11⟩
      · refine RZ.pyNext_zipT_item D q6 q1 q7 q2 q3 q4 q5 ex ey fun g r1 _ r3 r4 r5 _ k => ?_
        have k' : ∀ c o, c ∉ [z, TO, i1, i2] → s1.heap.get? c = some o → g.get? c = some o := fun c o hc e => k c o (fun x => hc (by simp [x])) (fun x => hc (by simp [x])) (fun x => hc (by simp [x])) (fun x => hc (by simp [x])) e
        refine hQ s1.heap.objs.size _ _ g s1.toks ⟨ex, ey⟩ (.inl ⟨_, r5, rfl, _, rfl⟩) ⟨k _ _ D.TIz D.TITO D.TIi1 D.TIi2 q1, r3, r4, q4.at fun o e => k _ o D.l1z D.l1TO D.l1i1 D.l1i2 e, q5.at fun o e => k _ o D.l2z D.l2TO D.l2i1 D.l2i2 e, ?_⟩ k'
        exact .inr ⟨s1.heap.objs.size, false, _, r1, r5, lt q6, lt w1, lt w2, Nat.ne_of_gt hds⟩
      · refine zipT_held_item D q6 q7 q1 q2 q3 q4 q5 ex ey fun g r1 r3 r4 r5 k => ?_
        have k' : ∀ c o, c ∉ [z, TO, i1, i2] → s1.heap.get? c = some o → g.get? c = some o := fun c o hc e => k c o (fun x => hc (by simp [x])) (fun x => hc (by simp [x])) (fun x => hc (by simp [x])) e
        exact hQ s1.heap.objs.size _ _ g s1.toks ⟨ex, ey⟩ (.inl ⟨_, r5, rfl, _, rfl⟩) ⟨k _ _ D.TIz D.TIi1 D.TIi2 q1, r3, r4, q4.at fun o e => k _ o D.l1z D.l1i1 D.l1i2 e, q5.at fun o e => k _ o D.l2z D.l2i1 D.l2i2 e, .inr ⟨T, true, oT, r1, k _ _ q8 q9 q10 q7, q8, q9, q10, q11⟩⟩ k'
    · intro s1 Q1 E1 ⟨q1, q2, q3, q4, q5, q6⟩ hQ
      have fin : xs[min xs.size ys.size]? = none ∨ ys[min xs.size ys.size]? = none := by
        by_cases hxy : xs.size ≤ ys.size
        · exact .inl (Array.getElem?_eq_none (by omega))
        · exact .inr (Array.getElem?_eq_none (by omega))
      rcases q6 with ⟨q6, a', b', q7⟩ | ⟨T, f, oT, q6, q7, q8, q9, q10, q11⟩
      · exact RZ.pyNext_zipT_end c D q6 q1 q7 q2 q3 q4 q5 fin fun g k => hQ g s1.toks fun e o hc w => k e o (fun x => hc (by simp [x])) (fun x => hc (by simp [x])) (fun x => hc (by simp [x])) (fun x => hc (by simp [x])) w
      · exact zipT_held_end c D q6 q7 q1 q2 q3 q4 q5 fin fun g k => hQ g s1.toks fun e o hc w => k e o (fun x => hc (by simp [x])) (fun x => hc (by simp [x])) (fun x => hc (by simp [x])) w
end
end Cr
end

section
set_option Elab.async false
set_option linter.all false
set_option maxRecDepth 100000
set_option maxHeartbeats 4000000
namespace Cr
open PySem PySem.Spec PyProof.Rows L2 C8 Ab
section
variable {X : Cx} {K : PySem.W.Frag}
theorem keys_at {P : Program} {w : World} : ∀ {ks : List Key} {its : List Value}, Vals (ks.map kV) its → its.length = ks.length ∧ ∀ (i : Nat) u, its[i]? = some u → ∃ k, ks[i]? = some k ∧ (mixKind P w).is k u = true
  | [], _, .nil => ⟨rfl, fun i u e => by simp at e⟩
  | k :: ks, _, .cons a b => by
    obtain ⟨h1, h2⟩ := keys_at (P := P) (w := w) b
    refine ⟨congrArg (· + 1) h1, fun i u e => ?_⟩
    cases i with
    | zero => exact ⟨k, rfl, by rw [← Option.some.inj e]; exact kV_is a⟩
    | succ i =>
      obtain ⟨k', e1, e2⟩ := h2 i u (by simpa using e)
      exact ⟨k', by simpa using e1, e2⟩
theorem kv_zip : ∀ (ks : List Key) {ys : List V} {its : List Value}, Vals ys its → KV (ks.zip ys) (ks.zip its)
  | [], _, _, _ => .nil
  | k :: ks, _, _, .nil => .nil
  | k :: ks, _, _, .cons a b => .cons ⟨rfl, a⟩ (kv_zip ks b)
def tDictZip (K : PySem.W.Frag) (ta : TA) : TE := fun σ H Q => ta σ H fun vs H1 => ∃ (l1 l2 : Addr) (ks : List Key) (ys : List V), vs = [.ref l1, .ref l2] ∧ ((SqL K H1 l1 (ks.map kV) ∧ SqL K H1 l2 ys) ∨ (SqT K H1 l1 (ks.map kV) ∧ SqT K H1 l2 ys)) ∧
  ∀ p, H1 p = none → Q (.ref p) (upd H1 p (.dK (mergeK [] (ks.zip ys))))
theorem pe_dictZip {a b : Expr} {ta : TA} {p p2 pos pos2 : Pos} (hK : X.K = K) (calm : X.calm = true) (g1 : Gl X "dict") (m1 : X.mg "dict" = none) (g2 : Gl X "zip") (m2 : X.mg "zip" = none) (ha : PA X [a, b] ta)
    (hs : starEach [a, b] X.env = (false, eval a X.env) :: starEach [b] X.env := by rfl) (hpl : (backTo pos2 (starEach [b] X.env)).any (·.1) = false := by rfl)
    (hz : starEach [.Call (.Name "zip" p2) [a, b] [] pos2] X.env = (false, eval (.Call (.Name "zip" p2) [a, b] [] pos2) X.env) :: starEach [] X.env := by rfl) :
    PE X (.Call (.Name "dict" p) [.Call (.Name "zip" p2) [a, b] [] pos2] [] pos) (tDictZip K ta) := by
  subst hK
  refine ⟨fun pins s σ H Q I h => ?_⟩
  refine Call_ (ld_blt I g1 m1 boot_dict (PyProof.Rows.callWith_type1 (args_cons ?_ hz) hz))
  refine Call_ (ld_blt I g2 m2 PyProof.Rows.boot_zip (PyProof.Rows.callWith_type1 (thn (ha.run pos2 pins s σ H _ I h) fun us s1 ⟨vs, H1, I1, r1, q1⟩ => ?_) hs hpl))
  obtain ⟨l1, l2, ks, ys, e, hq, q⟩ := q1
  subst e
  obtain ⟨u1, u2, e, x1, x2⟩ := vals2 r1
  subst e
  cases x1
  cases x2
  have fin : ∀ {its1 its2 : List Value} {g1 g2 : Heap} {tk : Nat}, Vals (ks.map kV) its1 → Vals ys its2 → (∀ c o, s1.heap.get? c = some o → g2.get? c = some o) → s1.heap.objs.size ≤ g1.objs.size → ys.length ≤ sizeLine →
      g2.DictOf (mixKind X.prog X.w) g1.objs.size (merged [] (ks.zip its2)) → EP X pins σ Q (.ref g1.objs.size) { s1 with heap := g2, toks := tk } := fun {its1 its2 g1 g2 tk} rv rv2 k hsz hz hd => by
    have hm : (g1.objs.size == sysModules) = false := beq_eq_false_iff_ne.mpr (Nat.ne_of_gt (Nat.lt_of_lt_of_le I1.big hsz))
    have hlen : (mergeK [] (ks.zip ys)).length ≤ sizeLine := by
      refine Nat.le_trans (length_mergeK (ks.zip ys) []) ?_
      rw [List.length_nil, Nat.zero_add, List.length_zip]
      exact Nat.le_trans (Nat.min_le_right _ _) hz
    exact ⟨.ref g1.objs.size, _, I1.laid (t' := tk) k hsz (show ObjOk X.prog X.w _ _ _ (.dK (mergeK [] (ks.zip ys))) from ⟨hlen, hm, _, KV.merge (kv_zip ks rv2) .nil, hd⟩), rfl, q _ (I1.hok.fresh hsz)⟩
  have have_ : ∀ {its1 its2 : List Value}, Vals (ks.map kV) its1 → PairsHave (mixKind X.prog X.w) (min its1.toArray.size its2.toArray.size) (fun i k v => its1.toArray[i]? = some k ∧ its2.toArray[i]? = some v) (ks.zip its2) := fun {its1 its2} rv => by
    obtain ⟨h1, h2⟩ := keys_at (P := X.prog) (w := X.w) rv
    refine ⟨by simp [List.length_zip, h1], fun i key v ⟨e1, e2⟩ => ?_⟩
    obtain ⟨k, e3, e4⟩ := h2 i key (by simpa using e1)
    refine ⟨k, ?_, e4⟩
    rw [List.getElem?_zip_eq_some]
    exact ⟨e3, by simpa using e2⟩
  have hmin : ∀ {its1 its2 : List Value}, Vals ys its2 → ys.length ≤ sizeLine → min its1.toArray.size its2.toArray.size ≤ sizeLine := fun {its1 its2} rv2 hz => by
    have := rv2.length
    have h2 : its2.toArray.size = its2.length := by simp
    exact Nat.le_trans (Nat.min_le_right _ _) (by omega)
  have far : ∀ {g : Heap}, (∀ c o, s1.heap.get? c = some o → g.get? c = some o) → ∀ g2 : Heap, (∀ c o, c ∉ [s1.heap.objs.size + 4, s1.heap.objs.size + 3, s1.heap.objs.size, s1.heap.objs.size + 1] → g.get? c = some o → g2.get? c = some o) → ∀ c o, s1.heap.get? c = some o → g2.get? c = some o := fun {g} k g2 k2 c o e => by
    have hlt := Heap.lt_size e
    refine k2 c o (fun hm => ?_) (k c o e)
    rcases (by simpa using hm : c = s1.heap.objs.size + 4 ∨ c = s1.heap.objs.size + 3 ∨ c = s1.heap.objs.size ∨ c = s1.heap.objs.size + 1) with z | z | z | z <;> (rw [z] at hlt; exact absurd hlt (by first | exact Nat.lt_irrefl _ | exact Nat.not_lt.mpr (Nat.le_add_right _ _)))
  rcases hq with ⟨hqx, hqy⟩ | ⟨hqx, hqy⟩
  · obtain ⟨its1, rv, p1, _⟩ := I1.list hqx
    obtain ⟨its2, rv2, p2, hz2⟩ := I1.list hqy
    refine call_zip_2 p1.isList p2.isList fun g w1 w2 w3 w4 w5 wsz k => args_nil ?_
    have I2 : Inv X pins σ H1 { s1 with heap := g } := I1.kept (t' := s1.toks) k
    refine PySem.call_dict_pairs (s := { s1 with heap := g }) (knd := mixKind X.prog X.w) (kvs := ks.zip its2) (PairArg.zip _ _ _ _ _ l1 l2 (PySem.W.ktu_apart s1.heap.objs.size l1 l2 p1.lt p2.lt) its1.toArray its2.toArray) (I1.ok.hd calm) ⟨w1, w2, ⟨_, _, w3⟩, w4, w5, p1.isList.at fun o e => k _ o e, p2.isList.at fun o e => k _ o e⟩ (have_ rv) (hmin rv2 hz2) fun g2 tk hd hk => ?_
    exact fin (g1 := g) rv rv2 (far k g2 fun c o hc e => hk c o hc e) (by rw [wsz]; omega) hz2 hd
  · obtain ⟨its1, rv, p1, _⟩ := I1.tuple hqx
    obtain ⟨its2, rv2, p2, hz2⟩ := I1.tuple hqy
    obtain ⟨o1, ho1, _⟩ := id p1
    obtain ⟨o2, ho2, _⟩ := id p2
    have t1 : s1.heap.IsTuple l1 its1.toArray := p1
    have t2 : s1.heap.IsTuple l2 its2.toArray := p2
    refine RZ.call_zipT t1 t2 fun g w1 w2 w3 w4 w5 wsz k => args_nil ?_
    refine PySem.call_dict_pairs (s := { s1 with heap := g }) (knd := mixKind X.prog X.w) (kvs := ks.zip its2) (argZipT _ _ _ _ _ l1 l2 (PySem.W.ktu_apart s1.heap.objs.size l1 l2 (Heap.lt_size ho1) (Heap.lt_size ho2)) its1.toArray its2.toArray) (I1.ok.hd calm) ⟨w1, w2, ⟨_, _, w3⟩, w4, w5, t1.at fun o e => k _ o e, t2.at fun o e => k _ o e⟩ (have_ rv) (hmin rv2 hz2) fun g2 tk hd hk => ?_
    exact fin (g1 := g) rv rv2 (far k g2 fun c o hc e => hk c o hc e) (by rw [wsz]; omega) hz2 hd
end
end Cr
end

section
set_option Elab.async false
set_option linter.all false
set_option maxRecDepth 100000
set_option maxHeartbeats 4000000
/-! def f(a, **d) called with one keyword; o.m(k = v); d.update(e). -/
namespace Cr
open PySem PySem.Spec PyProof.Rows L2 C8 Ab StX
/-- the dict that such a call makes -/
abbrev oneD (w : World) (k : Str) (t : Tok) (v : Value) : Obj := { cls := .type "dict", data := .dict #[⟨PyData.keyHash w.params k, .str k t, v⟩] 1 }
theorem ns_one {prog : Program} {w : World} {A : Around} {E : Value → Shared → Prop} {s : Shared} {D : Addr} {k : Str} {v : Value} {Q : Unit → Shared → Prop} (hD : s.heap.get? D = some { cls := .type "dict", data := .dict #[] })
    (h : ∀ g, g.get? D = some (oneD w k s.toks v) → (∀ b o, b ≠ D → s.heap.get? b = some o → g.get? b = some o) → g.objs.size = s.heap.objs.size → Q () { s with heap := g, toks := s.toks + 1 }) : wpAny (model prog w) A (nsSet D k v) Q E s := by
  unfold nsSet
  refine wpAny_bind (wpAny_bind (wpAny_askSetting (wpAny_pure (wpAny_bind (wpAny_mkText (wpAny_bind (wpAny_loadPart hD ?_)))))))
  show wpAny _ _ (if aRefKeyMayBeTheName k #[] = true then _ else _) _ _ _
  rw [if_neg (by rw [aRefKeyMayBeTheName_at]; simp)]
  refine wpAny_updatePart hD (h _ ?_ ?_ ?_)
  · exact Heap.get?_update_self _ hD rfl
  · exact fun b o hb e => (Heap.SameBut.update ..).extBut b o hb e
  · exact (Heap.SameBut.update ..).1
theorem env0_to {P : Program} {w : World} {K : PySem.W.Frag} {mg : Str → Option Value} {base : Heap} {A : Around} {outer : List Env} {s : Shared} {H : Hp} {g : Heap} {t : Nat} {u : HO} (e0 : Env0 P w K mg base A outer s H) (kp : ∀ b x, s.heap.get? b = some x → g.get? b = some x) (sz : s.heap.objs.size ≤ g.objs.size)
    (new : ObjOk P w (upd H s.heap.objs.size u) g s.heap.objs.size u) : Env0 P w K mg base A outer { s with heap := g, toks := t } (upd H s.heap.objs.size u) where
  frames := e0.frames
  mod := e0.mod
  bs := fun b x e => ⟨kp b x (e0.bs b x e).1, by rw [upd_ne (Nat.ne_of_lt (Heap.lt_size (e0.bs b x e).1))]; exact (e0.bs b x e).2⟩
  bsz := Nat.le_trans e0.bsz sz
  funs := Heap.FunFrames.of_keeps (fun b x e _ => ⟨x, kp b x e, rfl⟩) e0.funs
  frf := fun b hb => by
    obtain ⟨_, x, hx, _⟩ := e0.funs.mem hb
    rw [upd_ne (Nat.ne_of_lt (Heap.lt_size hx))]
    exact e0.frf b hb
  hok := e0.hok.laid kp (Nat.le_refl _) new
  bare := e0.bare
/-- a def's promise for calls with keywords ks -/
def FnK (P : Program) (w : World) (K : PySem.W.Frag) (mg : Str → Option Value) (base : Heap) (CX : CXT) (k : Nat) (f : Addr) (ks : List Str) (sp : Sp) : Prop :=
  ∀ (A : Around) (outer : List Env) (s : Shared) (H : Hp) (us ws : List Value) (vs zs : List V) (Q : VK) (E : XK), Room k A → Env0 P w K mg base A outer s H → Vals vs us → Vals zs ws → zs.length = ks.length → sp (vs ++ zs) H Q E →
    codeAny (model P w) A (.call (.ref f) ⟨us, ks.zip ws⟩) (CR CX outer P w H s Q E) s
theorem FnK.mono {P : Program} {w : World} {K : PySem.W.Frag} {mg : Str → Option Value} {base : Heap} {CX : CXT} {j k : Nat} {f : Addr} {ks : List Str} {sp : Sp} (F : FnK P w K mg base CX j f ks sp) (h : j ≤ k) : FnK P w K mg base CX k f ks sp :=
  fun A outer s H us ws vs zs Q E hr => F A outer s H us ws vs zs Q E (hr.mono h)
section
variable {CX : CXT} {P : Program} {w : World} {K : PySem.W.Frag} {mg : Str → Option Value} {base : Heap} {k : Nat} {f : Addr} {name qual : Str} {params : Arguments} {body : List Stmt} {scope : Scope} {dV kV doc pm cdv ct oc : Value} {an od : Option Addr}
  {osl : Array (Option Value)} {N : List Str} {sp : Sp} {p1 pd kw : Str}
theorem fn_kw1 (lk : K.lookup f = some ⟨oc, od, .func (PySem.W.fnOf name qual params body scope dV kV doc pm an cdv ct), osl⟩) (hcd : PySem.W.codeIn K cdv qual = true) (S : FnScope N [p1, pd] scope) (hCX : CXUp CX)
    (hb : ∀ u x : Value, bindArgs (PySem.W.fnOf name qual params body scope dV kV doc pm an cdv ct) ⟨[u], [(kw, x)]⟩ = ((alloc ({ cls := .type "dict", data := .dict #[] } : Obj) : Sem Addr) >>= fun d => forIn [(kw, x)] PUnit.unit (fun kv _ => nsSet d kv.1 kv.2 >>= fun _ => pure (ForInStep.yield PUnit.unit)) >>= fun _ => pure [(p1, u), (pd, Value.ref d)]))
    (hbody : ∀ (A : Around) (outer : List Env) (s : Shared) (H : Hp) (vs : List V) (Q : VK) (E : XK), Room k (A.deeper (envOfC qual scope s.heap.objs.size f cdv)) → sp vs H Q E →
      ∃ t, PSs (cxOf CX P w K mg base N qual scope f cdv A outer s H E) body t ∧ t { nx := fun _ H' => Q .non H', rt := Q } (L2.start N vs) H) :
    FnK P w K mg base CX (k + 1) f [kw] (fun vs H Q E => ∃ x y, vs = [x, y] ∧ ∀ d ob, H d = none → sp [x, .ref d] (upd H d (.frz ob (.dK [(Sum.inr kw, y)]))) Q E) := by
  intro A outer s H us ws vs zs Q E hr e0 r rz hl hsp
  obtain ⟨x, y, ev, hq⟩ := hsp
  obtain ⟨z, rfl⟩ : ∃ z, zs = [z] := by
    cases zs with
    | nil => cases hl
    | cons z zs => cases zs with
      | nil => exact ⟨z, rfl⟩
      | cons _ _ => cases hl
  obtain ⟨v, rfl⟩ : ∃ v, vs = [v] := by
    cases vs with
    | nil => cases ev
    | cons v vs => cases vs with
      | nil => exact ⟨v, rfl⟩
      | cons a vs => cases vs <;> cases ev
  cases ev
  obtain ⟨u, rfl, ru⟩ := vals1 r
  obtain ⟨xv, rfl, rx⟩ := vals1 rz
  have hn : H s.heap.objs.size = none := e0.hok.fresh (Nat.le_refl _)
  refine run_bnd (args := ⟨[u], [kw].zip [xv]⟩) lk hcd S hr e0 (G := fun xs H2 => ∃ d ob, H d = none ∧ xs = [x, .ref d] ∧ H2 = upd H d (.frz ob (.dK [(Sum.inr kw, y)]))) (fun A' Ex Q' h => ?_) fun s2 H2 xs ⟨d, ob, hd, ex, eH⟩ hr' => ?_
  · show wpAny _ _ (bindArgs _ ⟨[u], [(kw, xv)]⟩) _ _ _
    rw [hb u xv]
    refine wpAny_bind (wpAny_alloc (wpAny_bind ?_))
    rw [List.forIn_cons]
    refine wpAny_bind (wpAny_bind (ns_one (Heap.get?_push_size _ rfl) fun g g1 g2 g3 => wpAny_pure ?_))
    show wpAny _ _ (forIn [] PUnit.unit _) _ _ _
    rw [List.forIn_nil]
    refine wpAny_pure (wpAny_pure ?_)
    have kp : ∀ b o, s.heap.get? b = some o → g.get? b = some o := fun b o e => g2 b o (Nat.ne_of_lt (Heap.lt_size e)) (Heap.get?_push_of_some _ e)
    have sz : s.heap.objs.size ≤ g.objs.size := by
      rw [g3]
      show _ ≤ (s.heap.push _).objs.size
      rw [Heap.size_push]
      exact Nat.le_succ _
    have new : ObjOk P w (upd H s.heap.objs.size (.frz (oneD w kw s.toks xv) (.dK [(Sum.inr kw, y)]))) g s.heap.objs.size (.frz (oneD w kw s.toks xv) (.dK [(Sum.inr kw, y)])) := by
      refine ⟨g1, by show 1 ≤ sizeLine; decide, beq_eq_false_iff_ne.mpr (Nat.ne_of_gt (env0_big e0)), [(Sum.inr kw, xv)], .cons ⟨rfl, rx⟩ .nil, _, _, _, g1, ⟨rfl, rfl, rfl⟩, rfl, ?_, ?_, ?_⟩
      · intro e he
        have he' : e = ⟨PyData.keyHash w.params kw, .str kw s.toks, xv⟩ := by simpa using he
        subst he'
        exact ⟨Sum.inr kw, by show (kw == kw) = true; exact beq_self_eq_true kw, rfl⟩
      · exact .cons (by show (kw == kw) = true; exact beq_self_eq_true kw) rfl .nil
      · exact List.nodup_cons.mpr ⟨List.not_mem_nil, List.nodup_nil⟩
    have un : Un (frs outer) [] H (upd H s.heap.objs.size (.frz (oneD w kw s.toks xv) (.dK [(Sum.inr kw, y)]))) s.heap g := Un.laid kp (Nat.le_refl _) hn
    exact h { s with heap := g, toks := s.toks + 1 } _ [x, .ref s.heap.objs.size] [u, .ref s.heap.objs.size] (env0_to e0 kp sz new) un rfl (fun e s' => hCX outer s H _ _ E e s' un kp rfl) (.cons ru (.cons rfl .nil)) rfl ⟨_, _, hn, rfl, rfl⟩
  · subst ex eH
    exact hbody A outer s2 _ _ Q E hr' (hq d ob hd)
end
section
variable {X : Cx} {CX : CXT} {k : Nat} {C f : Addr} {m : Str} {sp : Sp} {E : XK} {o : Expr} {ta : TE} {tk : TA} {apos pos : Pos} {kws : List Keyword} {ks : List Str}
theorem run_fnK {pins : List (Addr × Obj)} {σ : L2.St} {H : Hp} {s : Shared} {Q : VK} {us ws : List Value} {vs zs : List V} (F : FnK X.prog X.w X.K X.mg X.base CX k f ks sp) (hr : Room k X.A) (hx : Passes CX X E) (I : Inv X pins σ H s) (r : Vals vs us) (rz : Vals zs ws) (hl : zs.length = ks.length) (h : sp (vs ++ zs) H Q E) :
    wpAny (model X.prog X.w) X.A (call (.ref f) us (ks.zip ws)) (EP X pins σ Q) X.xe s := by
  refine wpAny_call (codeAny_mono (F X.A X.stack s H us ws vs zs Q E hr I.env0 r rz hl h) fun r s' hq => ?_)
  cases r with
  | error e => exact hx pins σ H s e s' I hq
  | ok fl =>
    cases fl with
    | ret u => exact I.after hq
    | next => exact False.elim hq
    | brk => exact False.elim hq
    | cont => exact False.elim hq
/-- o.m(k = v, ..) -/
def tMethK (C : Addr) (m : Str) (ks : List Str) (sp : Sp) (E : XK) (ta : TE) (tk : TA) : TE := fun σ H Q => ta σ H fun x H1 => ∃ a dx fs, x = .ref a ∧ H1 a = some (.ins C dx fs) ∧ fs.lookup m = none ∧ tk σ H1 fun zs H2 => zs.length = ks.length ∧ sp (x :: zs) H2 Q E
theorem pe_methK {pl : Sem Bool} (he : PE X o ta) (c : Cls X.K C) (hm : Meth X.K C m f) (F : FnK X.prog X.w X.K X.mg X.base CX k f ks sp) (hr : Room k X.A) (hx : Passes CX X E) (hk : PK X kws tk)
    (ht : eval (.Call (.Attribute o m apos) [] kws pos) X.env = (do
      let ov ← eval o X.env
      standAt apos.atName
      let (f, first) ← holding [ov] (getMethod ov m pl)
      callWith pos f first (backTo pos (starEach [] X.env)) (backToKw pos (keywordEach kws X.env))) := by rfl)
    (hall : (backToKw pos (keywordEach kws X.env)).all (·.1.isSome) = true := by rfl) (hks : (backToKw pos (keywordEach kws X.env)).filterMap (·.1) = ks := by rfl) (hpl : ((backTo pos (starEach [] X.env)).any (·.1) || (backToKw pos (keywordEach kws X.env)).any (·.1.isNone)) = false := by rfl) :
    PE X (.Call (.Attribute o m apos) [] kws pos) (tMethK C m ks sp E ta tk) := by
  refine ⟨fun pins s σ H Q I h => ?_⟩
  refine PySem.W.methodCall_KW (pl := pl) (thn (he.run pins s σ H _ I h) fun u s1 ⟨x, H1, I1, rx, a, dx, fs, ex, ea, l, q⟩ => ?_) ht
  subst ex
  obtain rfl : u = Value.ref a := rx
  refine getmeth_ok I1 ea c hm l ?_
  refine PySem.W.callWith_KW0 (first := [.ref a]) (h₀ := X.base) I.ok.mod.kin hm.kp hall (thn (hk.run pos pins s1 σ H1 _ I1 q) fun ws s2 ⟨zs, H2, I2, rz, hl, q2⟩ => ⟨I2.kIn, ?_⟩) hpl
  rw [hks]
  exact run_fnK (us := [.ref a]) (vs := [.ref a]) F hr hx I2 (.cons rfl .nil) rz hl q2
/-- d.update(e), e locked -/
def rUpd : V → List V → Hp → VK → Prop := fun x xs H Q => ∃ d e ob kvs more, x = .ref d ∧ xs = [.ref e] ∧ H d = some (.dK kvs) ∧ H e = some (.frz ob (.dK more)) ∧ kvs.length + more.length ≤ sizeLine ∧ Q .non (upd H d (.dK (mergeK kvs more)))
theorem mt_upd : MtR X "dict.update" rUpd := by
  intro pins s σ H x xs v us Q I rx r h
  obtain ⟨d, e, ob, kvs, more, ex, exs, hd, he, hz, q⟩ := h
  subst ex exs
  cases rx
  obtain ⟨u, eu, ru⟩ := vals1 r
  subst eu
  cases ru
  have hne : d ≠ e := fun z => by rw [z, he] at hd; cases hd
  obtain ⟨z1, n1, vs1, r1, d1⟩ := dk_of I.hok hd
  obtain ⟨z2, n2, vs2, r2, d2⟩ := dk_rd I.hok (.inr ⟨ob, he⟩)
  have hl : (mergeK kvs more).length ≤ sizeLine := by
    refine Nat.le_trans (length_mergeK more kvs) ?_
    omega
  refine call_meetsIn PySem.F.slot_dict_update d1.typeIs PySem.F.entry_dict_update (PySem.F.args_dict_update_2 _ _) (meets_dict_update (mixKind X.prog X.w) d e hne n2) ⟨vs1, vs2, d1, d2, by rw [← r1.length, ← r2.length]; exact hz, fun g g1 g2 sb => ?_⟩
  have hg : ∃ q, g.get? d = some q := let ⟨q, _, _, hq, _⟩ := g1; ⟨q, hq⟩
  exact ⟨.non, _, d_write (t' := s.toks) I (by rw [hd]; exact True.intro) sb hg (dk_new hl n1 (KV.merge r2 r1) g1), rfl, q⟩
end
end Cr
end

section
set_option Elab.async false
set_option linter.all false
set_option maxRecDepth 100000
set_option maxHeartbeats 4000000
/-! A comprehension's block told in three words (it waits at a turn, it runs a turn, it is left), for any kind of comprehension; by them {k: v for ..} without tests, whose keys are tuples. -/
namespace Cr
open PySem PySem.Spec PyProof.Rows L2 C8 Ab
section
variable {B : Cx} {tn : Nat → Heap → Prop} {τ ρ : L2.St} {i : Nat} {H : Hp} {s : Shared} {J : It} {tg : Expr} {it : Addr} {E : Value → Shared → Prop}
/-- the block waits ahead of turn i: its own walk (the objects B.ex) stands at i, and nobody tracks it -/
structure Waits (B : Cx) (tn : Nat → Heap → Prop) (τ : L2.St) (i : Nat) (H : Hp) (s : Shared) : Prop where
  inv : Inv B [] τ H s
  at_i : tn i s.heap
  off : ∀ b ∈ B.ex, H b = none
/-- the body of a turn runs: the walk's objects lie as they lay in g -/
structure Runs (B : Cx) (tn : Nat → Heap → Prop) (g : Heap) (i : Nat) (ρ : L2.St) (H : Hp) (s : Shared) : Prop where
  inv : Inv B (pinsAt B.ex g) ρ H s
  at_i : tn i g
theorem Waits.fp (W : Waits B tn τ i H s) (hp : B.pn = []) {H' : Hp} {s' : Shared} (I : Inv B [] τ H' s') (n : ∀ b ∈ B.ex, H' b = none) (b : Addr) (hb : b ∈ B.ex) : FpOk B [] H' b := by
  refine ⟨n b hb, (I.ok.exf b hb).1, I.ok.exfs b hb, .inl hb, fun x c e => (I.ok.exf b hb).2 x c e, fun p q => ?_⟩
  rw [hp] at q
  cases q
theorem Waits.next (W : Waits B tn τ i H s) (hp : B.pn = []) (hc : B.calm = true) (T : Turn B.prog B.w B.K tg J B.ex it tn) (go : J.go i H) :
    wpAny (model B.prog B.w) B.A (pyNext (.ref it)) (fun r s1 => ∃ u, r = some u ∧ wpAny (model B.prog B.w) B.A (letOwnedTupleGo tg (.ref it) u) (fun _ s2 => ∃ x H2, Runs B tn s2.heap (i + 1) τ H2 s2 ∧ RelV x u ∧ J.yld i H x H2) E s1) E s :=
  wpAny_mono (T.item B rfl rfl rfl hc i [] s τ H E W.inv (W.fp hp W.inv W.off) W.at_i go)
    (fun _ _ ⟨u, e, z⟩ => ⟨u, e, wpAny_mono z (fun _ _ ⟨x, H2, I, r, y, a, n⟩ => ⟨x, H2, ⟨I.pinned (W.fp hp I n) (T.obj _ _ a), a⟩, r, y⟩) fun _ _ q => q⟩) fun _ _ q => q
theorem Waits.last (W : Waits B tn τ i H s) (hp : B.pn = []) (hc : B.calm = true) (T : Turn B.prog B.w B.K tg J B.ex it tn) (stop : J.stop i H) :
    wpAny (model B.prog B.w) B.A (pyNext (.ref it)) (fun r s1 => r = none ∧ Inv B [] τ H s1) E s :=
  T.done B rfl rfl rfl hc i [] s τ H E W.inv (W.fp hp W.inv W.off) W.at_i stop
/-- the turn's end: the names of the turn are forgotten, the walk is free again -/
theorem Runs.ends {g : Heap} (R : Runs B tn g i ρ H s) (T : Turn B.prog B.w B.K tg J B.ex it tn) {vs : List Nat} (e : wipe ρ vs = τ) : Waits B tn τ i H s := by
  have held : ∀ b ∈ B.ex, ∀ o, g.get? b = some o → s.heap.get? b = some o ∧ H b = none := fun b hb o q =>
    have z := R.inv.pin (b, o) (List.mem_append_right _ (mem_pinsAt hb q))
    ⟨z.1, z.2.1⟩
  subst e
  exact ⟨(R.inv.unpinned (pins := []) (pl := pinsAt B.ex g)).weak (wipe_length ρ vs) fun _ _ q => (wipe_some q).1, T.keep i g s.heap R.at_i fun b hb o q => (held b hb o q).1, fun b hb => (T.obj i g R.at_i b hb).elim fun o q => (held b hb o q.1).2⟩
end
section
variable {X : Cx} {pins : List (Addr × Obj)} {σ : L2.St} {H : Hp} {s : Shared} {scope : Scope} {own : List (Str × Nat)} {fp : List Addr} {tn : Nat → Heap → Prop}
/-- the frame of a block that begins at s -/
abbrev blkEnv (X : Cx) (s : Shared) (scope : Scope) : Env := compEnvC scope (cellsFrom (s.heap.objs.size + 1) scope.names (cloFrom X.env.cells scope.names [])) s.heap.objs.size X.env
abbrev blkSt (s : Shared) (scope : Scope) : Shared := { s with heap := pushCells (s.heap.push { cls := .type "dict", data := .dict #[] }) scope.names }
abbrev blkIn (X : Cx) (s : Shared) (H : Hp) (scope : Scope) (fp : List Addr) : Cx := X.blk s H scope (blkEnv X s scope) fp
theorem blk_begin (I : Inv X pins σ H s) (ok : BlkOk X.N X.env.scope scope own) (hN : X.N.Nodup) (hf : ∀ b ∈ fp, FpOk X pins H b) (hs : ∀ b ∈ fp, ∃ o, s.heap.get? b = some o)
    (keep : ∀ h', (∀ b ∈ fp, ∀ o, s.heap.get? b = some o → h'.get? b = some o) → tn 0 h') : Waits (blkIn X s H scope fp) tn (wipe σ (own.map (·.2))) 0 H (blkSt s scope) where
  inv := block_start I ok hN fun b hb => ⟨hf b hb, (hs b hb).elim fun _ q => Heap.lt_size q⟩
  at_i := keep _ fun _ _ _ q => pushCells_keeps _ _ _ _ (Heap.get?_push_of_some _ q)
  off := fun b hb => (hf b hb).1
theorem blk_left {τ : L2.St} {H' : Hp} {s' : Shared} (I : Inv X pins σ H s) (hf : ∀ b ∈ fp, FpOk X pins H b) (I' : Inv (blkIn X s H scope fp) [] τ H' s') :
    Inv X pins σ H' s' ∧ (∃ m, s'.heap.Ns s.heap.objs.size m) ∧ FpOk X pins H' s.heap.objs.size :=
  ⟨I.call' I'.os I'.base I'.hok I'.bare fun b hb => have z := (hf b hb).2; ⟨z.2.2.1, z.1, z.2.2.2.1, z.2.2.2.2⟩, I'.loc.elim fun m q => ⟨m, q.1⟩, I.fpOk (Nat.le_refl _) I'.free⟩
theorem blk_free (I : Inv X pins σ H s) (ok : BlkOk X.N X.env.scope scope own) : closureFor scope X.env = pure (cloFrom X.env.cells scope.names []) :=
  closure_ok fun y hy e => I.ok.has _ (ok.free y hy e)
end
section
variable {X : Cx}
/-- d[k] = v by a comprehension, k a tuple -/
theorem d_dictSetT {pins : List (Addr × Obj)} {σ : L2.St} {H : Hp} {s : Shared} {E : Value → Shared → Prop} {D b : Addr} {kvs : List (List Key × V)} {k : List Key} {v : V} {r : Value} {Q : Unit → Shared → Prop} (I : Inv X pins σ H s) (hu : X.A.units + 1 < cLine) (hD : H D = some (.dT kvs)) (hz : kvs.length < sizeLine)
    (eb : H b = some (.tup (k.map kV))) (rv : RelV v r) (h : ∀ s', Inv X pins σ (upd H D (.dT (putK kvs k v))) s' → Q () s') : wpAny (model X.prog X.w) X.A (dictSet D (.ref b) r) Q E s := by
  obtain ⟨z, hd, xs, rel, dd⟩ := dt_of I.hok hD
  have more := length_putK kvs k v
  refine wpAny_dictSet_heap (hsz := Paired.length rel ▸ z) (show (tupleKind (mixKind X.prog X.w)).room X.A from Nat.lt_of_succ_lt hu) (key_of I.hok eb) dd fun g gd sb => h _ ?_
  obtain ⟨q, es, ep, hq, g1, g2, g3, _, g4⟩ := gd
  refine d_write I (by rw [hD]; exact True.intro) sb ⟨q, hq⟩ ⟨by omega, hd, _, (rel.put k eb rv).keeps fun c ys ec => ?_, q, es, ep, hq, g1, g2, g3, g4⟩
  rw [upd_ne (ne_of ec hD (fun z => nomatch z))]
  exact ec
/-- {k: v for target in iter}, keys tuples: D the new dict -/
def tDcT (wi : TI) (g : TG) (tk tv : TE) (vs : List Nat) : TE := fun σ H Q => wi σ H fun J H1 => ∀ D, H1 D = none → ∃ W : Nat → Nat → Hp → Prop, (∃ m, W 0 m (upd H1 D (.dT []))) ∧ ∀ i m H, W i m H →
  (J.stop i H ∧ Q (.ref D) H) ∨ (J.go i H ∧ ∃ Nx : Hp → Prop, (∀ H', Nx H' → ∃ m', m' < m ∧ W (i + 1) m' H') ∧ ∀ x H', J.yld i H x H' → g x (wipe σ vs) H' fun σ2 H2 => wipe σ2 vs = wipe σ vs ∧
    tk σ2 H2 fun y H3 => tv σ2 H3 fun z H4 => ∃ kvs k b, y = .ref b ∧ H4 b = some (.tup (k.map kV)) ∧ H4 D = some (.dT kvs) ∧ kvs.length < sizeLine ∧ Nx (upd H4 D (.dT (putK kvs k z))))
theorem pe_dcT {kx vx tg iter : Expr} {scope : Scope} {own : List (Str × Nat)} {pos : Pos} {wi : TI} {g : TG} {tk tv : TE} (hu : X.A.units + 1 < cLine) (hc : X.calm = true) (hN : X.N.Nodup) (hi : PI X tg iter wi) (ok : BlkOk X.N X.env.scope scope own)
    (hg : ∀ (s : Shared) (H : Hp) (C : Addr) (cl : List (Str × Addr)) (fp : List Addr), PG (X.blk s H scope (compEnvC scope cl C X.env) fp) tg g)
    (hk : ∀ (s : Shared) (H : Hp) (C : Addr) (cl : List (Str × Addr)) (fp : List Addr), PE (X.blk s H scope (compEnvC scope cl C X.env) fp) kx tk)
    (hv : ∀ (s : Shared) (H : Hp) (C : Addr) (cl : List (Str × Addr)) (fp : List Addr), PE (X.blk s H scope (compEnvC scope cl C X.env) fp) vx tv) (hs : ∀ x, foldedSetIterable iter X.env x = pure x := by intro _; rfl) :
    PE X (.DictComp kx vx [⟨tg, iter, [], 0⟩] scope pos) (tDcT wi g tk tv (own.map (·.2))) where
  run pins s σ H Q I h := by
    rw [arm_eval_DictComp]
    refine wpAny_comprehension_free (use := none) rfl hs (blk_free I ok) ok.kind (fun y hy e => (ok.uniq y hy).trans (congrArg some e)) (thn (hi.run pins s σ H _ I h) fun _ _ z => thn z fun _ s2 ⟨it, fp, tn, J, H2, e, I2, T, a2, f2, q⟩ => ?_)
    subst e
    have fresh : H2 s2.heap.objs.size = none := I2.hok.fresh (Nat.le_refl _)
    obtain ⟨W, ⟨m0, w0⟩, lap⟩ := q _ fresh
    refine wpAny_newObj_type (newEnv_comp ?_)
    generalize hD : s2.heap.objs.size = D at lap w0 fresh ⊢
    have J3 : Inv X pins σ (upd H2 D (.dT [])) { s2 with heap := s2.heap.push { cls := .type "dict", data := .dict #[] } } :=
      I2.laid (t' := s2.toks) (fun _ _ q => Heap.get?_push_of_some _ q) (Nat.le_of_eq hD) (hD ▸ dt_empty s2.heap I2.big)
    have there : ∀ b ∈ fp, ∃ o, s2.heap.get? b = some o := fun b hb => (T.obj _ _ a2 b hb).elim fun o z => ⟨o, z.1⟩
    have f3 : ∀ b ∈ fp, FpOk X pins (upd H2 D (.dT [])) b := fun b hb =>
      ⟨(upd_ne fun z => by obtain ⟨o, q⟩ := there b hb; exact absurd (Heap.lt_size q) (by rw [z, hD]; exact Nat.lt_irrefl _)).trans (f2 b hb).1, (f2 b hb).2⟩
    generalize hs3 : ({ s2 with heap := s2.heap.push { cls := .type "dict", data := .dict #[] } } : Shared) = s3 at J3 ⊢
    have up : ∀ b o, s2.heap.get? b = some o → s3.heap.get? b = some o := fun b o q => by rw [← hs3]; exact Heap.get?_push_of_some _ q
    generalize upd H2 D (.dT []) = H3 at w0 J3 f3
    have start := blk_begin J3 ok hN f3 (fun b hb => (there b hb).elim fun o q => ⟨o, up b o q⟩) fun h' k => T.keep 0 _ h' a2 fun b hb o q => k b hb o (up b o q)
    have loop := compLoop_anyD (prog := X.prog) (w := X.w) (A := X.A) (kx := kx) (vx := vx) (target := tg) (iter := iter) (ifs := []) (scope := scope) (pos := pos) (it := .ref it) (D := D) (env := blkEnv X s3 scope) (R := compPost (model X.prog X.w) X.A X.xe none (EP X pins σ Q) (.ref D) s3.heap.objs.size)
      (fun n s' => ∃ i H', Waits (blkIn X s3 H3 scope fp) tn (wipe σ (own.map (·.2))) i H' s' ∧ W i n H') (fun n s5 ⟨i, H5, w5, p5⟩ => ?_) m0 ⟨0, H3, start, w0⟩
    · exact codeAny_compStart_dict loop (T.self X.A 0 _ _ _ start.at_i loop)
    rcases lap i n H5 p5 with ⟨stop, fin⟩ | ⟨go, Nx, more, step⟩
    · refine thnF (w5.last rfl hc T stop) fun r s6 ⟨er, I6⟩ => ?_
      subst er
      obtain ⟨I7, ⟨m, hm⟩, f0, f1, f2, f3', f4, f5⟩ := blk_left J3 f3 I6
      exact ⟨m, hm, fun h' sb => ⟨.ref D, H5, I7.turned (t' := s6.toks) (fun b o hb q => (sb.2 b hb).trans q) f0 f1 f3' f4 f5, rfl, fin⟩⟩
    · refine thnF (w5.next rfl hc T go) fun r s6 ⟨u, er, z6⟩ => ?_
      subst er
      refine thnF z6 fun _ s7 ⟨x, H7, r7, ru, y7⟩ => ?_
      refine thnF ((hg _ _ _ _ _).run _ _ _ _ x u _ r7.inv ru (step x H7 y7)) fun _ s8 ⟨σ8, H8, I8, e8, q8⟩ => ?_
      refine wpAny_tests_nil ?_
      rw [if_pos rfl]
      refine thnF ((hk _ _ _ _ _).run _ _ _ _ _ I8 q8) fun y s9 ⟨yk, H9, I9, r9, q9⟩ => ?_
      refine thnF ((hv _ _ _ _ _).run _ _ _ _ _ I9 q9) fun z s10 ⟨yv, H10, I10, r10, kvs, k, b, ek, eb, eD, hz, nx⟩ => ?_
      subst ek
      cases r9
      refine d_dictSetT (X := blkIn X s3 H3 scope fp) I10 hu eD hz eb r10 fun s11 I11 => ?_
      obtain ⟨m', hm, w'⟩ := more _ nx
      exact ⟨m', hm, i + 1, _, Runs.ends ⟨I11, r7.at_i⟩ T e8, w'⟩
end
end Cr
end

section
set_option Elab.async false
set_option linter.all false
set_option maxRecDepth 100000
set_option maxHeartbeats 4000000
/-! == of two dicts whose keys are tuples: they have the same keys, the same values. -/
namespace Cr
open PySem PySem.Spec PyProof.Rows
section
variable {prog : Program} {w : World} {K : Type} [DecidableEq K] {knd : HeapKind prog w K} {A : Around} {E : Value → Shared → Prop} {s : Shared} {a b : Addr} {xa xb : List (K × Addr × Value)}
theorem same_pairsT {nm : String} {Q : Bool → Shared → Prop} (na : (a == sysModules) = false) (nb : (b == sysModules) = false) (da : s.heap.DictOfH knd a xa) (db : s.heap.DictOfH knd b xb) (hu : knd.room A) (hl : xa.length = xb.length)
    (hits : ∀ x ∈ xa, ∃ y, (atKey xb x.1).map (·.2) = some y ∧ SeqAt.EqAt A s x.2.2 y true) (h : Q true s) : wpAny (model prog w) A (Builtin.Dict.samePairs nm a b) Q E s := by
  obtain ⟨oa, ea, pa, ga, _, fa, la, ia, ua⟩ := da
  obtain ⟨ob, eb, pb, gb, _, fb, lb, ib, ub⟩ := db
  have sa : ea.size = xa.length := size_of_entries la
  have sb : eb.size = xb.length := size_of_entries lb
  unfold Builtin.Dict.samePairs Builtin.Dict.showsAll
  rw [if_neg (by rw [na]; exact Bool.false_ne_true), if_neg (by rw [nb]; exact Bool.false_ne_true)]
  refine wpAny_bind (wpAny_pure (wpAny_bind (wpAny_pure (wpAny_bind (wpAny_dictEntries ga fa ?_)))))
  dsimp only
  refine wpAny_bind (wpAny_dictEntries gb fb ?_)
  rw [if_neg (by rw [sa, sb, hl]; simp)]
  refine wpAny_bind (wpAny_dictEpoch ga fa (wpAny_bind ?_))
  rw [Std.Legacy.Range.forIn_eq_forIn_range']
  simp only [Std.Legacy.Range.size, Nat.sub_zero, Nat.add_sub_cancel, Nat.div_one]
  refine wpAny_forIn_list _ (fun more q t => t = s ∧ q = (none, ()) ∧ ∃ i, i ≤ ea.size ∧ more = List.range' i (ea.size - i)) _ ?_ ?_ _ _ ⟨rfl, rfl, 0, Nat.zero_le _, by simp⟩
  · rintro x more q t ⟨rfl, rfl, i, hi, hr⟩
    have lt : i < ea.size := by
      by_cases z : i < ea.size
      · exact z
      · rw [show ea.size - i = 0 by omega] at hr; cases hr
    rw [show ea.size - i = (ea.size - (i + 1)) + 1 by omega, List.range'_succ] at hr
    obtain ⟨rfl, hm⟩ := List.cons.inj hr
    have lx : x < xa.length := by omega
    refine wpAny_bind (wpAny_dictEntries ga fa ?_)
    rw [entry_at la x, List.getElem?_eq_getElem lx]
    obtain ⟨y, hy, hq⟩ := hits xa[x] (List.getElem_mem lx)
    show wpAny _ _ (holding [Value.ref xa[x].2.1, xa[x].2.2] _ >>= _) _ _ _
    refine wpAny_bind (wpAny_holding (wpAny_bind ?_))
    refine wpAny_dictFind_heap (k := xa[x].1) (a := xa[x].2.1) hu (ia _ (List.getElem_mem lx)) gb fb lb ib ub (fun no => ?_) fun j p hj => ?_
    · exfalso
      rw [atKey_none_of_get no] at hy
      cases hy
    · rw [atKey_of_get ub hj] at hy
      obtain rfl : p.2 = y := Option.some.inj hy
      refine wpAny_bind (wpAny_dictEntries gb fb ?_)
      rw [entry_at lb j, hj]
      refine wpAny_holding (hq prog w _ _ ?_)
      show wpAny _ _ (if (!true) = true then _ else _) _ _ _
      rw [if_neg (by decide)]
      refine wpAny_bind (wpAny_dictEpoch ga fa ?_)
      rw [if_neg (by simp)]
      exact wpAny_pure ⟨rfl, rfl, x + 1, lt, hm⟩
  · rintro q t ⟨rfl, rfl, _⟩
    exact wpAny_pure h
theorem dictT_eq {Q : Value → Shared → Prop} (na : (a == sysModules) = false) (nb : (b == sysModules) = false) (da : s.heap.DictOfH knd a xa) (db : s.heap.DictOfH knd b xb) (hu : A.units < cLine) (hr : knd.room A.in1) (hl : xa.length = xb.length)
    (hits : ∀ x ∈ xa, ∃ y, (atKey xb x.1).map (·.2) = some y ∧ SeqAt.EqAt A.in1 s x.2.2 y true) (h : Q (.bool true) s) : wpAny (model prog w) A (compareOp .Eq (.ref a) (.ref b)) Q E s := by
  have ta : s.TypeIs (.ref a) "dict" := let ⟨o, _, _, g, x, _⟩ := da; ⟨o, g, x.1⟩
  have tb : s.TypeIs (.ref b) "dict" := let ⟨o, _, _, g, x, _⟩ := db; ⟨o, g, x.1⟩
  refine wpAny_richCompare_same_room (op := .Eq) ta tb PySem.F.slot_dict_eq (wpAny_call_entry PySem.F.slot_dict_eq ta PySem.F.entry_dict_eq ?_ (PySem.F.args_dict_eq_2 _ _)) hu
  refine wpAny_bind (m := Builtin.Dict.dictSlotArgs "__eq__" ⟨[.ref a, .ref b], []⟩) ?_
  unfold Builtin.Dict.dictSlotArgs
  refine wpAny_bind (wpAny_notOrdered_dict ta (wpAny_pure (wpAny_bind (wpAny_isInstance (T := "dict") tb PySem.F.sub_dict_dict ?_))))
  simp only [Bool.not_true, Bool.false_eq_true, if_false]
  refine wpAny_bind (wpAny_pure (wpAny_bind (wpAny_pure (wpAny_bind (same_pairsT na nb da db hr hl hits (wpAny_pure ⟨_, rfl, (fun x => nomatch x), h⟩))))))
end
end Cr
namespace Cr
open PySem PySem.Spec PyProof.Rows L2 C8 Ab
section
variable {X : Cx}
def rEqDT : R2 := fun x y H Q => ∃ a b ks ls, x = .ref a ∧ y = .ref b ∧ H a = some (.dT ks) ∧ H b = some (.dT ls) ∧ ks.length = ls.length ∧ (∀ p ∈ ks, valV ls p.1 = some p.2 ∧ flatB p.2 = true) ∧ Q (.bl true) H
theorem op_eqDT (hu : X.A.units + 1 < cLine) : OpR X (compareOp .Eq) rEqDT := by
  intro pins s σ H x y v u Q I rx ry h
  obtain ⟨a, b, ks, ls, rfl, rfl, ea, eb, hl, hp, q⟩ := h
  cases rx
  cases ry
  obtain ⟨_, na, xa, ra, da⟩ := dt_of I.hok ea
  obtain ⟨_, nb, xb, rb, db⟩ := dt_of I.hok eb
  refine dictT_eq na nb da db (Nat.lt_of_succ_lt hu) (tupleKind_room_in1 hu) (by rw [← Paired.length ra, ← Paired.length rb]; exact hl) (fun x hx => ?_) ⟨.bl true, H, I, rfl, q⟩
  have all : ∀ {l : List (List Key × V)} {m : List (List Key × Addr × Value)}, KT H l m → ∀ x ∈ m, ∃ p ∈ l, p.1 = x.1 ∧ RelV p.2 x.2.2 := by
    intro l m q
    induction q with
    | nil => intro x hx; cases hx
    | @cons p q ps qs hq t ih =>
      intro x hx
      rcases List.mem_cons.mp hx with e | hx
      · subst e; exact ⟨p, List.mem_cons_self, hq.1, hq.2.2⟩
      · obtain ⟨p', h1, h2⟩ := ih x hx; exact ⟨p', List.mem_cons_of_mem _ h1, h2⟩
  obtain ⟨p, hp1, hp2, hp3⟩ := all ra x hx
  obtain ⟨e, f⟩ := hp p hp1
  have rr : RelO (some p.2) ((atKey xb p.1).map (·.2)) := by rw [← e]; exact KT.val rb p.1
  obtain ⟨y, hy, ry⟩ := rr.some_of
  rw [hp2] at hy
  exact ⟨y, hy, eqAt_same hp3 ry f⟩
end
end Cr
end

section
set_option Elab.async false
set_option linter.all false
set_option maxRecDepth 100000
set_option maxHeartbeats 4000000
namespace Ab
open PySem PySem.Spec PyProof.Rows L2 C8 Cr
section
variable {p : Option Addr} {K : PySem.W.Frag} {δ : Dst} {te : TE} {ta tk : TA} {P : Dt → Prop} {E : XK}
theorem ev_adr {a : Addr} : EvD p (tC (.ref a)) δ (.adr a) := fun σ Hk H s k o Q q => nochg k o (.adr a) q
/-! keys -/
theorem keys_kV {Hk : Hp} : ∀ {vs : List V} {ks : List Key}, Rps Hk vs (ks.map kDt) → vs = ks.map kV
  | _, [], .nil => rfl
  | _, k :: ks, .cons a b => by rw [kDt_kV a, keys_kV b]; rfl
/-! dict(zip(a, b)) -/
theorem krp_zip {Hk : Hp} : ∀ (ks : List Key) {vs : List V} {ds : List Dt}, Rps Hk vs ds → KRp Hk (ks.zip vs) (ks.zip ds)
  | [], _, _, _ => .nil
  | k :: ks, _, _, .nil => .nil
  | k :: ks, _, _, .cons a b => .cons a (krp_zip ks b)
def ZipD (K : PySem.W.Frag) (x y : Dt) (ks : List Key) (ys : List Dt) : Prop := (x = .lst (ks.map kDt) ∧ y = .lst ys) ∨ (x = .tup (ks.map kDt) ∧ y = .tup ys) ∨ (∃ a, x = .adr a ∧ (∀ H, SqT K H a (ks.map kV)) ∧ y = .tup ys)
theorem zip_of {Hk H : Hp} {x y : Dt} {ks : List Key} {ys : List Dt} (h : ZipD K x y ks ys) (k : Kn Hk H) {vs : List V} (r : Rps Hk vs [x, y]) : ∃ (l1 l2 : Addr) (us : List V), vs = [.ref l1, .ref l2] ∧ ((SqL K H l1 (ks.map kV) ∧ SqL K H l2 us) ∨ (SqT K H l1 (ks.map kV) ∧ SqT K H l2 us)) ∧ Rps Hk us ys := by
  obtain ⟨v, w, rfl, r1, r2⟩ := rps2 r
  rcases h with ⟨rfl, rfl⟩ | ⟨rfl, rfl⟩ | ⟨a, rfl, hs, rfl⟩
  · obtain ⟨a, us, e, e2, r3⟩ := r1.lst_inv
    obtain ⟨b, ws, e3, e4, r4⟩ := r2.lst_inv
    rw [keys_kV r3] at e2
    exact ⟨a, b, ws, by rw [e, e3], .inl ⟨.inl (.inl (k _ _ e2)), .inl (.inl (k _ _ e4))⟩, r4⟩
  · obtain ⟨a, us, e, e2, r3⟩ := r1.tup_inv
    obtain ⟨b, ws, e3, e4, r4⟩ := r2.tup_inv
    rw [keys_kV r3] at e2
    exact ⟨a, b, ws, by rw [e, e3], .inr ⟨.inl (.inl (k _ _ e2)), .inl (.inl (k _ _ e4))⟩, r4⟩
  · cases r1
    obtain ⟨b, ws, e3, e4, r4⟩ := r2.tup_inv
    exact ⟨a, b, ws, by rw [e3], .inr ⟨hs H, .inl (.inl (k _ _ e4))⟩, r4⟩
theorem ev_dictZip {x y : Dt} {ks : List Key} {ys : List Dt} (h : EvAD p ta δ [x, y]) (hz : ZipD K x y ks ys) : EvD p (tDictZip K ta) δ (.dk (mergeG [] (ks.zip ys))) := fun σ Hk H s k o Q q =>
  h σ Hk H s k o _ fun vs ds H1k H1 g1 o1 e r => by
    subst e
    obtain ⟨l1, l2, us, e, hq, r2⟩ := zip_of hz g1.kh r
    refine ⟨l1, l2, ks, us, e, hq, fun a ha => ?_⟩
    exact q _ _ _ _ (g1.trans (.new g1.kh _ ha)) (o1.grow (.new g1.kh _ ha)) rfl (.dk' upd_same ((merge_krp (krp_zip ks r2) .nil).mono (Kn.upd (g1.kh.free ha))))
/-! {k: v for ..}, keys tuples -/
theorem ev_dcT {α : Type} {wi : TI} {g : TG} {tk tv : TE} {vs : List Nat} (xs : List α) (enc : α → Dt) (ky : α → List Key) (f : α → Dt) (hi : EvID p wi δ (xs.map enc))
    (hs : ∀ x ∈ xs, ∃ δ', BindD g (enc x) (wipeD δ vs) δ' vs ∧ EvD p tk δ' (.tup ((ky x).map kDt)) ∧ EvD p tv δ' (f x)) (hl : xs.length ≤ 100000) :
    EvD p (tDcT wi g tk tv vs) δ (.dt (xs.foldl (fun acc x => putG acc (ky x) (f x)) [])) := fun σ Hk H s k o Q q => by
  refine hi σ Hk H s k o _ fun J ds Hk1 H1 g1 o1 e w => ?_
  subst e
  intro D hD
  let G : Nat → List (List Key × Dt) := fun i => (xs.take i).foldl (fun acc x => putG acc (ky x) (f x)) []
  let W : Nat → Nat → Hp → Prop := fun i m H' => m = xs.length - i ∧ i ≤ xs.length ∧ ∃ Hk' acc, Mine p Hk1 H1 D Hk' H' ∧ H' D = some (.dT acc) ∧ KRp Hk' acc (G i) ∧ acc.length ≤ i
  have hlen : (xs.map enc).length = xs.length := List.length_map ..
  refine ⟨W, ⟨xs.length, by simp, Nat.zero_le _, Hk1, [], .start g1.kh o1 hD _, upd_same, .nil, Nat.le_refl _⟩, ?_⟩
  rintro i m H' ⟨rfl, hi', Hk', acc, M, hacc, hr, hz⟩
  obtain ⟨w1, w2⟩ := w Hk' H' M.gr.kk M.gr.kh
  by_cases hlt : i < xs.length
  · obtain ⟨go, yl⟩ := w1 i (enc xs[i]) (by simp [hlt])
    refine .inr ⟨go, W (i + 1) (xs.length - (i + 1)), fun H'' p' => ⟨_, by omega, p'⟩, fun x H2 y => ?_⟩
    obtain ⟨Hk2, g2, r2⟩ := yl x H2 y
    have ne : ∀ {u : Hp} {o : HO}, u D = some o → u D ≠ none := fun e => by rw [e]; simp
    have M2 := M.step g2.up (M.po.grow g2) (ne hacc)
    have a2 := M.keep g2.up hacc
    obtain ⟨δ', hb, hk, hv⟩ := hs xs[i] (List.getElem_mem hlt)
    have s2 : Sto Hk2 (L2.wipe σ vs) (wipeD δ vs) := ((s.wipe vs).mono g1.kk).mono M2.gr.kk
    have tk1 : xs.take (i + 1) = xs.take i ++ [xs[i]] := by rw [List.take_add_one]; simp [hlt]
    refine hb _ Hk2 H2 x s2 r2 g2.kh _ fun σ2 s3 e2 => ⟨by rw [e2, wipe_wipe], ?_⟩
    show tk σ2 H2 _
    refine hk σ2 Hk2 H2 s3 g2.kh M2.po _ fun yv yd Hk3 H3 g3 o3 e3 r3 => ?_
    subst e3
    have M3 := M2.step g3 o3 (ne a2)
    have a3 := M2.keep g3 a2
    refine hv σ2 Hk3 H3 (s3.mono g3.kk) g3.kh o3 _ fun v d Hk4 H4 g4 o4 hd r4 => ?_
    subst hd
    have M4 := M3.step g4 o4 (ne a3)
    have a4 := M3.keep g4 a3
    obtain ⟨b, us, eb, e5, r5⟩ := (r3.mono g4.kk).tup_inv
    rw [keys_kV r5] at e5
    have hr4 := ((hr.mono g2.kk).mono g3.kk).mono g4.kk
    have hsz : acc.length < 100000 := by omega
    refine ⟨acc, ky xs[i], b, eb, g4.kh _ _ e5, a4, szl hsz, rfl, hlt, Hk4, _, M4.put _, upd_same, ?_, ?_⟩
    · show KRp Hk4 _ ((xs.take (i + 1)).foldl _ [])
      rw [tk1, List.foldl_append]
      exact hr4.put r4
    · have := length_putK acc (ky xs[i]) v
      omega
  · have e : i = xs.length := by omega
    subst e
    refine .inl ⟨w2 _ (by rw [hlen]; exact Nat.le_refl _), ?_⟩
    obtain ⟨g3, o3, k3⟩ := M.told hacc
    have e6 : G xs.length = xs.foldl (fun acc x => putG acc (ky x) (f x)) [] := by show (xs.take xs.length).foldl _ [] = _; rw [List.take_length]
    rw [e6] at hr
    exact q (.ref D) _ _ H' (g1.trans g3) o3 rfl (.dt' upd_same (hr.mono k3))
/-! two such dicts, the same -/
theorem krp_flat {κ : Type} [DecidableEq κ] {Hk : Hp} : ∀ {kvs : List (κ × V)} {ks : List κ}, KRp Hk kvs (ks.map fun k => (k, Dt.bl true)) → kvs = ks.map fun k => (k, V.bl true)
  | _, [], .nil => rfl
  | _, k :: ks, .cons a b => by cases a; rw [krp_flat b]; rfl
theorem rv_eqDT {ks ls : List (List Key)} (hn : ls.Nodup) (hl : ks.length = ls.length) (hm : ∀ k ∈ ks, k ∈ ls) : RvD p rEqDT (.dt (ks.map fun k => (k, Dt.bl true))) (.dt (ls.map fun k => (k, Dt.bl true))) (.bl true) := rvd fun u v Hk H r1 r2 k Q q => by
  obtain ⟨a, kvs, e1, e2, r3⟩ := r1.dt_inv
  obtain ⟨b, lvs, e3, e4, r4⟩ := r2.dt_inv
  subst e1 e3
  rw [krp_flat r3] at e2
  rw [krp_flat r4] at e4
  refine ⟨a, b, _, _, rfl, rfl, k _ _ e2, k _ _ e4, by simpa using hl, fun x hx => ?_, q _ (.bl true)⟩
  obtain ⟨y, hy, rfl⟩ := List.mem_map.mp hx
  refine ⟨?_, rfl⟩
  refine val_nodup ?_ (y, V.bl true) (List.mem_map.mpr ⟨y, hm y hy, rfl⟩)
  rw [List.map_map]
  have : ((fun x : List Key × V => x.1) ∘ fun k => (k, V.bl true)) = id := rfl
  rw [this, List.map_id]
  exact hn
/-! a locked dict: its keys walked, sorted -/
theorem ei_keys {td : TE} {ks : List (Key × Dt)} (h : EvD p td δ (.fk ks)) : EvID p (iKeys td) δ (ks.map fun x => kDt x.1) := fun σ Hk H s k o R q =>
  h σ Hk H s k o _ fun v d H1k H1 g1 o1 e r => by
    subst e
    obtain ⟨a, ob, kvs, e, h1, h2⟩ := r.fk_inv
    refine ⟨a, ob, e, .inl ⟨kvs, g1.kh _ _ h1, q _ _ H1k H1 g1 o1 rfl fun Hk2 H2 k1 k2 => ?_⟩⟩
    have h3 : H2 a = some (.frz ob (.dK kvs)) := k2 _ _ (k1 _ _ h1)
    have hl := h2.length
    refine ⟨fun i d e => ?_, fun i hi => ⟨h3, by simp at hi; omega⟩⟩
    rw [List.getElem?_map] at e
    obtain ⟨x, e1, e2⟩ := Option.map_eq_some_iff.mp e
    subst e2
    have hi : i < kvs.length := by have := (List.getElem?_eq_some_iff.mp e1).1; omega
    refine ⟨⟨h3, hi⟩, fun y H' ⟨e3, ky, vv, e4, e5⟩ => ?_⟩
    subst e3 e5
    refine ⟨Hk2, .refl k2, ?_⟩
    have hk : (kvs.map (·.1))[i]? = (ks.map (·.1))[i]? := by rw [h2.keys]
    rw [List.getElem?_map, List.getElem?_map, e4, e1] at hk
    have : ky = x.1 := Option.some.inj hk
    rw [this]
    cases x.1 with
    | inl i => exact .int i
    | inr z => exact .str z
theorem rc_sortF {ks : List (Key × Dt)} {is : List Int} (hk : ks.map (·.1) = is.map Sum.inl) (hl : is.length < 64) : RcD p (fun xs H Q => ∃ (a : Addr) (kvs : List (Key × V)) (ks : List Int), xs = [.ref a] ∧ Rd H a (.dK kvs) ∧ kvs.map (·.1) = ks.map Sum.inl ∧ ks.length < 64 ∧ ∀ (ys : List Int) (p : Addr), ys.Perm ks → ys.Pairwise (· ≤ ·) → H p = none → Q (.ref p) (upd H p (.lst (ys.map V.int)))) [.fk ks] (lstI (srtI is)) := fun us Hk H r k o Q q => by
  obtain ⟨v, rfl, h⟩ := rps1 r
  obtain ⟨a, ob, kvs, e, h1, h2⟩ := h.fk_inv
  subst e
  refine ⟨a, kvs, is, rfl, .inr ⟨ob, k _ _ h1⟩, by rw [h2.keys, hk], hl, fun ms l p1 p2 hl' => ?_⟩
  rw [srtI_of p1 p2]
  obtain ⟨g, o', r⟩ := newL (p := p) k o hl' (Rps.of_ints (srtI is))
  exact q _ _ _ _ g o' rfl r
/-! the items of a tuple that the program holds -/
theorem ei_kt {a : Addr} {te : TE} {ss : List Str} (h : EvD p te δ (.adr a)) (hs : ∀ H, SqT K H a (ss.map V.str)) : EvID p (iSeq K te) δ (ss.map Dt.str) := fun σ Hk H s k o R q =>
  h σ Hk H s k o _ fun v d H1k H1 g1 o1 e r => by
    subst e
    cases r
    refine ⟨a, _, rfl, .inr ⟨hs H1, q _ _ H1k H1 g1 o1 rfl fun Hk2 H2 k1 k2 => ⟨fun i d e => ?_, fun i hi => ⟨_, hs H2, by simpa using hi⟩⟩⟩⟩
    rw [List.getElem?_map] at e
    obtain ⟨z, e1, e2⟩ := Option.map_eq_some_iff.mp e
    subst e2
    refine ⟨⟨_, .str z, hs H2, by rw [List.getElem?_map, e1]; rfl⟩, fun x H' y => ?_⟩
    obtain ⟨e3, y⟩ := y
    subst e3
    have := y _ (hs _)
    rw [List.getElem?_map, e1] at this
    cases this
    exact ⟨Hk2, .refl k2, .str z⟩
theorem rv_ninK {a : Addr} {z : Str} {ss : List Str} (hs : ∀ H, SqT K H a (ss.map V.str)) : RvD p (rIn K true) (.str z) (.adr a) (.bl (!decide (z ∈ ss))) := rvd fun u v Hk H r1 r2 k Q q => by
  cases r1
  cases r2
  exact ⟨a, _, rfl, .inr (hs H), rfl, flat_strs ss, q _ (by show Rp Hk (.bl (if true = true then !inV (.str z) (ss.map V.str) else inV (.str z) (ss.map V.str))) _; rw [if_pos rfl, inV_strs]; exact .bl _)⟩
/-! a method called by keywords -/
def SpK (R : List Dt → Dt → Prop) : Sp := SpD R
theorem ev_methK {C : Addr} {m : Str} {ks : List Str} {R : List Dt → Dt → Prop} {gs : List (Str × Dt)} {ds : List Dt} {d : Dt} (h : EvD p te δ (.ins C gs)) (hm : gs.lookup m = none) (ha : EvAD p tk δ ds) (hl : ds.length = ks.length) (hr : R (.ins C gs :: ds) d) : EvD p (tMethK C m ks (SpD R) E te tk) δ d := fun σ Hk H s k o Q q =>
  h σ Hk H s k o _ fun u e0 H1k H1 g1 o1 e r => by
    subst e
    obtain ⟨ad, dx, fs, e, h1, h2⟩ := id r.ins_inv
    refine ⟨ad, dx, fs, e, g1.kh _ _ h1, krp_lookup_none h2 hm, ?_⟩
    refine ha σ H1k H1 (s.mono g1.kk) g1.kh o1 _ fun vs es H2k H2 g2 o2 e2 r2 => ?_
    subst e2
    exact ⟨by rw [r2.length]; exact hl, H2k, _, d, g2.kh, .cons (r.mono g2.kk) r2, hr, fun v H3k H3 g3 r3 => q v d H3k H3 ((g1.trans g2).trans g3.up) (o2.grow g3) rfl r3⟩
/-! C(e, .., k = v, ..) -/
theorem evp_makeK {C : Addr} {n m : Nat} {gV : List V → List V → List V} {R : List Dt → (List (Str × Dt) → Prop) → Prop} {G : List (Str × Dt) → Prop} {ds es fs : List Dt} (h : EvAD p ta δ ds) (h2 : EvAD p tk δ es) (hn : ds.length = n) (hm : es.length = m)
    (hg : ∀ (x : Addr) (vs zs : List V) (Hk : Hp), Rps Hk vs ds → Rps Hk zs es → ∃ ws, gV (.ref x :: vs) zs = .ref x :: ws ∧ Rps Hk ws fs) (hr : R fs G) : EvP p (tMakeK C n m (SpI C R) gV E ta tk) δ (fun d => ∃ gs, G gs ∧ d = .ins C gs) := fun σ Hk H s k o Q q =>
  h σ Hk H s k o _ fun vs ds' H1k H1 g1 o1 e r => h2 σ H1k H1 (s.mono g1.kk) g1.kh o1 _ fun zs es' H2k H2 g2 o2 e2 r2 => by
    subst e e2
    refine ⟨by rw [r.length]; exact hn, by rw [r2.length]; exact hm, fun x dx hx hd ne => ?_⟩
    obtain ⟨ws, ew, rw'⟩ := hg x vs zs H2k (r.mono g2.kk) r2
    have kB : Kn H2k (upd (upd H2 dx (.own x)) x (.ins C dx [])) := fun a u e => by
      have e' := g2.kh a u e
      rw [upd_ne (ne_of_none e' hx), upd_ne (ne_of_none e' hd)]
      exact e'
    refine ⟨x, dx, H2k, ws, fs, G, ew, kB, g2.kh.free hx, upd_same, rw', hr, fun Hk' H' dy fs' gs g hk hh rr hG => ⟨rfl, ?_⟩⟩
    obtain ⟨g3, o3, r3⟩ := made (p := p) g2.kh o2 hx hd ne g hk hh rr
    exact q _ _ _ _ ((g1.trans g2).trans g3) o3 ⟨gs, hG, rfl⟩ r3
/-! *e among arguments -/
theorem ea_star {t : Sq} {ta : TA} {xs ys : List Dt} (h : EvD p te δ (seqD t xs)) (h2 : EvAD p ta δ ys) : EvAD p (StX.tStar K te ta) δ (xs ++ ys) := fun σ Hk H s k o Q q =>
  h σ Hk H s k o _ fun v d H1k H1 g1 o1 e r => by
    subst e
    obtain ⟨a, vs, e, r1, hs⟩ := seq_any (K := K) g1.kh r
    subst e
    refine ⟨a, vs, rfl, hs.symm, ?_⟩
    refine h2 σ H1k H1 (s.mono g1.kk) g1.kh o1 _ fun us es H2k H2 g2 o2 e2 r2 => ?_
    subst e2
    exact q _ _ H2k H2 (g1.trans g2) o2 rfl ((r1.mono g2.kk).append r2)
end
/-! ### statements -/
section
variable {F : Addr → Prop} {p : Option Addr} {A0 B0 : Hp} {M : Led} {δ : Dst} {Hk H : Hp} {σ : L2.St} {K : PySem.W.Frag} {te : TE} {ta : TA} {i : Nat} {a : Addr} {N : Dst → Led → Prop} {R : Dt → Led → Prop}
/-- what is owned becomes another thing, and is known from here on -/
theorem Hst.repl (s : Hst F p A0 B0 M δ Hk σ H) {d : Dt} (hm : M a = some d) (hF' : ¬ F a) (o : HO) : Hst F p A0 B0 (delM M a) δ (upd Hk a o) σ (upd H a o) ∧ Kn Hk (upd Hk a o) := by
  obtain ⟨h1, h2, h3, h4⟩ := s.ow a d hm
  have hB : B0 a = none := h3.resolve_right hF'
  have k1 : Kn Hk (upd Hk a o) := Kn.upd h1
  have kA : ∀ b u, b ≠ a → H b = some u → upd H a o b = some u := fun b u n e => by rw [upd_ne n]; exact e
  refine ⟨⟨⟨s.gr.kk.trans k1, fun b u f e => kA b u (ne_of_none e hB) (s.gr.hh b u f e), fun b e => ?_, fun b u e => ?_, fun b e => ?_⟩, fun b e => ?_, s.st.mono k1, fun b e q => ?_⟩, k1⟩
  · by_cases z : b = a
    · rw [z, upd_same]; exact fun q => nomatch q
    · rw [upd_ne z]; exact s.gr.th b e
  · by_cases z : b = a
    · rw [z, upd_same] at e ⊢; exact e
    · rw [upd_ne z] at e ⊢; exact s.gr.kh b u e
  · by_cases z : b = a
    · exact .inr (by rw [z]; exact hB)
    · rw [upd_ne z] at e; exact s.gr.nw b e
  · have ne : b ≠ a := fun z => h2 (by rw [← z]; exact e)
    obtain ⟨g1, x, y', g2, g3⟩ := s.po b e
    exact ⟨by rw [upd_ne ne]; exact g1, x, y', kA b _ ne g2, g3⟩
  · unfold delM at q
    by_cases z : b = a
    · rw [if_pos z] at q; cases q
    · rw [if_neg z] at q
      obtain ⟨g1, g2, g3, g4⟩ := s.ow b e q
      exact ⟨by rw [upd_ne z]; exact g1, g2, g3, g4.mono k1 fun u e => kA b u z e⟩
/-- a field of what is owned, a dict owned itself: locked, and data from here on -/
theorem run_pubK {t : TS} {C : Addr} {f : Str} (h : Run F p t δ M (fun δ' M' => ∃ gs d ks, M' a = some (.ins C gs) ∧ gs.lookup f = some (.adr d) ∧ M' d = some (.dk ks) ∧ ¬ F d ∧ d ≠ a ∧ N δ' (updM (delM M' d) a (.ins C (putFD f (.fk ks) gs)))) R) : Run F p (tEndL t) δ M N R := fun hF A0 B0 Hk σ H D s nx rt =>
  h hF A0 B0 Hk σ H _ s (fun δ' M' Hk' σ' H' ⟨gs, d, ks, e1, e2, e3, e4, e5, n⟩ s' k' => by
    obtain ⟨_, _, _, kvs, h4, h5⟩ := s'.ow d _ e3
    refine ⟨d, .dK kvs, h4, True.intro, fun ob => ?_⟩
    obtain ⟨s2, k2⟩ := s'.repl e3 e4 (.frz ob (.dK kvs))
    have r2 : Rp (upd Hk' d (.frz ob (.dK kvs))) (.ref d) (.fk ks) := .fk' upd_same (h5.mono k2)
    refine nx δ' _ _ σ' _ n ⟨s2.gr, s2.po, s2.st, fun b e q => ?_⟩ (k'.trans k2)
    by_cases z : b = a
    · rw [z, updM_same] at q
      cases q
      have e6 : delM M' d a = some (.ins C gs) := by unfold delM; rw [if_neg (fun w => e5 w.symm), e1]
      obtain ⟨g1, g2, g3, dx, fs, g4, g5⟩ := s2.ow a _ e6
      rw [z]
      exact ⟨g1, g2, g3, dx, fs, g4, krp_field r2 g5 e2⟩
    · rw [updM_ne z] at q
      exact s2.ow b e q) rt
/-- name = dict(zip(..)), owned -/
theorem run_dictZip {x y : Dt} {ks : List Key} {ys : List Dt} (h : EvAD p ta δ [x, y]) (hz : ZipD K x y ks ys) (k : ∀ a, M a = none → N (δ.set i (some (.adr a))) (updM M a (.dk (mergeG [] (ks.zip ys))))) : Run F p (tAsg (tDictZip K ta) (gName i)) δ M N R := fun hF A0 B0 Hk σ H D s nx rt =>
  h σ Hk H s.st s.gr.kh s.po _ fun vs ds H1k H1 g1 o1 e r => by
    subst e
    have s1 := s.step g1 o1 hF
    obtain ⟨l1, l2, us, e, hq, r2⟩ := zip_of hz g1.kh r
    refine ⟨l1, l2, ks, us, e, hq, fun a ha => ?_⟩
    obtain ⟨hm, s2⟩ := s1.own ha (o := .dK (mergeK [] (ks.zip us))) (d := .dk (mergeG [] (ks.zip ys))) ⟨_, upd_same, merge_krp (krp_zip ks r2) .nil⟩
    exact nx _ _ H1k _ _ (k a hm) (s2.set i (.adr a)) g1.kk
/-- name.update(e), name owned, e locked -/
theorem run_upd {ks more : List (Key × Dt)} (hi : δ[i]? = some (some (.adr a))) (hm : M a = some (.dk ks)) (hl : ks.length + more.length ≤ 100000) (h : EvD p te δ (.fk more)) (k : N δ (updM M a (.dk (mergeG ks more)))) : Run F p (tDrop (tBM K "dict" rUpd (tVar i) (tCons te tNil))) δ M N R := fun hF A0 B0 Hk σ H D s nx rt => by
  obtain ⟨v, h1, h2⟩ := s.st.2 i _ hi
  cases h2
  obtain ⟨_, _, _, kvs, h3, _⟩ := s.ow a _ hm
  refine ⟨.ref a, h1, .inr (.inr (.inl ⟨rfl, .inl ⟨kvs, h3⟩⟩)), ?_⟩
  refine ez_of h hF A0 B0 Hk σ H _ s fun w d Hk' H' e s' k' r => ?_
  subst e
  obtain ⟨b, ob, mv, e1, e2, e3⟩ := r.fk_inv
  subst e1
  obtain ⟨_, _, _, ws, h5, h6⟩ := s'.ow a _ hm
  refine ⟨a, b, ob, ws, mv, rfl, rfl, h5, s'.gr.kh _ _ e2, by rw [h6.length, e3.length]; exact szL hl, ?_⟩
  exact nx δ _ Hk' σ _ k (s'.put hm ⟨_, upd_same, merge_krp e3 h6⟩) k'
end
end Ab
end

section
set_option Elab.async false
set_option linter.all false
set_option maxRecDepth 100000
set_option maxHeartbeats 4000000
namespace Ab
open PySem PySem.Spec PyProof.Rows L2 C8 Cr
section
variable {p : Option Addr} {K : PySem.W.Frag} {δ : Dst} {te : TE} {ta tk : TA} {wi wi1 : TI} {g g1 : TG} {vs vs1 : List Nat}
theorem mine_ne {u : Hp} {D : Addr} {o : HO} (e : u D = some o) : u D ≠ none := by rw [e]; exact fun q => nomatch q
/-- [e for x in xs for y in ys(x)] -/
theorem ev_lc2 {α β : Type} (xs : List α) (enc : α → Dt) (ys : α → List β) (enc1 : β → Dt) (f : α → β → Dt) (hi : EvID p wi δ (xs.map enc))
    (hs : ∀ x ∈ xs, ∃ δ', BindD g (enc x) (wipeD δ vs) δ' vs ∧ EvID p wi1 δ' ((ys x).map enc1) ∧ ∀ y ∈ ys x, ∃ δ2, BindD g1 (enc1 y) (wipeD δ' vs1) δ2 vs1 ∧ EvD p te δ2 (f x y))
    (hl : (xs.flatMap fun x => (ys x).map (f x)).length ≤ 100000) : EvD p (tLc2 wi g tYes wi1 g1 tYes te vs vs1) δ (.lst (xs.flatMap fun x => (ys x).map (f x))) := fun σ Hk H s k o Q q => by
  refine hi σ Hk H s k o _ fun J ds Hk1 H1 gr1 o1 e w => ?_
  subst e
  intro D hD
  let G : Nat → List Dt := fun i => (xs.take i).flatMap fun x => (ys x).map (f x)
  let W : Nat → Nat → Hp → Prop := fun i m H' => m = xs.length - i ∧ i ≤ xs.length ∧ ∃ Hk' acc, Mine p Hk1 H1 D Hk' H' ∧ H' D = some (.lst acc) ∧ Rps Hk' acc (G i)
  have hlen : (xs.map enc).length = xs.length := List.length_map ..
  refine ⟨W, ⟨xs.length, by simp, Nat.zero_le _, Hk1, [], .start gr1.kh o1 hD _, upd_same, .nil⟩, ?_⟩
  rintro i m H' ⟨rfl, hi', Hk', acc, M, hacc, hr⟩
  obtain ⟨w1, w2⟩ := w Hk' H' M.gr.kk M.gr.kh
  by_cases hlt : i < xs.length
  · obtain ⟨go, yl⟩ := w1 i (enc xs[i]) (by simp [hlt])
    refine .inr ⟨go, W (i + 1) (xs.length - (i + 1)), fun H'' p' => ⟨_, by omega, p'⟩, fun x H2 y => ?_⟩
    obtain ⟨Hk2, g2, r2⟩ := yl x H2 y
    have M2 := M.step g2.up (M.po.grow g2) (mine_ne hacc)
    have a2 := M.keep g2.up hacc
    obtain ⟨δ', hb, hi1, hs1⟩ := hs xs[i] (List.getElem_mem hlt)
    have s2 : Sto Hk2 (L2.wipe σ vs) (wipeD δ vs) := ((s.wipe vs).mono gr1.kk).mono M2.gr.kk
    have tk1 : xs.take (i + 1) = xs.take i ++ [xs[i]] := by rw [List.take_add_one]; simp [hlt]
    have eG : G (i + 1) = G i ++ (ys xs[i]).map (f xs[i]) := by
      show (xs.take (i + 1)).flatMap _ = _
      rw [tk1, List.flatMap_append]
      show _ ++ ((ys xs[i]).map (f xs[i]) ++ []) = _
      rw [List.append_nil]
    have lG : (G (i + 1)).length ≤ 100000 := by
      have h1 : xs = xs.take (i + 1) ++ xs.drop (i + 1) := (List.take_append_drop _ _).symm
      rw [h1, List.flatMap_append, List.length_append] at hl
      exact Nat.le_trans (Nat.le_add_right _ _) hl
    refine hb _ Hk2 H2 x s2 r2 g2.kh _ fun σ2 s3 e2 => ⟨by rw [e2, wipe_wipe], ?_⟩
    show wi1 σ2 H2 _
    refine hi1 σ2 Hk2 H2 s3 g2.kh M2.po _ fun J1 ds1 Hk3 H3 g3 o3 e3 w3 => ?_
    subst e3
    have M3 := M2.step g3 o3 (mine_ne a2)
    have a3 := M2.keep g3 a2
    let W1 : Nat → Nat → Hp → Prop := fun j m H'' => m = (ys xs[i]).length - j ∧ j ≤ (ys xs[i]).length ∧ ∃ Hk'' acc', Mine p Hk1 H1 D Hk'' H'' ∧ Kn Hk3 Hk'' ∧ H'' D = some (.lst acc') ∧ Rps Hk'' acc' (G i ++ ((ys xs[i]).take j).map (f xs[i]))
    have hlen1 : ((ys xs[i]).map enc1).length = (ys xs[i]).length := List.length_map ..
    refine ⟨W1, ⟨(ys xs[i]).length, by simp, Nat.zero_le _, Hk3, acc, M3, fun _ _ z => z, a3, by simpa using (hr.mono g2.kk).mono g3.kk⟩, ?_⟩
    rintro j m H'' ⟨rfl, hj', Hk'', acc', M4, k4, hacc', hr'⟩
    obtain ⟨w4, w5⟩ := w3 Hk'' H'' k4 M4.gr.kh
    by_cases hlt1 : j < (ys xs[i]).length
    · obtain ⟨go1, yl1⟩ := w4 j (enc1 (ys xs[i])[j]) (by simp [hlt1])
      refine .inr ⟨go1, W1 (j + 1) ((ys xs[i]).length - (j + 1)), fun H5 p' => ⟨_, by omega, p'⟩, fun y' H5 yy => ?_⟩
      obtain ⟨Hk5, g5, r5⟩ := yl1 y' H5 yy
      have M5 := M4.step g5.up (M4.po.grow g5) (mine_ne hacc')
      have a5 := M4.keep g5.up hacc'
      obtain ⟨δ2, hb1, he⟩ := hs1 (ys xs[i])[j] (List.getElem_mem hlt1)
      have s5 : Sto Hk5 (L2.wipe σ2 vs1) (wipeD δ' vs1) := (((s3.wipe vs1).mono g3.kk).mono k4).mono g5.kk
      refine hb1 _ Hk5 H5 y' s5 r5 g5.kh _ fun σ3 s6 e6 => ⟨by rw [e6, wipe_wipe], ?_⟩
      show te σ3 H5 _
      refine he σ3 Hk5 H5 s6 g5.kh M5.po _ fun v d Hk6 H6 g6 o6 hd r6 => ?_
      subst hd
      have M6 := M5.step g6 o6 (mine_ne a5)
      have a6 := M5.keep g6 a5
      have tk2 : (ys xs[i]).take (j + 1) = (ys xs[i]).take j ++ [(ys xs[i])[j]] := by rw [List.take_add_one]; simp [hlt1]
      have hr6 := (hr'.mono g5.kk).mono g6.kk
      refine ⟨acc', a6, ?_, rfl, hlt1, Hk6, acc' ++ [v], M6.put _, fun a o e => g6.kk a o (g5.kk a o (k4 a o e)), upd_same, ?_⟩
      · rw [hr6.length, List.length_append, List.length_map, List.length_take]
        rw [eG, List.length_append, List.length_map] at lG
        exact szl (by omega)
      · rw [tk2, List.map_append, ← List.append_assoc]
        exact hr6.snoc r6
    · have e : j = (ys xs[i]).length := by omega
      subst e
      refine .inl ⟨w5 _ (by rw [hlen1]; exact Nat.le_refl _), rfl, hlt, Hk'', acc', M4, hacc', ?_⟩
      rw [List.take_length] at hr'
      rw [eG]
      exact hr'
  · have e : i = xs.length := by omega
    subst e
    refine .inl ⟨w2 _ (by rw [hlen]; exact Nat.le_refl _), ?_⟩
    obtain ⟨g3, o3, k3⟩ := M.told hacc
    have hr' : Rps Hk' acc (xs.flatMap fun x => (ys x).map (f x)) := by
      have := hr
      simp only [G, List.take_length] at this
      exact this
    exact q (.ref D) _ _ H' (gr1.trans g3) o3 rfl (.lst upd_same (hr'.mono k3))
/-- a call whose answer is not wholly known, among arguments -/
theorem eap_one {P : Dt → Prop} (h : EvP p te δ P) : EvA p (tCons te tNil) δ (fun xs => ∃ d, P d ∧ xs = [d]) := eap_cons h (fun _ _ => ea_nil) fun a as pa e => ⟨a, pa, by rw [e]⟩
theorem eip_keys {td : TE} {P : List (Key × Dt) → Prop} (h : EvP p td δ fun d => ∃ ks, P ks ∧ d = .fk ks) : EvI p (iKeys td) δ (fun ds => ∃ ks, P ks ∧ ds = ks.map fun x => kDt x.1) := fun σ Hk H s k o R q =>
  h σ Hk H s k o _ fun v d H1k H1 gg1 o1 ⟨ks, hp, e⟩ r => by
    subst e
    obtain ⟨a, ob, kvs, e, h1, h2⟩ := r.fk_inv
    refine ⟨a, ob, e, .inl ⟨kvs, gg1.kh _ _ h1, q _ _ H1k H1 gg1 o1 ⟨ks, hp, rfl⟩ fun Hk2 H2 k1 k2 => ?_⟩⟩
    have h3 : H2 a = some (.frz ob (.dK kvs)) := k2 _ _ (k1 _ _ h1)
    have hl := h2.length
    refine ⟨fun i d e => ?_, fun i hi => ⟨h3, by simp at hi; omega⟩⟩
    rw [List.getElem?_map] at e
    obtain ⟨x, e1, e2⟩ := Option.map_eq_some_iff.mp e
    subst e2
    have hi : i < kvs.length := by have := (List.getElem?_eq_some_iff.mp e1).1; omega
    refine ⟨⟨h3, hi⟩, fun y H' ⟨e3, ky, vv, e4, e5⟩ => ?_⟩
    subst e3 e5
    refine ⟨Hk2, .refl k2, ?_⟩
    have hk : (kvs.map (·.1))[i]? = (ks.map (·.1))[i]? := by rw [h2.keys]
    rw [List.getElem?_map, List.getElem?_map, e4, e1] at hk
    have : ky = x.1 := Option.some.inj hk
    rw [this]
    cases x.1 with
    | inl i => exact .int i
    | inr z => exact .str z
end
end Ab
end

section
set_option Elab.async false
set_option linter.all false
set_option maxRecDepth 100000
set_option maxHeartbeats 4000000
namespace Rt
open PySem PySem.Spec PyProof.Rows L2
/-- the parts of a book, by name -/
def partsL : List Str := ["skills", "points", "needs", "wants", "bars", "gives", "prices", "reset"]
/-! ### the text by places -/
def top (i : Nat) : Stmt := PySem.Challenge.pw_refundtrees_k67_whole_least_wants.main.body.getD i (.Pass ⟨0, 0, 0, 0⟩)
abbrev s_is_whole : Stmt := top 9
abbrev s_is_number : Stmt := top 10
abbrev s_is_word : Stmt := top 11
abbrev s_is_row : Stmt := top 12
abbrev s_are_unlike : Stmt := top 13
abbrev s_are_tuples : Stmt := top 14
abbrev s_build_by : Stmt := top 16
abbrev s_size_of : Stmt := top 17
abbrev s_is_let : Stmt := top 18
abbrev s_points_let : Stmt := top 19
abbrev s_does_hold : Stmt := top 20
abbrev s_are_skills : Stmt := top 30
abbrev s_are_needs : Stmt := top 31
abbrev s_is_want : Stmt := top 32
abbrev s_are_bars : Stmt := top 33
abbrev s_are_numbered : Stmt := top 34
abbrev s_look_at_parts : Stmt := top 35
abbrev s_book_by : Stmt := top 37
abbrev s_neighbours_of : Stmt := top 39
abbrev s_reached_masks : Stmt := top 41
abbrev s_masks_with : Stmt := top 44
abbrev s_is_so : Stmt := top 45
abbrev s_idle_wants : Stmt := top 46
abbrev s_are_indexes : Stmt := top 47
abbrev s_is_enough : Stmt := top 48
abbrev s_sets_of : Stmt := top 49
abbrev s_least_wants : Stmt := top 50
abbrev s_skill_sets : Stmt := top 51
abbrev s_are_of_like_skills : Stmt := top 52
abbrev s_alike : Stmt := top 53
abbrev s__law_pool : Stmt := top 55
abbrev s__law_take : Stmt := top 56
abbrev s__law_one : Stmt := top 57
abbrev s__law_turned : Stmt := top 58
abbrev s__law_tree : Stmt := top 59
abbrev s__law_rows : Stmt := top 60
abbrev s__law_book : Stmt := top 61
abbrev s__law_made : Stmt := top 62
abbrev s__law_names : Stmt := top 63
abbrev s__law_tier : Stmt := top 64
abbrev s__law_need : Stmt := top 65
abbrev s__law_order : Stmt := top 66
abbrev s__law_is_row_met : Stmt := top 67
abbrev s__law_below : Stmt := top 68
abbrev s__law_is_met : Stmt := top 69
abbrev s__law_size_let : Stmt := top 70
abbrev s__law_holds : Stmt := top 71
abbrev s__law_subsets : Stmt := top 72
abbrev s__law_behind : Stmt := top 73
abbrev s__law_steps : Stmt := top 74
abbrev s__law_web : Stmt := top 75
abbrev s__law_reached : Stmt := top 76
abbrev s__law_with_wants : Stmt := top 77
abbrev s__law_all_sets : Stmt := top 78
abbrev s__law_small_book : Stmt := top 79
abbrev s__law_wanted : Stmt := top 80
abbrev s_law : Stmt := top 81
abbrev s_b_init : Stmt := inClass (top 36) 0
abbrev s_b_asked_by : Stmt := inClass (top 36) 1
abbrev s_b_wants : Stmt := inClass (top 36) 6
abbrev s_b_names : Stmt := inClass (top 36) 10
abbrev s_b_changed : Stmt := inClass (top 36) 22
abbrev s_p_init : Stmt := inClass (top 40) 0
/-- the facts of what the top has made -/
structure Tx (K : PySem.W.Frag) (mg : Str → Option Value) : Prop where
  g_is_whole : mg "is_whole" = some (.ref (He.ga K "is_whole"))
  f_is_whole : ∃ fd, FunD K "is_whole" "is_whole" (defArgs s_is_whole) (defBody s_is_whole) (defScope s_is_whole) [] [] (He.ga K "is_whole") fd
  g_is_number : mg "is_number" = some (.ref (He.ga K "is_number"))
  f_is_number : ∃ fd, FunD K "is_number" "is_number" (defArgs s_is_number) (defBody s_is_number) (defScope s_is_number) [] [] (He.ga K "is_number") fd
  g_is_word : mg "is_word" = some (.ref (He.ga K "is_word"))
  f_is_word : ∃ fd, FunD K "is_word" "is_word" (defArgs s_is_word) (defBody s_is_word) (defScope s_is_word) [] [] (He.ga K "is_word") fd
  g_is_row : mg "is_row" = some (.ref (He.ga K "is_row"))
  f_is_row : ∃ fd, FunD K "is_row" "is_row" (defArgs s_is_row) (defBody s_is_row) (defScope s_is_row) [] [] (He.ga K "is_row") fd
  g_are_unlike : mg "are_unlike" = some (.ref (He.ga K "are_unlike"))
  f_are_unlike : ∃ fd, FunD K "are_unlike" "are_unlike" (defArgs s_are_unlike) (defBody s_are_unlike) (defScope s_are_unlike) [] [] (He.ga K "are_unlike") fd
  g_are_tuples : mg "are_tuples" = some (.ref (He.ga K "are_tuples"))
  f_are_tuples : ∃ fd, FunD K "are_tuples" "are_tuples" (defArgs s_are_tuples) (defBody s_are_tuples) (defScope s_are_tuples) [] [] (He.ga K "are_tuples") fd
  g_build_by : mg "build_by" = some (.ref (He.ga K "build_by"))
  f_build_by : ∃ fd, FunD K "build_by" "build_by" (defArgs s_build_by) (defBody s_build_by) (defScope s_build_by) [] [] (He.ga K "build_by") fd
  g_size_of : mg "size_of" = some (.ref (He.ga K "size_of"))
  f_size_of : ∃ fd, FunD K "size_of" "size_of" (defArgs s_size_of) (defBody s_size_of) (defScope s_size_of) [] [] (He.ga K "size_of") fd
  g_is_let : mg "is_let" = some (.ref (He.ga K "is_let"))
  f_is_let : ∃ fd, FunD K "is_let" "is_let" (defArgs s_is_let) (defBody s_is_let) (defScope s_is_let) [] [] (He.ga K "is_let") fd
  g_points_let : mg "points_let" = some (.ref (He.ga K "points_let"))
  f_points_let : ∃ fd, FunD K "points_let" "points_let" (defArgs s_points_let) (defBody s_points_let) (defScope s_points_let) [] [] (He.ga K "points_let") fd
  g_does_hold : mg "does_hold" = some (.ref (He.ga K "does_hold"))
  f_does_hold : ∃ fd, FunD K "does_hold" "does_hold" (defArgs s_does_hold) (defBody s_does_hold) (defScope s_does_hold) [] [] (He.ga K "does_hold") fd
  g_are_skills : mg "are_skills" = some (.ref (He.ga K "are_skills"))
  f_are_skills : ∃ fd, FunD K "are_skills" "are_skills" (defArgs s_are_skills) (defBody s_are_skills) (defScope s_are_skills) [] [] (He.ga K "are_skills") fd
  g_are_needs : mg "are_needs" = some (.ref (He.ga K "are_needs"))
  f_are_needs : ∃ fd, FunD K "are_needs" "are_needs" (defArgs s_are_needs) (defBody s_are_needs) (defScope s_are_needs) [] [] (He.ga K "are_needs") fd
  g_is_want : mg "is_want" = some (.ref (He.ga K "is_want"))
  f_is_want : ∃ fd, FunD K "is_want" "is_want" (defArgs s_is_want) (defBody s_is_want) (defScope s_is_want) [] [] (He.ga K "is_want") fd
  g_are_bars : mg "are_bars" = some (.ref (He.ga K "are_bars"))
  f_are_bars : ∃ fd, FunD K "are_bars" "are_bars" (defArgs s_are_bars) (defBody s_are_bars) (defScope s_are_bars) [] [] (He.ga K "are_bars") fd
  g_are_numbered : mg "are_numbered" = some (.ref (He.ga K "are_numbered"))
  f_are_numbered : ∃ fd, FunD K "are_numbered" "are_numbered" (defArgs s_are_numbered) (defBody s_are_numbered) (defScope s_are_numbered) [] [] (He.ga K "are_numbered") fd
  g_look_at_parts : mg "look_at_parts" = some (.ref (He.ga K "look_at_parts"))
  f_look_at_parts : ∃ fd, FunD K "look_at_parts" "look_at_parts" (defArgs s_look_at_parts) (defBody s_look_at_parts) (defScope s_look_at_parts) [] [] (He.ga K "look_at_parts") fd
  g_book_by : mg "book_by" = some (.ref (He.ga K "book_by"))
  f_book_by : ∃ fd, FunD K "book_by" "book_by" (defArgs s_book_by) (defBody s_book_by) (defScope s_book_by) [] [] (He.ga K "book_by") fd
  g_neighbours_of : mg "neighbours_of" = some (.ref (He.ga K "neighbours_of"))
  f_neighbours_of : ∃ fd, FunD K "neighbours_of" "neighbours_of" (defArgs s_neighbours_of) (defBody s_neighbours_of) (defScope s_neighbours_of) [] [] (He.ga K "neighbours_of") fd
  g_reached_masks : mg "reached_masks" = some (.ref (He.ga K "reached_masks"))
  f_reached_masks : ∃ fd, FunD K "reached_masks" "reached_masks" (defArgs s_reached_masks) (defBody s_reached_masks) (defScope s_reached_masks) [] [] (He.ga K "reached_masks") fd
  g_masks_with : mg "masks_with" = some (.ref (He.ga K "masks_with"))
  f_masks_with : ∃ fd, FunD K "masks_with" "masks_with" (defArgs s_masks_with) (defBody s_masks_with) (defScope s_masks_with) [] [] (He.ga K "masks_with") fd
  g_is_so : mg "is_so" = some (.ref (He.ga K "is_so"))
  f_is_so : ∃ fd, FunD K "is_so" "is_so" (defArgs s_is_so) (defBody s_is_so) (defScope s_is_so) [] [] (He.ga K "is_so") fd
  g_idle_wants : mg "idle_wants" = some (.ref (He.ga K "idle_wants"))
  f_idle_wants : ∃ fd, FunD K "idle_wants" "idle_wants" (defArgs s_idle_wants) (defBody s_idle_wants) (defScope s_idle_wants) [] [] (He.ga K "idle_wants") fd
  g_are_indexes : mg "are_indexes" = some (.ref (He.ga K "are_indexes"))
  f_are_indexes : ∃ fd, FunD K "are_indexes" "are_indexes" (defArgs s_are_indexes) (defBody s_are_indexes) (defScope s_are_indexes) [] [] (He.ga K "are_indexes") fd
  g_is_enough : mg "is_enough" = some (.ref (He.ga K "is_enough"))
  f_is_enough : ∃ fd, FunD K "is_enough" "is_enough" (defArgs s_is_enough) (defBody s_is_enough) (defScope s_is_enough) [] [] (He.ga K "is_enough") fd
  g_sets_of : mg "sets_of" = some (.ref (He.ga K "sets_of"))
  f_sets_of : ∃ fd, FunD K "sets_of" "sets_of" (defArgs s_sets_of) (defBody s_sets_of) (defScope s_sets_of) [] [] (He.ga K "sets_of") fd
  g_least_wants : mg "least_wants" = some (.ref (He.ga K "least_wants"))
  f_least_wants : ∃ fd, FunD K "least_wants" "least_wants" (defArgs s_least_wants) (defBody s_least_wants) (defScope s_least_wants) [] [] (He.ga K "least_wants") fd
  g_skill_sets : mg "skill_sets" = some (.ref (He.ga K "skill_sets"))
  f_skill_sets : ∃ fd, FunD K "skill_sets" "skill_sets" (defArgs s_skill_sets) (defBody s_skill_sets) (defScope s_skill_sets) [] [] (He.ga K "skill_sets") fd
  g_are_of_like_skills : mg "are_of_like_skills" = some (.ref (He.ga K "are_of_like_skills"))
  f_are_of_like_skills : ∃ fd, FunD K "are_of_like_skills" "are_of_like_skills" (defArgs s_are_of_like_skills) (defBody s_are_of_like_skills) (defScope s_are_of_like_skills) [] [] (He.ga K "are_of_like_skills") fd
  g_alike : mg "alike" = some (.ref (He.ga K "alike"))
  f_alike : ∃ fd, FunD K "alike" "alike" (defArgs s_alike) (defBody s_alike) (defScope s_alike) [] [] (He.ga K "alike") fd
  g__law_pool : mg "_law_pool" = some (.ref (He.ga K "_law_pool"))
  f__law_pool : ∃ fd, FunD K "_law_pool" "_law_pool" (defArgs s__law_pool) (defBody s__law_pool) (defScope s__law_pool) [] [] (He.ga K "_law_pool") fd
  g__law_take : mg "_law_take" = some (.ref (He.ga K "_law_take"))
  f__law_take : ∃ fd, FunD K "_law_take" "_law_take" (defArgs s__law_take) (defBody s__law_take) (defScope s__law_take) [] [] (He.ga K "_law_take") fd
  g__law_one : mg "_law_one" = some (.ref (He.ga K "_law_one"))
  f__law_one : ∃ fd, FunD K "_law_one" "_law_one" (defArgs s__law_one) (defBody s__law_one) (defScope s__law_one) [] [] (He.ga K "_law_one") fd
  g__law_turned : mg "_law_turned" = some (.ref (He.ga K "_law_turned"))
  f__law_turned : ∃ fd, FunD K "_law_turned" "_law_turned" (defArgs s__law_turned) (defBody s__law_turned) (defScope s__law_turned) [] [] (He.ga K "_law_turned") fd
  g__law_tree : mg "_law_tree" = some (.ref (He.ga K "_law_tree"))
  f__law_tree : ∃ fd, FunD K "_law_tree" "_law_tree" (defArgs s__law_tree) (defBody s__law_tree) (defScope s__law_tree) [] [] (He.ga K "_law_tree") fd
  g__law_rows : mg "_law_rows" = some (.ref (He.ga K "_law_rows"))
  f__law_rows : ∃ fd, FunD K "_law_rows" "_law_rows" (defArgs s__law_rows) (defBody s__law_rows) (defScope s__law_rows) [] [] (He.ga K "_law_rows") fd
  g__law_book : mg "_law_book" = some (.ref (He.ga K "_law_book"))
  f__law_book : ∃ fd, FunD K "_law_book" "_law_book" (defArgs s__law_book) (defBody s__law_book) (defScope s__law_book) [] [] (He.ga K "_law_book") fd
  g__law_made : mg "_law_made" = some (.ref (He.ga K "_law_made"))
  f__law_made : ∃ fd, FunD K "_law_made" "_law_made" (defArgs s__law_made) (defBody s__law_made) (defScope s__law_made) [] [] (He.ga K "_law_made") fd
  g__law_names : mg "_law_names" = some (.ref (He.ga K "_law_names"))
  f__law_names : ∃ fd, FunD K "_law_names" "_law_names" (defArgs s__law_names) (defBody s__law_names) (defScope s__law_names) [] [] (He.ga K "_law_names") fd
  g__law_tier : mg "_law_tier" = some (.ref (He.ga K "_law_tier"))
  f__law_tier : ∃ fd, FunD K "_law_tier" "_law_tier" (defArgs s__law_tier) (defBody s__law_tier) (defScope s__law_tier) [] [] (He.ga K "_law_tier") fd
  g__law_need : mg "_law_need" = some (.ref (He.ga K "_law_need"))
  f__law_need : ∃ fd, FunD K "_law_need" "_law_need" (defArgs s__law_need) (defBody s__law_need) (defScope s__law_need) [] [] (He.ga K "_law_need") fd
  g__law_order : mg "_law_order" = some (.ref (He.ga K "_law_order"))
  f__law_order : ∃ fd, FunD K "_law_order" "_law_order" (defArgs s__law_order) (defBody s__law_order) (defScope s__law_order) [] [] (He.ga K "_law_order") fd
  g__law_is_row_met : mg "_law_is_row_met" = some (.ref (He.ga K "_law_is_row_met"))
  f__law_is_row_met : ∃ fd, FunD K "_law_is_row_met" "_law_is_row_met" (defArgs s__law_is_row_met) (defBody s__law_is_row_met) (defScope s__law_is_row_met) [] [] (He.ga K "_law_is_row_met") fd
  g__law_below : mg "_law_below" = some (.ref (He.ga K "_law_below"))
  f__law_below : ∃ fd, FunD K "_law_below" "_law_below" (defArgs s__law_below) (defBody s__law_below) (defScope s__law_below) [] [] (He.ga K "_law_below") fd
  g__law_is_met : mg "_law_is_met" = some (.ref (He.ga K "_law_is_met"))
  f__law_is_met : ∃ fd, FunD K "_law_is_met" "_law_is_met" (defArgs s__law_is_met) (defBody s__law_is_met) (defScope s__law_is_met) [] [] (He.ga K "_law_is_met") fd
  g__law_size_let : mg "_law_size_let" = some (.ref (He.ga K "_law_size_let"))
  f__law_size_let : ∃ fd, FunD K "_law_size_let" "_law_size_let" (defArgs s__law_size_let) (defBody s__law_size_let) (defScope s__law_size_let) [] [] (He.ga K "_law_size_let") fd
  g__law_holds : mg "_law_holds" = some (.ref (He.ga K "_law_holds"))
  f__law_holds : ∃ fd, FunD K "_law_holds" "_law_holds" (defArgs s__law_holds) (defBody s__law_holds) (defScope s__law_holds) [] [] (He.ga K "_law_holds") fd
  g__law_subsets : mg "_law_subsets" = some (.ref (He.ga K "_law_subsets"))
  f__law_subsets : ∃ fd, FunD K "_law_subsets" "_law_subsets" (defArgs s__law_subsets) (defBody s__law_subsets) (defScope s__law_subsets) [] [] (He.ga K "_law_subsets") fd
  g__law_behind : mg "_law_behind" = some (.ref (He.ga K "_law_behind"))
  f__law_behind : ∃ fd, FunD K "_law_behind" "_law_behind" (defArgs s__law_behind) (defBody s__law_behind) (defScope s__law_behind) [] [] (He.ga K "_law_behind") fd
  g__law_steps : mg "_law_steps" = some (.ref (He.ga K "_law_steps"))
  f__law_steps : ∃ fd, FunD K "_law_steps" "_law_steps" (defArgs s__law_steps) (defBody s__law_steps) (defScope s__law_steps) [] [] (He.ga K "_law_steps") fd
  g__law_web : mg "_law_web" = some (.ref (He.ga K "_law_web"))
  f__law_web : ∃ fd, FunD K "_law_web" "_law_web" (defArgs s__law_web) (defBody s__law_web) (defScope s__law_web) [] [] (He.ga K "_law_web") fd
  g__law_reached : mg "_law_reached" = some (.ref (He.ga K "_law_reached"))
  f__law_reached : ∃ fd, FunD K "_law_reached" "_law_reached" (defArgs s__law_reached) (defBody s__law_reached) (defScope s__law_reached) [] [] (He.ga K "_law_reached") fd
  g__law_with_wants : mg "_law_with_wants" = some (.ref (He.ga K "_law_with_wants"))
  f__law_with_wants : ∃ fd, FunD K "_law_with_wants" "_law_with_wants" (defArgs s__law_with_wants) (defBody s__law_with_wants) (defScope s__law_with_wants) [] [] (He.ga K "_law_with_wants") fd
  g__law_all_sets : mg "_law_all_sets" = some (.ref (He.ga K "_law_all_sets"))
  f__law_all_sets : ∃ fd, FunD K "_law_all_sets" "_law_all_sets" (defArgs s__law_all_sets) (defBody s__law_all_sets) (defScope s__law_all_sets) [] [] (He.ga K "_law_all_sets") fd
  g__law_small_book : mg "_law_small_book" = some (.ref (He.ga K "_law_small_book"))
  f__law_small_book : ∃ fd, FunD K "_law_small_book" "_law_small_book" (defArgs s__law_small_book) (defBody s__law_small_book) (defScope s__law_small_book) [] [] (He.ga K "_law_small_book") fd
  g__law_wanted : mg "_law_wanted" = some (.ref (He.ga K "_law_wanted"))
  f__law_wanted : ∃ fd, FunD K "_law_wanted" "_law_wanted" (defArgs s__law_wanted) (defBody s__law_wanted) (defScope s__law_wanted) [] [] (He.ga K "_law_wanted") fd
  g_law : mg "law" = some (.ref (He.ga K "law"))
  f_law : ∃ fd, FunD K "law" "law" (defArgs s_law) (defBody s_law) (defScope s_law) [] [] (He.ga K "law") fd
  f_b_init : ∃ fd, FunD K "__init__" "Book.__init__" (defArgs s_b_init) (defBody s_b_init) (defScope s_b_init) [] [("reset", V.non)] (He.ma K (He.ga K "Book") "__init__") fd
  f_b_asked_by : ∃ fd, FunD K "asked_by" "Book.asked_by" (defArgs s_b_asked_by) (defBody s_b_asked_by) (defScope s_b_asked_by) [] [] (He.ma K (He.ga K "Book") "asked_by") fd
  m_b_asked_by : Meth K (He.ga K "Book") "asked_by" (He.ma K (He.ga K "Book") "asked_by")
  f_b_wants : ∃ fd, FunD K "wants" "Book.wants" (defArgs s_b_wants) (defBody s_b_wants) (defScope s_b_wants) [] [] (He.ma K (He.ga K "Book") "wants") fd
  m_b_wants : Meth K (He.ga K "Book") "wants" (He.ma K (He.ga K "Book") "wants")
  f_b_names : ∃ fd, FunD K "names" "Book.names" (defArgs s_b_names) (defBody s_b_names) (defScope s_b_names) [] [] (He.ma K (He.ga K "Book") "names") fd
  m_b_names : Meth K (He.ga K "Book") "names" (He.ma K (He.ga K "Book") "names")
  f_b_changed : ∃ fd, FunD K "changed" "Book.changed" (defArgs s_b_changed) (defBody s_b_changed) (defScope s_b_changed) [] [] (He.ma K (He.ga K "Book") "changed") fd
  m_b_changed : Meth K (He.ga K "Book") "changed" (He.ma K (He.ga K "Book") "changed")
  f_p_init : ∃ fd, FunD K "__init__" "Part.__init__" (defArgs s_p_init) (defBody s_p_init) (defScope s_p_init) [] [] (He.ma K (He.ga K "Part") "__init__") fd
  g_Book : mg "Book" = some (.ref (He.ga K "Book"))
  c_Book : Cls K (He.ga K "Book")
  mk_Book : Mk K (He.ga K "Book") (He.ma K (He.ga K "Book") "__init__")
  g_Part : mg "Part" = some (.ref (He.ga K "Part"))
  c_Part : Cls K (He.ga K "Part")
  mk_Part : Mk K (He.ga K "Part") (He.ma K (He.ga K "Part") "__init__")
  a_record : NoAttr K (He.ga K "Book") "record"
  a_own_points : NoAttr K (He.ga K "Book") "own_points"
  a_own_reset : NoAttr K (He.ga K "Book") "own_reset"
  a_own_names : NoAttr K (He.ga K "Book") "own_names"
  a_own_tiers : NoAttr K (He.ga K "Book") "own_tiers"
  a_tier_by : NoAttr K (He.ga K "Book") "tier_by"
  a_spots : NoAttr K (He.ga K "Book") "spots"
  a_bits : NoAttr K (He.ga K "Book") "bits"
  a_own_needs : NoAttr K (He.ga K "Book") "own_needs"
  a_own_prices : NoAttr K (He.ga K "Book") "own_prices"
  a_own_given : NoAttr K (He.ga K "Book") "own_given"
  a_barred : NoAttr K (He.ga K "Book") "barred"
  a_asked : NoAttr K (He.ga K "Book") "asked"
  a_book : NoAttr K (He.ga K "Part") "book"
  a_came : NoAttr K (He.ga K "Part") "came"
  n_len : mg "len" = none
  n_all : mg "all" = none
  n_any : mg "any" = none
  n_sum : mg "sum" = none
  n_sorted : mg "sorted" = none
  n_range : mg "range" = none
  n_enumerate : mg "enumerate" = none
  n_zip : mg "zip" = none
  n_isinstance : mg "isinstance" = none
  n_int : mg "int" = none
  n_str : mg "str" = none
  n_bool : mg "bool" = none
  n_list : mg "list" = none
  n_tuple : mg "tuple" = none
  n_dict : mg "dict" = none
  n_max : mg "max" = none
  n_min : mg "min" = none
  k_MOST_LETTERS : ∃ u, mg "MOST_LETTERS" = some u ∧ RelV (.int 8) u
  k_MOST_SKILLS : ∃ u, mg "MOST_SKILLS" = some u ∧ RelV (.int 12) u
  k_MOST_TIERS : ∃ u, mg "MOST_TIERS" = some u ∧ RelV (.int 4) u
  k_MOST_POINTS : ∃ u, mg "MOST_POINTS" = some u ∧ RelV (.int 12) u
  k_MOST_WANTS_books : ∃ u, mg "MOST_WANTS_books" = some u ∧ RelV (.int 12) u
  k_MOST_BARS : ∃ u, mg "MOST_BARS" = some u ∧ RelV (.int 6) u
  k_MOST_GIVEN : ∃ u, mg "MOST_GIVEN" = some u ∧ RelV (.int 3) u
  k_MOST_PRICE : ∃ u, mg "MOST_PRICE" = some u ∧ RelV (.int 99) u
  k_MOST_WANTS_idling : ∃ u, mg "MOST_WANTS_idling" = some u ∧ RelV (.int 8) u
  k_LETTERS : ∃ u, mg "LETTERS" = some u ∧ RelV (.str "abcdefghijklmnopqrstuvwxyz") u
  k_PARTS : ∃ u, mg "PARTS" = some u ∧ RelV (.ref (He.ga K "PARTS")) u
  t_PARTS : ∀ H : Hp, SqT K H (He.ga K "PARTS") (partsL.map V.str)
end Rt
end

section
set_option Elab.async false
set_option linter.all false
set_option maxRecDepth 100000
set_option maxHeartbeats 4000000
/-! A book as plain data, and what is right of it. -/
namespace Rt
open PySem PySem.Spec PyProof.Rows L2 Ab
inductive Wk where
  | all | any | count (n : Int)
structure Wt where
  k : Wk
  sk : Str
  ns : List Str
structure Bk where
  sk : List (Str × Int)
  pts : Int
  nd : List (Int × Int)
  wt : List Wt
  br : List (Str × Str)
  gv : List (Str × Int)
  pr : List (Str × Int)
  rs : Option Int
def encW (x : Wt) : Dt := match x.k with
  | .all => .tup [.str "all", .str x.sk, tupS x.ns]
  | .any => .tup [.str "any", .str x.sk, tupS x.ns]
  | .count n => .tup [.str "count", .str x.sk, tupS x.ns, .int n]
def encSI (x : Str × Int) : Dt := .tup [.str x.1, .int x.2]
def encII (x : Int × Int) : Dt := .tup [.int x.1, .int x.2]
def encSS (x : Str × Str) : Dt := .tup [.str x.1, .str x.2]
def encO : Option Int → Dt
  | none => .non
  | some i => .int i
def letters : Str := "abcdefghijklmnopqrstuvwxyz"
def Word (s : Str) : Prop := 1 ≤ s.length ∧ s.length ≤ 8 ∧ ∀ c ∈ s.cps.toList, c ∈ letters.cps.toList
structure WtOk (ns : List Str) (x : Wt) : Prop where
  sk : x.sk ∈ ns
  ne : x.ns ≠ []
  mem : ∀ n ∈ x.ns, n ∈ ns ∧ n ≠ x.sk
  nod : x.ns.Nodup
  cnt : ∀ n, x.k = .count n → 1 ≤ n ∧ n ≤ (x.ns.length : Int)
def Bk.names (b : Bk) : List Str := b.sk.map (·.1)
structure Bk.Ok (b : Bk) : Prop where
  ne : b.sk ≠ []
  len : b.sk.length ≤ 5
  wrd : ∀ x ∈ b.sk, Word x.1 ∧ 1 ≤ x.2 ∧ x.2 ≤ 4
  nod : b.names.Nodup
  srt : (b.sk.map (·.2)).Pairwise (· ≤ ·)
  p0 : 0 ≤ b.pts
  p1 : b.pts ≤ 12
  nl : b.nd.length ≤ 3
  no : ∀ x ∈ b.nd, 2 ≤ x.1 ∧ x.1 ≤ 4 ∧ 0 ≤ x.2 ∧ x.2 ≤ 12
  nn : (b.nd.map (·.1)).Nodup
  ns : (b.nd.map (·.1)).Pairwise (· ≤ ·)
  wl : b.wt.length ≤ 4
  wo : ∀ x ∈ b.wt, WtOk b.names x
  bl : b.br.length ≤ 6
  bo : ∀ x ∈ b.br, x.1 ∈ b.names ∧ x.2 ∈ b.names ∧ x.1 ≠ x.2
  bu : b.br.Pairwise fun x y => ¬ (x = y) ∧ ¬ (x = (y.2, y.1))
  gl : b.gv.length ≤ 5
  go : ∀ x ∈ b.gv, x.1 ∈ b.names ∧ 1 ≤ x.2 ∧ x.2 ≤ 3
  gn : (b.gv.map (·.1)).Nodup
  pl : b.pr.length ≤ 5
  po : ∀ x ∈ b.pr, x.1 ∈ b.names ∧ 0 ≤ x.2 ∧ x.2 ≤ 99
  pn : (b.pr.map (·.1)).Nodup
  ro : ∀ r, b.rs = some r → 0 ≤ r ∧ r ≤ 99
theorem Bk.Ok.word {b : Bk} (o : b.Ok) {s : Str} (h : s ∈ b.names) : Word s := by
  obtain ⟨x, h1, h2⟩ := List.mem_map.mp h
  rw [← h2]
  exact (o.wrd x h1).1
theorem Bk.Ok.nlen {b : Bk} (o : b.Ok) : b.names.length ≤ 5 := by
  unfold Bk.names
  rw [List.length_map]
  exact o.len
/-! ### keys, dicts built from pairs that have no key twice -/
def kD : Key → Dt
  | .inl i => .int i
  | .inr s => .str s
theorem keyD_kD (k : Key) : keyD (kD k) = some k := by cases k <;> rfl
section
variable {κ β α : Type} [DecidableEq κ]
theorem putG_new {ks : List (κ × β)} {k : κ} {v : β} (h : k ∉ ks.map (·.1)) : putG ks k v = ks ++ [(k, v)] := by
  unfold putG
  rw [if_neg]
  intro e
  obtain ⟨x, h1, h2⟩ := List.any_eq_true.mp e
  exact h (List.mem_map.mpr ⟨x, h1, of_decide_eq_true h2⟩)
theorem foldl_putG (ky : α → κ) (f : α → β) : ∀ (xs : List α) (acc : List (κ × β)), (acc.map (·.1) ++ xs.map ky).Nodup → xs.foldl (fun acc x => putG acc (ky x) (f x)) acc = acc ++ xs.map fun x => (ky x, f x)
  | [], acc, _ => by simp
  | x :: xs, acc, h => by
    rw [List.foldl_cons, putG_new (fun hm => ?_), foldl_putG ky f xs]
    · simp
    · simpa using h
    · rw [List.map_cons] at h
      have := (List.nodup_append.mp h).2.2 (ky x) hm (ky x) List.mem_cons_self
      exact this rfl
theorem foldl_putG0 (ky : α → κ) (f : α → β) (xs : List α) (h : (xs.map ky).Nodup) : xs.foldl (fun acc x => putG acc (ky x) (f x)) [] = xs.map fun x => (ky x, f x) := by
  rw [foldl_putG ky f xs [] (by simpa using h)]
  rfl
theorem lkG_mem {ks : List (κ × β)} {k : κ} {v : β} (hn : (ks.map (·.1)).Nodup) (h : (k, v) ∈ ks) : lkG ks k = some v := by
  induction ks with
  | nil => cases h
  | cons q ks ih =>
    rw [lkG_cons]
    rw [List.map_cons, List.nodup_cons] at hn
    rcases List.mem_cons.mp h with e | e
    · rw [← e, if_pos rfl]
    · rw [if_neg (fun z => hn.1 (by rw [z]; exact List.mem_map.mpr ⟨_, e, rfl⟩))]
      exact ih hn.2 e
theorem lkG_none {ks : List (κ × β)} {k : κ} (h : k ∉ ks.map (·.1)) : lkG ks k = none := by
  induction ks with
  | nil => rfl
  | cons q ks ih =>
    rw [List.map_cons, List.mem_cons, not_or] at h
    rw [lkG_cons, if_neg (fun z => h.1 z.symm)]
    exact ih h.2
end
/-! ### comprehensions of truths and numbers -/
section
variable {p : Option Addr} {K : PySem.W.Frag} {α : Type}
theorem rc_allM {xs : List α} {f : α → Bool} : RcD p (rAll K) [.lst (xs.map fun x => .bl (f x))] (.bl (xs.all f)) := by
  have h := rc_all (p := p) (K := K) (bs := xs.map f)
  rw [List.map_map] at h
  have e : (xs.map f).all id = xs.all f := by rw [List.all_map]; rfl
  rw [e] at h
  exact h
theorem rc_allT {xs : List α} : RcD p (rAll K) [.lst (xs.map fun _ => .bl true)] (.bl true) := by
  have h := rc_allM (p := p) (K := K) (xs := xs) (f := fun _ => true)
  have e : (xs.all fun _ => true) = true := List.all_eq_true.mpr fun _ _ => rfl
  rw [e] at h
  exact h
theorem rc_anyM {xs : List α} {f : α → Bool} : RcD p (rAny K) [.lst (xs.map fun x => .bl (f x))] (.bl (xs.any f)) := by
  have h := rc_any (p := p) (K := K) (bs := xs.map f)
  rw [List.map_map] at h
  have e : (xs.map f).any id = xs.any f := by rw [List.any_map]; rfl
  rw [e] at h
  exact h
theorem rc_sumM {xs : List α} {f : α → Int} : RcD p (rSum K) [.lst (xs.map fun x => .int (f x))] (.int (xs.map f).sum) := by
  have h := rc_sum (p := p) (K := K) (ns := xs.map f)
  unfold lstI at h
  rw [List.map_map] at h
  exact h
end
/-- a test that fails, and what is behind it -/
theorem run_skip {F : Addr → Prop} {p : Option Addr} {M : Led} {δ : Dst} {tt : TT} {t u : TS} {N : Dst → Led → Prop} {R : Dt → Led → Prop} (h : EvTD p tt δ false) (k : Run F p u δ M N R) : Run F p (tSeq (tIfS tt t tNext) u) δ M N R :=
  run_seq (run_if (tz_of h) (fun e => nomatch e) fun _ => run_next k)
theorem run_retD {F : Addr → Prop} {p : Option Addr} {M : Led} {δ : Dst} {te : TE} {d : Dt} {N : Dst → Led → Prop} (h : EvD p te δ d) : Run F p (tRet te) δ M N (fun e _ => e = d) := run_ret (ez_of h) fun _ e => e
theorem run_setD {F : Addr → Prop} {p : Option Addr} {M : Led} {δ : Dst} {te : TE} {d : Dt} {i : Nat} {u : TS} {N : Dst → Led → Prop} {R : Dt → Led → Prop} (h : EvD p te δ d) (k : Run F p u (δ.set i (some d)) M N R) : Run F p (tSeq (tAsg te (gName i)) u) δ M N R :=
  run_seq (run_set (ez_of h) fun e q => by rw [q]; exact k)
end Rt
end

section
set_option Elab.async false
set_option linter.all false
set_option maxRecDepth 100000
set_option maxHeartbeats 4000000

namespace Rt
open PySem PySem.Spec PyProof.Rows L2 Ab C8
local macro_rules | `(tactic| walk_at "rv") => `(tactic| first
  | exact rv_I0i | exact rv_I0b | exact rv_eqI | exact rv_eqS | exact rv_neI | exact rv_neS | exact rv_eqB | exact rv_inS (t := .t) | exact rv_inS (t := .l) | exact rv_inI (t := .t) | exact rv_inI (t := .l) | exact rv_ninS (t := .t) | exact rv_ninS (t := .l) | exact rv_ninI (t := .t) | exact rv_ninI (t := .l) | exact rv_isN rfl | exact rv_notN rfl | exact rv_eqTI | exact rv_neTI | exact rv_eqLI | exact rv_neTS | exact rv_eqLTS | exact rv_neLTI | exact rv_sign)
local macro_rules | `(tactic| walk_at "ev") => `(tactic| first
  | exact ev_var rfl | exact ev_int | exact ev_str | exact ev_bl | exact ev_non | exact ev_ty | exact ea_nil | exact et_yes
  | ((with_reducible refine ev_op ?_ ?_ ?_) <;> walk_at "ev")
  | ((with_reducible refine ea_cons ?_ ?_) <;> walk_at "ev")
  | ((with_reducible refine ev_and ?_ ?_) <;> walk_at "ev")
  | ((with_reducible refine ev_or ?_ ?_) <;> walk_at "ev")
  | (with_reducible refine ev_not ?_; walk_at "ev")
  | (with_reducible refine ev_tup ?_; walk_at "ev")
  | (with_reducible refine ev_lst ?_; walk_at "ev")
  | (with_reducible refine et_not ?_; walk_at "ev")
  | ((with_reducible refine et_and ?_ ?_) <;> walk_at "ev")
  | ((with_reducible refine et_or ?_ ?_) <;> walk_at "ev")
  | (with_reducible refine et_test ?_; walk_at "ev")
  | (with_reducible refine et_B ?_; walk_at "ev")
  | (with_reducible refine fun (_ : _ = _) => ?_; walk_at "ev")
  | walk_at "rv"
  | skip)

section
variable {P : Program} {w : World} {K : PySem.W.Frag} {mg : Str → Option Value} {base : Heap}

def n_is_whole : List Str := ["value"]
def p_is_whole : List Str := ["value"]
theorem sc_is_whole : FnScope n_is_whole p_is_whole (defScope s_is_whole) := ⟨rfl, rfl, rfl, by decide +kernel, rfl, by decide +kernel, by decide +kernel⟩
def R_is_whole : List Dt → Dt → Prop := fun ds d => ∃ i : Int, ds = [.int i] ∧ d = .bl true
theorem c_is_whole (T : Tx K mg) : C8.Cal P w K mg base 1 "is_whole" (SpD (R_is_whole)) [] := by
  obtain ⟨fd, F⟩ := T.f_is_whole
  refine cal F T.g_is_whole sc_is_whole (fun _ _ _ _ _ _ us hl => match us, hl with | [_], _ => rfl) (spD_len (n := 1) (by first | (rintro _ _ ⟨_, rfl, _⟩; rfl))) fun cdv A outer s H E hr => ⟨_, (pss_one (ps_ret (pe_and (pe_callB (Kr.isi (K := K) rfl) (by rfl) T.n_isinstance (by decide +kernel) (pa_cons (pv 0) (pa_cons (pe_bltn (v := V.ty "int") (by rfl) T.n_int (by decide +kernel) rfl) pa_nil))) (pe_one (pe_not (pe_callB (Kr.isi (K := K) rfl) (by rfl) T.n_isinstance (by decide +kernel) (pa_cons (pv 0) (pa_cons (pe_bltn (v := V.ty "bool") (by rfl) T.n_bool (by decide +kernel) rfl) pa_nil)))))))), ?_⟩
  intro vs Q h
  refine spD_of (N := n_is_whole) (fun ds d hR => ?_) h
  obtain ⟨i, rfl, rfl⟩ := hR
  refine run_retD ((ev_and (a := true) (b := true) (ev_cb (xs := [.int i, .ty "int"]) ?_ (rc_isi (T := "int") rfl (by decide +kernel))) (fun _ => ev_not (a := false) (ev_cb (xs := [.int i, .ty "bool"]) ?_ (rc_isi (T := "int") rfl (by decide +kernel))))).eq rfl)
  all_goals walk_at "ev"
def n_is_number : List Str := ["value", "low", "high"]
def p_is_number : List Str := ["value", "low", "high"]
theorem sc_is_number : FnScope n_is_number p_is_number (defScope s_is_number) := ⟨rfl, rfl, rfl, by decide +kernel, rfl, by decide +kernel, by decide +kernel⟩
def R_is_number : List Dt → Dt → Prop := fun ds d => ∃ i lo hi : Int, ds = [.int i, .int lo, .int hi] ∧ d = .bl (decide (lo ≤ i) && decide (i ≤ hi))
theorem c_is_number (T : Tx K mg) : C8.Cal P w K mg base 2 "is_number" (SpD (R_is_number)) [] := by
  obtain ⟨fd, F⟩ := T.f_is_number
  have c_is_whole := c_is_whole (P := P) (w := w) (base := base) T
  refine cal F T.g_is_number sc_is_number (fun _ _ _ _ _ _ us hl => match us, hl with | [_, _, _], _ => rfl) (spD_len (n := 3) (by rintro _ _ ⟨_, _, _, rfl, _⟩; rfl)) fun cdv A outer s H E hr => ⟨_, (pss_one (ps_ret (pe_and (pe_c c_is_whole hr (by decide) (by rfl) (pa_cons (pv 0) pa_nil)) (pe_one (pe_chain op_le op_le (pv 1) (pv 0) (pv 2)))))), ?_⟩
  intro vs Q h
  refine spD_of (N := n_is_number) (fun ds d hR => ?_) h
  obtain ⟨i, lo, hi, rfl, rfl⟩ := hR
  refine run_retD ((ev_and (a := true) (ev_call (ds := [.int i]) ?_ ⟨i, rfl, rfl⟩) (fun _ => ev_chain (x := .int lo) (y := .int i) (z := .int hi) ?_ ?_ rv_I0b (fun _ => ?_) (fun _ => rv_I0b))).eq ?_)
  all_goals walk_at "ev"
  rfl
def n_is_word : List Str := ["value", "sign"]
def p_is_word : List Str := ["value"]
theorem sc_is_word : FnScope n_is_word p_is_word (defScope s_is_word) := ⟨rfl, rfl, rfl, by decide +kernel, rfl, by decide +kernel, by decide +kernel⟩
def R_is_word : List Dt → Dt → Prop := fun ds d => ∃ s : Str, ds = [.str s] ∧ Word s ∧ d = .bl true
theorem c_is_word (T : Tx K mg) : C8.Cal P w K mg base 1 "is_word" (SpD (R_is_word)) [] := by
  obtain ⟨fd, F⟩ := T.f_is_word
  refine cal F T.g_is_word sc_is_word (fun _ _ _ _ _ _ us hl => match us, hl with | [_], _ => rfl) (spD_len (n := 1) (by first | (rintro _ _ ⟨_, rfl, _⟩; rfl))) fun cdv A outer s H E hr => ⟨_, (pss_cons (ps_if (PW.pt (pw_or (pt_not (pt_val (pe_callB (Kr.isi (K := K) rfl) (by rfl) T.n_isinstance (by decide +kernel) (pa_cons (pv 0) (pa_cons (pe_bltn (v := V.ty "str") (by rfl) T.n_str (by decide +kernel) rfl) pa_nil))))) (pw_or1 (pt_not (pt_chain op_le op_le pe_int (pe_callB call_len_str (by rfl) T.n_len (by decide +kernel) (pa_cons (pv 0) pa_nil)) (pe_gc (by rfl) T.k_MOST_LETTERS)))))) (pss_one (ps_ret pe_bl)) pss_nil) (pss_one (ps_ret (pe_callB (Kr.all (K := K) rfl) (by rfl) T.n_all (by decide +kernel) (pa_cons (pe_lc (own := [("sign", 1)]) rfl sc_is_word.nd (pi_str (pv 0)) (blkOk_by (own := [("sign", 1)]) (N := n_is_word) (sc := defScope s_is_word) (by decide +kernel)) (fun _ _ _ _ _ => (pg_name (i := 1) sc_is_word.nd rfl (by first | exact Or.inl rfl | exact Or.inr rfl))) (fun _ _ _ _ _ => pts_nil) (fun _ _ _ _ _ => (pe_cmpR op_in_sign (pv 1) (pe_gc (by rfl) T.k_LETTERS) (by rfl)))) pa_nil))))), ?_⟩
  intro vs Q h
  refine spD_of (N := n_is_word) (fun ds d hR => ?_) h
  obtain ⟨s, rfl, ⟨h1, h2, h3⟩, rfl⟩ := hR
  have e1 : decide ((1 : Int) ≤ ((s.length : Nat) : Int)) = true := decide_eq_true (by omega)
  have e2 : decide (((s.length : Nat) : Int) ≤ 8) = true := decide_eq_true (by omega)
  refine run_skip ((et_or (a := false) (b := false) ((et_not (a := true) (et_B (ev_cb (xs := [.str s, .ty "str"]) ?_ (rc_isi (T := "str") (b := true) rfl (by decide +kernel)))))) (fun _ => (et_not (a := true) ((et_test (ev_chain (a := true) (b := true) (x := .int 1) (y := .int ((s.length : Nat) : Int)) (z := .int 8) ?_ (ev_cb (xs := [.str s]) ?_ (rc_lenS (by omega))) ?_ (fun _ => ?_) (fun _ => ?_))).eq rfl))))) ?_
  · walk_at "ev"
  · walk_at "ev"
  · walk_at "ev"
  · have h := rv_I0b (p := none) (g := fun i j => decide (i ≤ j)) (i := 1) (j := ((s.length : Nat) : Int))
    rw [e1] at h
    exact h
  · walk_at "ev"
  · have h := rv_I0b (p := none) (g := fun i j => decide (i ≤ j)) (i := ((s.length : Nat) : Int)) (j := 8)
    rw [e2] at h
    exact h
  refine run_retD (ev_cb (xs := [.lst (s.cps.toList.map fun _ => .bl true)]) (ea_cons (ev_lc0 s.cps.toList (fun c => .str ⟨#[c]⟩) (fun _ => .bl true) (ei_str (ev_var rfl)) (fun c hc => ⟨_, bind_name, ?_⟩) ?_) ea_nil) rc_allT)
  · refine (ev_op (x := .str ⟨#[c]⟩) (y := .str letters) (ev_var rfl) ev_str rv_sign).eq ?_
    rw [decide_eq_true (h3 c hc)]
  · have : s.cps.toList.length = s.length := by rfl
    omega
def n_is_row : List Str := ["value"]
def p_is_row : List Str := ["value"]
theorem sc_is_row : FnScope n_is_row p_is_row (defScope s_is_row) := ⟨rfl, rfl, rfl, by decide +kernel, rfl, by decide +kernel, by decide +kernel⟩
def R_is_row : List Dt → Dt → Prop := fun ds d => ∃ t xs, ds = [seqD t xs] ∧ d = .bl true
theorem c_is_row (T : Tx K mg) : C8.Cal P w K mg base 1 "is_row" (SpD (R_is_row)) [] := by
  obtain ⟨fd, F⟩ := T.f_is_row
  refine cal F T.g_is_row sc_is_row (fun _ _ _ _ _ _ us hl => match us, hl with | [_], _ => rfl) (spD_len (n := 1) (by rintro _ _ ⟨_, _, rfl, _⟩; rfl)) fun cdv A outer s H E hr => ⟨_, (pss_one (ps_ret (pe_callB (Kr.isiT (K := K) rfl) (by rfl) T.n_isinstance (by decide +kernel) (pa_cons (pv 0) (pa_cons (pe_tup (pa_cons (pe_bltn (v := V.ty "list") (by rfl) T.n_list (by decide +kernel) rfl) (pa_cons (pe_bltn (v := V.ty "tuple") (by rfl) T.n_tuple (by decide +kernel) rfl) pa_nil))) pa_nil))))), ?_⟩
  intro vs Q h
  refine spD_of (N := n_is_row) (fun ds d hR => ?_) h
  obtain ⟨t, xs, rfl, rfl⟩ := hR
  refine run_retD (ev_cb (xs := [seqD t xs, .tup [.ty "list", .ty "tuple"]]) ?_ ?_)
  · walk_at "ev"
  · cases t
    · exact rc_isiT2 (T := "list") (b := true) (c := false) rfl (by decide +kernel) (by decide +kernel)
    · exact rc_isiT2 (T := "tuple") (b := false) (c := true) rfl (by decide +kernel) (by decide +kernel)
    · exact rc_isiT2 (T := "tuple") (b := false) (c := true) rfl (by decide +kernel) (by decide +kernel)
def n_are_unlike : List Str := ["some", "one"]
def p_are_unlike : List Str := ["some"]
theorem sc_are_unlike : FnScope n_are_unlike p_are_unlike (defScope s_are_unlike) := ⟨rfl, rfl, rfl, by decide +kernel, rfl, by decide +kernel, by decide +kernel⟩
def R_are_unlike : List Dt → Dt → Prop := fun ds d => ∃ t, ∃ ks : List Key, ds = [seqD t (ks.map kD)] ∧ ks.Nodup ∧ ks.length ≤ 1000 ∧ d = .bl true
theorem c_are_unlike (T : Tx K mg) : C8.Cal P w K mg base 1 "are_unlike" (SpD (R_are_unlike)) [] := by
  obtain ⟨fd, F⟩ := T.f_are_unlike
  refine cal F T.g_are_unlike sc_are_unlike (fun _ _ _ _ _ _ us hl => match us, hl with | [_], _ => rfl) (spD_len (n := 1) (by rintro _ _ ⟨_, _, rfl, _⟩; rfl)) fun cdv A outer s H E hr => ⟨_, (pss_one (ps_ret (pe_cmpR op_eq (pe_callB call_lenD (by rfl) T.n_len (by decide +kernel) (pa_cons (pe_dc (own := [("one", 1)]) rfl sc_are_unlike.nd (Kr.seq (K := K) rfl (pv 0)) (blkOk_by (own := [("one", 1)]) (N := n_are_unlike) (sc := defScope s_are_unlike) (by decide +kernel)) (fun _ _ _ _ _ => (pg_name (i := 1) sc_are_unlike.nd rfl (by first | exact Or.inl rfl | exact Or.inr rfl))) (fun _ _ _ _ _ => pts_nil) (fun _ _ _ _ _ => (pv 1)) (fun _ _ _ _ _ => pe_bl)) pa_nil)) (pe_callB (Kr.len (K := K) rfl) (by rfl) T.n_len (by decide +kernel) (pa_cons (pv 0) pa_nil)) (nomark _)))), ?_⟩
  intro vs Q h
  refine spD_of (N := n_are_unlike) (fun ds d hR => ?_) h
  obtain ⟨t, ks, rfl, hn, hl, rfl⟩ := hR
  have e0 : (ks.map fun k => k) = ks := List.map_id' ks
  refine run_retD ((ev_op (x := .int ((ks.map fun k => (k, Dt.bl true)).length : Nat)) (y := .int ((ks.map kD).length : Nat)) (ev_cb (xs := [.dk (ks.map fun k => (k, Dt.bl true))]) (ea_cons ((ev_dc ks kD (fun k => k) (fun _ => .bl true) (ei_seq (t := t) (ev_var rfl)) (fun k hk => ⟨_, kD k, bind_name, ev_var rfl, keyD_kD k, ev_bl⟩) (by omega)).eq ?_) ea_nil) rc_lenD) (ev_cb (xs := [seqD t (ks.map kD)]) ?_ rc_len) rv_eqI).eq ?_)
  · rw [foldl_putG0 (fun k => k) (fun _ => Dt.bl true) ks (by rw [e0]; exact hn)]
  · walk_at "ev"
  · simp
def n_are_tuples : List Str := ["value", "size", "most", "one"]
def p_are_tuples : List Str := ["value", "size", "most"]
theorem sc_are_tuples : FnScope n_are_tuples p_are_tuples (defScope s_are_tuples) := ⟨rfl, rfl, rfl, by decide +kernel, rfl, by decide +kernel, by decide +kernel⟩
def R_are_tuples : List Dt → Dt → Prop := fun ds d => ∃ t, ∃ xs : List (List Dt), ∃ n m : Int, ds = [seqD t (xs.map .tup), .int n, .int m] ∧ (xs.length : Int) ≤ m ∧ m ≤ 1000 ∧ (∀ x ∈ xs, (x.length : Int) = n) ∧ d = .bl true
theorem c_are_tuples (T : Tx K mg) : C8.Cal P w K mg base 2 "are_tuples" (SpD (R_are_tuples)) [] := by
  obtain ⟨fd, F⟩ := T.f_are_tuples
  have c_is_row := c_is_row (P := P) (w := w) (base := base) T
  refine cal F T.g_are_tuples sc_are_tuples (fun _ _ _ _ _ _ us hl => match us, hl with | [_, _, _], _ => rfl) (spD_len (n := 3) (by rintro _ _ ⟨_, _, _, _, rfl, _⟩; rfl)) fun cdv A outer s H E hr => ⟨_, (pss_cons (ps_if (PW.pt (pw_or (pt_not (pt_val (pe_c c_is_row hr (by decide) (by rfl) (pa_cons (pv 0) pa_nil)))) (pw_or1 (pt_cmpR op_gt (pe_callB (Kr.len (K := K) rfl) (by rfl) T.n_len (by decide +kernel) (pa_cons (pv 0) pa_nil)) (pv 2) (nomark _))))) (pss_one (ps_ret pe_bl)) pss_nil) (pss_one (ps_ret (pe_callB (Kr.all (K := K) rfl) (by rfl) T.n_all (by decide +kernel) (pa_cons (pe_lc (own := [("one", 3)]) rfl sc_are_tuples.nd (Kr.seq (K := K) rfl (pv 0)) (blkOk_by (own := [("one", 3)]) (N := n_are_tuples) (sc := defScope s_are_tuples) (by decide +kernel)) (fun _ _ _ _ _ => (pg_name (i := 3) sc_are_tuples.nd rfl (by first | exact Or.inl rfl | exact Or.inr rfl))) (fun _ _ _ _ _ => pts_nil) (fun _ _ _ _ _ => (pe_and (pe_callB (Kr.isi (K := K) rfl) (by rfl) T.n_isinstance (by decide +kernel) (pa_cons (pv 3) (pa_cons (pe_bltn (v := V.ty "tuple") (by rfl) T.n_tuple (by decide +kernel) rfl) pa_nil))) (pe_one (pe_cmpR op_eq (pe_callB (Kr.len (K := K) rfl) (by rfl) T.n_len (by decide +kernel) (pa_cons (pv 3) pa_nil)) (pv 1) (nomark _)))))) pa_nil))))), ?_⟩
  intro vs Q h
  refine spD_of (N := n_are_tuples) (fun ds d hR => ?_) h
  obtain ⟨t, xs, n, m, rfl, h1, h2, h3, rfl⟩ := hR
  refine run_skip ((et_or (a := false) (b := false) (et_not (a := true) (et_B (ev_call (ds := [seqD t (xs.map .tup)]) ?_ ⟨t, _, rfl, rfl⟩))) (fun _ => (et_test (ev_op (x := .int ((xs.map Dt.tup).length : Nat)) (y := .int m) (ev_cb (xs := [seqD t (xs.map .tup)]) ?_ rc_len) ?_ rv_I0b)).eq ?_)).eq rfl) ?_
  · walk_at "ev"
  · walk_at "ev"
  · walk_at "ev"
  · rw [List.length_map]; exact decide_eq_false (by omega)
  refine run_retD (ev_cb (xs := [.lst (xs.map fun _ => .bl true)]) (ea_cons (ev_lc0 xs Dt.tup (fun _ => .bl true) (ei_seq (t := t) (ev_var rfl)) (fun x hx => ⟨_, bind_name, ?_⟩) (by omega)) ea_nil) rc_allT)
  refine (ev_and (a := true) (b := true) (ev_cb (xs := [.tup x, .ty "tuple"]) ?_ (rc_isi (T := "tuple") (b := true) rfl (by decide +kernel))) (fun _ => (ev_op (x := .int (x.length : Nat)) (y := .int n) (ev_cb (xs := [seqD .t x]) ?_ rc_len) ?_ rv_eqI).eq ?_)).eq rfl
  · walk_at "ev"
  · walk_at "ev"
  · walk_at "ev"
  · rw [decide_eq_true (h3 x hx)]
end
end Rt
end

section
set_option Elab.async false
set_option linter.all false
set_option maxRecDepth 100000
set_option maxHeartbeats 4000000
/-! The book as the package has it. -/
namespace Rt
open PySem PySem.Spec PyProof.Rows L2 Ab
/-- how many bits -/
def popc (m : Nat) : Nat := if h : m = 0 then 0 else popc (m &&& (m - 1)) + 1
termination_by m
decreasing_by
  have : m &&& (m - 1) ≤ m - 1 := Nat.and_le_right
  omega
theorem popc_zero : popc 0 = 0 := by rw [popc]; rfl
theorem popc_pos {m : Nat} (h : 0 < m) : popc m = popc (m &&& (m - 1)) + 1 := by
  rw [popc, dif_neg (by omega)]
theorem band (a b : Nat) : Builtin.bitAnd (a : Int) (b : Int) = ((a &&& b : Nat) : Int) := by
  rw [bitAnd_pp (by omega) (by omega), Int.toNat_natCast, Int.toNat_natCast]
theorem bxor (a b : Nat) : Builtin.bitXor (a : Int) (b : Int) = ((a ^^^ b : Nat) : Int) := by
  rw [Bits.bitXor_pp (by omega) (by omega), Int.toNat_natCast, Int.toNat_natCast]
theorem ip_and {X : Cx} : PIp X .BitAnd (ipI fun i j => Builtin.bitAnd i j) := iop_and
def Wt.many (w : Wt) : Int := match w.k with
  | .all => w.ns.length
  | .any => 1
  | .count n => n
theorem nodup_map {α β : Type} {f : α → β} {xs : List α} (hf : ∀ x y, f x = f y → x = y) (h : xs.Nodup) : (xs.map f).Nodup := List.pairwise_map.mpr (h.imp fun ne e => ne (hf _ _ e))
namespace Bk
variable (b : Bk)
def n : Nat := b.sk.length
def bit (s : Str) : Nat := 2 ^ b.names.idxOf s
def spots : List Nat := (List.range b.n).map (2 ^ ·)
def tier (s : Str) : Int := (b.sk.lookup s).getD 0
def needOf (t : Int) : Int := (b.nd.lookup t).getD 0
def maskOf (ns : List Str) : Nat := (ns.map b.bit).sum
def below (s : Str) : Nat := b.maskOf ((b.sk.filter fun x => decide (x.2 < b.tier s)).map (·.1))
/-- what a skill wants: pairs of a mask and how many -/
def askedBy (s : Str) : List (Nat × Int) := (b.below s, b.needOf (b.tier s)) :: (b.wt.filter fun w => decide (w.sk = s)).map fun w => (b.maskOf w.ns, w.many)
def barred : List Nat := b.br.map fun x => b.bit x.1 + b.bit x.2
end Bk
def encNI (x : Nat × Int) : Dt := .tup [.int (x.1 : Int), .int x.2]
def natD (n : Nat) : Dt := .int (n : Int)
def lstN (ns : List Nat) : Dt := .lst (ns.map natD)
def recD (b : Bk) : Dt := .tup [.ft (b.sk.map encSI), .int b.pts, .ft (b.nd.map encII), .ft (b.wt.map encW), .ft (b.br.map encSS), .ft (b.gv.map encSI), .ft (b.pr.map encSI), encO b.rs]
/-- the instance's attributes, in the order in which they were stored -/
def bkF (b : Bk) : List (Str × Dt) := [("record", recD b), ("own_points", .int b.pts), ("own_reset", encO b.rs), ("own_names", lstS b.names), ("own_tiers", lstI (b.sk.map (·.2))),
  ("tier_by", .dk (b.sk.map fun x => (Sum.inr x.1, Dt.int x.2))), ("spots", lstN b.spots), ("bits", .dk (b.names.map fun s => (Sum.inr s, natD (b.bit s)))),
  ("own_needs", .dk (b.nd.map fun x => (Sum.inl x.1, Dt.int x.2))), ("own_prices", .dk (b.pr.map fun x => (Sum.inr x.1, Dt.int x.2))), ("own_given", .dk (b.gv.map fun x => (Sum.inr x.1, Dt.int x.2))),
  ("barred", lstN b.barred), ("asked", .lst (b.names.map fun s => .lst ((b.askedBy s).map encNI)))]
def bkD (C : Addr) (b : Bk) : Dt := .ins C (bkF b)
section
variable {p : Option Addr} {δ : Dst} {te : TE} {K : PySem.W.Frag} {mg : Str → Option Value} {b : Bk}
abbrev BC (K : PySem.W.Frag) : Addr := He.ga K "Book"
theorem f_points (T : Tx K mg) (h : EvD p te δ (bkD (BC K) b)) : EvD p (tFld K te "own_points") δ (.int b.pts) := ev_fld h T.c_Book T.a_own_points (by rfl)
theorem f_names (T : Tx K mg) (h : EvD p te δ (bkD (BC K) b)) : EvD p (tFld K te "own_names") δ (lstS b.names) := ev_fld h T.c_Book T.a_own_names (by rfl)
theorem f_record (T : Tx K mg) (h : EvD p te δ (bkD (BC K) b)) : EvD p (tFld K te "record") δ (recD b) := ev_fld h T.c_Book T.a_record (by rfl)
theorem f_spots (T : Tx K mg) (h : EvD p te δ (bkD (BC K) b)) : EvD p (tFld K te "spots") δ (lstN b.spots) := ev_fld h T.c_Book T.a_spots (by rfl)
theorem f_bits (T : Tx K mg) (h : EvD p te δ (bkD (BC K) b)) : EvD p (tFld K te "bits") δ (.dk (b.names.map fun s => (Sum.inr s, natD (b.bit s)))) := ev_fld h T.c_Book T.a_bits (by rfl)
theorem f_barred (T : Tx K mg) (h : EvD p te δ (bkD (BC K) b)) : EvD p (tFld K te "barred") δ (lstN b.barred) := ev_fld h T.c_Book T.a_barred (by rfl)
theorem f_asked (T : Tx K mg) (h : EvD p te δ (bkD (BC K) b)) : EvD p (tFld K te "asked") δ (.lst (b.names.map fun s => .lst ((b.askedBy s).map encNI))) := ev_fld h T.c_Book T.a_asked (by rfl)
theorem get_bits (o : b.Ok) {s : Str} (h : s ∈ b.names) : getD? (.dk (b.names.map fun s => (Sum.inr s, natD (b.bit s)))) (.str s) = some (some (natD (b.bit s))) := by
  show some (lkG _ (Sum.inr s)) = _
  rw [lkG_mem (v := natD (b.bit s))]
  · rw [List.map_map]
    exact nodup_map (fun x y e => Sum.inr.inj e) o.nod
  · exact List.mem_map.mpr ⟨s, h, rfl⟩
/-- book.bits[name] -/
theorem ev_bit (T : Tx K mg) (o : b.Ok) {ty : TE} {s : Str} (h : EvD p te δ (bkD (BC K) b)) (hy : EvD p ty δ (.str s)) (hs : s ∈ b.names) : EvD p (tDGet (tFld K te "bits") ty) δ (natD (b.bit s)) := ev_dget (f_bits T h) hy (get_bits o hs)
theorem rc_sumN {xs : List Nat} {α : Type} {ys : List α} {f : α → Nat} : RcD p (rSum K) [.lst (ys.map fun x => natD (f x))] (natD (ys.map f).sum) := by
  have h := rc_sumM (p := p) (K := K) (xs := ys) (f := fun x => ((f x : Nat) : Int))
  have e : (ys.map fun x => ((f x : Nat) : Int)).sum = (((ys.map f).sum : Nat) : Int) := by
    induction ys with
    | nil => rfl
    | cons y ys ih =>
      rw [List.map_cons, List.sum_cons, List.map_cons, List.sum_cons, ih (rc_sumM)]
      omega
  rw [e] at h
  exact h
theorem rv_and {a c : Nat} : RvD p (rI0 fun i j => .int (Builtin.bitAnd i j)) (natD a) (natD c) (natD (a &&& c)) := by
  have h := rv_I0i (p := p) (g := fun i j => Builtin.bitAnd i j) (i := (a : Int)) (j := (c : Int))
  simp only [band] at h
  exact h
theorem rv_xor {a c : Nat} : RvD p (rI0 fun i j => .int (Builtin.bitXor i j)) (natD a) (natD c) (natD (a ^^^ c)) := by
  have h := rv_I0i (p := p) (g := fun i j => Builtin.bitXor i j) (i := (a : Int)) (j := (c : Int))
  simp only [bxor] at h
  exact h
theorem rv_eqN {a c : Nat} : RvD p rEq (natD a) (natD c) (.bl (decide (a = c))) := by
  have h := rv_eqI (p := p) (i := (a : Int)) (j := (c : Int))
  have e : decide ((a : Int) = (c : Int)) = decide (a = c) := by
    by_cases q : a = c
    · simp [q]
    · simp [q]
      omega
  rw [e] at h
  exact h
end
/-- name op= e -/
theorem run_aug {F : Addr → Prop} {p : Option Addr} {M : Led} {δ : Dst} {te : TE} {f : Int → Int → Int} {i : Nat} {x y : Int} {N : Dst → Led → Prop} {R : Dt → Led → Prop} (h0 : δ[i]? = some (some (.int x))) (h : EvD p te δ (.int y)) (k : N (δ.set i (some (.int (f x y)))) M) : Run F p (tAug i te (ipI f)) δ M N R := fun hF A0 B0 Hk σ H D s nx rt => by
  obtain ⟨v, h1, h2⟩ := s.st.2 i _ h0
  cases h2
  refine ⟨.int x, h1, ez_of h hF A0 B0 Hk σ H _ s fun w d Hk' H' e s' k' r => ?_⟩
  subst e
  cases r
  exact ⟨x, y, rfl, rfl, nx _ M Hk' _ H' k (s'.set i (.int _)) k'⟩
end Rt
namespace Rt
open PySem PySem.Spec PyProof.Rows L2 Ab
theorem _root_.Ab.RcP.eqL {p : Option Addr} {r : List V → Hp → VK → Prop} {xs : List Dt} {a b : Int} (h : RcD p r xs (.int a)) (e : a = b) : RcD p r xs (.int b) := e ▸ h
theorem rng_nat (n : Nat) : rngD 0 n = (List.range n).map natD := by
  unfold rngD natD
  apply List.map_congr_left
  intro i _
  rw [Int.zero_add]
end Rt
end

section
set_option Elab.async false
set_option linter.all false
set_option maxRecDepth 100000
set_option maxHeartbeats 4000000

namespace Rt
open PySem PySem.Spec PyProof.Rows L2 Ab C8
local macro_rules | `(tactic| walk_at "rv") => `(tactic| first
  | exact rv_I0i | exact rv_I0b | exact rv_eqI | exact rv_eqS | exact rv_neI | exact rv_neS | exact rv_eqB | exact rv_inS (t := .t) | exact rv_inS (t := .l) | exact rv_inI (t := .t) | exact rv_inI (t := .l) | exact rv_ninS (t := .t) | exact rv_ninS (t := .l) | exact rv_ninI (t := .t) | exact rv_ninI (t := .l) | exact rv_isN rfl | exact rv_notN rfl | exact rv_eqTI | exact rv_neTI | exact rv_eqLI | exact rv_neTS | exact rv_eqLTS | exact rv_neLTI | exact rv_sign)
local macro_rules | `(tactic| walk_at "ev") => `(tactic| first
  | exact ev_var rfl | exact ev_int | exact ev_str | exact ev_bl | exact ev_non | exact ev_ty | exact ea_nil | exact et_yes
  | ((with_reducible refine ev_op ?_ ?_ ?_) <;> walk_at "ev")
  | ((with_reducible refine ea_cons ?_ ?_) <;> walk_at "ev")
  | ((with_reducible refine ev_and ?_ ?_) <;> walk_at "ev")
  | ((with_reducible refine ev_or ?_ ?_) <;> walk_at "ev")
  | (with_reducible refine ev_not ?_; walk_at "ev")
  | (with_reducible refine ev_tup ?_; walk_at "ev")
  | (with_reducible refine ev_lst ?_; walk_at "ev")
  | (with_reducible refine et_not ?_; walk_at "ev")
  | ((with_reducible refine et_and ?_ ?_) <;> walk_at "ev")
  | ((with_reducible refine et_or ?_ ?_) <;> walk_at "ev")
  | (with_reducible refine et_test ?_; walk_at "ev")
  | (with_reducible refine et_B ?_; walk_at "ev")
  | (with_reducible refine fun (_ : _ = _) => ?_; walk_at "ev")
  | walk_at "rv"
  | skip)


def Bk.isLet (b : Bk) (m : Nat) (s : Str) : Bool := (b.askedBy s).all fun q => decide (q.2 ≤ (popc (m &&& q.1) : Int))
def Bk.pointsLet (b : Bk) (m : Nat) : Int := b.pts + ((b.gv.filter fun x => (((m &&& b.bit x.1 : Nat) : Int) != 0)).map (·.2)).sum
def Bk.nm (b : Bk) (i : Nat) : Str := b.names.getD i Str.empty
def Bk.spotsIn (b : Bk) (m : Nat) : List Nat := (List.range b.names.length).filter fun i => (((m &&& b.spots.getD i 0 : Nat) : Int) != 0)
def Bk.doesHold (b : Bk) (m : Nat) : Bool := if decide (b.pointsLet m < (popc m : Int)) || (b.barred.any fun q => decide (m &&& q = q)) then false else (b.spotsIn m).all fun i => b.isLet m (b.nm i)
theorem Bk.nm_get (b : Bk) {i : Nat} (h : i < b.names.length) : b.names[i]? = some (b.nm i) := by
  unfold Bk.nm
  rw [List.getD_eq_getElem?_getD, List.getElem?_eq_getElem h]
  rfl
theorem Bk.spots_len (b : Bk) : b.spots.length = b.names.length := by
  unfold Bk.spots Bk.n Bk.names
  rw [List.length_map, List.length_range, List.length_map]
theorem atI_map {α : Type} {f : α → Dt} {xs : List α} {i : Nat} {x : α} (h : xs[i]? = some x) : atI (xs.map f) ((i : Nat) : Int) = some (f x) := atI_nat (by rw [List.getElem?_map, h]; rfl)

section
variable {P : Program} {w : World} {K : PySem.W.Frag} {mg : Str → Option Value} {base : Heap}

def n_size_of : List Str := ["mask", "many"]
def p_size_of : List Str := ["mask"]
theorem sc_size_of : FnScope n_size_of p_size_of (defScope s_size_of) := ⟨rfl, rfl, rfl, by decide +kernel, rfl, by decide +kernel, by decide +kernel⟩
def R_size_of : List Dt → Dt → Prop := fun ds d => ∃ m : Nat, ds = [natD m] ∧ d = natD (popc m)
theorem c_size_of (T : Tx K mg) : C8.Cal P w K mg base 1 "size_of" (SpD (R_size_of)) [] := by
  obtain ⟨fd, F⟩ := T.f_size_of
  refine cal F T.g_size_of sc_size_of (fun _ _ _ _ _ _ us hl => match us, hl with | [_], _ => rfl) (spD_len (n := 1) (by first | (rintro _ _ ⟨_, rfl, _⟩; rfl))) fun cdv A outer s H E hr => ⟨_, (pss_cons (ps_set (i := 1) sc_size_of.nd rfl (Or.inl rfl) pe_int) (pss_cons (ps_while PassesOwn.never (pt_cmpR op_gt (pv 0) pe_int (nomark _)) (pss_cons (ps_aug (i := 0) sc_size_of.nd rfl (Or.inl rfl) (pe_op op_sub (pv 0) pe_int) ip_and) (pss_one (ps_aug (i := 1) sc_size_of.nd rfl (Or.inl rfl) pe_int ip_add)))) (pss_one (ps_ret (pv 1))))), ?_⟩
  intro vs Q h
  refine spD_of (N := n_size_of) (fun ds d hR => ?_) h
  obtain ⟨m, rfl, rfl⟩ := hR
  refine run_setD (d := .int 0) ev_int (run_seq (run_while (fun k δ M => ∃ c : Nat, δ = [some (natD k), some (natD c)] ∧ M = noM ∧ popc m = popc k + c) (m0 := m) ⟨0, rfl, rfl, rfl⟩ ?_))
  rintro k δ M ⟨c, rfl, rfl, hk⟩
  refine ⟨fun x => x = decide (0 < (k : Int)), tz_of (et_test (ev_op (x := natD k) (y := .int 0) (ev_var rfl) ev_int rv_I0b)), fun hb => ?_, fun hb => ?_⟩
  · have hk0 : 0 < k := by have := of_decide_eq_true hb.symm; omega
    refine run_seq (run_aug (x := (k : Int)) (y := (k : Int) - 1) rfl (ev_op (x := natD k) (y := .int 1) (ev_var rfl) ev_int rv_I0i) ?_)
    refine run_aug (x := (c : Int)) (y := 1) rfl ev_int ?_
    have e1 : (k : Int) - 1 = ((k - 1 : Nat) : Int) := by omega
    refine ⟨k &&& (k - 1), ?_, c + 1, ?_, rfl, ?_⟩
    · have : k &&& (k - 1) ≤ k - 1 := Nat.and_le_right
      omega
    · rw [e1, band]
      rfl
    · rw [hk, popc_pos hk0]
      omega
  · have hk0 : k = 0 := by have := of_decide_eq_false hb.symm; omega
    subst hk0
    refine run_retD ((ev_var rfl).eq ?_)
    rw [hk, popc_zero, Nat.zero_add]
def n_is_let : List Str := ["book", "mask", "spot", "some", "many"]
def p_is_let : List Str := ["book", "mask", "spot"]
theorem sc_is_let : FnScope n_is_let p_is_let (defScope s_is_let) := ⟨rfl, rfl, rfl, by decide +kernel, rfl, by decide +kernel, by decide +kernel⟩
def R_is_let (K : PySem.W.Frag) : List Dt → Dt → Prop := fun ds d => ∃ b : Bk, ∃ m i : Nat, ds = [bkD (BC K) b, natD m, natD i] ∧ i < b.names.length ∧ (b.askedBy (b.nm i)).length ≤ 1000 ∧ d = .bl (b.isLet m (b.nm i))
theorem c_is_let (T : Tx K mg) : C8.Cal P w K mg base 2 "is_let" (SpD (R_is_let K)) [] := by
  obtain ⟨fd, F⟩ := T.f_is_let
  have c_size_of := c_size_of (P := P) (w := w) (base := base) T
  refine cal F T.g_is_let sc_is_let (fun _ _ _ _ _ _ us hl => match us, hl with | [_, _, _], _ => rfl) (spD_len (n := 3) (by rintro _ _ ⟨_, _, _, rfl, _⟩; rfl)) fun cdv A outer s H E hr => ⟨_, (pss_one (ps_ret (pe_callB (Kr.all (K := K) rfl) (by rfl) T.n_all (by decide +kernel) (pa_cons (pe_lc (own := [("some", 3), ("many", 4)]) rfl sc_is_let.nd (Kr.seq (K := K) rfl (pe_ix (Kr.ix (K := K) rfl) (Kr.fld (K := K) rfl (pv 0)) (pv 2) (fun _ _ => rfl))) (blkOk_by (own := [("some", 3), ("many", 4)]) (N := n_is_let) (sc := defScope s_is_let) (by decide +kernel)) (fun _ _ _ _ _ => (Kr.tup (K := K) (n := 2) rfl rfl (pgs_cons (pg_name (i := 3) sc_is_let.nd rfl (by first | exact Or.inl rfl | exact Or.inr rfl)) (pgs_cons (pg_name (i := 4) sc_is_let.nd rfl (by first | exact Or.inl rfl | exact Or.inr rfl)) pgs_nil)))) (fun _ _ _ _ _ => pts_nil) (fun _ _ _ _ _ => (pe_cmpR op_ge (pe_c c_size_of hr (by decide) (by rfl) (pa_cons (pe_op op_and (pv 1) (pv 3)) pa_nil)) (pv 4) (nomark _)))) pa_nil)))), ?_⟩
  intro vs Q h
  refine spD_of (N := n_is_let) (fun ds d hR => ?_) h
  obtain ⟨b, m, i, rfl, hi, hl, rfl⟩ := hR
  refine run_retD (ev_cb (xs := [.lst ((b.askedBy (b.nm i)).map fun q => .bl (decide (q.2 ≤ (popc (m &&& q.1) : Int))))]) (ea_cons (ev_lc0 (b.askedBy (b.nm i)) encNI (fun q => .bl (decide (q.2 ≤ (popc (m &&& q.1) : Int)))) (ei_lst (ev_op (f_asked T (ev_var rfl)) (ev_var rfl) (rv_ix (t := .l) (atI_map (b.nm_get hi))))) (fun q hq => ⟨_, bind_tup (bind_cons bind_name (bind_cons bind_name bind_nil)), ?_⟩) (by omega)) ea_nil) rc_allM)
  exact ev_op (x := natD (popc (m &&& q.1))) (y := .int q.2) (ev_call (ds := [natD (m &&& q.1)]) (ea_cons (ev_op (ev_var rfl) (ev_var rfl) rv_and) ea_nil) ⟨_, rfl, rfl⟩) (ev_var rfl) rv_I0b
def n_points_let : List Str := ["book", "mask", "name", "many"]
def p_points_let : List Str := ["book", "mask"]
theorem sc_points_let : FnScope n_points_let p_points_let (defScope s_points_let) := ⟨rfl, rfl, rfl, by decide +kernel, rfl, by decide +kernel, by decide +kernel⟩
def R_points_let (K : PySem.W.Frag) : List Dt → Dt → Prop := fun ds d => ∃ b : Bk, ∃ m : Nat, ds = [bkD (BC K) b, natD m] ∧ b.Ok ∧ d = .int (b.pointsLet m)
theorem c_points_let (T : Tx K mg) : C8.Cal P w K mg base 1 "points_let" (SpD (R_points_let K)) [] := by
  obtain ⟨fd, F⟩ := T.f_points_let
  refine cal F T.g_points_let sc_points_let (fun _ _ _ _ _ _ us hl => match us, hl with | [_, _], _ => rfl) (spD_len (n := 2) (by rintro _ _ ⟨_, _, rfl, _⟩; rfl)) fun cdv A outer s H E hr => ⟨_, (pss_one (ps_ret (pe_op op_add (Kr.fld (K := K) rfl (pv 0)) (pe_callB (Kr.sum (K := K) rfl) (by rfl) T.n_sum (by decide +kernel) (pa_cons (pe_lc (own := [("name", 2), ("many", 3)]) rfl sc_points_let.nd (Kr.seq (K := K) rfl (pe_ix (Kr.ix (K := K) rfl) (Kr.fld (K := K) rfl (pv 0)) pe_int (fun _ _ => rfl))) (blkOk_by (own := [("name", 2), ("many", 3)]) (N := n_points_let) (sc := defScope s_points_let) (by decide +kernel)) (fun _ _ _ _ _ => (Kr.tup (K := K) (n := 2) rfl rfl (pgs_cons (pg_name (i := 2) sc_points_let.nd rfl (by first | exact Or.inl rfl | exact Or.inr rfl)) (pgs_cons (pg_name (i := 3) sc_points_let.nd rfl (by first | exact Or.inl rfl | exact Or.inr rfl)) pgs_nil)))) (fun _ _ _ _ _ => pts_one (Kr.truth (K := K) rfl (pe_op op_and (pv 1) (pe_dget (hu_of hr) (Kr.fld (K := K) rfl (pv 0)) (pv 2) (fun _ _ => rfl))) (by intro _; rfl))) (fun _ _ _ _ _ => (pv 3))) pa_nil))))), ?_⟩
  intro vs Q h
  refine spD_of (N := n_points_let) (fun ds d hR => ?_) h
  obtain ⟨b, m, rfl, ok, rfl⟩ := hR
  refine run_retD (ev_op (x := .int b.pts) (y := .int ((b.gv.filter fun x => (((m &&& b.bit x.1 : Nat) : Int) != 0)).map (·.2)).sum) (f_points T (ev_var rfl)) (ev_cb (ea_cons (ev_lc b.gv encSI (fun x => (((m &&& b.bit x.1 : Nat) : Int) != 0)) (fun x => .int x.2) (ei_seq (t := .f) (ev_op (f_record T (ev_var rfl)) ev_int (rv_ix (t := .t) (i := 5) rfl))) (fun x hx => ⟨_, bind_tup (bind_cons bind_name (bind_cons bind_name bind_nil)), ?_, fun _ => ev_var rfl⟩) (by have := ok.gl; omega)) ea_nil) rc_sumM) rv_I0i)
  exact et_truth (d := natD (m &&& b.bit x.1)) (ev_op (ev_var rfl) (ev_bit T ok (ev_var rfl) (ev_var rfl) (ok.go x hx).1) rv_and) rfl
def n_does_hold : List Str := ["book", "mask", "spot", "pair"]
def p_does_hold : List Str := ["book", "mask"]
theorem sc_does_hold : FnScope n_does_hold p_does_hold (defScope s_does_hold) := ⟨rfl, rfl, rfl, by decide +kernel, rfl, by decide +kernel, by decide +kernel⟩
def R_does_hold (K : PySem.W.Frag) : List Dt → Dt → Prop := fun ds d => ∃ b : Bk, ∃ m : Nat, ds = [bkD (BC K) b, natD m] ∧ b.Ok ∧ d = .bl (b.doesHold m)
theorem c_does_hold (T : Tx K mg) : C8.Cal P w K mg base 3 "does_hold" (SpD (R_does_hold K)) [] := by
  obtain ⟨fd, F⟩ := T.f_does_hold
  have c_size_of := c_size_of (P := P) (w := w) (base := base) T
  have c_points_let := c_points_let (P := P) (w := w) (base := base) T
  have c_is_let := c_is_let (P := P) (w := w) (base := base) T
  refine cal F T.g_does_hold sc_does_hold (fun _ _ _ _ _ _ us hl => match us, hl with | [_, _], _ => rfl) (spD_len (n := 2) (by rintro _ _ ⟨_, _, rfl, _⟩; rfl)) fun cdv A outer s H E hr => ⟨_, (pss_cons (ps_if (PW.pt (pw_or (pt_cmpR op_gt (pe_c c_size_of hr (by decide) (by rfl) (pa_cons (pv 1) pa_nil)) (pe_c c_points_let hr (by decide) (by rfl) (pa_cons (pv 0) (pa_cons (pv 1) pa_nil))) (nomark _)) (pw_or1 (pt_val (pe_callB (Kr.any (K := K) rfl) (by rfl) T.n_any (by decide +kernel) (pa_cons (pe_lc (own := [("pair", 3)]) rfl sc_does_hold.nd (Kr.seq (K := K) rfl (Kr.fld (K := K) rfl (pv 0))) (blkOk_by (own := [("pair", 3)]) (N := n_does_hold) (sc := defScope s_does_hold) (by decide +kernel)) (fun _ _ _ _ _ => (pg_name (i := 3) sc_does_hold.nd rfl (by first | exact Or.inl rfl | exact Or.inr rfl))) (fun _ _ _ _ _ => pts_nil) (fun _ _ _ _ _ => (pe_cmpR op_eq (pe_op op_and (pv 1) (pv 3)) (pv 3) (nomark _)))) pa_nil)))))) (pss_one (ps_ret pe_bl)) pss_nil) (pss_one (ps_ret (pe_callB (Kr.all (K := K) rfl) (by rfl) T.n_all (by decide +kernel) (pa_cons (pe_lc (own := [("spot", 2)]) rfl sc_does_hold.nd (pi_range1 (by rfl) T.n_range (pa_cons (pe_callB (Kr.len (K := K) rfl) (by rfl) T.n_len (by decide +kernel) (pa_cons (Kr.fld (K := K) rfl (pv 0)) pa_nil)) pa_nil)) (blkOk_by (own := [("spot", 2)]) (N := n_does_hold) (sc := defScope s_does_hold) (by decide +kernel)) (fun _ _ _ _ _ => (pg_name (i := 2) sc_does_hold.nd rfl (by first | exact Or.inl rfl | exact Or.inr rfl))) (fun _ _ _ _ _ => pts_one (Kr.truth (K := K) rfl (pe_op op_and (pv 1) (pe_ix (Kr.ix (K := K) rfl) (Kr.fld (K := K) rfl (pv 0)) (pv 2) (fun _ _ => rfl))) (by intro _; rfl))) (fun _ _ _ _ _ => (pe_c c_is_let hr (by decide) (by rfl) (pa_cons (pv 0) (pa_cons (pv 1) (pa_cons (pv 2) pa_nil)))))) pa_nil))))), ?_⟩
  intro vs Q h
  refine spD_of (N := n_does_hold) (fun ds d hR => ?_) h
  obtain ⟨b, m, rfl, ok, rfl⟩ := hR
  have hlen := ok.nlen
  refine run_seq (run_if (B := fun c => c = (decide (b.pointsLet m < (popc m : Int)) || (b.barred.any fun q => decide (m &&& q = q)))) (tz_of (et_or (et_test (ev_op (x := natD (popc m)) (y := .int (b.pointsLet m)) (ev_call (ds := [natD m]) ?_ ⟨m, rfl, rfl⟩) (ev_call (ds := [bkD (BC K) b, natD m]) ?_ ⟨b, m, rfl, ok, rfl⟩) rv_I0b)) (fun _ => et_B (ev_cb (xs := [.lst (b.barred.map fun q => .bl (decide (m &&& q = q)))]) (ea_cons (ev_lc0 b.barred natD _ (ei_lst (f_barred T (ev_var rfl))) (fun q hq => ⟨_, bind_name, ev_op (ev_op (ev_var rfl) (ev_var rfl) rv_and) (ev_var rfl) rv_eqN⟩) ?_) ea_nil) rc_anyM)))) (fun e => ?_) fun e => run_next ?_)
  · walk_at "ev"
  · walk_at "ev"
  · have := ok.bl
    unfold Bk.barred
    rw [List.length_map]
    omega
  · refine run_retD (ev_bl.eq ?_)
    unfold Bk.doesHold
    rw [← e]
    rfl
  · refine run_retD ((ev_cb (z := .bl ((b.spotsIn m).all fun i => b.isLet m (b.nm i))) (ea_cons (ev_lc (List.range b.names.length) natD (fun i => (((m &&& b.spots.getD i 0 : Nat) : Int) != 0)) (fun i => .bl (b.isLet m (b.nm i))) (fun σ Hk H s k o' R q => ei_rng1 (j := ((b.names.length : Nat) : Int)) (ea_cons (ev_cb (xs := [seqD .l (b.names.map Dt.str)]) (ea_cons (f_names T (ev_var rfl)) ea_nil) (rc_len.eqL ?_)) ea_nil) (by omega) (by omega) σ Hk H s k o' R fun J ds Hk' H' g o2 e2 w => q J ds Hk' H' g o2 (by rw [e2, Int.toNat_natCast]; exact rng_nat _) w) (fun i hi => ⟨_, bind_name, ?_, fun _ => ?_⟩) (by rw [List.length_range]; omega)) ea_nil) rc_allM).eq ?_)
    · rw [List.length_map]
    · have hi' := List.mem_range.mp hi
      refine et_truth (d := natD (m &&& b.spots.getD i 0)) (ev_op (ev_var rfl) (ev_op (f_spots T (ev_var rfl)) (ev_var rfl) (rv_ix (t := .l) (atI_map (x := b.spots.getD i 0) ?_))) rv_and) rfl
      rw [List.getD_eq_getElem?_getD, List.getElem?_eq_getElem (by rw [b.spots_len]; exact hi')]
      rfl
    · have hi' := List.mem_range.mp hi
      refine ev_call (ds := [bkD (BC K) b, natD m, natD i]) ?_ ⟨b, m, i, rfl, hi', ?_, rfl⟩
      · walk_at "ev"
      · unfold Bk.askedBy
        rw [List.length_cons, List.length_map]
        have h1 := List.length_filter_le (fun w => decide (w.sk = b.nm i)) b.wt
        have h2 := ok.wl
        omega
    · unfold Bk.doesHold
      rw [← e]
      rfl
end
end Rt
end

section
set_option Elab.async false
set_option linter.all false
set_option maxRecDepth 100000
set_option maxHeartbeats 4000000
/-! All that steps lead to, one behind the other. -/
namespace Rt
open PySem PySem.Spec PyProof.Rows L2 Ab
section
variable {α : Type} [DecidableEq α]
def bfsIn (l : List α) (ys : List α) : List α := ys.foldl (fun l y => if y ∈ l then l else l ++ [y]) l
def bfs (nb : α → List α) : Nat → List α → Nat → List α
  | 0, l, _ => l
  | f + 1, l, i => match l[i]? with
    | none => l
    | some x => bfs nb f (bfsIn l (nb x)) (i + 1)
theorem bfs_step {nb : α → List α} {f i : Nat} {l : List α} {x : α} (h : l[i]? = some x) : bfs nb (f + 1) l i = bfs nb f (bfsIn l (nb x)) (i + 1) := by
  show (match l[i]? with | none => l | some x => bfs nb f (bfsIn l (nb x)) (i + 1)) = _
  rw [h]
theorem bfs_end {nb : α → List α} {f i : Nat} {l : List α} (h : l.length ≤ i) : bfs nb f l i = l := by
  cases f with
  | zero => rfl
  | succ f =>
    show (match l[i]? with | none => l | some x => bfs nb f (bfsIn l (nb x)) (i + 1)) = _
    rw [List.getElem?_eq_none h]
theorem bfsIn_snoc (l ys : List α) (y : α) : bfsIn l (ys ++ [y]) = if y ∈ bfsIn l ys then bfsIn l ys else bfsIn l ys ++ [y] := by
  unfold bfsIn
  rw [List.foldl_append]
  rfl
theorem bfsIn_mem {P : α → Prop} : ∀ (ys l : List α), (∀ x ∈ l, P x) → (∀ y ∈ ys, P y) → ∀ x ∈ bfsIn l ys, P x
  | [], l, h, _, x, hx => h x hx
  | y :: ys, l, h, hy, x, hx => by
    refine bfsIn_mem ys (if y ∈ l then l else l ++ [y]) (fun z hz => ?_) (fun z hz => hy z (List.mem_cons_of_mem _ hz)) x hx
    split at hz
    · exact h z hz
    · rcases List.mem_append.mp hz with q | q
      · exact h z q
      · rw [List.mem_singleton.mp q]; exact hy y List.mem_cons_self
theorem bfsIn_nodup : ∀ (ys l : List α), l.Nodup → (bfsIn l ys).Nodup
  | [], l, h => h
  | y :: ys, l, h => by
    refine bfsIn_nodup ys (if y ∈ l then l else l ++ [y]) ?_
    split
    · exact h
    · rename_i hn
      exact List.nodup_append.mpr ⟨h, List.nodup_cons.mpr ⟨List.not_mem_nil, List.nodup_nil⟩, fun a ha b hb e => hn (by rw [← List.mem_singleton.mp hb, ← e]; exact ha)⟩
theorem bfsIn_pre : ∀ (ys l : List α), ∃ r, bfsIn l ys = l ++ r
  | [], l => ⟨[], by rw [List.append_nil]; rfl⟩
  | y :: ys, l => by
    obtain ⟨r, hr⟩ := bfsIn_pre ys (if y ∈ l then l else l ++ [y])
    show ∃ r, bfsIn (if y ∈ l then l else l ++ [y]) ys = l ++ r
    rw [hr]
    split
    · exact ⟨r, rfl⟩
    · exact ⟨y :: r, by simp⟩
theorem bfsIn_get {l ys : List α} {i : Nat} {x : α} (h : l[i]? = some x) : (bfsIn l ys)[i]? = some x := by
  obtain ⟨r, hr⟩ := bfsIn_pre ys l
  rw [hr, List.getElem?_append_left (List.getElem?_eq_some_iff.mp h).1, h]
theorem bfs_mem {P : α → Prop} {nb : α → List α} (hn : ∀ x, P x → ∀ y ∈ nb x, P y) : ∀ (f i : Nat) (l : List α), (∀ x ∈ l, P x) → ∀ x ∈ bfs nb f l i, P x
  | 0, i, l, h => h
  | f + 1, i, l, h => by
    show ∀ x ∈ (match l[i]? with | none => l | some x => bfs nb f (bfsIn l (nb x)) (i + 1)), P x
    cases q : l[i]? with
    | none => exact h
    | some x => exact bfs_mem hn f (i + 1) _ (bfsIn_mem _ _ h (hn x (h x (List.mem_of_getElem? q))))
theorem bfs_nodup {nb : α → List α} : ∀ (f i : Nat) (l : List α), l.Nodup → (bfs nb f l i).Nodup
  | 0, i, l, h => h
  | f + 1, i, l, h => by
    show (match l[i]? with | none => l | some x => bfs nb f (bfsIn l (nb x)) (i + 1)).Nodup
    cases q : l[i]? with
    | none => exact h
    | some x => exact bfs_nodup f (i + 1) _ (bfsIn_nodup _ _ h)
end
/-- unlike numbers below k are at most k -/
theorem nodup_below : ∀ (k : Nat) (l : List Nat), l.Nodup → (∀ x ∈ l, x < k) → l.length ≤ k
  | 0, l, _, h => by
    cases l with
    | nil => exact Nat.le_refl _
    | cons x l => exact absurd (h x List.mem_cons_self) (Nat.not_lt_zero _)
  | k + 1, l, hn, h => by
    have h1 := nodup_below k (l.erase k) (hn.erase k) (fun x hx => by
      have h2 := (List.Nodup.mem_erase_iff hn).mp hx
      have h3 := h x h2.2
      have h4 : x ≠ k := h2.1
      omega)
    have h2 : l.length ≤ (l.erase k).length + 1 := by
      by_cases q : k ∈ l
      · rw [List.length_erase_of_mem q]; omega
      · rw [List.erase_of_not_mem q]; omega
    omega
/-! ### the package's steps -/
namespace Bk
def stepsOf (b : Bk) (m : Nat) (i : Bool) : List Str := b.names.filter fun s => decide (decide ((0 : Int) < ((m &&& b.bit s : Nat) : Int)) = i) && b.doesHold (m ^^^ b.bit s)
def nbrs (b : Bk) (m : Nat) : List ((Str × Str) × Nat) := ((b.stepsOf m false).map fun s => ((("take" : Str), s), m ^^^ b.bit s)) ++ ((b.stepsOf m true).map fun s => ((("give" : Str), s), m ^^^ b.bit s))
def nb (b : Bk) (m : Nat) : List Nat := (b.nbrs m).map (·.2)
def reach (b : Bk) : List Nat := bfs b.nb 64 [0] 0
end Bk
def encSt (x : (Str × Str) × Nat) : Dt := .tup [.tup [.str x.1.1, .str x.1.2], natD x.2]
/-! ### statements of an own kind -/
section
variable {F : Addr → Prop} {p : Option Addr} {M : Led} {δ : Dst} {N : Dst → Led → Prop} {R : Dt → Led → Prop} {K : PySem.W.Frag} {a d C : Addr} {i j : Nat} {gs : List (Str × Dt)} {f : Str}
theorem run_sfld_disp {trs : List (TE × TE)} {ps : List (Dt × Dt)} {kd : List (Key × Dt)} (hi : δ[i]? = some (some (Dt.adr a))) (hm : M a = some (.ins C gs)) (hl : gs.length < 1000) (c : Cls K C) (n : NoAttr K C f)
    (h : EvPs p trs δ ps) (hk : ps.map (fun q => (keyD q.1, q.2)) = kd.map (fun q => (some q.1, q.2))) (hl2 : kd.length ≤ 15)
    (k : ∀ d, M d = none → d ≠ a → N δ (updM (updM M d (.dk (mergeG [] kd))) a (.ins C (putFD f (.adr d) gs)))) : Run F p (sFld K (tVar i) (tDisp trs) f) δ M N R := fun hF A0 B0 Hk σ H D s nx rt => by
  intro q hq
  obtain ⟨hmq, s1⟩ := s.own hq (o := .dK []) (d := .dk []) ⟨[], upd_same, .nil⟩
  refine h σ Hk _ s1.st s1.gr.kh s1.po _ fun qs H1k H1 g1 o1 r1 r2 => ?_
  have s2 := s1.step g1 o1 hF
  obtain ⟨_, _, _, kv0, e0, _⟩ := s2.ow q _ updM_same
  have e0' : H1 q = some (.dK []) := by
    have := g1.hh q _ (s2.ow q _ updM_same).2.1 upd_same
    exact this
  obtain ⟨kvs, e1, e2⟩ := pairs_key r1 r2 hk
  refine ⟨e0', kvs, e1, by rw [e2.length]; exact hl2, ?_⟩
  have s3 := s2.put updM_same (o := .dK (mergeK [] kvs)) (d := .dk (mergeG [] kd)) ⟨_, upd_same, merge_krp e2 .nil⟩
  rw [updM_updM] at s3
  have ne : a ≠ q := fun z => by rw [z] at hm; rw [hm] at hmq; cases hmq
  have hm3 : updM M q (.dk (mergeG [] kd)) a = some (.ins C gs) := by rw [updM_ne ne]; exact hm
  obtain ⟨v, h1, h2⟩ := s3.st.2 i _ hi
  cases h2
  obtain ⟨_, _, _, dx, fs, h5, h6⟩ := s3.ow a _ hm3
  refine ⟨.ref a, h1, a, C, dx, fs, rfl, h5, c, n, by rw [h6.length]; exact hl, ?_⟩
  exact nx δ _ H1k σ _ (k q hmq ne.symm) (s3.put hm3 ⟨dx, _, upd_same, krp_putF (.adr q) h6⟩) g1.kk
theorem run_parL {ta : TA} {te : TE} {ds : List Dt} {e : Dt} (h1 : EvAD p ta δ ds) (h2 : EvD p te δ e) (hl : ds.length ≤ 1000) (k : ∀ q, M q = none → N ((δ.set i (some (.adr q))).set j (some e)) (updM M q (.lst ds))) : Run F p (tPar i j (tCons (tLst ta) (tCons te tNil))) δ M N R := fun hF A0 B0 Hk σ H D s nx rt =>
  h1 σ Hk H s.st s.gr.kh s.po _ fun vs es H1k H1 g1 o1 e1 r1 => ⟨by rw [r1.length, e1]; exact szL (by omega), fun q hq => by
    subst e1
    have s1 := s.step g1 o1 hF
    obtain ⟨hm, s2⟩ := s1.own hq (o := .lst vs) (d := .lst _) ⟨vs, upd_same, r1⟩
    refine h2 σ H1k _ s2.st s2.gr.kh s2.po _ fun v x H2k H2 g2 o2 e2 r2 => ?_
    subst e2
    have s3 := s2.step g2 o2 hF
    exact ⟨.ref q, v, rfl, nx _ _ H2k _ H2 (k q hm) ((s3.set i (.adr q)).set j r2) (g1.kk.trans g2.kk)⟩⟩
/-- x not in o.f, o and its dict owned -/
theorem tz_nin_fld {ks : List (Key × Dt)} {key : Key} {kd : Dt} (hi : δ[i]? = some (some (Dt.adr a))) (hm : M a = some (.ins C gs)) (c : Cls K C) (n : NoAttr K C f) (hf : gs.lookup f = some (.adr d)) (hd : M d = some (.dk ks)) (hj : δ[j]? = some (some kd)) (hk : keyD kd = some key) :
    Tz F p M δ (tB (tDNotIn (tVar j) (tFld K (tVar i) f))) (fun b => b = !(lkG ks key).isSome) := fun hF A0 B0 Hk σ H Q s q => by
  obtain ⟨v, e1, r1⟩ := s.st.2 j _ hj
  obtain ⟨u, e2, r2⟩ := s.st.2 i _ hi
  cases r2
  obtain ⟨_, _, _, dx, fs, h5, h6⟩ := s.ow a _ hm
  obtain ⟨w, h7, h8⟩ := krp_lookup h6 hf
  cases h8
  obtain ⟨_, _, _, kvs, h9, h10⟩ := s.ow d _ hd
  refine ⟨v, e1, .ref a, e2, a, C, dx, fs, .ref d, rfl, h5, c, n, h7, d, valV kvs key, rfl, ?_, !(valV kvs key).isSome, rfl, ?_⟩
  · rw [keyD_kV r1 hk]; exact .k h9
  · refine q _ Hk H ?_ s Kn.refl
    obtain ⟨g1, g2⟩ := h10.get key
    cases z : lkG ks key with
    | none => rw [g2 z] <;> rfl
    | some x => obtain ⟨y, hy, _⟩ := g1 x z; rw [hy]; rfl
/-- o.f[x] = e -/
theorem run_put_fld {ks : List (Key × Dt)} {key : Key} {kd : Dt} {tv : TE} {P : Dt → Prop} (hi : δ[i]? = some (some (Dt.adr a))) (hm : M a = some (.ins C gs)) (c : Cls K C) (n : NoAttr K C f) (hf : gs.lookup f = some (.adr d)) (hd : M d = some (.dk ks)) (hj : δ[j]? = some (some kd)) (hk : keyD kd = some key) (hl : ks.length < 100000)
    (hv : Ez F p M δ tv P) (k : ∀ x, P x → N δ (updM M d (.dk (putG ks key x)))) : Run F p (sDPut (tFld K (tVar i) f) (tVar j) tv) δ M N R := fun hF A0 B0 Hk σ H D s nx rt =>
  hv hF A0 B0 Hk σ H _ s fun w x Hk' H' px s' k' r => by
    obtain ⟨v, e1, r1⟩ := s'.st.2 j _ hj
    obtain ⟨u, e2, r2⟩ := s'.st.2 i _ hi
    cases r2
    obtain ⟨_, _, _, dx, fs, h5, h6⟩ := s'.ow a _ hm
    obtain ⟨y, h7, h8⟩ := krp_lookup h6 hf
    cases h8
    obtain ⟨_, _, _, kvs, h9, h10⟩ := s'.ow d _ hd
    refine ⟨.ref a, e2, a, C, dx, fs, .ref d, rfl, h5, c, n, h7, v, e1, d, upd H' d (.dK (putK kvs key w)), rfl, ?_, ?_⟩
    · rw [keyD_kV r1 hk]; exact .k h9 (by rw [h10.length]; exact szl hl)
    · exact nx δ _ Hk' σ _ (k x px) (s'.put hd ⟨_, upd_same, h10.put r⟩) k'
end
end Rt
namespace Rt
open PySem PySem.Spec PyProof.Rows L2 Ab
section
variable {F : Addr → Prop} {p : Option Addr} {M : Led} {δ : Dst} {N : Dst → Led → Prop} {R : Dt → Led → Prop} {wi : TI} {g : TG} {tb : TS} {vs : List Nat}
/-- for x in xs, by what is behind -/
theorem run_forL {α : Type} (xs : List α) (enc : α → Dt) (Inv : List α → Dst → Led → Prop) (hi : Iz F p M δ wi fun ds => ds = xs.map enc) (h0 : Inv [] δ M)
    (hs : ∀ pre x post δ1 M1, xs = pre ++ x :: post → Inv pre δ1 M1 → ∃ δ2, BindD g (enc x) δ1 δ2 vs ∧ Run F p tb δ2 M1 (Inv (pre ++ [x])) R) (hd : ∀ δ1 M1, Inv xs δ1 M1 → N δ1 M1) : Run F p (tFor wi g tb) δ M N R := by
  refine run_for (vs := vs) hi (fun ds i δ1 M1 => Inv (xs.take i) δ1 M1) (fun ds e => h0) ?_ ?_
  · intro ds i d δ1 M1 e hd' hI
    subst e
    rw [List.getElem?_map] at hd'
    obtain ⟨x, e1, e2⟩ := Option.map_eq_some_iff.mp hd'
    subst e2
    obtain ⟨hi', e3⟩ := List.getElem?_eq_some_iff.mp e1
    have e4 : xs = xs.take i ++ x :: xs.drop (i + 1) := by
      rw [← e3, List.getElem_cons_drop, List.take_append_drop]
    have e5 : xs.take (i + 1) = xs.take i ++ [x] := by rw [List.take_add_one, e1]; rfl
    obtain ⟨δ2, h1, h2⟩ := hs (xs.take i) x (xs.drop (i + 1)) δ1 M1 e4 hI
    exact ⟨δ2, h1, h2.imp (fun d m q => by rw [e5]; exact q) fun _ _ q => q⟩
  · intro ds δ1 M1 e hI
    subst e
    rw [List.length_map, List.take_length] at hI
    exact hd δ1 M1 hI
end
end Rt
end

section
set_option Elab.async false
set_option linter.all false
set_option maxRecDepth 100000
set_option maxHeartbeats 4000000

namespace Rt
open PySem PySem.Spec PyProof.Rows L2 Ab C8
local macro_rules | `(tactic| walk_at "rv") => `(tactic| first
  | exact rv_I0i | exact rv_I0b | exact rv_eqI | exact rv_eqS | exact rv_neI | exact rv_neS | exact rv_eqB | exact rv_inS (t := .t) | exact rv_inS (t := .l) | exact rv_inI (t := .t) | exact rv_inI (t := .l) | exact rv_ninS (t := .t) | exact rv_ninS (t := .l) | exact rv_ninI (t := .t) | exact rv_ninI (t := .l) | exact rv_isN rfl | exact rv_notN rfl | exact rv_eqTI | exact rv_neTI | exact rv_eqLI | exact rv_neTS | exact rv_eqLTS | exact rv_neLTI | exact rv_sign)
local macro_rules | `(tactic| walk_at "ev") => `(tactic| first
  | exact ev_var rfl | exact ev_int | exact ev_str | exact ev_bl | exact ev_non | exact ev_ty | exact ea_nil | exact et_yes
  | ((with_reducible refine ev_op ?_ ?_ ?_) <;> walk_at "ev")
  | ((with_reducible refine ea_cons ?_ ?_) <;> walk_at "ev")
  | ((with_reducible refine ev_and ?_ ?_) <;> walk_at "ev")
  | ((with_reducible refine ev_or ?_ ?_) <;> walk_at "ev")
  | (with_reducible refine ev_not ?_; walk_at "ev")
  | (with_reducible refine ev_tup ?_; walk_at "ev")
  | (with_reducible refine ev_lst ?_; walk_at "ev")
  | (with_reducible refine et_not ?_; walk_at "ev")
  | ((with_reducible refine et_and ?_ ?_) <;> walk_at "ev")
  | ((with_reducible refine et_or ?_ ?_) <;> walk_at "ev")
  | (with_reducible refine et_test ?_; walk_at "ev")
  | (with_reducible refine et_B ?_; walk_at "ev")
  | (with_reducible refine fun (_ : _ = _) => ?_; walk_at "ev")
  | walk_at "rv"
  | skip)


def encWI (x : Str × Bool) : Dt := .tup [.str x.1, .bl x.2]
def sides : List (Str × Bool) := [("take", false), ("give", true)]
def Bk.side (b : Bk) (m : Nat) (x : Str × Bool) : List ((Str × Str) × Nat) := (b.stepsOf m x.2).map fun s => ((x.1, s), m ^^^ b.bit s)
theorem Bk.nbrs_side (b : Bk) (m : Nat) : b.nbrs m = sides.flatMap (b.side m) := by
  show _ = b.side m _ ++ (b.side m _ ++ [])
  rw [List.append_nil]
  rfl
theorem Bk.side_len (b : Bk) (m : Nat) (x : Str × Bool) : (b.side m x).length ≤ b.names.length := by
  unfold Bk.side Bk.stepsOf
  rw [List.length_map]
  exact List.length_filter_le _ _

section
variable {P : Program} {w : World} {K : PySem.W.Frag} {mg : Str → Option Value} {base : Heap}

def n_neighbours_of : List Str := ["book", "mask", "found", "word", "is_in", "name", "bit"]
def p_neighbours_of : List Str := ["book", "mask"]
theorem sc_neighbours_of : FnScope n_neighbours_of p_neighbours_of (defScope s_neighbours_of) := ⟨rfl, rfl, rfl, by decide +kernel, rfl, by decide +kernel, by decide +kernel⟩
def R_neighbours_of (K : PySem.W.Frag) : List Dt → Dt → Prop := fun ds d => ∃ b : Bk, ∃ m : Nat, ds = [bkD (BC K) b, natD m] ∧ b.Ok ∧ d = .lst ((b.nbrs m).map encSt)
theorem c_neighbours_of (T : Tx K mg) : C8.Cal P w K mg base 4 "neighbours_of" (SpD (R_neighbours_of K)) [] := by
  obtain ⟨fd, F⟩ := T.f_neighbours_of
  have c_does_hold := c_does_hold (P := P) (w := w) (base := base) T
  refine cal F T.g_neighbours_of sc_neighbours_of (fun _ _ _ _ _ _ us hl => match us, hl with | [_, _], _ => rfl) (spD_len (n := 2) (by rintro _ _ ⟨_, _, rfl, _⟩; rfl)) fun cdv A outer s H E hr => ⟨_, (pss_cons (ps_set (i := 2) sc_neighbours_of.nd rfl (Or.inl rfl) (pe_lst pa_nil)) (pss_cons (ps_for PassesOwn.never rfl (Kr.seq (K := K) rfl (pe_tup (pa_cons (pe_tup (pa_cons pe_str (pa_cons pe_bl pa_nil))) (pa_cons (pe_tup (pa_cons pe_str (pa_cons pe_bl pa_nil))) pa_nil)))) (Kr.tup (K := K) (n := 2) rfl rfl (pgs_cons (pg_name (i := 3) sc_neighbours_of.nd rfl (by first | exact Or.inl rfl | exact Or.inr rfl)) (pgs_cons (pg_name (i := 4) sc_neighbours_of.nd rfl (by first | exact Or.inl rfl | exact Or.inr rfl)) pgs_nil))) (pss_one (ps_for PassesOwn.never rfl (Kr.seq (K := K) rfl (Kr.fld (K := K) rfl (pv 0))) (pg_name (i := 5) sc_neighbours_of.nd rfl (by first | exact Or.inl rfl | exact Or.inr rfl)) (pss_cons (ps_set (i := 6) sc_neighbours_of.nd rfl (Or.inl rfl) (pe_dget (hu_of hr) (Kr.fld (K := K) rfl (pv 0)) (pv 5) (fun _ _ => rfl))) (pss_one (ps_if (PW.pt (pw_and (pt_cmpR op_eq (pe_cmpR op_gt (pe_op op_and (pv 1) (pv 6)) pe_int (nomark _)) (pv 4) (nomark _)) (pw_and1 (pt_val (pe_c c_does_hold hr (by decide) (by rfl) (pa_cons (pv 0) (pa_cons (pe_op op_xor (pv 1) (pv 6)) pa_nil))))))) (pss_one (ps_expr (Kr.bm (K := K) rfl PySem.F.plainAttrs_list PySem.F.slot_list_append PySem.F.type_list_append mt_append (pv 2) (pa_cons (pe_tup (pa_cons (pe_tup (pa_cons (pv 3) (pa_cons (pv 5) pa_nil))) (pa_cons (pe_op op_xor (pv 1) (pv 6)) pa_nil))) pa_nil)))) pss_nil)))))) (pss_one (ps_ret (pv 2))))), ?_⟩
  intro vs Q h
  refine spD_of (N := n_neighbours_of) (fun ds d hR => ?_) h
  obtain ⟨b, m, rfl, ok, rfl⟩ := hR
  have hnl := ok.nlen
  refine run_seq (run_own fun a _ => ?_)
  refine run_seq (run_forL (vs := [3, 4]) sides encWI (fun pre δ M => ∃ o3 o4 o5 o6, δ = [some (bkD (BC K) b), some (natD m), some (.adr a), o3, o4, o5, o6] ∧ M = updM noM a (.lst ((pre.flatMap (b.side m)).map encSt)) ∧ (pre.flatMap (b.side m)).length ≤ 5 * pre.length) (iz_of (ei_tup ?_)) ⟨none, none, none, none, rfl, rfl, Nat.le_refl _⟩ ?_ ?_)
  · refine ev_tup (xs := [.tup [.str "take", .bl false], .tup [.str "give", .bl true]]) ?_
    walk_at "ev"
  · rintro pre x post δ1 M1 hx ⟨o3, o4, o5, o6, rfl, rfl, hl⟩
    have hpl : pre.length ≤ 2 := by
      have := congrArg List.length hx
      simp [sides] at this
      omega
    refine ⟨_, bind_tup (bind_cons bind_name (bind_cons bind_name bind_nil)), ?_⟩
    refine run_forL (vs := [5]) b.names Dt.str (fun q δ M => ∃ o5 o6, δ = [some (bkD (BC K) b), some (natD m), some (.adr a), some (.str x.1), some (.bl x.2), o5, o6] ∧ M = updM noM a (.lst (((pre.flatMap (b.side m)) ++ ((q.filter fun s => decide (decide ((0 : Int) < ((m &&& b.bit s : Nat) : Int)) = x.2) && b.doesHold (m ^^^ b.bit s)).map fun s => ((x.1, s), m ^^^ b.bit s))).map encSt))) (iz_of (ei_lst (f_names T (ev_var rfl)))) ⟨o5, o6, rfl, by simp⟩ ?_ ?_
    · rintro q s post2 δ2 M2 hs ⟨o5, o6, rfl, rfl⟩
      have hsm : s ∈ b.names := by rw [hs]; simp
      have hql : q.length ≤ 5 := by
        have := congrArg List.length hs
        simp at this
        omega
      refine ⟨_, bind_name, ?_⟩
      refine run_setD (d := natD (b.bit s)) (ev_bit T ok (ev_var rfl) (ev_var rfl) hsm) ?_
      refine run_if (B := fun c => c = (decide (decide ((0 : Int) < ((m &&& b.bit s : Nat) : Int)) = x.2) && b.doesHold (m ^^^ b.bit s))) (tz_of (et_and (et_test (ev_op (x := .bl (decide ((0 : Int) < ((m &&& b.bit s : Nat) : Int)))) (y := .bl x.2) (ev_op (x := natD (m &&& b.bit s)) (y := .int 0) (ev_op (ev_var rfl) (ev_var rfl) rv_and) ev_int rv_I0b) (ev_var rfl) rv_eqB)) (fun _ => et_B (ev_call (ds := [bkD (BC K) b, natD (m ^^^ b.bit s)]) (ea_cons (ev_var rfl) (ea_cons (ev_op (ev_var rfl) (ev_var rfl) rv_xor) ea_nil)) ⟨b, _, rfl, ok, rfl⟩)))) (fun e => ?_) (fun e => run_next ?_)
      · refine run_append (a := a) (P := fun d => d = encSt ((x.1, s), m ^^^ b.bit s)) rfl updM_same ?_ (ez_of (ev_tup (ea_cons (ev_tup (ea_cons (ev_var rfl) (ea_cons (ev_var rfl) ea_nil))) (ea_cons (ev_op (ev_var rfl) (ev_var rfl) rv_xor) ea_nil)))) (fun d e2 => ⟨_, _, rfl, ?_⟩)
        · rw [List.length_map, List.length_append, List.length_map]
          have := List.length_filter_le (fun s => decide (decide ((0 : Int) < ((m &&& b.bit s : Nat) : Int)) = x.2) && b.doesHold (m ^^^ b.bit s)) q
          omega
        · rw [updM_updM, e2, List.filter_append, List.filter_cons_of_pos (by exact e.symm), List.filter_nil, List.map_append (l₁ := q.filter _), ← List.append_assoc, List.map_append (l₂ := [s].map _)]
          rfl
      · refine ⟨_, _, rfl, ?_⟩
        rw [List.filter_append, List.filter_cons_of_neg (by rw [← e]; exact Bool.false_ne_true), List.filter_nil, List.append_nil]
    · rintro δ2 M2 ⟨o5, o6, rfl, rfl⟩
      refine ⟨_, _, o5, o6, rfl, ?_, ?_⟩
      · rw [List.flatMap_append, show [x].flatMap (b.side m) = b.side m x from List.append_nil _]
        rfl
      · rw [List.flatMap_append, List.length_append, show [x].flatMap (b.side m) = b.side m x from List.append_nil _, List.length_append, List.length_singleton]
        have := b.side_len m x
        omega
  · rintro δ1 M1 ⟨o3, o4, o5, o6, rfl, rfl, _⟩
    refine run_retO (a := a) rfl updM_same (fun z => z) ?_
    rw [b.nbrs_side]
end
end Rt
end

section
set_option Elab.async false
set_option linter.all false
set_option maxRecDepth 100000
set_option maxHeartbeats 4000000

namespace Rt
open PySem PySem.Spec PyProof.Rows L2 Ab C8
local macro_rules | `(tactic| walk_at "rv") => `(tactic| first
  | exact rv_I0i | exact rv_I0b | exact rv_eqI | exact rv_eqS | exact rv_neI | exact rv_neS | exact rv_eqB | exact rv_inS (t := .t) | exact rv_inS (t := .l) | exact rv_inI (t := .t) | exact rv_inI (t := .l) | exact rv_ninS (t := .t) | exact rv_ninS (t := .l) | exact rv_ninI (t := .t) | exact rv_ninI (t := .l) | exact rv_isN rfl | exact rv_notN rfl | exact rv_eqTI | exact rv_neTI | exact rv_eqLI | exact rv_neTS | exact rv_eqLTS | exact rv_neLTI | exact rv_sign)
local macro_rules | `(tactic| walk_at "ev") => `(tactic| first
  | exact ev_var rfl | exact ev_int | exact ev_str | exact ev_bl | exact ev_non | exact ev_ty | exact ea_nil | exact et_yes
  | ((with_reducible refine ev_op ?_ ?_ ?_) <;> walk_at "ev")
  | ((with_reducible refine ea_cons ?_ ?_) <;> walk_at "ev")
  | ((with_reducible refine ev_and ?_ ?_) <;> walk_at "ev")
  | ((with_reducible refine ev_or ?_ ?_) <;> walk_at "ev")
  | (with_reducible refine ev_not ?_; walk_at "ev")
  | (with_reducible refine ev_tup ?_; walk_at "ev")
  | (with_reducible refine ev_lst ?_; walk_at "ev")
  | (with_reducible refine et_not ?_; walk_at "ev")
  | ((with_reducible refine et_and ?_ ?_) <;> walk_at "ev")
  | ((with_reducible refine et_or ?_ ?_) <;> walk_at "ev")
  | (with_reducible refine et_test ?_; walk_at "ev")
  | (with_reducible refine et_B ?_; walk_at "ev")
  | (with_reducible refine fun (_ : _ = _) => ?_; walk_at "ev")
  | walk_at "rv"
  | skip)


theorem Bk.nb_lt (b : Bk) (o : b.Ok) {m : Nat} (h : m < 32) : ∀ y ∈ b.nb m, y < 32 := by
  intro y hy
  have h1 : ∀ s ∈ b.names, m ^^^ b.bit s < 32 := fun s hs => by
    have h2 : b.bit s < 2 ^ 5 := by
      unfold Bk.bit
      have := List.idxOf_lt_length_of_mem hs
      have h5 := o.nlen
      exact Nat.pow_lt_pow_right (by omega) (by omega)
    exact Nat.xor_lt_two_pow (n := 5) h h2
  obtain ⟨x, hx, rfl⟩ := List.mem_map.mp hy
  rcases List.mem_append.mp hx with q | q
  · obtain ⟨s, hs, rfl⟩ := List.mem_map.mp q
    exact h1 s (List.mem_filter.mp hs).1
  · obtain ⟨s, hs, rfl⟩ := List.mem_map.mp q
    exact h1 s (List.mem_filter.mp hs).1
theorem Bk.nbrs_len (b : Bk) (o : b.Ok) (m : Nat) : (b.nbrs m).length ≤ 10 := by
  have h1 := List.length_filter_le (fun s => decide (decide ((0 : Int) < ((m &&& b.bit s : Nat) : Int)) = false) && b.doesHold (m ^^^ b.bit s)) b.names
  have h2 := List.length_filter_le (fun s => decide (decide ((0 : Int) < ((m &&& b.bit s : Nat) : Int)) = true) && b.doesHold (m ^^^ b.bit s)) b.names
  have h5 := o.nlen
  show ((List.map _ (List.filter _ b.names)) ++ (List.map _ (List.filter _ b.names))).length ≤ 10
  rw [List.length_append, List.length_map, List.length_map]
  omega
theorem lk_inl {ks : List (Key × Dt)} {l : List Nat} (h : ks.map (·.1) = l.map fun m => Sum.inl ((m : Nat) : Int)) (y : Nat) : (lkG ks (Sum.inl (y : Int))).isSome = decide (y ∈ l) := by
  by_cases q : y ∈ l
  · have h1 : (Sum.inl ((y : Nat) : Int) : Key) ∈ ks.map (·.1) := by rw [h]; exact List.mem_map.mpr ⟨y, q, rfl⟩
    rw [decide_eq_true q]
    cases z : lkG ks (Sum.inl (y : Int)) with
    | some x => rfl
    | none =>
      exfalso
      obtain ⟨x, h2, h3⟩ := List.mem_map.mp h1
      unfold lkG at z
      rw [Option.map_eq_none_iff, List.find?_eq_none] at z
      exact z x h2 (decide_eq_true h3)
  · rw [decide_eq_false q, lkG_none]
    · rfl
    · rw [h]
      intro z
      obtain ⟨m, h1, h2⟩ := List.mem_map.mp z
      have h3 : (m : Int) = (y : Int) := Sum.inl.inj h2
      exact q (by rw [← show m = y from by omega]; exact h1)
/-- what a loop keeps -/
structure PtI (K : PySem.W.Frag) (b : Bk) (a d q : Addr) (l : List Nat) (M : Led) : Prop where
  ad : d ≠ a
  aq : q ≠ a
  dq : q ≠ d
  ma : M a = some (.ins (He.ga K "Part") [("book", bkD (BC K) b), ("came", .adr d)])
  md : ∃ ks : List (Key × Dt), M d = some (.dk ks) ∧ ks.map (·.1) = l.map fun m => Sum.inl ((m : Nat) : Int)
  mq : M q = some (.lst (l.map natD))
  nd : l.Nodup
  lt : ∀ x ∈ l, x < 32
theorem PtI.len {K : PySem.W.Frag} {b : Bk} {a d q : Addr} {l : List Nat} {M : Led} (I : PtI K b a d q l M) : l.length ≤ 32 := nodup_below 32 l I.nd I.lt

section
variable {P : Program} {w : World} {K : PySem.W.Frag} {mg : Str → Option Value} {base : Heap}

def n_p_init : List Str := ["self", "book", "first", "line", "at", "step", "later"]
def p_p_init : List Str := ["self", "book", "first"]
theorem sc_p_init : FnScope n_p_init p_p_init (defScope s_p_init) := ⟨rfl, rfl, rfl, by decide +kernel, rfl, by decide +kernel, by decide +kernel⟩
def R_p_init (K : PySem.W.Frag) : List Dt → (List (Str × Dt) → Prop) → Prop := fun ds G => ∃ b : Bk, ds = [bkD (BC K) b, natD 0] ∧ b.Ok ∧ G = fun gs => ∃ ks : List (Key × Dt), gs.lookup ("came" : Str) = some (Dt.fk ks) ∧ ks.map (·.1) = b.reach.map fun m => Sum.inl ((m : Nat) : Int)
theorem c_Part (T : Tx K mg) : C8.Mak P w K mg base 5 "Part" (He.ga K "Part") (SpI (He.ga K "Part") (R_p_init K)) [] := by
  obtain ⟨fd, F⟩ := T.f_p_init
  have c_neighbours_of := c_neighbours_of (P := P) (w := w) (base := base) T
  refine mak T.mk_Part T.g_Part F sc_p_init (fun _ _ _ _ _ _ us hl => match us, hl with | [_, _, _], _ => rfl) (spI_len (n := 3) (by rintro _ _ ⟨_, rfl, _⟩; rfl)) fun cdv A outer s H E hr => ⟨_, (pss_cons (ps_fld (pv 0) (pv 1) rfl) (pss_cons (ps_fld (pv 0) (pe_disp (pps_cons (pv 2) pe_non pps_nil) (by rfl) (by rfl) (fun z => by cases z) (by decide)) rfl) (pss_cons (ps_par (i := 3) (j := 4) (by rfl) sc_p_init.nd rfl rfl (by decide) rfl rfl (pa_cons (pe_lst (pa_cons (pv 2) pa_nil)) (pa_cons pe_int pa_nil)) (by rfl)) (pss_one (Cr.ps_endL (ps_while PassesOwn.never (pt_cmpR op_lt (pv 4) (pe_callB (Kr.len (K := K) rfl) (by rfl) T.n_len (by decide +kernel) (pa_cons (pv 3) pa_nil)) (nomark _)) (pss_cons (ps_for PassesOwn.never rfl (Kr.seq (K := K) rfl (pe_c c_neighbours_of hr (by decide) (by rfl) (pa_cons (pv 1) (pa_cons (pe_ix (Kr.ix (K := K) rfl) (pv 3) (pv 4) (fun _ _ => rfl)) pa_nil)))) (Kr.tup (K := K) (n := 2) rfl rfl (pgs_cons (pg_name (i := 5) sc_p_init.nd rfl (by first | exact Or.inl rfl | exact Or.inr rfl)) (pgs_cons (pg_name (i := 6) sc_p_init.nd rfl (by first | exact Or.inl rfl | exact Or.inr rfl)) pgs_nil))) (pss_one (ps_if (pt_cmp (pc_dnotin (hu_of hr) (pv 6) (Kr.fld (K := K) rfl (pv 0)))) (pss_cons (ps_dput (hu_of hr) (Kr.fld (K := K) rfl (pv 0)) (pv 6) (pe_tup (pa_cons (pe_ix (Kr.ix (K := K) rfl) (pv 3) (pv 4) (fun _ _ => rfl)) (pa_cons (pv 5) pa_nil))) rfl) (pss_one (ps_expr (Kr.bm (K := K) rfl PySem.F.plainAttrs_list PySem.F.slot_list_append PySem.F.type_list_append mt_append (pv 3) (pa_cons (pv 6) pa_nil))))) pss_nil))) (pss_one (ps_aug (i := 4) sc_p_init.nd rfl (Or.inl rfl) pe_int ip_add))))))))), ?_⟩
  intro vs Q h
  refine spI_of (N := n_p_init) (fun a ds G hR => ?_) h
  obtain ⟨b, rfl, ok, rfl⟩ := hR
  refine run_seq (run_sfld (a := a) rfl updM_same (by decide) T.c_Part T.a_book (ez_of (ev_var (d := bkD (BC K) b) rfl)) fun x e => ?_)
  subst e
  rw [updM_updM]
  refine run_seq (run_sfld_disp (a := a) (kd := [(Sum.inl 0, .non)]) rfl updM_same (by show 1 < 1000; decide) T.c_Part T.a_came (eps_cons (a := natD 0) (ev_var rfl) ev_non eps_nil) rfl (by decide) fun d hd ne => ?_)
  refine run_seq (run_parL (ds := [natD 0]) (e := .int 0) (ea_cons (ev_var rfl) ea_nil) ev_int (by decide) fun q hq => ?_)
  have hqa : q ≠ a := fun z => by rw [z, updM_same] at hq; cases hq
  have hqd : q ≠ d := fun z => by rw [z, updM_ne ne, updM_same] at hq; cases hq
  refine run_pubK (C := He.ga K "Part") (a := a) (f := "came") ?_
  refine run_while (fun k δ M => ∃ l i o5 o6, δ = [some (.adr a), some (bkD (BC K) b), some (natD 0), some (.adr q), some (natD i), o5, o6] ∧ PtI K b a d q l M ∧ bfs b.nb (64 - i) l i = b.reach ∧ k = 64 - i) (m0 := 64) ⟨[0], 0, none, none, rfl, ⟨ne, hqa, hqd, ?_, ⟨[(Sum.inl 0, .non)], ?_, rfl⟩, updM_same, by decide, by simp⟩, rfl, rfl⟩ ?_
  · rw [updM_ne hqa.symm, updM_same]
    rfl
  · rw [updM_ne hqd.symm, updM_ne ne, updM_same]
    rfl
  rintro k δ M ⟨l, i, o5, o6, rfl, I, hb, rfl⟩
  have hl := I.len
  refine ⟨fun c => c = decide ((i : Int) < ((l.map natD).length : Nat)), tz_fz (Fz.refl.set (i := 3) rfl I.mq) (et_test (ev_op (x := natD i) (y := .int ((l.map natD).length : Nat)) (ev_var rfl) (ev_cb (xs := [seqD .l (l.map natD)]) (ea_cons (ev_var rfl) ea_nil) rc_len) rv_I0b)), fun hc => ?_, fun hc => ?_⟩
  · have hi : i < l.length := by
      have := of_decide_eq_true hc.symm
      rw [List.length_map] at this
      omega
    have hx := List.getElem?_eq_getElem hi
    generalize hxm : l[i] = m at hx
    have hm32 : m < 32 := I.lt m (by rw [← hxm]; exact List.getElem_mem hi)
    have e64 : 64 - i = (64 - (i + 1)) + 1 := by omega
    rw [e64, bfs_step hx] at hb
    refine run_seq (run_forL (vs := [5, 6]) (b.nbrs m) encSt (fun pre δ M => ∃ o5 o6, δ = [some (.adr a), some (bkD (BC K) b), some (natD 0), some (.adr q), some (natD i), o5, o6] ∧ PtI K b a d q (bfsIn l (pre.map (·.2))) M) (iz_seq ((ez_call (R := R_neighbours_of K) (P := fun x => x = .lst ((b.nbrs m).map encSt)) (eza_cons (ez_of (ev_var (d := bkD (BC K) b) rfl)) (eza_cons (ez_fz (P := fun x => x = natD m) (Fz.refl.set (i := 3) rfl I.mq) (ev_op (ev_var rfl) (ev_var rfl) (rv_ix (t := .l) (atI_map hx))) (fun x e => Sep.flat (.inl (by rw [e]; exact fun z => nomatch z)))) eza_nil)) (fun ds hds => ?_)).imp fun x e => ⟨.l, _, rfl, e⟩)) ⟨o5, o6, rfl, I⟩ ?_ ?_)
    · obtain ⟨d1, es, e1, ⟨d2, es2, e2, e3, e4⟩, e5⟩ := hds
      exact ⟨_, ⟨b, m, by rw [e5, e4, e3, e1, e2], ok, rfl⟩, rfl⟩
    · rintro pre x post δ1 M1 hs ⟨p5, p6, rfl, I1⟩
      refine ⟨_, bind_tup (ds := [.tup [.str x.1.1, .str x.1.2], natD x.2]) (bind_cons bind_name (bind_cons bind_name bind_nil)), ?_⟩
      obtain ⟨ks, hk1, hk2⟩ := I1.md
      have hl1 := I1.len
      have hkl : ks.length = (bfsIn l (pre.map (·.2))).length := by
        have := congrArg List.length hk2
        rw [List.length_map, List.length_map] at this
        exact this
      have hstep : bfsIn l ((pre ++ [x]).map (·.2)) = if x.2 ∈ bfsIn l (pre.map (·.2)) then bfsIn l (pre.map (·.2)) else bfsIn l (pre.map (·.2)) ++ [x.2] := by
        rw [List.map_append]
        exact bfsIn_snoc l (pre.map (·.2)) x.2
      have hx32 : x.2 < 32 := b.nb_lt ok hm32 x.2 (List.mem_map.mpr ⟨x, by rw [hs]; simp, rfl⟩)
      refine run_if (tz_nin_fld (key := Sum.inl (x.2 : Int)) (kd := natD x.2) rfl I1.ma T.c_Part T.a_came rfl hk1 rfl rfl) (fun hc2 => ?_) (fun hc2 => run_next ?_)
      · rw [lk_inl hk2] at hc2
        have hnm : x.2 ∉ bfsIn l (pre.map (·.2)) := by
          intro z
          rw [decide_eq_true z] at hc2
          cases hc2
        refine run_seq (run_put_fld (key := Sum.inl (x.2 : Int)) (kd := natD x.2) (P := fun y => y = .tup [natD m, .tup [.str x.1.1, .str x.1.2]]) rfl I1.ma T.c_Part T.a_came rfl hk1 rfl rfl (by omega) (ez_fz (Fz.refl.set (i := 3) rfl I1.mq) (ev_tup (ea_cons (ev_op (ev_var rfl) (ev_var rfl) (rv_ix (t := .l) (atI_map (bfsIn_get hx)))) (ea_cons (ev_var rfl) ea_nil))) (fun y e => Sep.tt (by rw [e]; exact .tup (.cons (.int _) (.cons (.tup (.cons (.str _) (.cons (.str _) .nil))) .nil))))) fun y e => ?_)
        refine run_append (a := q) (P := fun y => y = natD x.2) rfl (by rw [updM_ne I1.dq]; exact I1.mq) (by rw [List.length_map]; omega) (ez_of (ev_var rfl)) fun z ez => ?_
        subst ez
        refine ⟨_, _, rfl, ?_⟩
        rw [hstep, if_neg hnm]
        have hk3 : putG ks (Sum.inl (x.2 : Int)) y = ks ++ [(Sum.inl (x.2 : Int), y)] := putG_new (by
          rw [hk2]
          intro z
          obtain ⟨m', h1, h2⟩ := List.mem_map.mp z
          have h3 : (m' : Int) = (x.2 : Int) := Sum.inl.inj h2
          exact hnm (by rw [← show m' = x.2 from by omega]; exact h1))
        refine ⟨I1.ad, I1.aq, I1.dq, ?_, ⟨_, by rw [updM_ne I1.dq.symm, updM_same], ?_⟩, ?_, ?_, ?_⟩
        · rw [updM_ne I1.aq.symm, updM_ne I1.ad.symm]
          exact I1.ma
        · rw [hk3, List.map_append, hk2, List.map_append]
          rfl
        · rw [updM_same, List.map_append]
          rfl
        · have := bfsIn_nodup [x.2] (bfsIn l (pre.map (·.2))) I1.nd
          rw [show bfsIn (bfsIn l (pre.map (·.2))) [x.2] = (if x.2 ∈ bfsIn l (pre.map (·.2)) then bfsIn l (pre.map (·.2)) else bfsIn l (pre.map (·.2)) ++ [x.2]) from rfl, if_neg hnm] at this
          exact this
        · intro z hz
          rcases List.mem_append.mp hz with h | h
          · exact I1.lt z h
          · rw [List.mem_singleton.mp h]; exact hx32
      · rw [lk_inl hk2] at hc2
        have hnm : x.2 ∈ bfsIn l (pre.map (·.2)) := by
          by_cases z : x.2 ∈ bfsIn l (pre.map (·.2))
          · exact z
          · rw [decide_eq_false z] at hc2
            cases hc2
        refine ⟨_, _, rfl, ?_⟩
        rw [hstep, if_pos hnm]
        exact I1
    · rintro δ1 M1 ⟨p5, p6, rfl, I1⟩
      refine run_aug (x := (i : Int)) (y := 1) rfl ev_int ?_
      exact ⟨64 - (i + 1), by omega, _, i + 1, p5, p6, rfl, I1, hb, rfl⟩
  · have hi : l.length ≤ i := by
      have := of_decide_eq_false hc.symm
      rw [List.length_map] at this
      omega
    rw [bfs_end hi] at hb
    obtain ⟨ks, hk1, hk2⟩ := I.md
    refine ⟨_, d, _, I.ma, rfl, hk1, I.ad, I.ad, _, updM_same, ks, rfl, ?_⟩
    rw [← hb]
    exact hk2
def n_reached_masks : List Str := ["book"]
def p_reached_masks : List Str := ["book"]
theorem sc_reached_masks : FnScope n_reached_masks p_reached_masks (defScope s_reached_masks) := ⟨rfl, rfl, rfl, by decide +kernel, rfl, by decide +kernel, by decide +kernel⟩
def R_reached_masks (K : PySem.W.Frag) : List Dt → (Dt → Prop) → Prop := fun ds P => ∃ b : Bk, ds = [bkD (BC K) b] ∧ b.Ok ∧ P = fun d => ∃ ks : List (Key × Dt), d = .fk ks ∧ ks.map (·.1) = b.reach.map fun m => Sum.inl ((m : Nat) : Int)
theorem c_reached_masks (T : Tx K mg) : C8.Cal P w K mg base 7 "reached_masks" (SpN (R_reached_masks K)) [] := by
  obtain ⟨fd, F⟩ := T.f_reached_masks
  have c_Part := c_Part (P := P) (w := w) (base := base) T
  refine cal F T.g_reached_masks sc_reached_masks (fun _ _ _ _ _ _ us hl => match us, hl with | [_], _ => rfl) (spN_len (n := 1) (by first | (rintro _ _ ⟨_, rfl, _⟩; rfl))) fun cdv A outer s H E hr => ⟨_, (pss_one (ps_ret (Kr.fld (K := K) rfl (pe_mk c_Part hr (by decide) (by rfl) (pa_cons (pv 0) (pa_cons pe_int pa_nil)))))), ?_⟩
  intro vs Q h
  refine spN_of (N := n_reached_masks) (fun ds P hR => ?_) h
  obtain ⟨b, rfl, ok, rfl⟩ := hR
  refine run_ret (ez_of (P := fun d => ∃ ks : List (Key × Dt), d = .fk ks ∧ ks.map (·.1) = b.reach.map fun m => Sum.inl ((m : Nat) : Int)) ?_) fun _ e => e
  refine evp_fld (evp_make (G := fun gs => ∃ ks : List (Key × Dt), gs.lookup ("came" : Str) = some (Dt.fk ks) ∧ ks.map (·.1) = b.reach.map fun m => Sum.inl ((m : Nat) : Int)) (ds := [bkD (BC K) b, natD 0]) (ea_cons (ev_var rfl) (ea_cons ev_int ea_nil)) ⟨b, rfl, ok, rfl⟩) T.c_Part T.a_came fun gs h => ?_
  obtain ⟨ks, h1, h2⟩ := h
  exact ⟨_, h1, ks, rfl, h2⟩
end
end Rt
end

section
set_option Elab.async false
set_option linter.all false
set_option maxRecDepth 100000
set_option maxHeartbeats 4000000
namespace Rt
open PySem PySem.Spec PyProof.Rows L2 Ab C8
section
variable {F : Addr → Prop} {p : Option Addr} {M : Led} {δ : Dst} {te : TE} {ta : TA} {i : Nat} {a : Addr} {N : Dst → Led → Prop} {R : Dt → Led → Prop} {K : PySem.W.Frag} {d : Dt} {ds es : List Dt} {u : TS}
theorem run_appD (hi : δ[i]? = some (some (.adr a))) (hm : M a = some (.lst ds)) (hl : ds.length < 100000) (h : EvD p te δ d) (k : N δ (updM M a (.lst (ds ++ [d])))) : Run F p (tDrop (tBM K "list" rAppend (tVar i) (tCons te tNil))) δ M N R := run_append hi hm hl (ez_of h) fun e q => by rw [q]; exact k
theorem run_extD (hi : δ[i]? = some (some (.adr a))) (hm : M a = some (.lst ds)) (hl : ds.length < 50000) (hl2 : es.length < 50000) (h : EvD p te δ (.lst es)) (k : N δ (updM M a (.lst (ds ++ es)))) : Run F p (tDrop (tBM K "list" rExtend (tVar i) (tCons te tNil))) δ M N R :=
  run_extend (P := fun x => x = .lst es) hi hm hl (ez_of (h.imp fun x e => ⟨es, rfl, hl2, e⟩)) fun es' e => by cases e; exact k
/-- name = [e, ..], owned -/
theorem run_ownL (h : EvAD p ta δ ds) (hl : ds.length ≤ 1000) (k : ∀ a, M a = none → N (δ.set i (some (.adr a))) (updM M a (.lst ds))) : Run F p (tAsg (tLst ta) (gName i)) δ M N R := fun hF A0 B0 Hk σ H D s nx rt =>
  h σ Hk H s.st s.gr.kh s.po _ fun vs es H1k H1 g1 o1 e1 r1 => ⟨by rw [r1.length, e1]; exact szL (by omega), fun q hq => by
    subst e1
    obtain ⟨hm, s2⟩ := (s.step g1 o1 hF).own hq (o := .lst vs) (d := .lst _) ⟨vs, upd_same, r1⟩
    exact nx _ _ H1k _ _ (k q hm) (s2.set i (.adr q)) g1.kk⟩
end
theorem num_true {lo i hi : Int} (h : lo ≤ i ∧ i ≤ hi) : Dt.bl (decide (lo ≤ i) && decide (i ≤ hi)) = .bl true := by rw [decide_eq_true h.1, decide_eq_true h.2]; rfl
theorem srtS_perm (xs : List Str) : (srtS xs).Perm xs := by
  unfold srtS
  split
  · rename_i h
    exact h.choose_spec.1
  · exact .refl _
theorem rc_sortSD {p : Option Addr} {K : PySem.W.Frag} {xs : List Str} (hl : xs.length < 64) : RcD p (rSortedS K) [lstS xs] (lstS (srtS xs)) := fun us Hk H r k o Q q => rc_sortS hl us Hk H r k o Q fun v d Hk' H' g o' pd => q v d Hk' H' g o' pd.1
theorem srtI_same {ns : List Int} (h : ns.Pairwise (· ≤ ·)) : srtI ns = ns := (srtI_of (.refl _) h).symm
theorem keys_inr (ss : List Str) : (ss.map Sum.inr : List Key).map kD = ss.map Dt.str := by rw [List.map_map]; rfl
theorem keys_inl (ss : List Int) : (ss.map Sum.inl : List Key).map kD = ss.map Dt.int := by rw [List.map_map]; rfl
end Rt
end

section
set_option Elab.async false
set_option linter.all false
set_option maxRecDepth 100000
set_option maxHeartbeats 4000000

namespace Rt
open PySem PySem.Spec PyProof.Rows L2 Ab C8
local macro_rules | `(tactic| walk_at "rv") => `(tactic| first
  | exact rv_I0i | exact rv_I0b | exact rv_eqI | exact rv_eqS | exact rv_neI | exact rv_neS | exact rv_eqB | exact rv_inS (t := .t) | exact rv_inS (t := .l) | exact rv_inI (t := .t) | exact rv_inI (t := .l) | exact rv_ninS (t := .t) | exact rv_ninS (t := .l) | exact rv_ninI (t := .t) | exact rv_ninI (t := .l) | exact rv_isN rfl | exact rv_notN rfl | exact rv_eqTI | exact rv_neTI | exact rv_eqLI | exact rv_neTS | exact rv_eqLTS | exact rv_neLTI | exact rv_sign)
local macro_rules | `(tactic| walk_at "ev") => `(tactic| first
  | exact ev_var rfl | exact ev_int | exact ev_str | exact ev_bl | exact ev_non | exact ev_ty | exact ea_nil | exact et_yes
  | ((with_reducible refine ev_op ?_ ?_ ?_) <;> walk_at "ev")
  | ((with_reducible refine ea_cons ?_ ?_) <;> walk_at "ev")
  | ((with_reducible refine ev_and ?_ ?_) <;> walk_at "ev")
  | ((with_reducible refine ev_or ?_ ?_) <;> walk_at "ev")
  | (with_reducible refine ev_not ?_; walk_at "ev")
  | (with_reducible refine ev_tup ?_; walk_at "ev")
  | (with_reducible refine ev_lst ?_; walk_at "ev")
  | (with_reducible refine et_not ?_; walk_at "ev")
  | ((with_reducible refine et_and ?_ ?_) <;> walk_at "ev")
  | ((with_reducible refine et_or ?_ ?_) <;> walk_at "ev")
  | (with_reducible refine et_test ?_; walk_at "ev")
  | (with_reducible refine et_B ?_; walk_at "ev")
  | (with_reducible refine fun (_ : _ = _) => ?_; walk_at "ev")
  | walk_at "rv"
  | skip)


theorem encSI_tup (xs : List (Str × Int)) : xs.map encSI = (xs.map fun x => [Dt.str x.1, Dt.int x.2]).map Dt.tup := by rw [List.map_map]; rfl
theorem encII_tup (xs : List (Int × Int)) : xs.map encII = (xs.map fun x => [Dt.int x.1, Dt.int x.2]).map Dt.tup := by rw [List.map_map]; rfl
theorem encSS_tup (xs : List (Str × Str)) : xs.map encSS = (xs.map fun x => [Dt.str x.1, Dt.str x.2]).map Dt.tup := by rw [List.map_map]; rfl
theorem dec_and {a b : Bool} (h : a = true) (h2 : b = true) : Dt.bl (a && b) = .bl true := by rw [h, h2]; rfl
theorem two_len {xs : List α} {f : α → List Dt} (h : ∀ x, (f x).length = 2) : ∀ y ∈ xs.map f, ((y.length : Nat) : Int) = 2 := fun y hy => by
  obtain ⟨x, _, rfl⟩ := List.mem_map.mp hy
  rw [h x]
  rfl

section
variable {P : Program} {w : World} {K : PySem.W.Frag} {mg : Str → Option Value} {base : Heap}

def n_are_skills : List Str := ["value", "tiers", "name", "tier"]
def p_are_skills : List Str := ["value"]
theorem sc_are_skills : FnScope n_are_skills p_are_skills (defScope s_are_skills) := ⟨rfl, rfl, rfl, by decide +kernel, rfl, by decide +kernel, by decide +kernel⟩
def R_are_skills : List Dt → Dt → Prop := fun ds d => ∃ t, ∃ b : Bk, ds = [seqD t (b.sk.map encSI)] ∧ b.Ok ∧ d = .bl true
theorem c_are_skills (T : Tx K mg) : C8.Cal P w K mg base 3 "are_skills" (SpD (R_are_skills)) [] := by
  obtain ⟨fd, F⟩ := T.f_are_skills
  have c_are_tuples := c_are_tuples (P := P) (w := w) (base := base) T
  have c_is_word := c_is_word (P := P) (w := w) (base := base) T
  have c_is_number := c_is_number (P := P) (w := w) (base := base) T
  have c_are_unlike := c_are_unlike (P := P) (w := w) (base := base) T
  refine cal F T.g_are_skills sc_are_skills (fun _ _ _ _ _ _ us hl => match us, hl with | [_], _ => rfl) (spD_len (n := 1) (by rintro _ _ ⟨_, _, rfl, _⟩; rfl)) fun cdv A outer s H E hr => ⟨_, (pss_cons (ps_if (PW.pt (pw_or (pt_not (pt_val (pe_c c_are_tuples hr (by decide) (by rfl) (pa_cons (pv 0) (pa_cons pe_int (pa_cons (pe_gc (by rfl) T.k_MOST_SKILLS) pa_nil)))))) (pw_or1 (pt_cmpR op_eq (pe_callB (Kr.len (K := K) rfl) (by rfl) T.n_len (by decide +kernel) (pa_cons (pv 0) pa_nil)) pe_int (nomark _))))) (pss_one (ps_ret pe_bl)) pss_nil) (pss_cons (ps_if (pt_not (pt_val (pe_callB (Kr.all (K := K) rfl) (by rfl) T.n_all (by decide +kernel) (pa_cons (pe_lc (own := [("name", 2), ("tier", 3)]) rfl sc_are_skills.nd (Kr.seq (K := K) rfl (pv 0)) (blkOk_by (own := [("name", 2), ("tier", 3)]) (N := n_are_skills) (sc := defScope s_are_skills) (by decide +kernel)) (fun _ _ _ _ _ => (Kr.tup (K := K) (n := 2) rfl rfl (pgs_cons (pg_name (i := 2) sc_are_skills.nd rfl (by first | exact Or.inl rfl | exact Or.inr rfl)) (pgs_cons (pg_name (i := 3) sc_are_skills.nd rfl (by first | exact Or.inl rfl | exact Or.inr rfl)) pgs_nil)))) (fun _ _ _ _ _ => pts_nil) (fun _ _ _ _ _ => (pe_and (pe_c c_is_word hr (by decide) (by rfl) (pa_cons (pv 2) pa_nil)) (pe_one (pe_c c_is_number hr (by decide) (by rfl) (pa_cons (pv 3) (pa_cons pe_int (pa_cons (pe_gc (by rfl) T.k_MOST_TIERS) pa_nil)))))))) pa_nil)))) (pss_one (ps_ret pe_bl)) pss_nil) (pss_cons (ps_setLc (i := 1) (own := [("name", 2), ("tier", 3)]) rfl sc_are_skills.nd rfl rfl (sw_true rfl rfl rfl (by decide +kernel)) (Kr.seq (K := K) rfl (pv 0)) (blkOk_by (own := [("name", 2), ("tier", 3)]) (N := n_are_skills) (sc := defScope s_are_skills) (by decide +kernel)) (fun _ _ _ _ _ => (Kr.tup (K := K) (n := 2) rfl rfl (pgs_cons (pg_name (i := 2) sc_are_skills.nd rfl (by first | exact Or.inl rfl | exact Or.inr rfl)) (pgs_cons (pg_name (i := 3) sc_are_skills.nd rfl (by first | exact Or.inl rfl | exact Or.inr rfl)) pgs_nil)))) (fun _ _ _ _ _ => pts_nil) (fun _ _ _ _ _ => (pe_callTy call_int1 (by rfl) T.n_int (by decide +kernel) (pa_cons (pv 3) pa_nil)))) (pss_one (ps_ret (pe_and (pe_c c_are_unlike hr (by decide) (by rfl) (pa_cons (pe_lc (own := [("name", 2), ("tier", 3)]) rfl sc_are_skills.nd (Kr.seq (K := K) rfl (pv 0)) (blkOk_by (own := [("name", 2), ("tier", 3)]) (N := n_are_skills) (sc := defScope s_are_skills) (by decide +kernel)) (fun _ _ _ _ _ => (Kr.tup (K := K) (n := 2) rfl rfl (pgs_cons (pg_name (i := 2) sc_are_skills.nd rfl (by first | exact Or.inl rfl | exact Or.inr rfl)) (pgs_cons (pg_name (i := 3) sc_are_skills.nd rfl (by first | exact Or.inl rfl | exact Or.inr rfl)) pgs_nil)))) (fun _ _ _ _ _ => pts_nil) (fun _ _ _ _ _ => (pv 2))) pa_nil)) (pe_one (pe_cmpR (Kr.eqP (K := K) rfl hr.units) (pv 1) (pe_callB (Kr.sorted (K := K) rfl) (by rfl) T.n_sorted (by decide +kernel) (pa_cons (pv 1) pa_nil)) (nomark _))))))))), ?_⟩
  intro vs Q h
  refine spD_of (N := n_are_skills) (fun ds d hR => ?_) h
  obtain ⟨t, b, rfl, ok, rfl⟩ := hR
  have hl := ok.len
  have hne : 0 < b.sk.length := List.length_pos_iff.mpr ok.ne
  refine run_skip ((et_or (a := false) (b := false) (et_not (a := true) (et_B (ev_call (ds := [seqD t (b.sk.map encSI), .int 2, .int 12]) ?_ ⟨t, b.sk.map fun x => [.str x.1, .int x.2], 2, 12, by rw [encSI_tup], by rw [List.length_map]; omega, by decide, two_len fun _ => rfl, rfl⟩))) (fun _ => (et_test (ev_op (x := .int ((b.sk.map encSI).length : Nat)) (y := .int 0) (ev_cb (xs := [seqD t (b.sk.map encSI)]) ?_ rc_len) ?_ rv_eqI)).eq ?_)).eq rfl) ?_
  · walk_at "ev"
  · walk_at "ev"
  · walk_at "ev"
  · rw [List.length_map]
    exact decide_eq_false (by omega)
  refine run_skip (et_not (a := true) (et_B (ev_cb (xs := [.lst (b.sk.map fun _ => .bl true)]) (ea_cons (ev_lc0 b.sk encSI (fun _ => .bl true) (ei_seq (t := t) (ev_var rfl)) (fun x hx => ⟨_, bind_tup (bind_cons bind_name (bind_cons bind_name bind_nil)), ?_⟩) (by omega)) ea_nil) rc_allT))) ?_
  · refine (ev_and (a := true) (b := true) (ev_call (ds := [.str x.1]) ?_ ⟨x.1, rfl, (ok.wrd x hx).1, rfl⟩) (fun _ => ev_call (ds := [.int x.2, .int 1, .int 4]) ?_ ⟨x.2, 1, 4, rfl, (num_true (ok.wrd x hx).2).symm⟩)).eq rfl
    · walk_at "ev"
    · walk_at "ev"
  refine run_setD (d := lstI (b.sk.map (·.2))) ((ev_lc0 b.sk encSI (fun x => .int x.2) (ei_seq (t := t) (ev_var rfl)) (fun x hx => ⟨_, bind_tup (bind_cons bind_name (bind_cons bind_name bind_nil)), ev_cb (xs := [.int x.2]) (ea_cons (ev_var rfl) ea_nil) rc_int⟩) (by omega)).eq (by unfold lstI; rw [List.map_map]; rfl)) ?_
  refine run_retD ((ev_and (a := true) (b := true) (ev_call (ds := [lstS b.names]) (ea_cons ((ev_lc0 b.sk encSI (fun x => .str x.1) (ei_seq (t := t) (ev_var rfl)) (fun x hx => ⟨_, bind_tup (bind_cons bind_name (bind_cons bind_name bind_nil)), ev_var rfl⟩) (by omega)).eq (by unfold lstS Bk.names; rw [List.map_map]; rfl)) ea_nil) ⟨.l, b.names.map Sum.inr, by rw [keys_inr]; rfl, nodup_map (fun _ _ e => Sum.inr.inj e) ok.nod, by rw [List.length_map]; unfold Bk.names; rw [List.length_map]; omega, rfl⟩) (fun _ => (ev_op (x := lstI (b.sk.map (·.2))) (y := lstI (srtI (b.sk.map (·.2)))) (ev_var rfl) (ev_cb (xs := [lstI (b.sk.map (·.2))]) (ea_cons (ev_var rfl) ea_nil) (rc_sortI (by rw [List.length_map]; omega))) rv_eqLI).eq ?_)).eq rfl)
  rw [srtI_same ok.srt, decide_eq_true rfl]
def n_are_needs : List Str := ["value", "tiers", "tier", "many"]
def p_are_needs : List Str := ["value"]
theorem sc_are_needs : FnScope n_are_needs p_are_needs (defScope s_are_needs) := ⟨rfl, rfl, rfl, by decide +kernel, rfl, by decide +kernel, by decide +kernel⟩
def R_are_needs : List Dt → Dt → Prop := fun ds d => ∃ t, ∃ b : Bk, ds = [seqD t (b.nd.map encII)] ∧ b.Ok ∧ d = .bl true
theorem c_are_needs (T : Tx K mg) : C8.Cal P w K mg base 3 "are_needs" (SpD (R_are_needs)) [] := by
  obtain ⟨fd, F⟩ := T.f_are_needs
  have c_are_tuples := c_are_tuples (P := P) (w := w) (base := base) T
  have c_is_number := c_is_number (P := P) (w := w) (base := base) T
  have c_are_unlike := c_are_unlike (P := P) (w := w) (base := base) T
  refine cal F T.g_are_needs sc_are_needs (fun _ _ _ _ _ _ us hl => match us, hl with | [_], _ => rfl) (spD_len (n := 1) (by rintro _ _ ⟨_, _, rfl, _⟩; rfl)) fun cdv A outer s H E hr => ⟨_, (pss_cons (ps_if (pt_not (pt_val (pe_c c_are_tuples hr (by decide) (by rfl) (pa_cons (pv 0) (pa_cons pe_int (pa_cons (pe_op op_sub (pe_gc (by rfl) T.k_MOST_TIERS) pe_int) pa_nil)))))) (pss_one (ps_ret pe_bl)) pss_nil) (pss_cons (ps_if (pt_not (pt_val (pe_callB (Kr.all (K := K) rfl) (by rfl) T.n_all (by decide +kernel) (pa_cons (pe_lc (own := [("tier", 2), ("many", 3)]) rfl sc_are_needs.nd (Kr.seq (K := K) rfl (pv 0)) (blkOk_by (own := [("tier", 2), ("many", 3)]) (N := n_are_needs) (sc := defScope s_are_needs) (by decide +kernel)) (fun _ _ _ _ _ => (Kr.tup (K := K) (n := 2) rfl rfl (pgs_cons (pg_name (i := 2) sc_are_needs.nd rfl (by first | exact Or.inl rfl | exact Or.inr rfl)) (pgs_cons (pg_name (i := 3) sc_are_needs.nd rfl (by first | exact Or.inl rfl | exact Or.inr rfl)) pgs_nil)))) (fun _ _ _ _ _ => pts_nil) (fun _ _ _ _ _ => (pe_and (pe_c c_is_number hr (by decide) (by rfl) (pa_cons (pv 2) (pa_cons pe_int (pa_cons (pe_gc (by rfl) T.k_MOST_TIERS) pa_nil)))) (pe_one (pe_c c_is_number hr (by decide) (by rfl) (pa_cons (pv 3) (pa_cons pe_int (pa_cons (pe_gc (by rfl) T.k_MOST_SKILLS) pa_nil)))))))) pa_nil)))) (pss_one (ps_ret pe_bl)) pss_nil) (pss_cons (ps_setLc (i := 1) (own := [("tier", 2), ("many", 3)]) rfl sc_are_needs.nd rfl rfl (sw_true rfl rfl rfl (by decide +kernel)) (Kr.seq (K := K) rfl (pv 0)) (blkOk_by (own := [("tier", 2), ("many", 3)]) (N := n_are_needs) (sc := defScope s_are_needs) (by decide +kernel)) (fun _ _ _ _ _ => (Kr.tup (K := K) (n := 2) rfl rfl (pgs_cons (pg_name (i := 2) sc_are_needs.nd rfl (by first | exact Or.inl rfl | exact Or.inr rfl)) (pgs_cons (pg_name (i := 3) sc_are_needs.nd rfl (by first | exact Or.inl rfl | exact Or.inr rfl)) pgs_nil)))) (fun _ _ _ _ _ => pts_nil) (fun _ _ _ _ _ => (pe_callTy call_int1 (by rfl) T.n_int (by decide +kernel) (pa_cons (pv 2) pa_nil)))) (pss_one (ps_ret (pe_and (pe_c c_are_unlike hr (by decide) (by rfl) (pa_cons (pv 1) pa_nil)) (pe_one (pe_cmpR (Kr.eqP (K := K) rfl hr.units) (pv 1) (pe_callB (Kr.sorted (K := K) rfl) (by rfl) T.n_sorted (by decide +kernel) (pa_cons (pv 1) pa_nil)) (nomark _))))))))), ?_⟩
  intro vs Q h
  refine spD_of (N := n_are_needs) (fun ds d hR => ?_) h
  obtain ⟨t, b, rfl, ok, rfl⟩ := hR
  have hl := ok.nl
  refine run_skip (et_not (a := true) (et_B (ev_call (ds := [seqD t (b.nd.map encII), .int 2, .int 3]) ?_ ⟨t, b.nd.map fun x => [.int x.1, .int x.2], 2, 3, by rw [encII_tup], by rw [List.length_map]; omega, by decide, two_len fun _ => rfl, rfl⟩))) ?_
  · exact ea_cons (ev_var rfl) (ea_cons ev_int (ea_cons (ev_op (x := .int 4) (y := .int 1) ev_int ev_int rv_I0i) ea_nil))
  refine run_skip (et_not (a := true) (et_B (ev_cb (xs := [.lst (b.nd.map fun _ => .bl true)]) (ea_cons (ev_lc0 b.nd encII (fun _ => .bl true) (ei_seq (t := t) (ev_var rfl)) (fun x hx => ⟨_, bind_tup (bind_cons bind_name (bind_cons bind_name bind_nil)), ?_⟩) (by omega)) ea_nil) rc_allT))) ?_
  · obtain ⟨h1, h2, h3, h4⟩ := ok.no x hx
    refine (ev_and (a := true) (b := true) (ev_call (ds := [.int x.1, .int 2, .int 4]) ?_ ⟨x.1, 2, 4, rfl, (num_true ⟨h1, h2⟩).symm⟩) (fun _ => ev_call (ds := [.int x.2, .int 0, .int 12]) ?_ ⟨x.2, 0, 12, rfl, (num_true ⟨h3, h4⟩).symm⟩)).eq rfl
    · walk_at "ev"
    · walk_at "ev"
  refine run_setD (d := lstI (b.nd.map (·.1))) ((ev_lc0 b.nd encII (fun x => .int x.1) (ei_seq (t := t) (ev_var rfl)) (fun x hx => ⟨_, bind_tup (bind_cons bind_name (bind_cons bind_name bind_nil)), ev_cb (xs := [.int x.1]) (ea_cons (ev_var rfl) ea_nil) rc_int⟩) (by omega)).eq (by unfold lstI; rw [List.map_map]; rfl)) ?_
  refine run_retD ((ev_and (a := true) (b := true) (ev_call (ds := [lstI (b.nd.map (·.1))]) (ea_cons (ev_var rfl) ea_nil) ⟨.l, (b.nd.map (·.1)).map Sum.inl, by rw [keys_inl]; rfl, nodup_map (fun _ _ e => Sum.inl.inj e) ok.nn, by rw [List.length_map, List.length_map]; omega, rfl⟩) (fun _ => (ev_op (x := lstI (b.nd.map (·.1))) (y := lstI (srtI (b.nd.map (·.1)))) (ev_var rfl) (ev_cb (xs := [lstI (b.nd.map (·.1))]) (ea_cons (ev_var rfl) ea_nil) (rc_sortI (by rw [List.length_map]; omega))) rv_eqLI).eq ?_)).eq rfl)
  rw [srtI_same ok.ns, decide_eq_true rfl]
def n_are_numbered : List Str := ["names", "value", "low", "high", "name", "many"]
def p_are_numbered : List Str := ["names", "value", "low", "high"]
theorem sc_are_numbered : FnScope n_are_numbered p_are_numbered (defScope s_are_numbered) := ⟨rfl, rfl, rfl, by decide +kernel, rfl, by decide +kernel, by decide +kernel⟩
def R_are_numbered : List Dt → Dt → Prop := fun ds d => ∃ t, ∃ ns : List Str, ∃ xs : List (Str × Int), ∃ lo hi : Int, ds = [lstS ns, seqD t (xs.map encSI), .int lo, .int hi] ∧ xs.length ≤ 12 ∧ (∀ x ∈ xs, Word x.1 ∧ x.1 ∈ ns ∧ lo ≤ x.2 ∧ x.2 ≤ hi) ∧ (xs.map (·.1)).Nodup ∧ d = .bl true
theorem c_are_numbered (T : Tx K mg) : C8.Cal P w K mg base 3 "are_numbered" (SpD (R_are_numbered)) [] := by
  obtain ⟨fd, F⟩ := T.f_are_numbered
  have c_are_tuples := c_are_tuples (P := P) (w := w) (base := base) T
  have c_is_word := c_is_word (P := P) (w := w) (base := base) T
  have c_is_number := c_is_number (P := P) (w := w) (base := base) T
  have c_are_unlike := c_are_unlike (P := P) (w := w) (base := base) T
  refine cal F T.g_are_numbered sc_are_numbered (fun _ _ _ _ _ _ us hl => match us, hl with | [_, _, _, _], _ => rfl) (spD_len (n := 4) (by rintro _ _ ⟨_, _, _, _, _, rfl, _⟩; rfl)) fun cdv A outer s H E hr => ⟨_, (pss_cons (ps_if (pt_not (pt_val (pe_c c_are_tuples hr (by decide) (by rfl) (pa_cons (pv 1) (pa_cons pe_int (pa_cons (pe_gc (by rfl) T.k_MOST_SKILLS) pa_nil)))))) (pss_one (ps_ret pe_bl)) pss_nil) (pss_cons (ps_if (pt_not (pt_val (pe_callB (Kr.all (K := K) rfl) (by rfl) T.n_all (by decide +kernel) (pa_cons (pe_lc (own := [("name", 4), ("many", 5)]) rfl sc_are_numbered.nd (Kr.seq (K := K) rfl (pv 1)) (blkOk_by (own := [("name", 4), ("many", 5)]) (N := n_are_numbered) (sc := defScope s_are_numbered) (by decide +kernel)) (fun _ _ _ _ _ => (Kr.tup (K := K) (n := 2) rfl rfl (pgs_cons (pg_name (i := 4) sc_are_numbered.nd rfl (by first | exact Or.inl rfl | exact Or.inr rfl)) (pgs_cons (pg_name (i := 5) sc_are_numbered.nd rfl (by first | exact Or.inl rfl | exact Or.inr rfl)) pgs_nil)))) (fun _ _ _ _ _ => pts_nil) (fun _ _ _ _ _ => (pe_and (pe_c c_is_word hr (by decide) (by rfl) (pa_cons (pv 4) pa_nil)) (pe_and (pe_cmpR (Kr.oin (K := K) rfl) (pv 4) (pv 0) (by rfl)) (pe_one (pe_c c_is_number hr (by decide) (by rfl) (pa_cons (pv 5) (pa_cons (pv 2) (pa_cons (pv 3) pa_nil))))))))) pa_nil)))) (pss_one (ps_ret pe_bl)) pss_nil) (pss_one (ps_ret (pe_c c_are_unlike hr (by decide) (by rfl) (pa_cons (pe_lc (own := [("name", 4), ("many", 5)]) rfl sc_are_numbered.nd (Kr.seq (K := K) rfl (pv 1)) (blkOk_by (own := [("name", 4), ("many", 5)]) (N := n_are_numbered) (sc := defScope s_are_numbered) (by decide +kernel)) (fun _ _ _ _ _ => (Kr.tup (K := K) (n := 2) rfl rfl (pgs_cons (pg_name (i := 4) sc_are_numbered.nd rfl (by first | exact Or.inl rfl | exact Or.inr rfl)) (pgs_cons (pg_name (i := 5) sc_are_numbered.nd rfl (by first | exact Or.inl rfl | exact Or.inr rfl)) pgs_nil)))) (fun _ _ _ _ _ => pts_nil) (fun _ _ _ _ _ => (pv 4))) pa_nil)))))), ?_⟩
  intro vs Q h
  refine spD_of (N := n_are_numbered) (fun ds d hR => ?_) h
  obtain ⟨t, ns, xs, lo, hi, rfl, hl, ho, hn, rfl⟩ := hR
  refine run_skip (et_not (a := true) (et_B (ev_call (ds := [seqD t (xs.map encSI), .int 2, .int 12]) ?_ ⟨t, xs.map fun x => [.str x.1, .int x.2], 2, 12, by rw [encSI_tup], by rw [List.length_map]; omega, by decide, two_len fun _ => rfl, rfl⟩))) ?_
  · walk_at "ev"
  refine run_skip (et_not (a := true) (et_B (ev_cb (xs := [.lst (xs.map fun _ => .bl true)]) (ea_cons (ev_lc0 xs encSI (fun _ => .bl true) (ei_seq (t := t) (ev_var rfl)) (fun x hx => ⟨_, bind_tup (bind_cons bind_name (bind_cons bind_name bind_nil)), ?_⟩) (by omega)) ea_nil) rc_allT))) ?_
  · obtain ⟨h1, h2, h3⟩ := ho x hx
    refine (ev_and (a := true) (b := true) (ev_call (ds := [.str x.1]) ?_ ⟨x.1, rfl, h1, rfl⟩) (fun _ => ev_and (a := true) (b := true) ((ev_op (x := .str x.1) (y := lstS ns) (ev_var rfl) (ev_var rfl) (rv_inS (t := .l))).eq (by rw [decide_eq_true h2])) (fun _ => ev_call (ds := [.int x.2, .int lo, .int hi]) ?_ ⟨x.2, lo, hi, rfl, (num_true h3).symm⟩))).eq rfl
    · walk_at "ev"
    · walk_at "ev"
  refine run_retD (ev_call (ds := [lstS (xs.map (·.1))]) (ea_cons ((ev_lc0 xs encSI (fun x => .str x.1) (ei_seq (t := t) (ev_var rfl)) (fun x hx => ⟨_, bind_tup (bind_cons bind_name (bind_cons bind_name bind_nil)), ev_var rfl⟩) (by omega)).eq (by unfold lstS; rw [List.map_map]; rfl)) ea_nil) ⟨.l, (xs.map (·.1)).map Sum.inr, by rw [keys_inr]; rfl, nodup_map (fun _ _ e => Sum.inr.inj e) hn, by rw [List.length_map, List.length_map]; omega, rfl⟩)
def R_are_unlike_t : List Dt → Dt → Prop := fun ds d => ∃ ks : List (List Key), ds = [.lst (ks.map fun k => .tup (k.map Cr.kDt))] ∧ ks.Nodup ∧ ks.length ≤ 1000 ∧ d = .bl true
theorem c_are_unlike_t (T : Tx K mg) : C8.Cal P w K mg base 1 "are_unlike" (SpD (R_are_unlike_t)) [] := by
  obtain ⟨fd, F⟩ := T.f_are_unlike
  refine cal F T.g_are_unlike sc_are_unlike (fun _ _ _ _ _ _ us hl => match us, hl with | [_], _ => rfl) (spD_len (n := 1) (by rintro _ _ ⟨_, rfl, _⟩; rfl)) fun cdv A outer s H E hr => ⟨_, (pss_one (ps_ret (pe_cmpR op_eq (pe_callB call_len_dT (by rfl) T.n_len (by decide +kernel) (pa_cons (Cr.pe_dcT (own := [("one", 1)]) (hu_of hr) rfl sc_are_unlike.nd (Kr.seq (K := K) rfl (pv 0)) (blkOk_by (own := [("one", 1)]) (N := n_are_unlike) (sc := defScope s_are_unlike) (by decide +kernel)) (fun _ _ _ _ _ => (pg_name (i := 1) sc_are_unlike.nd rfl (by first | exact Or.inl rfl | exact Or.inr rfl))) (fun _ _ _ _ _ => (pv 1)) (fun _ _ _ _ _ => pe_bl)) pa_nil)) (pe_callB (Kr.len (K := K) rfl) (by rfl) T.n_len (by decide +kernel) (pa_cons (pv 0) pa_nil)) (nomark _)))), ?_⟩
  intro vs Q h
  refine spD_of (N := n_are_unlike) (fun ds d hR => ?_) h
  obtain ⟨ks, rfl, hn, hl, rfl⟩ := hR
  have e0 : (ks.map fun k => k) = ks := List.map_id' ks
  refine run_retD ((ev_op (x := .int ((ks.map fun k => (k, Dt.bl true)).length : Nat)) (y := .int ((ks.map fun k => Dt.tup (k.map Cr.kDt)).length : Nat)) (ev_cb (xs := [.dt (ks.map fun k => (k, Dt.bl true))]) (ea_cons ((ev_dcT ks (fun k => Dt.tup (k.map Cr.kDt)) (fun k => k) (fun _ => .bl true) (ei_lst (ev_var rfl)) (fun k hk => ⟨_, bind_name, ev_var rfl, ev_bl⟩) (by omega)).eq ?_) ea_nil) rc_lenDT) (ev_cb (xs := [seqD .l (ks.map fun k => Dt.tup (k.map Cr.kDt))]) ?_ rc_len) rv_eqI).eq ?_)
  · rw [foldl_putG0 (fun k => k) (fun _ => Dt.bl true) ks (by rw [e0]; exact hn)]
  · walk_at "ev"
  · simp
def n_are_bars : List Str := ["names", "value", "pairs", "one", "other"]
def p_are_bars : List Str := ["names", "value"]
theorem sc_are_bars : FnScope n_are_bars p_are_bars (defScope s_are_bars) := ⟨rfl, rfl, rfl, by decide +kernel, rfl, by decide +kernel, by decide +kernel⟩
def R_are_bars : List Dt → Dt → Prop := fun ds d => ∃ t, ∃ b : Bk, ds = [lstS b.names, seqD t (b.br.map encSS)] ∧ b.Ok ∧ d = .bl true
theorem c_are_bars (T : Tx K mg) : C8.Cal P w K mg base 3 "are_bars" (SpD (R_are_bars)) [] := by
  obtain ⟨fd, F⟩ := T.f_are_bars
  have c_are_tuples := c_are_tuples (P := P) (w := w) (base := base) T
  have c_is_word := c_is_word (P := P) (w := w) (base := base) T
  have c_are_unlike_t := c_are_unlike_t (P := P) (w := w) (base := base) T
  refine cal F T.g_are_bars sc_are_bars (fun _ _ _ _ _ _ us hl => match us, hl with | [_, _], _ => rfl) (spD_len (n := 2) (by rintro _ _ ⟨_, _, rfl, _⟩; rfl)) fun cdv A outer s H E hr => ⟨_, (pss_cons (ps_if (pt_not (pt_val (pe_c c_are_tuples hr (by decide) (by rfl) (pa_cons (pv 1) (pa_cons pe_int (pa_cons (pe_gc (by rfl) T.k_MOST_BARS) pa_nil)))))) (pss_one (ps_ret pe_bl)) pss_nil) (pss_cons (ps_if (pt_not (pt_val (pe_callB (Kr.all (K := K) rfl) (by rfl) T.n_all (by decide +kernel) (pa_cons (pe_lc (own := [("one", 3), ("other", 4)]) rfl sc_are_bars.nd (Kr.seq (K := K) rfl (pv 1)) (blkOk_by (own := [("one", 3), ("other", 4)]) (N := n_are_bars) (sc := defScope s_are_bars) (by decide +kernel)) (fun _ _ _ _ _ => (Kr.tup (K := K) (n := 2) rfl rfl (pgs_cons (pg_name (i := 3) sc_are_bars.nd rfl (by first | exact Or.inl rfl | exact Or.inr rfl)) (pgs_cons (pg_name (i := 4) sc_are_bars.nd rfl (by first | exact Or.inl rfl | exact Or.inr rfl)) pgs_nil)))) (fun _ _ _ _ _ => pts_nil) (fun _ _ _ _ _ => (pe_and (pe_c c_is_word hr (by decide) (by rfl) (pa_cons (pv 3) pa_nil)) (pe_and (pe_c c_is_word hr (by decide) (by rfl) (pa_cons (pv 4) pa_nil)) (pe_and (pe_cmpR (Kr.oin (K := K) rfl) (pv 3) (pv 0) (by rfl)) (pe_one (pe_cmpR (Kr.oin (K := K) rfl) (pv 4) (pv 0) (by rfl)))))))) pa_nil)))) (pss_one (ps_ret pe_bl)) pss_nil) (pss_cons (ps_setLc (i := 2) (own := [("one", 3), ("other", 4)]) rfl sc_are_bars.nd rfl rfl (sw_true rfl rfl rfl (by decide +kernel)) (Kr.seq (K := K) rfl (pv 1)) (blkOk_by (own := [("one", 3), ("other", 4)]) (N := n_are_bars) (sc := defScope s_are_bars) (by decide +kernel)) (fun _ _ _ _ _ => (Kr.tup (K := K) (n := 2) rfl rfl (pgs_cons (pg_name (i := 3) sc_are_bars.nd rfl (by first | exact Or.inl rfl | exact Or.inr rfl)) (pgs_cons (pg_name (i := 4) sc_are_bars.nd rfl (by first | exact Or.inl rfl | exact Or.inr rfl)) pgs_nil)))) (fun _ _ _ _ _ => pts_nil) (fun _ _ _ _ _ => (pe_callTy (Kr.tuple (K := K) rfl) (by rfl) T.n_tuple (by decide +kernel) (pa_cons (pe_callB (Kr.sortedS (K := K) rfl) (by rfl) T.n_sorted (by decide +kernel) (pa_cons (pe_lst (pa_cons (pe_callTy SkE.call_str_str (by rfl) T.n_str (by decide +kernel) (pa_cons (pv 3) pa_nil)) (pa_cons (pe_callTy SkE.call_str_str (by rfl) T.n_str (by decide +kernel) (pa_cons (pv 4) pa_nil)) pa_nil))) pa_nil)) pa_nil)))) (pss_one (ps_ret (pe_and (pe_c c_are_unlike_t hr (by decide) (by rfl) (pa_cons (pv 2) pa_nil)) (pe_one (pe_callB (Kr.all (K := K) rfl) (by rfl) T.n_all (by decide +kernel) (pa_cons (pe_lc (own := [("one", 3), ("other", 4)]) rfl sc_are_bars.nd (Kr.seq (K := K) rfl (pv 1)) (blkOk_by (own := [("one", 3), ("other", 4)]) (N := n_are_bars) (sc := defScope s_are_bars) (by decide +kernel)) (fun _ _ _ _ _ => (Kr.tup (K := K) (n := 2) rfl rfl (pgs_cons (pg_name (i := 3) sc_are_bars.nd rfl (by first | exact Or.inl rfl | exact Or.inr rfl)) (pgs_cons (pg_name (i := 4) sc_are_bars.nd rfl (by first | exact Or.inl rfl | exact Or.inr rfl)) pgs_nil)))) (fun _ _ _ _ _ => pts_nil) (fun _ _ _ _ _ => (pe_cmpR op_ne (pv 3) (pv 4) (nomark _)))) pa_nil))))))))), ?_⟩
  intro vs Q h
  refine spD_of (N := n_are_bars) (fun ds d hR => ?_) h
  obtain ⟨t, b, rfl, ok, rfl⟩ := hR
  have hl := ok.bl
  refine run_skip (et_not (a := true) (et_B (ev_call (ds := [seqD t (b.br.map encSS), .int 2, .int 6]) ?_ ⟨t, b.br.map fun x => [.str x.1, .str x.2], 2, 6, by rw [encSS_tup], by rw [List.length_map]; omega, by decide, two_len fun _ => rfl, rfl⟩))) ?_
  · walk_at "ev"
  refine run_skip (et_not (a := true) (et_B (ev_cb (xs := [.lst (b.br.map fun _ => .bl true)]) (ea_cons (ev_lc0 b.br encSS (fun _ => .bl true) (ei_seq (t := t) (ev_var rfl)) (fun x hx => ⟨_, bind_tup (bind_cons bind_name (bind_cons bind_name bind_nil)), ?_⟩) (by omega)) ea_nil) rc_allT))) ?_
  · obtain ⟨h1, h2, h3⟩ := ok.bo x hx
    refine (ev_and (a := true) (b := true) (ev_call (ds := [.str x.1]) ?_ ⟨x.1, rfl, ok.word h1, rfl⟩) (fun _ => ev_and (a := true) (b := true) (ev_call (ds := [.str x.2]) ?_ ⟨x.2, rfl, ok.word h2, rfl⟩) (fun _ => ev_and (a := true) (b := true) ((ev_op (x := .str x.1) (y := lstS b.names) (ev_var rfl) (ev_var rfl) (rv_inS (t := .l))).eq (by rw [decide_eq_true h1])) (fun _ => (ev_op (x := .str x.2) (y := lstS b.names) (ev_var rfl) (ev_var rfl) (rv_inS (t := .l))).eq (by rw [decide_eq_true h2]))))).eq rfl
    · walk_at "ev"
    · walk_at "ev"
  refine run_setD (d := .lst (b.br.map fun x => tupS (srtS [x.1, x.2]))) (ev_lc0 b.br encSS (fun x => tupS (srtS [x.1, x.2])) (ei_seq (t := t) (ev_var rfl)) (fun x hx => ⟨_, bind_tup (bind_cons bind_name (bind_cons bind_name bind_nil)), ?_⟩) (by omega)) ?_
  · refine ev_cb (xs := [lstS (srtS [x.1, x.2])]) (ea_cons (ev_cb (xs := [lstS [x.1, x.2]]) (ea_cons (ev_lst (xs := [.str x.1, .str x.2]) (ea_cons (ev_cb (xs := [.str x.1]) (ea_cons (ev_var rfl) ea_nil) rc_strS) (ea_cons (ev_cb (xs := [.str x.2]) (ea_cons (ev_var rfl) ea_nil) rc_strS) ea_nil))) ea_nil) (rc_sortSD (by show 2 < 64; decide))) ea_nil) rc_tuple
  refine run_retD ((ev_and (a := true) (b := true) (ev_call (ds := [.lst (b.br.map fun x => tupS (srtS [x.1, x.2]))]) (ea_cons (ev_var rfl) ea_nil) ⟨b.br.map fun x => (srtS [x.1, x.2]).map Sum.inr, ?_, ?_, by rw [List.length_map]; omega, rfl⟩) (fun _ => ev_cb (xs := [.lst (b.br.map fun _ => .bl true)]) (ea_cons (ev_lc0 b.br encSS (fun _ => .bl true) (ei_seq (t := t) (ev_var rfl)) (fun x hx => ⟨_, bind_tup (bind_cons bind_name (bind_cons bind_name bind_nil)), (ev_op (x := .str x.1) (y := .str x.2) (ev_var rfl) (ev_var rfl) rv_neS).eq ?_⟩) (by omega)) ea_nil) rc_allT)).eq rfl)
  · rw [decide_eq_false (ok.bo x hx).2.2]
    rfl
  · rw [List.map_map]
    congr 1
    apply congrArg
    apply List.map_congr_left
    intro x _
    show tupS _ = Dt.tup (((srtS [x.1, x.2]).map Sum.inr).map Cr.kDt)
    rw [List.map_map]
    rfl
  · refine List.pairwise_map.mpr (ok.bu.imp_of_mem fun {x y} hx hy ⟨h1, h2⟩ e => ?_)
    have e2 : srtS [x.1, x.2] = srtS [y.1, y.2] := List.map_inj_right (fun _ _ q => Sum.inr.inj q) |>.mp e
    have e3 : [x.1, x.2].Perm [y.1, y.2] := (srtS_perm _).symm.trans (by rw [e2]; exact srtS_perm _)
    have hx1 : x.1 ∈ [y.1, y.2] := e3.subset List.mem_cons_self
    rcases List.mem_cons.mp hx1 with q | q
    · have e4 : [x.2].Perm [y.2] := by
        have := e3
        rw [q] at this
        exact (List.perm_cons _).mp this
      have := List.mem_singleton.mp (e4.subset List.mem_cons_self)
      exact h1 (Prod.ext q this)
    · have q' := List.mem_singleton.mp q
      have e4 : [x.2].Perm [y.1] := by
        have h5 : [x.1, x.2].Perm [y.2, y.1] := e3.trans (.swap _ _ _)
        rw [q'] at h5
        exact (List.perm_cons _).mp h5
      have := List.mem_singleton.mp (e4.subset List.mem_cons_self)
      exact h2 (Prod.ext q' this)
end
end Rt
end

section
set_option Elab.async false
set_option linter.all false
set_option maxRecDepth 100000
set_option maxHeartbeats 4000000

namespace Rt
open PySem PySem.Spec PyProof.Rows L2 Ab C8
local macro_rules | `(tactic| walk_at "rv") => `(tactic| first
  | exact rv_I0i | exact rv_I0b | exact rv_eqI | exact rv_eqS | exact rv_neI | exact rv_neS | exact rv_eqB | exact rv_inS (t := .t) | exact rv_inS (t := .l) | exact rv_inI (t := .t) | exact rv_inI (t := .l) | exact rv_ninS (t := .t) | exact rv_ninS (t := .l) | exact rv_ninI (t := .t) | exact rv_ninI (t := .l) | exact rv_isN rfl | exact rv_notN rfl | exact rv_eqTI | exact rv_neTI | exact rv_eqLI | exact rv_neTS | exact rv_eqLTS | exact rv_neLTI | exact rv_sign)
local macro_rules | `(tactic| walk_at "ev") => `(tactic| first
  | exact ev_var rfl | exact ev_int | exact ev_str | exact ev_bl | exact ev_non | exact ev_ty | exact ea_nil | exact et_yes
  | ((with_reducible refine ev_op ?_ ?_ ?_) <;> walk_at "ev")
  | ((with_reducible refine ea_cons ?_ ?_) <;> walk_at "ev")
  | ((with_reducible refine ev_and ?_ ?_) <;> walk_at "ev")
  | ((with_reducible refine ev_or ?_ ?_) <;> walk_at "ev")
  | (with_reducible refine ev_not ?_; walk_at "ev")
  | (with_reducible refine ev_tup ?_; walk_at "ev")
  | (with_reducible refine ev_lst ?_; walk_at "ev")
  | (with_reducible refine et_not ?_; walk_at "ev")
  | ((with_reducible refine et_and ?_ ?_) <;> walk_at "ev")
  | ((with_reducible refine et_or ?_ ?_) <;> walk_at "ev")
  | (with_reducible refine et_test ?_; walk_at "ev")
  | (with_reducible refine et_B ?_; walk_at "ev")
  | (with_reducible refine fun (_ : _ = _) => ?_; walk_at "ev")
  | walk_at "rv"
  | skip)


theorem rv_le {p : Option Addr} {i j : Int} (h : i ≤ j) : RvD p (rI0 fun i j => .bl (decide (i ≤ j))) (.int i) (.int j) (.bl true) := by
  have := rv_I0b (p := p) (g := fun i j => decide (i ≤ j)) (i := i) (j := j)
  simp only [decide_eq_true h] at this
  exact this
def kwOf : Wk → Str
  | .all => "all"
  | .any => "any"
  | .count _ => "count"
def restOf : Wk → List Dt
  | .count n => [.int n]
  | _ => []
theorem encW_eq (w : Wt) : encW w = .tup (.str (kwOf w.k) :: .str w.sk :: tupS w.ns :: restOf w.k) := by
  unfold encW
  cases w.k <;> rfl
theorem kw_mem (k : Wk) : kwOf k ∈ (["all", "any", "count"] : List Str) := by
  cases k with
  | all => exact List.mem_cons_self
  | any => exact List.mem_cons_of_mem _ List.mem_cons_self
  | count n => exact List.mem_cons_of_mem _ (List.mem_cons_of_mem _ List.mem_cons_self)
theorem rest_len (k : Wk) : ((restOf k).length : Int) = if decide (kwOf k = "count") then 1 else 0 := by
  cases k with
  | all => decide
  | any => decide
  | count n => show (1 : Int) = if decide (("count" : Str) = "count") then 1 else 0; decide
theorem nodup_sub {α : Type} [DecidableEq α] : ∀ (l m : List α), l.Nodup → (∀ x ∈ l, x ∈ m) → l.length ≤ m.length
  | [], m, _, _ => Nat.zero_le _
  | x :: l, m, hn, h => by
    obtain ⟨h1, h2⟩ := List.nodup_cons.mp hn
    have h3 := nodup_sub l (m.erase x) h2 fun y hy => (List.mem_erase_of_ne (fun e => h1 (by rw [← e]; exact hy))).mpr (h y (List.mem_cons_of_mem _ hy))
    have hx := h x List.mem_cons_self
    rw [List.length_erase_of_mem hx] at h3
    have := List.length_pos_of_mem hx
    show l.length + 1 ≤ _
    omega

section
variable {P : Program} {w : World} {K : PySem.W.Frag} {mg : Str → Option Value} {base : Heap}

def n_is_want : List Str := ["names", "value", "name"]
def p_is_want : List Str := ["names", "value"]
theorem sc_is_want : FnScope n_is_want p_is_want (defScope s_is_want) := ⟨rfl, rfl, rfl, by decide +kernel, rfl, by decide +kernel, by decide +kernel⟩
def R_is_want : List Dt → Dt → Prop := fun ds d => ∃ b : Bk, ∃ w : Wt, ds = [lstS b.names, encW w] ∧ b.Ok ∧ w ∈ b.wt ∧ d = .bl true
theorem c_is_want (T : Tx K mg) : C8.Cal P w K mg base 3 "is_want" (SpD (R_is_want)) [] := by
  obtain ⟨fd, F⟩ := T.f_is_want
  have c_is_word := c_is_word (P := P) (w := w) (base := base) T
  have c_is_number := c_is_number (P := P) (w := w) (base := base) T
  have c_are_unlike := c_are_unlike (P := P) (w := w) (base := base) T
  refine cal F T.g_is_want sc_is_want (fun _ _ _ _ _ _ us hl => match us, hl with | [_, _], _ => rfl) (spD_len (n := 2) (by rintro _ _ ⟨_, _, rfl, _⟩; rfl)) fun cdv A outer s H E hr => ⟨_, (pss_cons (ps_if (PW.pt (pw_or (pt_not (pt_val (pe_callB (Kr.isi (K := K) rfl) (by rfl) T.n_isinstance (by decide +kernel) (pa_cons (pv 1) (pa_cons (pe_bltn (v := V.ty "tuple") (by rfl) T.n_tuple (by decide +kernel) rfl) pa_nil))))) (pw_or (pt_not (pt_chain op_le op_le pe_int (pe_callB (Kr.len (K := K) rfl) (by rfl) T.n_len (by decide +kernel) (pa_cons (pv 1) pa_nil)) pe_int)) (pw_or1 (pt_not (pt_val (pe_callB (Kr.isi (K := K) rfl) (by rfl) T.n_isinstance (by decide +kernel) (pa_cons (pe_ix (Kr.ix (K := K) rfl) (pv 1) pe_int (fun _ _ => rfl)) (pa_cons (pe_bltn (v := V.ty "str") (by rfl) T.n_str (by decide +kernel) rfl) pa_nil))))))))) (pss_one (ps_ret pe_bl)) pss_nil) (pss_cons (ps_if (PW.pt (pw_or (pt_cmpR (Kr.onin (K := K) rfl) (pe_ix (Kr.ix (K := K) rfl) (pv 1) pe_int (fun _ _ => rfl)) (pe_tup (pa_cons pe_str (pa_cons pe_str (pa_cons pe_str pa_nil)))) (by rfl)) (pw_or1 (pt_cmpR op_ne (pe_callB (Kr.len (K := K) rfl) (by rfl) T.n_len (by decide +kernel) (pa_cons (pv 1) pa_nil)) (pe_op op_add pe_int (pe_callTy call_int1 (by rfl) T.n_int (by decide +kernel) (pa_cons (pe_cmpR op_eq (pe_ix (Kr.ix (K := K) rfl) (pv 1) pe_int (fun _ _ => rfl)) pe_str (nomark _)) pa_nil))) (nomark _))))) (pss_one (ps_ret pe_bl)) pss_nil) (pss_cons (ps_if (PW.pt (pw_or (pt_not (pt_val (pe_c c_is_word hr (by decide) (by rfl) (pa_cons (pe_ix (Kr.ix (K := K) rfl) (pv 1) pe_int (fun _ _ => rfl)) pa_nil)))) (pw_or (pt_cmpR (Kr.onin (K := K) rfl) (pe_ix (Kr.ix (K := K) rfl) (pv 1) pe_int (fun _ _ => rfl)) (pv 0) (by rfl)) (pw_or (pt_not (pt_val (pe_callB (Kr.isi (K := K) rfl) (by rfl) T.n_isinstance (by decide +kernel) (pa_cons (pe_ix (Kr.ix (K := K) rfl) (pv 1) pe_int (fun _ _ => rfl)) (pa_cons (pe_bltn (v := V.ty "tuple") (by rfl) T.n_tuple (by decide +kernel) rfl) pa_nil))))) (pw_or1 (pt_cmpR op_eq (pe_callB (Kr.len (K := K) rfl) (by rfl) T.n_len (by decide +kernel) (pa_cons (pe_ix (Kr.ix (K := K) rfl) (pv 1) pe_int (fun _ _ => rfl)) pa_nil)) pe_int (nomark _))))))) (pss_one (ps_ret pe_bl)) pss_nil) (pss_cons (ps_if (pt_not (pt_val (pe_callB (Kr.all (K := K) rfl) (by rfl) T.n_all (by decide +kernel) (pa_cons (pe_lc (own := [("name", 2)]) rfl sc_is_want.nd (Kr.seq (K := K) rfl (pe_ix (Kr.ix (K := K) rfl) (pv 1) pe_int (fun _ _ => rfl))) (blkOk_by (own := [("name", 2)]) (N := n_is_want) (sc := defScope s_is_want) (by decide +kernel)) (fun _ _ _ _ _ => (pg_name (i := 2) sc_is_want.nd rfl (by first | exact Or.inl rfl | exact Or.inr rfl))) (fun _ _ _ _ _ => pts_nil) (fun _ _ _ _ _ => (pe_and (pe_c c_is_word hr (by decide) (by rfl) (pa_cons (pv 2) pa_nil)) (pe_and (pe_cmpR (Kr.oin (K := K) rfl) (pv 2) (pv 0) (by rfl)) (pe_one (pe_cmpR op_ne (pv 2) (pe_ix (Kr.ix (K := K) rfl) (pv 1) pe_int (fun _ _ => rfl)) (nomark _))))))) pa_nil)))) (pss_one (ps_ret pe_bl)) pss_nil) (pss_one (ps_ret (pe_and (pe_c c_are_unlike hr (by decide) (by rfl) (pa_cons (pe_ix (Kr.ix (K := K) rfl) (pv 1) pe_int (fun _ _ => rfl)) pa_nil)) (pe_one (pe_or (pe_cmpR op_eq (pe_callB (Kr.len (K := K) rfl) (by rfl) T.n_len (by decide +kernel) (pa_cons (pv 1) pa_nil)) pe_int (nomark _)) (pe_one (pe_c c_is_number hr (by decide) (by rfl) (pa_cons (pe_ix (Kr.ix (K := K) rfl) (pv 1) pe_int (fun _ _ => rfl)) (pa_cons pe_int (pa_cons (pe_callB (Kr.len (K := K) rfl) (by rfl) T.n_len (by decide +kernel) (pa_cons (pe_ix (Kr.ix (K := K) rfl) (pv 1) pe_int (fun _ _ => rfl)) pa_nil)) pa_nil)))))))))))))), ?_⟩
  intro vs Q h
  refine spD_of (N := n_is_want) (fun ds d hR => ?_) h
  obtain ⟨b, w, rfl, ok, hw, rfl⟩ := hR
  obtain ⟨o1, o2, o3, o4, o5⟩ := ok.wo w hw
  rw [encW_eq]
  have hkm := kw_mem w.k
  have hrl := rest_len w.k
  have hnl := ok.nlen
  have hns : w.ns.length ≤ 5 := by
    have : w.ns.length ≤ b.names.length := nodup_sub _ _ o4 fun n hn => (o3 n hn).1
    omega
  have hns0 : 0 < w.ns.length := List.length_pos_iff.mpr o2
  have hL : ((Dt.str (kwOf w.k) :: Dt.str w.sk :: tupS w.ns :: restOf w.k).length : Int) = 3 + (if decide (kwOf w.k = "count") then 1 else 0) := by
    rw [← hrl]
    show (((restOf w.k).length + 1 + 1 + 1 : Nat) : Int) = _
    omega
  have hL2 : (3 : Int) ≤ ((Dt.str (kwOf w.k) :: Dt.str w.sk :: tupS w.ns :: restOf w.k).length : Int) ∧ ((Dt.str (kwOf w.k) :: Dt.str w.sk :: tupS w.ns :: restOf w.k).length : Int) ≤ 4 := by
    rw [hL]
    split <;> decide
  generalize hkw : kwOf w.k = kw at *
  generalize hre : restOf w.k = rest at *
  have x0 : ∀ {δ : Dst} {v : Nat} {te : TE}, EvD none te δ (Dt.tup (.str kw :: .str w.sk :: tupS w.ns :: rest)) → EvD none (tOp (rIx K) te (tC (.int 0))) δ (.str kw) := fun h => ev_op h ev_int (rv_ix (t := .t) (atI_nat (j := 0) rfl))
  have x1 : ∀ {δ : Dst} {te : TE}, EvD none te δ (Dt.tup (.str kw :: .str w.sk :: tupS w.ns :: rest)) → EvD none (tOp (rIx K) te (tC (.int 1))) δ (.str w.sk) := fun h => ev_op h ev_int (rv_ix (t := .t) (atI_nat (j := 1) rfl))
  have x2 : ∀ {δ : Dst} {te : TE}, EvD none te δ (Dt.tup (.str kw :: .str w.sk :: tupS w.ns :: rest)) → EvD none (tOp (rIx K) te (tC (.int 2))) δ (tupS w.ns) := fun h => ev_op h ev_int (rv_ix (t := .t) (atI_nat (j := 2) rfl))
  refine run_skip ((et_or (a := false) (b := false) (et_not (a := true) (et_B (ev_cb (xs := [.tup (.str kw :: .str w.sk :: tupS w.ns :: rest), .ty "tuple"]) ?_ (rc_isi (T := "tuple") (b := true) rfl (by decide +kernel))))) (fun _ => (et_or (a := false) (b := false) (et_not (a := true) ((et_test (ev_chain (a := true) (b := true) (x := .int 3) (y := .int ((Dt.str kw :: Dt.str w.sk :: tupS w.ns :: rest).length : Nat)) (z := .int 4) ?_ (ev_cb (xs := [seqD .t (.str kw :: .str w.sk :: tupS w.ns :: rest)]) ?_ rc_len) (rv_le hL2.1) (fun _ => ?_) (fun _ => rv_le hL2.2))).eq rfl)) (fun _ => et_not (a := true) (et_B (ev_cb (xs := [.str kw, .ty "str"]) (ea_cons (x0 (v := 0) (ev_var rfl)) (ea_cons ev_ty ea_nil)) (rc_isi (T := "str") (b := true) rfl (by decide +kernel)))))).eq rfl)).eq rfl) ?_
  · walk_at "ev"
  · walk_at "ev"
  · walk_at "ev"
  · walk_at "ev"
  refine run_skip ((et_or (a := false) (b := false) ((et_test (ev_op (x := .str kw) (y := .tup [.str "all", .str "any", .str "count"]) (x0 (v := 0) (ev_var rfl)) ?_ (rv_ninS (t := .t) (ss := ["all", "any", "count"])))).eq (by rw [decide_eq_true hkm]; rfl)) (fun _ => (et_test (ev_op (x := .int ((Dt.str kw :: Dt.str w.sk :: tupS w.ns :: rest).length : Nat)) (y := .int (3 + (if decide (kw = "count") then 1 else 0))) (ev_cb (xs := [seqD .t (.str kw :: .str w.sk :: tupS w.ns :: rest)]) ?_ rc_len) (ev_op (x := .int 3) (y := .int (if decide (kw = "count") then 1 else 0)) ev_int (ev_cb (xs := [.bl (decide (kw = "count"))]) (ea_cons (ev_op (x := .str kw) (y := .str "count") (x0 (v := 0) (ev_var rfl)) ev_str rv_eqS) ea_nil) rc_intB) rv_I0i) rv_neI)).eq (by rw [decide_eq_true hL]; rfl))).eq rfl) ?_
  · walk_at "ev"
  · walk_at "ev"
  refine run_skip ((et_or (a := false) (b := false) (et_not (a := true) (et_B (ev_call (ds := [.str w.sk]) (ea_cons (x1 (ev_var rfl)) ea_nil) ⟨_, rfl, ok.word o1, rfl⟩))) (fun _ => (et_or (a := false) (b := false) ((et_test (ev_op (x := .str w.sk) (y := lstS b.names) (x1 (ev_var rfl)) (ev_var rfl) (rv_ninS (t := .l)))).eq (by rw [decide_eq_true o1]; rfl)) (fun _ => (et_or (a := false) (b := false) (et_not (a := true) (et_B (ev_cb (xs := [tupS w.ns, .ty "tuple"]) (ea_cons (x2 (ev_var rfl)) (ea_cons ev_ty ea_nil)) (rc_isi (T := "tuple") (b := true) rfl (by decide +kernel))))) (fun _ => (et_test (ev_op (x := .int ((w.ns.map Dt.str).length : Nat)) (y := .int 0) (ev_cb (xs := [seqD .t (w.ns.map Dt.str)]) (ea_cons (x2 (ev_var rfl)) ea_nil) rc_len) ev_int rv_eqI)).eq ?_)).eq rfl)).eq rfl)).eq rfl) ?_
  · rw [List.length_map]
    exact decide_eq_false (by omega)
  refine run_skip (et_not (a := true) (et_B (ev_cb (xs := [.lst (w.ns.map fun _ => .bl true)]) (ea_cons (ev_lc0 w.ns Dt.str (fun _ => .bl true) (ei_tup (x2 (ev_var rfl))) (fun n hn => ⟨_, bind_name, ?_⟩) (by omega)) ea_nil) rc_allT))) ?_
  · refine (ev_and (a := true) (b := true) (ev_call (ds := [.str n]) (ea_cons (ev_var rfl) ea_nil) ⟨n, rfl, ok.word (o3 n hn).1, rfl⟩) (fun _ => ev_and (a := true) (b := true) ((ev_op (x := .str n) (y := lstS b.names) (ev_var rfl) (ev_var rfl) (rv_inS (t := .l))).eq (by rw [decide_eq_true (o3 n hn).1])) (fun _ => (ev_op (x := .str n) (y := .str w.sk) (ev_var rfl) (x1 (ev_var rfl)) rv_neS).eq (by rw [decide_eq_false (o3 n hn).2]; rfl)))).eq rfl
  refine run_retD ((ev_and (a := true) (b := true) (ev_call (ds := [tupS w.ns]) (ea_cons (x2 (ev_var rfl)) ea_nil) ⟨.t, w.ns.map Sum.inr, by rw [keys_inr]; rfl, nodup_map (fun _ _ e => Sum.inr.inj e) o4, by rw [List.length_map]; omega, rfl⟩) (fun _ => (ev_or (a := decide (((Dt.str kw :: Dt.str w.sk :: tupS w.ns :: rest).length : Int) = 3)) (b := true) (ev_op (x := .int ((Dt.str kw :: Dt.str w.sk :: tupS w.ns :: rest).length : Nat)) (y := .int 3) (ev_cb (xs := [seqD .t (.str kw :: .str w.sk :: tupS w.ns :: rest)]) ?_ rc_len) ev_int rv_eqI) (fun e => ?_)).eq (by rw [Bool.or_true]))).eq rfl)
  · walk_at "ev"
  · have hne := of_decide_eq_false e
    cases hk : w.k with
    | all => rw [hk] at hre; exact absurd (by rw [← hre]; rfl) hne
    | any => rw [hk] at hre; exact absurd (by rw [← hre]; rfl) hne
    | count n =>
      rw [hk] at hre
      subst hre
      refine ev_call (ds := [.int n, .int 1, .int ((w.ns.map Dt.str).length : Nat)]) (ea_cons (ev_op (ev_var rfl) ev_int (rv_ix (t := .t) (atI_nat (j := 3) rfl))) (ea_cons ev_int (ea_cons (ev_cb (xs := [seqD .t (w.ns.map Dt.str)]) (ea_cons (x2 (ev_var rfl)) ea_nil) rc_len) ea_nil))) ⟨n, 1, _, rfl, (num_true ⟨(o5 n hk).1, ?_⟩).symm⟩
      rw [List.length_map]
      exact (o5 n hk).2
end
end Rt
end

section
set_option Elab.async false
set_option linter.all false
set_option maxRecDepth 100000
set_option maxHeartbeats 4000000

namespace Rt
open PySem PySem.Spec PyProof.Rows L2 Ab C8
local macro_rules | `(tactic| walk_at "rv") => `(tactic| first
  | exact rv_I0i | exact rv_I0b | exact rv_eqI | exact rv_eqS | exact rv_neI | exact rv_neS | exact rv_eqB | exact rv_inS (t := .t) | exact rv_inS (t := .l) | exact rv_inI (t := .t) | exact rv_inI (t := .l) | exact rv_ninS (t := .t) | exact rv_ninS (t := .l) | exact rv_ninI (t := .t) | exact rv_ninI (t := .l) | exact rv_isN rfl | exact rv_notN rfl | exact rv_eqTI | exact rv_neTI | exact rv_eqLI | exact rv_neTS | exact rv_eqLTS | exact rv_neLTI | exact rv_sign)
local macro_rules | `(tactic| walk_at "ev") => `(tactic| first
  | exact ev_var rfl | exact ev_int | exact ev_str | exact ev_bl | exact ev_non | exact ev_ty | exact ea_nil | exact et_yes
  | ((with_reducible refine ev_op ?_ ?_ ?_) <;> walk_at "ev")
  | ((with_reducible refine ea_cons ?_ ?_) <;> walk_at "ev")
  | ((with_reducible refine ev_and ?_ ?_) <;> walk_at "ev")
  | ((with_reducible refine ev_or ?_ ?_) <;> walk_at "ev")
  | (with_reducible refine ev_not ?_; walk_at "ev")
  | (with_reducible refine ev_tup ?_; walk_at "ev")
  | (with_reducible refine ev_lst ?_; walk_at "ev")
  | (with_reducible refine et_not ?_; walk_at "ev")
  | ((with_reducible refine et_and ?_ ?_) <;> walk_at "ev")
  | ((with_reducible refine et_or ?_ ?_) <;> walk_at "ev")
  | (with_reducible refine et_test ?_; walk_at "ev")
  | (with_reducible refine et_B ?_; walk_at "ev")
  | (with_reducible refine fun (_ : _ = _) => ?_; walk_at "ev")
  | walk_at "rv"
  | skip)


/-- which of the parts are lists, which are tuples -/
structure Kds where
  s : Sq
  n : Sq
  w : Sq
  b : Sq
  g : Sq
  p : Sq
structure Kds.Ok (k : Kds) : Prop where
  s : k.s ≠ .t
  n : k.n ≠ .t
  w : k.w ≠ .t
  b : k.b ≠ .t
  g : k.g ≠ .t
  p : k.p ≠ .t
def partL (k : Kds) (b : Bk) : List Dt := [seqD k.s (b.sk.map encSI), .int b.pts, seqD k.n (b.nd.map encII), seqD k.w (b.wt.map encW), seqD k.b (b.br.map encSS), seqD k.g (b.gv.map encSI), seqD k.p (b.pr.map encSI), encO b.rs]
def partK : List Key := partsL.map Sum.inr
def partsD (k : Kds) (b : Bk) : List (Key × Dt) := partK.zip (partL k b)
def encB (x : Str) : Dt := .tup [.str x, .bl true]
theorem lk_at {ds : List Dt} {z : Str} {d : Dt} : ∀ (ks : List Str) (ds : List Dt) (i : Nat) , ks.Nodup → ks[i]? = some z → ds[i]? = some d → lkG ((ks.map Sum.inr : List Key).zip ds) (Sum.inr z) = some d
  | [], _, i, _, e, _ => by simp at e
  | _ :: _, [], i, _, _, e => by simp at e
  | k :: ks, x :: ds, i, hn, e1, e2 => by
    rw [List.map_cons, List.zip_cons_cons, lkG_cons]
    cases i with
    | zero =>
      rw [if_pos (by rw [show k = z from Option.some.inj e1]), show x = d from Option.some.inj e2]
    | succ i =>
      have hm : z ∈ ks := List.mem_of_getElem? (by simpa using e1)
      rw [if_neg (fun q => (List.nodup_cons.mp hn).1 (by rw [Sum.inr.inj q]; exact hm))]
      exact lk_at (ds := ds) ks ds i (List.nodup_cons.mp hn).2 (by simpa using e1) (by simpa using e2)
theorem partsL_nodup : partsL.Nodup := by decide +kernel
theorem get_part {ds : List Dt} {z : Str} {d : Dt} (i : Nat) (hz : partsL[i]? = some z) (hd : ds[i]? = some d) : getD? (.dk (partK.zip ds)) (.str z) = some (some d) := by
  show some (lkG _ (Sum.inr z)) = _
  rw [show partK = partsL.map Sum.inr from rfl, lk_at (ds := ds) partsL ds i partsL_nodup hz hd]
theorem rows_len : (["points", "needs", "wants", "bars", "gives", "prices", "reset"] : List Str).length = 7 := rfl

section
variable {P : Program} {w : World} {K : PySem.W.Frag} {mg : Str → Option Value} {base : Heap}

def n_look_at_parts : List Str := ["parts", "names", "wants", "rows", "is_right", "name", "is_good", "tier", "want"]
def p_look_at_parts : List Str := ["parts"]
theorem sc_look_at_parts : FnScope n_look_at_parts p_look_at_parts (defScope s_look_at_parts) := ⟨rfl, rfl, rfl, by decide +kernel, rfl, by decide +kernel, by decide +kernel⟩
def R_look_at_parts : List Dt → Dt → Prop := fun ds d => ∃ k : Kds, ∃ b : Bk, ds = [.dk (partsD k b)] ∧ b.Ok ∧ d = .non
theorem c_look_at_parts (T : Tx K mg) : C8.Cal P w K mg base 4 "look_at_parts" (SpD (R_look_at_parts)) [] := by
  obtain ⟨fd, F⟩ := T.f_look_at_parts
  have c_are_skills := c_are_skills (P := P) (w := w) (base := base) T
  have c_are_needs := c_are_needs (P := P) (w := w) (base := base) T
  have c_is_want := c_is_want (P := P) (w := w) (base := base) T
  have c_are_bars := c_are_bars (P := P) (w := w) (base := base) T
  have c_are_numbered := c_are_numbered (P := P) (w := w) (base := base) T
  have c_is_number := c_is_number (P := P) (w := w) (base := base) T
  have c_is_row := c_is_row (P := P) (w := w) (base := base) T
  refine cal F T.g_look_at_parts sc_look_at_parts (fun _ _ _ _ _ _ us hl => match us, hl with | [_], _ => rfl) (spD_len (n := 1) (by rintro _ _ ⟨_, _, rfl, _⟩; rfl)) fun cdv A outer s H E hr => ⟨_, (pss_cons (ps_if (pt_not (pt_val (pe_c c_are_skills hr (by decide) (by rfl) (pa_cons (pe_dget (hu_of hr) (pv 0) pe_str (fun _ _ => rfl)) pa_nil)))) (pss_one ps_never) pss_nil) (pss_cons (ps_set (i := 1) sc_look_at_parts.nd rfl (Or.inr rfl) (pe_lc (own := [("name", 5), ("tier", 7)]) rfl sc_look_at_parts.nd (Kr.seq (K := K) rfl (pe_dget (hu_of hr) (pv 0) pe_str (fun _ _ => rfl))) (blkOk_by (own := [("name", 5), ("tier", 7)]) (N := n_look_at_parts) (sc := defScope s_look_at_parts) (by decide +kernel)) (fun _ _ _ _ _ => (Kr.tup (K := K) (n := 2) rfl rfl (pgs_cons (pg_name (i := 5) sc_look_at_parts.nd rfl (by first | exact Or.inl rfl | exact Or.inr rfl)) (pgs_cons (pg_name (i := 7) sc_look_at_parts.nd rfl (by first | exact Or.inl rfl | exact Or.inr rfl)) pgs_nil)))) (fun _ _ _ _ _ => pts_nil) (fun _ _ _ _ _ => (pv 5)))) (pss_cons (ps_set (i := 2) sc_look_at_parts.nd rfl (Or.inl rfl) (pe_dget (hu_of hr) (pv 0) pe_str (fun _ _ => rfl))) (pss_cons (ps_set (i := 3) sc_look_at_parts.nd rfl (Or.inl rfl) (pe_lst (pa_cons (pe_tup (pa_cons pe_str (pa_cons (pe_c c_is_number hr (by decide) (by rfl) (pa_cons (pe_dget (hu_of hr) (pv 0) pe_str (fun _ _ => rfl)) (pa_cons pe_int (pa_cons (pe_gc (by rfl) T.k_MOST_POINTS) pa_nil)))) pa_nil))) (pa_cons (pe_tup (pa_cons pe_str (pa_cons (pe_c c_are_needs hr (by decide) (by rfl) (pa_cons (pe_dget (hu_of hr) (pv 0) pe_str (fun _ _ => rfl)) pa_nil)) pa_nil))) pa_nil)))) (pss_cons (ps_set (i := 4) sc_look_at_parts.nd rfl (Or.inl rfl) (pe_and (pe_c c_is_row hr (by decide) (by rfl) (pa_cons (pv 2) pa_nil)) (pe_and (pe_cmpR op_le (pe_callB (Kr.len (K := K) rfl) (by rfl) T.n_len (by decide +kernel) (pa_cons (pv 2) pa_nil)) (pe_gc (by rfl) T.k_MOST_WANTS_books) (nomark _)) (pe_one (pe_callB (Kr.all (K := K) rfl) (by rfl) T.n_all (by decide +kernel) (pa_cons (pe_lc (own := [("want", 8)]) rfl sc_look_at_parts.nd (Kr.seq (K := K) rfl (pv 2)) (blkOk_by (own := [("want", 8)]) (N := n_look_at_parts) (sc := defScope s_look_at_parts) (by decide +kernel)) (fun _ _ _ _ _ => (pg_name (i := 8) sc_look_at_parts.nd rfl (by first | exact Or.inl rfl | exact Or.inr rfl))) (fun _ _ _ _ _ => pts_nil) (fun _ _ _ _ _ => (pe_c c_is_want hr (by decide) (by rfl) (pa_cons (pv 1) (pa_cons (pv 8) pa_nil))))) pa_nil)))))) (pss_cons (ps_expr (Kr.bm (K := K) rfl PySem.F.plainAttrs_list PySem.F.slot_list_extend PySem.F.type_list_extend mt_extend (pv 3) (pa_cons (pe_lst (pa_cons (pe_tup (pa_cons pe_str (pa_cons (pv 4) pa_nil))) (pa_cons (pe_tup (pa_cons pe_str (pa_cons (pe_c c_are_bars hr (by decide) (by rfl) (pa_cons (pv 1) (pa_cons (pe_dget (hu_of hr) (pv 0) pe_str (fun _ _ => rfl)) pa_nil))) pa_nil))) pa_nil))) pa_nil))) (pss_cons (ps_expr (Kr.bm (K := K) rfl PySem.F.plainAttrs_list PySem.F.slot_list_append PySem.F.type_list_append mt_append (pv 3) (pa_cons (pe_tup (pa_cons pe_str (pa_cons (pe_c c_are_numbered hr (by decide) (by rfl) (pa_cons (pv 1) (pa_cons (pe_dget (hu_of hr) (pv 0) pe_str (fun _ _ => rfl)) (pa_cons pe_int (pa_cons (pe_gc (by rfl) T.k_MOST_GIVEN) pa_nil))))) pa_nil))) pa_nil))) (pss_cons (ps_expr (Kr.bm (K := K) rfl PySem.F.plainAttrs_list PySem.F.slot_list_append PySem.F.type_list_append mt_append (pv 3) (pa_cons (pe_tup (pa_cons pe_str (pa_cons (pe_c c_are_numbered hr (by decide) (by rfl) (pa_cons (pv 1) (pa_cons (pe_dget (hu_of hr) (pv 0) pe_str (fun _ _ => rfl)) (pa_cons pe_int (pa_cons (pe_gc (by rfl) T.k_MOST_PRICE) pa_nil))))) pa_nil))) pa_nil))) (pss_cons (ps_expr (Kr.bm (K := K) rfl PySem.F.plainAttrs_list PySem.F.slot_list_append PySem.F.type_list_append mt_append (pv 3) (pa_cons (pe_tup (pa_cons pe_str (pa_cons (pe_or (pe_cmpR op_isN (pe_dget (hu_of hr) (pv 0) pe_str (fun _ _ => rfl)) pe_non (nomark _)) (pe_one (pe_c c_is_number hr (by decide) (by rfl) (pa_cons (pe_dget (hu_of hr) (pv 0) pe_str (fun _ _ => rfl)) (pa_cons pe_int (pa_cons (pe_gc (by rfl) T.k_MOST_PRICE) pa_nil)))))) pa_nil))) pa_nil))) (pss_one (ps_for PassesOwn.never rfl (Kr.seq (K := K) rfl (pv 3)) (Kr.tup (K := K) (n := 2) rfl rfl (pgs_cons (pg_name (i := 5) sc_look_at_parts.nd rfl (by first | exact Or.inl rfl | exact Or.inr rfl)) (pgs_cons (pg_name (i := 6) sc_look_at_parts.nd rfl (by first | exact Or.inl rfl | exact Or.inr rfl)) pgs_nil))) (pss_one (ps_if (pt_not (pt_val (pv 6))) (pss_one ps_never) pss_nil))))))))))))), ?_⟩
  intro vs Q h
  refine spD_of (N := n_look_at_parts) (fun ds d hR => ?_) h
  obtain ⟨k, b, rfl, ok, rfl⟩ := hR
  have hl := ok.len
  have hwl := ok.wl
  have hnl := ok.nlen
  refine run_skip (et_not (a := true) (et_B (ev_call (ds := [seqD k.s (b.sk.map encSI)]) (ea_cons (ev_dget (ev_var rfl) ev_str (get_part 0 rfl rfl)) ea_nil) ⟨k.s, b, rfl, ok, rfl⟩))) ?_
  refine run_setD (d := lstS b.names) ((ev_lc0 b.sk encSI (fun x => .str x.1) (ei_seq (t := k.s) (ev_dget (ev_var rfl) ev_str (get_part 0 rfl rfl))) (fun x hx => ⟨_, bind_tup (bind_cons bind_name (bind_cons bind_name bind_nil)), ev_var rfl⟩) (by omega)).eq (by unfold lstS Bk.names; rw [List.map_map]; rfl)) ?_
  refine run_setD (d := seqD k.w (b.wt.map encW)) (ev_dget (ev_var rfl) ev_str (get_part 3 rfl rfl)) ?_
  refine run_seq (run_ownL (ds := [encB "points", encB "needs"]) (ea_cons (ev_tup (ea_cons ev_str (ea_cons (ev_call (ds := [.int b.pts, .int 0, .int 12]) (ea_cons (ev_dget (ev_var rfl) ev_str (get_part 1 rfl rfl)) (ea_cons ev_int (ea_cons ev_int ea_nil))) ⟨b.pts, 0, 12, rfl, (num_true ⟨ok.p0, ok.p1⟩).symm⟩) ea_nil))) (ea_cons (ev_tup (ea_cons ev_str (ea_cons (ev_call (ds := [seqD k.n (b.nd.map encII)]) (ea_cons (ev_dget (ev_var rfl) ev_str (get_part 2 rfl rfl)) ea_nil) ⟨k.n, b, rfl, ok, rfl⟩) ea_nil))) ea_nil)) (by decide) fun a _ => ?_)
  refine run_setD (d := .bl true) ((ev_and (a := true) (b := true) (ev_call (ds := [seqD k.w (b.wt.map encW)]) (ea_cons (ev_var rfl) ea_nil) ⟨k.w, _, rfl, rfl⟩) (fun _ => ev_and (a := true) (b := true) (ev_op (x := .int ((b.wt.map encW).length : Nat)) (y := .int 12) (ev_cb (xs := [seqD k.w (b.wt.map encW)]) (ea_cons (ev_var rfl) ea_nil) rc_len) ev_int (rv_le (by rw [List.length_map]; omega))) (fun _ => ev_cb (xs := [.lst (b.wt.map fun _ => .bl true)]) (ea_cons (ev_lc0 b.wt encW (fun _ => .bl true) (ei_seq (t := k.w) (ev_var rfl)) (fun x hx => ⟨_, bind_name, ev_call (ds := [lstS b.names, encW x]) (ea_cons (ev_var rfl) (ea_cons (ev_var rfl) ea_nil)) ⟨b, x, rfl, ok, hx, rfl⟩⟩) (by omega)) ea_nil) rc_allT))).eq rfl) ?_
  refine run_seq (run_extD (a := a) (ds := [encB "points", encB "needs"]) (es := [encB "wants", encB "bars"]) rfl updM_same (by decide) (by decide) (ev_lst (ea_cons (ev_tup (ea_cons ev_str (ea_cons (ev_var rfl) ea_nil))) (ea_cons (ev_tup (ea_cons ev_str (ea_cons (ev_call (ds := [lstS b.names, seqD k.b (b.br.map encSS)]) (ea_cons (ev_var rfl) (ea_cons (ev_dget (ev_var rfl) ev_str (get_part 4 rfl rfl)) ea_nil)) ⟨k.b, b, rfl, ok, rfl⟩) ea_nil))) ea_nil))) ?_)
  refine run_seq (run_appD (a := a) (ds := [encB "points", encB "needs", encB "wants", encB "bars"]) (d := encB "gives") rfl updM_same (by decide) (ev_tup (ea_cons ev_str (ea_cons (ev_call (ds := [lstS b.names, seqD k.g (b.gv.map encSI), .int 1, .int 3]) (ea_cons (ev_var rfl) (ea_cons (ev_dget (ev_var rfl) ev_str (get_part 5 rfl rfl)) (ea_cons ev_int (ea_cons ev_int ea_nil)))) ⟨k.g, b.names, b.gv, 1, 3, rfl, by have := ok.gl; omega, fun x hx => ⟨ok.word (ok.go x hx).1, ok.go x hx⟩, ok.gn, rfl⟩) ea_nil))) ?_)
  refine run_seq (run_appD (a := a) (ds := [encB "points", encB "needs", encB "wants", encB "bars", encB "gives"]) (d := encB "prices") rfl updM_same (by decide) (ev_tup (ea_cons ev_str (ea_cons (ev_call (ds := [lstS b.names, seqD k.p (b.pr.map encSI), .int 0, .int 99]) (ea_cons (ev_var rfl) (ea_cons (ev_dget (ev_var rfl) ev_str (get_part 6 rfl rfl)) (ea_cons ev_int (ea_cons ev_int ea_nil)))) ⟨k.p, b.names, b.pr, 0, 99, rfl, by have := ok.pl; omega, fun x hx => ⟨ok.word (ok.po x hx).1, ok.po x hx⟩, ok.pn, rfl⟩) ea_nil))) ?_)
  refine run_seq (run_appD (a := a) (ds := [encB "points", encB "needs", encB "wants", encB "bars", encB "gives", encB "prices"]) (d := encB "reset") rfl updM_same (by decide) (ev_tup (ea_cons ev_str (ea_cons ((ev_or (a := b.rs.isNone) (b := true) (ev_op (x := encO b.rs) (y := .non) (ev_dget (ev_var rfl) ev_str (get_part 7 rfl rfl)) ev_non (rv_isN (by cases b.rs <;> rfl))) (fun e => ?_)).eq (by rw [Bool.or_true])) ea_nil))) ?_)
  · cases hrs : b.rs with
    | none => rw [hrs] at e; cases e
    | some r =>
      exact ev_call (ds := [.int r, .int 0, .int 99]) (ea_cons (ev_dget (ev_var rfl) ev_str (get_part 7 rfl (by show some (encO b.rs) = _; rw [hrs]; rfl))) (ea_cons ev_int (ea_cons ev_int ea_nil))) ⟨r, 0, 99, rfl, (num_true (ok.ro r hrs)).symm⟩
  refine run_pub (a := a) (i := 3) rfl updM_same (fun z => z) ?_
  refine run_forL (vs := [5, 6]) (["points", "needs", "wants", "bars", "gives", "prices", "reset"] : List Str) encB (fun pre δ M => ∃ o0 o1 o2 o3 o4 o5 o6 o7 o8, δ = [o0, o1, o2, o3, o4, o5, o6, o7, o8]) (iz_of (ei_lst (ev_var rfl))) ⟨_, _, _, _, _, _, _, _, _, rfl⟩ ?_ (fun _ _ _ => rfl)
  rintro pre x post δ1 M1 hx ⟨o0, o1, o2, o3, o4, o5, o6, o7, o8, rfl⟩
  exact ⟨_, bind_tup (bind_cons bind_name (bind_cons bind_name bind_nil)), run_if (tz_of (et_not (a := true) (et_B (ev_var rfl)))) (fun e => nomatch e) fun _ => run_next ⟨_, _, _, _, _, _, _, _, _, rfl⟩⟩
end
end Rt
end

section
set_option Elab.async false
set_option linter.all false
set_option maxRecDepth 100000
set_option maxHeartbeats 4000000

namespace Rt
open PySem PySem.Spec PyProof.Rows L2 Ab C8
local macro_rules | `(tactic| walk_at "rv") => `(tactic| first
  | exact rv_I0i | exact rv_I0b | exact rv_eqI | exact rv_eqS | exact rv_neI | exact rv_neS | exact rv_eqB | exact rv_inS (t := .t) | exact rv_inS (t := .l) | exact rv_inI (t := .t) | exact rv_inI (t := .l) | exact rv_ninS (t := .t) | exact rv_ninS (t := .l) | exact rv_ninI (t := .t) | exact rv_ninI (t := .l) | exact rv_isN rfl | exact rv_notN rfl | exact rv_eqTI | exact rv_neTI | exact rv_eqLI | exact rv_neTS | exact rv_eqLTS | exact rv_neLTI | exact rv_sign)
local macro_rules | `(tactic| walk_at "ev") => `(tactic| first
  | exact ev_var rfl | exact ev_int | exact ev_str | exact ev_bl | exact ev_non | exact ev_ty | exact ea_nil | exact et_yes
  | ((with_reducible refine ev_op ?_ ?_ ?_) <;> walk_at "ev")
  | ((with_reducible refine ea_cons ?_ ?_) <;> walk_at "ev")
  | ((with_reducible refine ev_and ?_ ?_) <;> walk_at "ev")
  | ((with_reducible refine ev_or ?_ ?_) <;> walk_at "ev")
  | (with_reducible refine ev_not ?_; walk_at "ev")
  | (with_reducible refine ev_tup ?_; walk_at "ev")
  | (with_reducible refine ev_lst ?_; walk_at "ev")
  | (with_reducible refine et_not ?_; walk_at "ev")
  | ((with_reducible refine et_and ?_ ?_) <;> walk_at "ev")
  | ((with_reducible refine et_or ?_ ?_) <;> walk_at "ev")
  | (with_reducible refine et_test ?_; walk_at "ev")
  | (with_reducible refine et_B ?_; walk_at "ev")
  | (with_reducible refine fun (_ : _ = _) => ?_; walk_at "ev")
  | walk_at "rv"
  | skip)


/-- the instance ahead of its last attribute -/
def bkF0 (b : Bk) : List (Str × Dt) := [("record", recD b), ("own_points", .int b.pts), ("own_reset", encO b.rs), ("own_names", lstS b.names), ("own_tiers", lstI (b.sk.map (·.2))),
  ("tier_by", .dk (b.sk.map fun x => (Sum.inr x.1, Dt.int x.2))), ("spots", lstN b.spots), ("bits", .dk (b.names.map fun s => (Sum.inr s, natD (b.bit s)))),
  ("own_needs", .dk (b.nd.map fun x => (Sum.inl x.1, Dt.int x.2))), ("own_prices", .dk (b.pr.map fun x => (Sum.inr x.1, Dt.int x.2))), ("own_given", .dk (b.gv.map fun x => (Sum.inr x.1, Dt.int x.2))),
  ("barred", lstN b.barred)]
theorem lk_inr (xs : List (Str × Int)) (s : Str) : lkG (xs.map fun x => ((Sum.inr x.1 : Key), Dt.int x.2)) (Sum.inr s) = (xs.lookup s).map Dt.int := by
  induction xs with
  | nil => rfl
  | cons x xs ih =>
    rw [List.map_cons, lkG_cons, List.lookup_cons]
    by_cases e : x.1 = s
    · rw [if_pos (by rw [e]), show (s == x.1) = true from beq_iff_eq.mpr e.symm]
      rfl
    · rw [if_neg (fun q => e (Sum.inr.inj q)), show (s == x.1) = false from beq_eq_false_iff_ne.mpr fun q => e q.symm]
      exact ih
theorem lk_inl' (xs : List (Int × Int)) (s : Int) : lkG (xs.map fun x => ((Sum.inl x.1 : Key), Dt.int x.2)) (Sum.inl s) = (xs.lookup s).map Dt.int := by
  induction xs with
  | nil => rfl
  | cons x xs ih =>
    rw [List.map_cons, lkG_cons, List.lookup_cons]
    by_cases e : x.1 = s
    · rw [if_pos (by rw [e]), show (s == x.1) = true from beq_iff_eq.mpr e.symm]
      rfl
    · rw [if_neg (fun q => e (Sum.inl.inj q)), show (s == x.1) = false from beq_eq_false_iff_ne.mpr fun q => e q.symm]
      exact ih
theorem lookup_some {xs : List (Str × Int)} {s : Str} (h : s ∈ xs.map (·.1)) : xs.lookup s = some ((xs.lookup s).getD 0) := by
  induction xs with
  | nil => cases h
  | cons x xs ih =>
    rw [List.lookup_cons]
    by_cases e : x.1 = s
    · rw [show (s == x.1) = true from beq_iff_eq.mpr e.symm]; rfl
    · rw [show (s == x.1) = false from beq_eq_false_iff_ne.mpr fun q => e q.symm]
      refine ih ?_
      rcases List.mem_cons.mp h with q | q
      · exact absurd q.symm e
      · exact q
theorem zip_si : ∀ xs : List (Str × Int), zipD ((xs.map (·.1)).map Dt.str) ((xs.map (·.2)).map Dt.int) = xs.map encSI
  | [] => rfl
  | x :: xs => by
    show Dt.tup [_, _] :: zipD _ _ = _
    rw [zip_si xs]
    rfl
theorem getK (w : Wt) : getD? (.dk (mergeG [] [(Sum.inr "all", Dt.int (w.ns.length : Nat)), (Sum.inr "any", .int 1), (Sum.inr "count", (restOf w.k).getLastD (tupS w.ns))])) (.str (kwOf w.k)) = some (some (.int w.many)) := by
  unfold Wt.many
  cases w.k <;> rfl
theorem last_w (w : Wt) : atI (.str (kwOf w.k) :: .str w.sk :: tupS w.ns :: restOf w.k) (-1) = some ((restOf w.k).getLastD (tupS w.ns)) := by
  cases w.k <;> rfl
theorem sum_filter (f : Str → Nat) (xs : List (Str × Int)) : (xs.map fun x => f x.1).sum = ((xs.map (·.1)).map f).sum := by rw [List.map_map]; rfl

section
variable {P : Program} {w : World} {K : PySem.W.Frag} {mg : Str → Option Value} {base : Heap}

def n_b_asked_by : List Str := ["self", "name", "tier", "below", "rows", "want", "mask", "many", "one", "other"]
def p_b_asked_by : List Str := ["self", "name"]
theorem sc_b_asked_by : FnScope n_b_asked_by p_b_asked_by (defScope s_b_asked_by) := ⟨rfl, rfl, rfl, by decide +kernel, rfl, by decide +kernel, by decide +kernel⟩
def R_b_asked_by (K : PySem.W.Frag) : List Dt → Dt → Prop := fun ds d => ∃ b : Bk, ∃ s : Str, ds = [.ins (BC K) (bkF0 b), .str s] ∧ b.Ok ∧ s ∈ b.names ∧ d = .lst ((b.askedBy s).map encNI)
theorem c_asked_by (T : Tx K mg) : C8.Met P w K mg base 1 (He.ga K "Book") "asked_by" (SpD (R_b_asked_by K)) [] := by
  obtain ⟨fd, F⟩ := T.f_b_asked_by
  refine met T.c_Book T.m_b_asked_by F sc_b_asked_by (fun _ _ _ _ _ _ us hl => match us, hl with | [_, _], _ => rfl) (spD_len (n := 2) (by rintro _ _ ⟨_, _, rfl, _⟩; rfl)) fun cdv A outer s H E hr => ⟨_, (pss_cons (ps_set (i := 2) sc_b_asked_by.nd rfl (Or.inr rfl) (pe_dget (hu_of hr) (Kr.fld (K := K) rfl (pv 0)) (pv 1) (fun _ _ => rfl))) (pss_cons (ps_set (i := 3) sc_b_asked_by.nd rfl (Or.inl rfl) (pe_callB (Kr.sum (K := K) rfl) (by rfl) T.n_sum (by decide +kernel) (pa_cons (pe_lc (own := [("one", 8), ("other", 9)]) rfl sc_b_asked_by.nd (Kr.zip (K := K) rfl (by rfl) T.n_zip (pa_cons (Kr.fld (K := K) rfl (pv 0)) (pa_cons (Kr.fld (K := K) rfl (pv 0)) pa_nil))) (blkOk_by (own := [("one", 8), ("other", 9)]) (N := n_b_asked_by) (sc := defScope s_b_asked_by) (by decide +kernel)) (fun _ _ _ _ _ => (Kr.tup (K := K) (n := 2) rfl rfl (pgs_cons (pg_name (i := 8) sc_b_asked_by.nd rfl (by first | exact Or.inl rfl | exact Or.inr rfl)) (pgs_cons (pg_name (i := 9) sc_b_asked_by.nd rfl (by first | exact Or.inl rfl | exact Or.inr rfl)) pgs_nil)))) (fun _ _ _ _ _ => pts_one (pt_cmpR op_lt (pv 9) (pv 2) (nomark _))) (fun _ _ _ _ _ => (pe_dget (hu_of hr) (Kr.fld (K := K) rfl (pv 0)) (pv 8) (fun _ _ => rfl)))) pa_nil))) (pss_cons (ps_set (i := 4) sc_b_asked_by.nd rfl (Or.inl rfl) (pe_lst (pa_cons (pe_tup (pa_cons (pv 3) (pa_cons (pe_dget2 (hu_of hr) (Kr.fld (K := K) rfl (pv 0)) (pv 2) pe_int ⟨rfl, rfl, rfl, rfl⟩) pa_nil))) pa_nil))) (pss_cons (ps_for PassesOwn.never rfl (Kr.seq (K := K) rfl (pe_ix (Kr.ix (K := K) rfl) (Kr.fld (K := K) rfl (pv 0)) pe_int (fun _ _ => rfl))) (pg_name (i := 5) sc_b_asked_by.nd rfl (by first | exact Or.inl rfl | exact Or.inr rfl)) (pss_one (ps_if (pt_cmpR op_eq (pe_ix (Kr.ix (K := K) rfl) (pv 5) pe_int (fun _ _ => rfl)) (pv 1) (nomark _)) (pss_cons (ps_set (i := 6) sc_b_asked_by.nd rfl (Or.inl rfl) (pe_callB (Kr.sum (K := K) rfl) (by rfl) T.n_sum (by decide +kernel) (pa_cons (pe_lc (own := [("one", 8)]) rfl sc_b_asked_by.nd (Kr.seq (K := K) rfl (pe_ix (Kr.ix (K := K) rfl) (pv 5) pe_int (fun _ _ => rfl))) (blkOk_by (own := [("one", 8)]) (N := n_b_asked_by) (sc := defScope s_b_asked_by) (by decide +kernel)) (fun _ _ _ _ _ => (pg_name (i := 8) sc_b_asked_by.nd rfl (by first | exact Or.inl rfl | exact Or.inr rfl))) (fun _ _ _ _ _ => pts_nil) (fun _ _ _ _ _ => (pe_dget (hu_of hr) (Kr.fld (K := K) rfl (pv 0)) (pv 8) (fun _ _ => rfl)))) pa_nil))) (pss_cons (ps_set (i := 7) sc_b_asked_by.nd rfl (Or.inl rfl) (pe_dget (hu_of hr) (pe_disp (pps_cons pe_str (pe_callB (Kr.len (K := K) rfl) (by rfl) T.n_len (by decide +kernel) (pa_cons (pe_ix (Kr.ix (K := K) rfl) (pv 5) pe_int (fun _ _ => rfl)) pa_nil)) (pps_cons pe_str pe_int (pps_cons pe_str (pe_ix (Kr.ix (K := K) rfl) (pv 5) (pe_un un_neg pe_int) (fun _ _ => rfl)) pps_nil))) (by rfl) (by rfl) (fun z => by cases z) (by decide)) (pe_ix (Kr.ix (K := K) rfl) (pv 5) pe_int (fun _ _ => rfl)) (fun _ _ => rfl))) (pss_one (ps_expr (Kr.bm (K := K) rfl PySem.F.plainAttrs_list PySem.F.slot_list_append PySem.F.type_list_append mt_append (pv 4) (pa_cons (pe_tup (pa_cons (pv 6) (pa_cons (pv 7) pa_nil))) pa_nil)))))) pss_nil))) (pss_one (ps_ret (pv 4))))))), ?_⟩
  intro vs Q h
  refine spD_of (N := n_b_asked_by) (fun ds d hR => ?_) h
  obtain ⟨b, z, rfl, ok, hz, rfl⟩ := hR
  have hl := ok.len
  have hwl := ok.wl
  have bit : ∀ {δ : Dst} {te ty : TE} {n : Str}, EvD none te δ (.ins (BC K) (bkF0 b)) → EvD none ty δ (.str n) → n ∈ b.names → EvD none (tDGet (tFld K te "bits") ty) δ (natD (b.bit n)) := fun h hy hn => ev_dget (ev_fld h T.c_Book T.a_bits (by rfl)) hy (get_bits ok hn)
  have tier : getD? (.dk (b.sk.map fun x => ((Sum.inr x.1 : Key), Dt.int x.2))) (.str z) = some (some (.int (b.tier z))) := by
    show some (lkG _ (Sum.inr z)) = _
    rw [lk_inr, lookup_some hz]
    rfl
  have need : getD? (.dk (b.nd.map fun x => ((Sum.inl x.1 : Key), Dt.int x.2))) (.int (b.tier z)) = some ((b.nd.lookup (b.tier z)).map Dt.int) := by
    show some (lkG _ (Sum.inl _)) = _
    rw [lk_inl']
  refine run_setD (d := .int (b.tier z)) (ev_dget (ev_fld (ev_var rfl) T.c_Book T.a_tier_by (by rfl)) (ev_var rfl) tier) ?_
  refine run_setD (d := natD (b.below z)) ((ev_cb (ea_cons (ev_lc b.sk encSI (fun x => decide (x.2 < b.tier z)) (fun x => natD (b.bit x.1)) ((fun σ Hk H s k o' R q => ei_zip (as := b.names.map Dt.str) (bs := (b.sk.map (·.2)).map Dt.int) (ea_cons (ev_fld (ev_var rfl) T.c_Book T.a_own_names (by rfl)) (ea_cons (ev_fld (ev_var rfl) T.c_Book T.a_own_tiers (by rfl)) ea_nil)) σ Hk H s k o' R fun J ds Hk' H' g o2 e2 w => q J ds Hk' H' g o2 (by rw [e2]; exact zip_si b.sk) w)) (fun x hx => ⟨_, bind_tup (bind_cons bind_name (bind_cons bind_name bind_nil)), et_test (ev_op (x := .int x.2) (y := .int (b.tier z)) (ev_var rfl) (ev_var rfl) rv_I0b), fun _ => bit (ev_var rfl) (ev_var rfl) (List.mem_map.mpr ⟨x, hx, rfl⟩)⟩) (by omega)) ea_nil) (rc_sumN (xs := []) (f := fun x : Str × Int => b.bit x.1))).eq (by unfold Bk.below Bk.maskOf; rw [sum_filter])) ?_
  refine run_seq (run_ownL (ds := [encNI (b.below z, b.needOf (b.tier z))]) (ea_cons (ev_tup (ea_cons (ev_var rfl) (ea_cons ((ev_dget2 (ev_fld (ev_var rfl) T.c_Book T.a_own_needs (by rfl)) (ev_var rfl) ev_int need).eq (y := .int (b.needOf (b.tier z))) ?_) ea_nil))) ea_nil) (by show 1 ≤ 1000; decide) fun a _ => ?_)
  · unfold Bk.needOf
    cases b.nd.lookup (b.tier z) <;> rfl
  refine run_seq (run_forL (vs := [5]) b.wt encW (fun pre δ M => ∃ o5 o6 o7 o8 o9, δ = [some (.ins (BC K) (bkF0 b)), some (.str z), some (.int (b.tier z)), some (natD (b.below z)), some (.adr a), o5, o6, o7, o8, o9] ∧ M = updM noM a (.lst (((b.below z, b.needOf (b.tier z)) :: (pre.filter fun w => decide (w.sk = z)).map fun w => (b.maskOf w.ns, w.many)).map encNI))) (iz_of (ei_seq (t := .f) (ev_op (ev_fld (ev_var rfl) T.c_Book T.a_record (by rfl)) ev_int (rv_ix (t := .t) (atI_nat (j := 3) rfl))))) ⟨_, _, _, _, _, rfl, rfl⟩ ?_ ?_)
  · rintro pre x post δ1 M1 hx ⟨o5, o6, o7, o8, o9, rfl, rfl⟩
    have hxm : x ∈ b.wt := by rw [hx]; simp
    obtain ⟨q1, q2, q3, q4, q5⟩ := ok.wo x hxm
    have hpl : pre.length ≤ 4 := by
      have := congrArg List.length hx
      simp at this
      omega
    have hxl : x.ns.length ≤ 5 := by
      have h1 : x.ns.length ≤ b.names.length := nodup_sub _ _ q4 fun n hn => (q3 n hn).1
      have := ok.nlen
      omega
    refine ⟨_, bind_name, ?_⟩
    rw [encW_eq]
    refine run_if (B := fun c => c = decide (x.sk = z)) (tz_of (et_test (ev_op (x := .str x.sk) (y := .str z) (ev_op (ev_var rfl) ev_int (rv_ix (t := .t) (atI_nat (j := 1) rfl))) (ev_var rfl) rv_eqS))) (fun e => ?_) (fun e => run_next ?_)
    · refine run_setD (d := natD (b.maskOf x.ns)) (ev_cb (ea_cons (ev_lc0 x.ns Dt.str (fun n => natD (b.bit n)) (ei_tup (ev_op (ev_var rfl) ev_int (rv_ix (t := .t) (atI_nat (j := 2) rfl)))) (fun n hn => ⟨_, bind_name, bit (ev_var rfl) (ev_var rfl) (q3 n hn).1⟩) (by omega)) ea_nil) (rc_sumN (xs := []) (f := b.bit))) ?_
      refine run_setD (d := .int x.many) (ev_dget (ev_disp (kd := [(Sum.inr "all", Dt.int (x.ns.length : Nat)), (Sum.inr "any", .int 1), (Sum.inr "count", (restOf x.k).getLastD (tupS x.ns))]) (ps := [(.str "all", Dt.int (x.ns.length : Nat)), (.str "any", .int 1), (.str "count", (restOf x.k).getLastD (tupS x.ns))]) (eps_cons ev_str ((ev_cb (xs := [seqD .t (x.ns.map Dt.str)]) (ea_cons (ev_op (ev_var rfl) ev_int (rv_ix (t := .t) (atI_nat (j := 2) rfl))) ea_nil) rc_len).eq (by rw [List.length_map])) (eps_cons ev_str ev_int (eps_cons ev_str (ev_op (y := .int (-1)) (ev_var rfl) (ev_un (x := .int 1) ev_int ?_) (rv_ix (t := .t) (last_w x))) eps_nil))) rfl (by show 3 ≤ 15; decide)) (ev_op (x := .tup (.str (kwOf x.k) :: .str x.sk :: tupS x.ns :: restOf x.k)) (ev_var rfl) ev_int (rv_ix (t := .t) (atI_nat (j := 0) rfl))) (getK x)) ?_
      · exact fun u Hk H r k o Q q => by cases r; exact ⟨1, rfl, q (.int (-1)) Hk H (.refl k) o (.int _)⟩
      refine run_append (a := a) (P := fun d => d = encNI (b.maskOf x.ns, x.many)) rfl updM_same ?_ (ez_of (ev_tup (ea_cons (ev_var rfl) (ea_cons (ev_var rfl) ea_nil)))) (fun d e2 => ⟨_, _, _, _, _, rfl, ?_⟩)
      · rw [List.length_map, List.length_cons, List.length_map]
        have := List.length_filter_le (fun w : Wt => decide (w.sk = z)) pre
        omega
      · rw [updM_updM, e2, List.filter_append, List.filter_cons_of_pos (by exact e.symm), List.filter_nil, List.map_append (l₁ := pre.filter _), ← List.cons_append, List.map_append (l₂ := [x].map _)]
        rfl
    · refine ⟨_, _, _, _, _, rfl, ?_⟩
      rw [List.filter_append, List.filter_cons_of_neg (by rw [← e]; exact Bool.false_ne_true), List.filter_nil, List.append_nil]
  · rintro δ1 M1 ⟨o5, o6, o7, o8, o9, rfl, rfl⟩
    exact run_retO (a := a) rfl updM_same (fun z => z) rfl
end
end Rt
end

section
set_option Elab.async false
set_option linter.all false
set_option maxRecDepth 100000
set_option maxHeartbeats 4000000

namespace Rt
open PySem PySem.Spec PyProof.Rows L2 Ab C8
local macro_rules | `(tactic| walk_at "rv") => `(tactic| first
  | exact rv_I0i | exact rv_I0b | exact rv_eqI | exact rv_eqS | exact rv_neI | exact rv_neS | exact rv_eqB | exact rv_inS (t := .t) | exact rv_inS (t := .l) | exact rv_inI (t := .t) | exact rv_inI (t := .l) | exact rv_ninS (t := .t) | exact rv_ninS (t := .l) | exact rv_ninI (t := .t) | exact rv_ninI (t := .l) | exact rv_isN rfl | exact rv_notN rfl | exact rv_eqTI | exact rv_neTI | exact rv_eqLI | exact rv_neTS | exact rv_eqLTS | exact rv_neLTI | exact rv_sign)
local macro_rules | `(tactic| walk_at "ev") => `(tactic| first
  | exact ev_var rfl | exact ev_int | exact ev_str | exact ev_bl | exact ev_non | exact ev_ty | exact ea_nil | exact et_yes
  | ((with_reducible refine ev_op ?_ ?_ ?_) <;> walk_at "ev")
  | ((with_reducible refine ea_cons ?_ ?_) <;> walk_at "ev")
  | ((with_reducible refine ev_and ?_ ?_) <;> walk_at "ev")
  | ((with_reducible refine ev_or ?_ ?_) <;> walk_at "ev")
  | (with_reducible refine ev_not ?_; walk_at "ev")
  | (with_reducible refine ev_tup ?_; walk_at "ev")
  | (with_reducible refine ev_lst ?_; walk_at "ev")
  | (with_reducible refine et_not ?_; walk_at "ev")
  | ((with_reducible refine et_and ?_ ?_) <;> walk_at "ev")
  | ((with_reducible refine et_or ?_ ?_) <;> walk_at "ev")
  | (with_reducible refine et_test ?_; walk_at "ev")
  | (with_reducible refine et_B ?_; walk_at "ev")
  | (with_reducible refine fun (_ : _ = _) => ?_; walk_at "ev")
  | walk_at "rv"
  | skip)


theorem putFD_new {f : Str} {d : Dt} : ∀ {gs : List (Str × Dt)}, f ∉ gs.map (·.1) → putFD f d gs = gs ++ [(f, d)]
  | [], _ => rfl
  | (g, e) :: gs, h => by
    have h1 : g ≠ f := fun z => h (by rw [← z]; exact List.mem_cons_self)
    show (if g = f then _ else _) = _
    rw [if_neg h1, putFD_new fun z => h (List.mem_cons_of_mem _ z)]
    rfl
section
variable {F : Addr → Prop} {M : Led} {δ : Dst} {te : TE} {i : Nat} {a C : Addr} {N : Dst → Led → Prop} {R : Dt → Led → Prop} {K : PySem.W.Frag} {gs : List (Str × Dt)} {f : Str} {d : Dt} {p : Option Addr}
/-- self.f = e, f new -/
theorem run_sf (hi : δ[i]? = some (some (.adr a))) (hl : gs.length < 1000) (c : Cls K C) (n : NoAttr K C f) (hf : f ∉ gs.map (·.1)) (hv : Ez F p (updM M a (.ins C gs)) δ te fun x => x = d) (k : N δ (updM M a (.ins C (gs ++ [(f, d)])))) : Run F p (sFld K (tVar i) te f) δ (updM M a (.ins C gs)) N R :=
  run_sfld hi updM_same hl c n hv fun x e => by rw [updM_updM, e, putFD_new hf]; exact k
/-- self read while it is filled -/
theorem ez_self {P : Dt → Prop} (hi : δ[i]? = some (some (.adr a))) (h : EvP p te (δ.set i (some (.ins C gs))) P) (hn : ∀ d, P d → NI d) : Ez F p (updM noM a (.ins C gs)) δ te P :=
  ez_fz (Fz.refl.set hi updM_same) h fun d pd => Sep.ni (hn d pd) fun b e q => by
    by_cases z : b = a
    · rw [z, updM_same] at q; cases q; exact ⟨_, _, rfl⟩
    · rw [updM_ne z] at q; cases q
end
theorem mergeG_nd : ∀ {xs : List (Key × Dt)}, (xs.map (·.1)).Nodup → mergeG [] xs = xs := fun {xs} h => by
  have := foldl_putG0 (fun kv : Key × Dt => kv.1) (fun kv => kv.2) xs h
  unfold mergeG
  rw [this]
  exact List.map_id' xs
theorem cut1 (xs : List Dt) : Ab.cutD xs (some 1) none = xs.tail := by
  unfold Ab.cutD
  have e : HT.sIx xs.length 0 (some (1 : Int)) = min 1 xs.length := HT.sIx_nat _ _ 1
  rw [e, HT.sIx_none]
  cases xs with
  | nil => rfl
  | cons x xs =>
    rw [List.length_cons, show min 1 (xs.length + 1) = 1 by omega, show xs.length + 1 - 1 = xs.length by omega]
    exact List.take_length
theorem atI_last {α : Type} (xs : List α) (x : α) : atI (xs ++ [x]) (-1) = some x := by
  unfold atI ixN
  rw [if_neg (by decide), List.length_append, List.length_singleton]
  have h1 : (-1 : Int) + ((xs.length + 1 : Nat) : Int) = (xs.length : Int) := by omega
  simp only [h1]
  rw [if_pos (by omega)]
  simp
def powsTo (n : Nat) : List Nat := (List.range n).map (2 ^ ·)
theorem powsTo_succ (n : Nat) : powsTo (n + 1) = powsTo n ++ [2 ^ n] := by
  unfold powsTo
  rw [List.range_succ, List.map_append]
  rfl
theorem ni_lstN (xs : List Nat) : NI (lstN xs) := .lst (.map (fun _ => .int _) xs)
theorem ni_lstS (xs : List Str) : NI (lstS xs) := .lst (.map (fun _ => .str _) xs)
theorem zip_bits (b : Bk) (ok : b.Ok) : (b.names.map Sum.inr : List Key).zip (b.spots.map natD) = b.names.map fun s => (Sum.inr s, natD (b.bit s)) := by
  apply List.ext_getElem?
  intro i
  by_cases hi : i < b.names.length
  · have h1 := List.getElem?_eq_getElem hi
    have h2 : b.spots[i]? = some (2 ^ i) := by
      unfold Bk.spots Bk.n
      have : i < b.sk.length := by unfold Bk.names at hi; rwa [List.length_map] at hi
      rw [List.getElem?_map, List.getElem?_range this]
      rfl
    rw [List.getElem?_map, h1, List.getElem?_zip_eq_some (z := (Sum.inr b.names[i], natD (2 ^ i))) |>.mpr ⟨by rw [List.getElem?_map, h1]; rfl, by rw [List.getElem?_map, h2]; rfl⟩]
    show _ = some (Sum.inr b.names[i], natD (2 ^ b.names.idxOf b.names[i]))
    rw [ok.nod.idxOf_getElem i hi]
  · rw [List.getElem?_eq_none (by rw [List.length_zip, List.length_map]; omega), List.getElem?_eq_none (by rw [List.length_map]; omega)]
def gsS (b : Bk) (l : List Nat) : List (Str × Dt) := [("record", recD b), ("own_points", .int b.pts), ("own_reset", encO b.rs), ("own_names", lstS b.names), ("own_tiers", lstI (b.sk.map (·.2))),
  ("tier_by", .dk (b.sk.map fun x => (Sum.inr x.1, Dt.int x.2))), ("spots", lstN l)]
def fN : List Str := ["record", "own_points", "own_reset", "own_names", "own_tiers", "tier_by", "spots", "bits", "own_needs", "own_prices", "own_given", "barred", "asked"]
theorem rv_addN {p : Option Addr} {a c : Nat} : RvD p (rI0 fun i j => .int (i + j)) (natD a) (natD c) (natD (a + c)) := rv_I0i (g := fun i j => i + j) (i := (a : Int)) (j := (c : Int))
theorem kSI (xs : List (Str × Int)) : xs.map encSI = (xs.map fun x => ((Sum.inr x.1 : Key), Dt.int x.2)).map Cr.prD := by rw [List.map_map]; rfl
theorem kII (xs : List (Int × Int)) : xs.map encII = (xs.map fun x => ((Sum.inl x.1 : Key), Dt.int x.2)).map Cr.prD := by rw [List.map_map]; rfl
theorem ndSI {xs : List (Str × Int)} (h : (xs.map (·.1)).Nodup) : ((xs.map fun x => ((Sum.inr x.1 : Key), Dt.int x.2)).map (·.1)).Nodup := by
  rw [List.map_map]
  have := nodup_map (f := fun s : Str => (Sum.inr s : Key)) (fun _ _ e => Sum.inr.inj e) h
  rw [List.map_map] at this
  exact this
theorem ndII {xs : List (Int × Int)} (h : (xs.map (·.1)).Nodup) : ((xs.map fun x => ((Sum.inl x.1 : Key), Dt.int x.2)).map (·.1)).Nodup := by
  rw [List.map_map]
  have := nodup_map (f := fun s : Int => (Sum.inl s : Key)) (fun _ _ e => Sum.inl.inj e) h
  rw [List.map_map] at this
  exact this
theorem partK_nd (k : Kds) (b : Bk) : ((partK.zip (partL k b)).map (·.1)).Nodup := by
  show partK.Nodup
  exact nodup_map (fun _ _ e => Sum.inr.inj e) partsL_nodup
theorem ni_SI (xs : List (Str × Int)) : NI (.dk (xs.map fun x => ((Sum.inr x.1 : Key), Dt.int x.2))) := .dk (by rw [List.map_map]; exact .map (fun _ => .int _) xs)
def bookKs : List Str := ["needs", "wants", "bars", "gives", "prices", "reset"]

section
variable {P : Program} {w : World} {K : PySem.W.Frag} {mg : Str → Option Value} {base : Heap}

def n_b_init : List Str := ["self", "skills", "points", "needs", "wants", "bars", "gives", "prices", "reset", "name", "tier", "one", "other"]
def p_b_init : List Str := ["self", "skills", "points", "needs", "wants", "bars", "gives", "prices", "reset"]
theorem sc_b_init : FnScope n_b_init p_b_init (defScope s_b_init) := ⟨rfl, rfl, rfl, by decide +kernel, rfl, by decide +kernel, by decide +kernel⟩
def R_b_init (K : PySem.W.Frag) : List Dt → (List (Str × Dt) → Prop) → Prop := fun ds G => ∃ k : Kds, ∃ b : Bk, ds = partL k b ∧ b.Ok ∧ k.Ok ∧ G = fun gs => gs = bkF b
theorem c_Book (T : Tx K mg) : ∃ fd, FnOk P w K mg base C8.CX0 5 (He.ma K (He.ga K "Book") "__init__") fd p_b_init (SpI (BC K) (R_b_init K)) ∧ KBn K fd p_b_init 3 bookKs (fun us ws => us ++ ws) (fun vs zs => vs ++ zs) := by
  obtain ⟨fd, F⟩ := T.f_b_init
  have c_look_at_parts := c_look_at_parts (P := P) (w := w) (base := base) T
  have c_asked_by := c_asked_by (P := P) (w := w) (base := base) T
  refine ⟨fd, F.ok sc_b_init (spI_len (n := 9) (by rintro _ _ ⟨_, _, rfl, _⟩; rfl)) fun cdv A outer s H vs Q E hr h => ⟨_, PSs.nox (pss_cons (ps_expr (pe_c c_look_at_parts hr (by decide) (by rfl) (pa_cons (Cr.pe_dictZip (K := K) rfl rfl (by rfl) T.n_dict (by rfl) T.n_zip (pa_cons (pe_gc (by rfl) T.k_PARTS) (pa_cons (pe_tup (pa_cons (pv 1) (pa_cons (pv 2) (pa_cons (pv 3) (pa_cons (pv 4) (pa_cons (pv 5) (pa_cons (pv 6) (pa_cons (pv 7) (pa_cons (pv 8) pa_nil))))))))) pa_nil))) pa_nil))) (pss_cons (ps_fld (pv 0) (pe_tup (pa_cons (pe_callTy (Cr.call_tupF (K := K) rfl) (by rfl) T.n_tuple (by decide +kernel) (pa_cons (pv 1) pa_nil)) (pa_cons (pv 2) (pa_cons (pe_callTy (Cr.call_tupF (K := K) rfl) (by rfl) T.n_tuple (by decide +kernel) (pa_cons (pv 3) pa_nil)) (pa_cons (pe_callTy (Cr.call_tupF (K := K) rfl) (by rfl) T.n_tuple (by decide +kernel) (pa_cons (pv 4) pa_nil)) (pa_cons (pe_callTy (Cr.call_tupF (K := K) rfl) (by rfl) T.n_tuple (by decide +kernel) (pa_cons (pv 5) pa_nil)) (pa_cons (pe_callTy (Cr.call_tupF (K := K) rfl) (by rfl) T.n_tuple (by decide +kernel) (pa_cons (pv 6) pa_nil)) (pa_cons (pe_callTy (Cr.call_tupF (K := K) rfl) (by rfl) T.n_tuple (by decide +kernel) (pa_cons (pv 7) pa_nil)) (pa_cons (pv 8) pa_nil))))))))) rfl) (pss_cons (ps_fld (pv 0) (pv 2) rfl) (pss_cons (ps_fld (pv 0) (pv 8) rfl) (pss_cons (ps_fld (pv 0) (pe_lc (own := [("name", 9), ("tier", 10)]) rfl sc_b_init.nd (Kr.seq (K := K) rfl (pv 1)) (blkOk_by (own := [("name", 9), ("tier", 10)]) (N := n_b_init) (sc := defScope s_b_init) (by decide +kernel)) (fun _ _ _ _ _ => (Kr.tup (K := K) (n := 2) rfl rfl (pgs_cons (pg_name (i := 9) sc_b_init.nd rfl (by first | exact Or.inl rfl | exact Or.inr rfl)) (pgs_cons (pg_name (i := 10) sc_b_init.nd rfl (by first | exact Or.inl rfl | exact Or.inr rfl)) pgs_nil)))) (fun _ _ _ _ _ => pts_nil) (fun _ _ _ _ _ => (pv 9))) rfl) (pss_cons (ps_fld (pv 0) (pe_lc (own := [("name", 9), ("tier", 10)]) rfl sc_b_init.nd (Kr.seq (K := K) rfl (pv 1)) (blkOk_by (own := [("name", 9), ("tier", 10)]) (N := n_b_init) (sc := defScope s_b_init) (by decide +kernel)) (fun _ _ _ _ _ => (Kr.tup (K := K) (n := 2) rfl rfl (pgs_cons (pg_name (i := 9) sc_b_init.nd rfl (by first | exact Or.inl rfl | exact Or.inr rfl)) (pgs_cons (pg_name (i := 10) sc_b_init.nd rfl (by first | exact Or.inl rfl | exact Or.inr rfl)) pgs_nil)))) (fun _ _ _ _ _ => pts_nil) (fun _ _ _ _ _ => (pv 10))) rfl) (pss_cons (ps_fld (pv 0) (pe_callTy (Cr.call_dictS (K := K) rfl rfl) (by rfl) T.n_dict (by decide +kernel) (pa_cons (pv 1) pa_nil)) rfl) (pss_cons (ps_fld (pv 0) (pe_lst (pa_cons pe_int pa_nil)) rfl) (pss_cons (ps_for PassesOwn.never rfl (Kr.seq (K := K) rfl (pe_slice (Kr.sl (K := K) rfl) (Kr.fld (K := K) rfl (pv 0)) (po_some pe_int) po_none)) (pg_name (i := 9) sc_b_init.nd rfl (by first | exact Or.inl rfl | exact Or.inr rfl)) (pss_one (ps_fld (pv 0) (pe_lst (Kr.star (K := K) rfl (Kr.fld (K := K) rfl (pv 0)) (pa_cons (pe_op op_mul (pe_ix (Kr.ix (K := K) rfl) (Kr.fld (K := K) rfl (pv 0)) (pe_un un_neg pe_int) (fun _ _ => rfl)) pe_int) pa_nil))) rfl))) (pss_cons (ps_fld (pv 0) (Cr.pe_dictZip (K := K) rfl rfl (by rfl) T.n_dict (by rfl) T.n_zip (pa_cons (Kr.fld (K := K) rfl (pv 0)) (pa_cons (Kr.fld (K := K) rfl (pv 0)) pa_nil))) rfl) (pss_cons (ps_fld (pv 0) (pe_callTy (Cr.call_dictS (K := K) rfl rfl) (by rfl) T.n_dict (by decide +kernel) (pa_cons (pv 3) pa_nil)) rfl) (pss_cons (ps_fld (pv 0) (pe_callTy (Cr.call_dictS (K := K) rfl rfl) (by rfl) T.n_dict (by decide +kernel) (pa_cons (pv 7) pa_nil)) rfl) (pss_cons (ps_fld (pv 0) (pe_callTy (Cr.call_dictS (K := K) rfl rfl) (by rfl) T.n_dict (by decide +kernel) (pa_cons (pv 6) pa_nil)) rfl) (pss_cons (ps_fld (pv 0) (pe_lc (own := [("one", 11), ("other", 12)]) rfl sc_b_init.nd (Kr.seq (K := K) rfl (pv 5)) (blkOk_by (own := [("one", 11), ("other", 12)]) (N := n_b_init) (sc := defScope s_b_init) (by decide +kernel)) (fun _ _ _ _ _ => (Kr.tup (K := K) (n := 2) rfl rfl (pgs_cons (pg_name (i := 11) sc_b_init.nd rfl (by first | exact Or.inl rfl | exact Or.inr rfl)) (pgs_cons (pg_name (i := 12) sc_b_init.nd rfl (by first | exact Or.inl rfl | exact Or.inr rfl)) pgs_nil)))) (fun _ _ _ _ _ => pts_nil) (fun _ _ _ _ _ => (pe_op op_add (pe_dget (hu_of hr) (Kr.fld (K := K) rfl (pv 0)) (pv 11) (fun _ _ => rfl)) (pe_dget (hu_of hr) (Kr.fld (K := K) rfl (pv 0)) (pv 12) (fun _ _ => rfl))))) rfl) (pss_one (ps_fld (pv 0) (pe_lc (own := [("name", 9)]) rfl sc_b_init.nd (Kr.seq (K := K) rfl (Kr.fld (K := K) rfl (pv 0))) (blkOk_by (own := [("name", 9)]) (N := n_b_init) (sc := defScope s_b_init) (by decide +kernel)) (fun _ _ _ _ _ => (pg_name (i := 9) sc_b_init.nd rfl (by first | exact Or.inl rfl | exact Or.inr rfl))) (fun _ _ _ _ _ => pts_nil) (fun _ _ _ _ _ => (pe_mt c_asked_by hr (by decide) (pv 0) (pa_cons (pv 9) pa_nil)))) rfl)))))))))))))))), ?_⟩, ?_⟩
  · refine spI_of (N := n_b_init) (fun a ds G hR => ?_) h
    obtain ⟨k, b, rfl, ok, kok, rfl⟩ := hR
    have hsl := ok.len
    have hnl := ok.nlen
    have hdl := ok.nl
    have hgl := ok.gl
    have hpl := ok.pl
    have hbl := ok.bl
    refine run_seq (run_drop (ez_of (ev_call (ds := [.dk (partsD k b)]) (ea_cons ((ev_dictZip (ks := partK) (ys := partL k b) (ea_cons ev_adr (ea_cons (ev_tup (xs := partL k b) (ea_cons (ev_var rfl) (ea_cons (ev_var rfl) (ea_cons (ev_var rfl) (ea_cons (ev_var rfl) (ea_cons (ev_var rfl) (ea_cons (ev_var rfl) (ea_cons (ev_var rfl) (ea_cons (ev_var rfl) ea_nil)))))))) (by show 8 ≤ 100000; decide)) ea_nil)) (.inr (.inr ⟨_, rfl, T.t_PARTS, rfl⟩))).eq (by rw [mergeG_nd (partK_nd k b)]; rfl)) ea_nil) ⟨k, b, rfl, ok, rfl⟩)) fun _ _ => ?_)
    refine run_seq (run_sf (d := recD b) (gs := []) rfl (by decide) T.c_Book T.a_record List.not_mem_nil (ez_of (ev_tup (ea_cons (ev_cb (xs := [seqD k.s (b.sk.map encSI)]) (ea_cons (ev_var rfl) ea_nil) (Cr.rc_tupF kok.s)) (ea_cons (ev_var rfl) (ea_cons (ev_cb (xs := [seqD k.n (b.nd.map encII)]) (ea_cons (ev_var rfl) ea_nil) (Cr.rc_tupF kok.n)) (ea_cons (ev_cb (xs := [seqD k.w (b.wt.map encW)]) (ea_cons (ev_var rfl) ea_nil) (Cr.rc_tupF kok.w)) (ea_cons (ev_cb (xs := [seqD k.b (b.br.map encSS)]) (ea_cons (ev_var rfl) ea_nil) (Cr.rc_tupF kok.b)) (ea_cons (ev_cb (xs := [seqD k.g (b.gv.map encSI)]) (ea_cons (ev_var rfl) ea_nil) (Cr.rc_tupF kok.g)) (ea_cons (ev_cb (xs := [seqD k.p (b.pr.map encSI)]) (ea_cons (ev_var rfl) ea_nil) (Cr.rc_tupF kok.p)) (ea_cons (ev_var rfl) ea_nil)))))))) (by show 8 ≤ 100000; decide))) ?_)
    refine run_seq (run_sf (d := .int b.pts) (gs := (bkF0 b).take 1) rfl (by show 1 < 1000; decide) T.c_Book T.a_own_points (by show _ ∉ fN.take 1; decide +kernel) (ez_of (ev_var rfl)) ?_)
    refine run_seq (run_sf (d := encO b.rs) (gs := (bkF0 b).take 2) rfl (by show 2 < 1000; decide) T.c_Book T.a_own_reset (by show _ ∉ fN.take 2; decide +kernel) (ez_of (ev_var rfl)) ?_)
    refine run_seq (run_sf (d := lstS b.names) (gs := (bkF0 b).take 3) rfl (by show 3 < 1000; decide) T.c_Book T.a_own_names (by show _ ∉ fN.take 3; decide +kernel) (ez_of ((ev_lc0 b.sk encSI (fun x => .str x.1) (ei_seq (t := k.s) (ev_var rfl)) (fun x hx => ⟨_, bind_tup (bind_cons bind_name (bind_cons bind_name bind_nil)), ev_var rfl⟩) (by omega)).eq (by unfold lstS Bk.names; rw [List.map_map]; rfl))) ?_)
    refine run_seq (run_sf (d := lstI (b.sk.map (·.2))) (gs := (bkF0 b).take 4) rfl (by show 4 < 1000; decide) T.c_Book T.a_own_tiers (by show _ ∉ fN.take 4; decide +kernel) (ez_of ((ev_lc0 b.sk encSI (fun x => .int x.2) (ei_seq (t := k.s) (ev_var rfl)) (fun x hx => ⟨_, bind_tup (bind_cons bind_name (bind_cons bind_name bind_nil)), ev_var rfl⟩) (by omega)).eq (by unfold lstI; rw [List.map_map]; rfl))) ?_)
    refine run_seq (run_sf (d := .dk (b.sk.map fun x => (Sum.inr x.1, Dt.int x.2))) (gs := (bkF0 b).take 5) rfl (by show 5 < 1000; decide) T.c_Book T.a_tier_by (by show _ ∉ fN.take 5; decide +kernel) (ez_of ((ev_cb (xs := [seqD k.s (b.sk.map encSI)]) (ea_cons (ev_var rfl) ea_nil) (by rw [kSI]; exact Cr.rc_dictS kok.s)).eq (by rw [mergeG_nd (ndSI ok.nod)]))) ?_)
    refine run_seq (run_sf (d := lstN [1]) (gs := (bkF0 b).take 6) rfl (by show 6 < 1000; decide) T.c_Book T.a_spots (by show _ ∉ fN.take 6; decide +kernel) (ez_of (ev_lst (xs := [natD 1]) (ea_cons ev_int ea_nil))) ?_)
    refine run_seq (run_forL (vs := [9]) b.names.tail Dt.str (fun pre δ M => ∃ o9 o10 o11 o12, δ = (Dt.adr a :: partL k b).map some ++ [o9, o10, o11, o12] ∧ M = updM noM a (.ins (BC K) (gsS b (powsTo (pre.length + 1))))) (iz_seq ((ez_self (i := 0) (gs := gsS b (powsTo 1)) rfl (ev_slice (xs := b.names.map Dt.str) (ev_fld (ev_var rfl) T.c_Book T.a_own_names (by rfl)) (eo_some ev_int) eo_none) (fun d e => ?_)).imp fun d e => ⟨.l, _, rfl, ?_⟩)) ⟨_, _, _, _, rfl, rfl⟩ ?_ ?_)
    · rw [e, cut1, ← List.map_tail]
      exact ni_lstS _
    · rw [e, cut1, ← List.map_tail]
      rfl
    · rintro pre x post δ1 M1 hx ⟨o9, o10, o11, o12, rfl, rfl⟩
      have hpl : pre.length ≤ 5 := by
        have := congrArg List.length hx
        simp at this
        omega
      refine ⟨_, bind_name, ?_⟩
      refine run_sfld (a := a) (P := fun d => d = lstN (powsTo (pre.length + 1 + 1))) rfl updM_same (by show 7 < 1000; decide) T.c_Book T.a_spots (ez_self (i := 0) (gs := gsS b (powsTo (pre.length + 1))) rfl ((ev_lst (xs := (powsTo (pre.length + 1)).map natD ++ [natD (2 ^ pre.length * 2)]) (ea_star (t := .l) (ev_fld (ev_var rfl) T.c_Book T.a_spots (by rfl)) (ea_cons (ev_op (x := natD (2 ^ pre.length)) (y := .int 2) (ev_op (y := .int (-1)) (ev_fld (ev_var rfl) T.c_Book T.a_spots (by rfl)) (ev_un (x := .int 1) ev_int (fun u Hk H r k o Q q => by cases r; exact ⟨1, rfl, q (.int (-1)) Hk H (.refl k) o (.int _)⟩)) (rv_ix (t := .l) ?_)) ev_int (rv_Ii (g := fun i j => i * j) (i := ((2 ^ pre.length : Nat) : Int)) (.inr ⟨by decide, by decide⟩))) ea_nil)) ?_).eq ?_) (fun d e => by rw [e]; exact ni_lstN _)) (fun d e => ⟨_, _, _, _, rfl, ?_⟩)
      · rw [powsTo_succ, List.map_append]
        exact atI_last _ _
      · rw [List.length_append, List.length_map, List.length_singleton]
        unfold powsTo
        rw [List.length_map, List.length_range]
        omega
      · rw [powsTo_succ (pre.length + 1)]
        unfold lstN
        rw [List.map_append, Nat.pow_succ]
        rfl
      · rw [updM_updM, e, List.length_append]
        rfl
    · rintro δ1 M1 ⟨o9, o10, o11, o12, rfl, rfl⟩
      have hpw : powsTo (b.names.tail.length + 1) = b.spots := by
        have : b.names.tail.length + 1 = b.n := by
          have h1 : b.names.length = b.sk.length := by unfold Bk.names; rw [List.length_map]
          have h2 : 0 < b.sk.length := List.length_pos_iff.mpr ok.ne
          rw [List.length_tail]
          unfold Bk.n
          omega
        rw [this]
        rfl
      rw [hpw]
      refine run_seq (run_sf (d := .dk (b.names.map fun s => (Sum.inr s, natD (b.bit s)))) (gs := gsS b b.spots) rfl (by show 7 < 1000; decide) T.c_Book T.a_bits (by show _ ∉ fN.take 7; decide +kernel) (ez_self (i := 0) rfl ((ev_dictZip (ks := b.names.map Sum.inr) (ys := b.spots.map natD) (x := lstS b.names) (y := lstN b.spots) (ea_cons (ev_fld (ev_var rfl) T.c_Book T.a_own_names (by rfl)) (ea_cons (ev_fld (ev_var rfl) T.c_Book T.a_spots (by rfl)) ea_nil)) (.inl ⟨by unfold lstS; rw [List.map_map]; rfl, rfl⟩)).eq ?_) ?_) ?_)
      · rw [zip_bits b ok, mergeG_nd]
        rw [List.map_map]
        exact nodup_map (f := fun s : Str => (Sum.inr s : Key)) (fun _ _ e => Sum.inr.inj e) ok.nod
      · intro d e
        rw [e]
        exact .dk (by rw [List.map_map]; exact .map (fun _ => .int _) b.names)
      refine run_seq (run_sf (d := .dk (b.nd.map fun x => (Sum.inl x.1, Dt.int x.2))) (gs := (bkF0 b).take 8) rfl (by show 8 < 1000; decide) T.c_Book T.a_own_needs (by show _ ∉ fN.take 8; decide +kernel) (ez_of ((ev_cb (xs := [seqD k.n (b.nd.map encII)]) (ea_cons (ev_var rfl) ea_nil) (by rw [kII]; exact Cr.rc_dictS kok.n)).eq (by rw [mergeG_nd (ndII ok.nn)]))) ?_)
      refine run_seq (run_sf (d := .dk (b.pr.map fun x => (Sum.inr x.1, Dt.int x.2))) (gs := (bkF0 b).take 9) rfl (by show 9 < 1000; decide) T.c_Book T.a_own_prices (by show _ ∉ fN.take 9; decide +kernel) (ez_of ((ev_cb (xs := [seqD k.p (b.pr.map encSI)]) (ea_cons (ev_var rfl) ea_nil) (by rw [kSI]; exact Cr.rc_dictS kok.p)).eq (by rw [mergeG_nd (ndSI ok.pn)]))) ?_)
      refine run_seq (run_sf (d := .dk (b.gv.map fun x => (Sum.inr x.1, Dt.int x.2))) (gs := (bkF0 b).take 10) rfl (by show 10 < 1000; decide) T.c_Book T.a_own_given (by show _ ∉ fN.take 10; decide +kernel) (ez_of ((ev_cb (xs := [seqD k.g (b.gv.map encSI)]) (ea_cons (ev_var rfl) ea_nil) (by rw [kSI]; exact Cr.rc_dictS kok.g)).eq (by rw [mergeG_nd (ndSI ok.gn)]))) ?_)
      refine run_seq (run_sf (d := lstN b.barred) (gs := (bkF0 b).take 11) rfl (by show 11 < 1000; decide) T.c_Book T.a_barred (by show _ ∉ fN.take 11; decide +kernel) (ez_self (i := 0) rfl ((ev_lc0 b.br encSS (fun x => natD (b.bit x.1 + b.bit x.2)) (ei_seq (t := k.b) (ev_var rfl)) (fun x hx => ⟨_, bind_tup (bind_cons bind_name (bind_cons bind_name bind_nil)), ev_op (ev_dget (ev_fld (ev_var rfl) T.c_Book T.a_bits (by rfl)) (ev_var rfl) (get_bits ok (ok.bo x hx).1)) (ev_dget (ev_fld (ev_var rfl) T.c_Book T.a_bits (by rfl)) (ev_var rfl) (get_bits ok (ok.bo x hx).2.1)) rv_addN⟩) (by omega)).eq (by unfold lstN Bk.barred; rw [List.map_map]; rfl)) (fun d e => by rw [e]; exact ni_lstN _)) ?_)
      refine run_sf (d := .lst (b.names.map fun s => .lst ((b.askedBy s).map encNI))) (gs := bkF0 b) rfl (by show 12 < 1000; decide) T.c_Book T.a_asked (by show _ ∉ fN.take 12; decide +kernel) (ez_self (i := 0) rfl (ev_lc0 b.names Dt.str (fun s => .lst ((b.askedBy s).map encNI)) (ei_lst (ev_fld (ev_var rfl) T.c_Book T.a_own_names (by rfl))) (fun z hz => ⟨_, bind_name, ev_meth (gs := bkF0 b) (ev_var rfl) (by rfl) (ea_cons (ev_var rfl) ea_nil) ⟨b, z, rfl, ok, hz, rfl⟩⟩) (by omega)) (fun d e => by rw [e]; exact .lst (.map (fun z => .lst (.map (fun q => .tup (.cons (.int _) (.cons (.int _) .nil))) _)) b.names))) ?_
      exact ⟨_, updM_same, rfl⟩
  · have hb : ∀ (D : Addr) (doc pm : Value) (an : Option Addr) (cdv ct : Value) (us mv ws : List Value), us.length = 3 → mv.length = ([] : List (Str × V)).length → ws.length = bookKs.length →
        KwChain D ((([] : List (Str × V)).map (·.1)).zip mv) (bindArgs (PySem.W.fnOf "__init__" "Book.__init__" (defArgs s_b_init) (defBody s_b_init) (defScope s_b_init) .none (.ref D) doc pm an cdv ct) ⟨us, bookKs.zip ws⟩) (p_b_init.zip (us ++ ws)) := fun D doc pm an cdv ct us mv ws l1 l2 l3 => by
      match us, l1, mv, l2, ws, l3 with
      | [a, b, c], _, [], _, [d, e, f, g, h, i], _ => rfl
    obtain ⟨mv, h⟩ := F.kbinds0 3 bookKs [] (fun vs _ zs => vs ++ zs) (by decide) (fun _ h => nomatch h) (fun a _ c => a.append c) hb
    exact h

end
end Rt
end

section
set_option Elab.async false
set_option linter.all false
set_option maxRecDepth 100000
set_option maxHeartbeats 4000000

namespace Rt
open PySem PySem.Spec PyProof.Rows L2 Ab C8
local macro_rules | `(tactic| walk_at "rv") => `(tactic| first
  | exact rv_I0i | exact rv_I0b | exact rv_eqI | exact rv_eqS | exact rv_neI | exact rv_neS | exact rv_eqB | exact rv_inS (t := .t) | exact rv_inS (t := .l) | exact rv_inI (t := .t) | exact rv_inI (t := .l) | exact rv_ninS (t := .t) | exact rv_ninS (t := .l) | exact rv_ninI (t := .t) | exact rv_ninI (t := .l) | exact rv_isN rfl | exact rv_notN rfl | exact rv_eqTI | exact rv_neTI | exact rv_eqLI | exact rv_neTS | exact rv_eqLTS | exact rv_neLTI | exact rv_sign)
local macro_rules | `(tactic| walk_at "ev") => `(tactic| first
  | exact ev_var rfl | exact ev_int | exact ev_str | exact ev_bl | exact ev_non | exact ev_ty | exact ea_nil | exact et_yes
  | ((with_reducible refine ev_op ?_ ?_ ?_) <;> walk_at "ev")
  | ((with_reducible refine ea_cons ?_ ?_) <;> walk_at "ev")
  | ((with_reducible refine ev_and ?_ ?_) <;> walk_at "ev")
  | ((with_reducible refine ev_or ?_ ?_) <;> walk_at "ev")
  | (with_reducible refine ev_not ?_; walk_at "ev")
  | (with_reducible refine ev_tup ?_; walk_at "ev")
  | (with_reducible refine ev_lst ?_; walk_at "ev")
  | (with_reducible refine et_not ?_; walk_at "ev")
  | ((with_reducible refine et_and ?_ ?_) <;> walk_at "ev")
  | ((with_reducible refine et_or ?_ ?_) <;> walk_at "ev")
  | (with_reducible refine et_test ?_; walk_at "ev")
  | (with_reducible refine et_B ?_; walk_at "ev")
  | (with_reducible refine fun (_ : _ = _) => ?_; walk_at "ev")
  | walk_at "rv"
  | skip)


def kf : Kds := ⟨.f, .f, .f, .f, .f, .f⟩
def kl : Kds := ⟨.f, .f, .l, .f, .f, .f⟩
def kll : Kds := ⟨.l, .l, .l, .l, .l, .l⟩
theorem kl_ok : kl.Ok := ⟨(fun z => nomatch z), (fun z => nomatch z), (fun z => nomatch z), (fun z => nomatch z), (fun z => nomatch z), (fun z => nomatch z)⟩
theorem kll_ok : kll.Ok := ⟨(fun z => nomatch z), (fun z => nomatch z), (fun z => nomatch z), (fun z => nomatch z), (fun z => nomatch z), (fun z => nomatch z)⟩
theorem lk_back {ds : List Dt} (hl : ds.length = 8) : (partsL.map fun z => (lkG (partK.zip ds) (Sum.inr z)).getD .non) = ds := by
  apply List.ext_getElem?
  intro i
  by_cases hi : i < 8
  · have h1 : partsL[i]? = some (partsL[i]'(by exact hi)) := List.getElem?_eq_getElem _
    have h2 : ds[i]? = some (ds[i]'(by omega)) := List.getElem?_eq_getElem _
    rw [List.getElem?_map, h1, h2]
    show some ((lkG _ _).getD _) = _
    rw [show partK = partsL.map Sum.inr from rfl, lk_at (ds := ds) partsL ds i partsL_nodup h1 h2]
    rfl
  · rw [List.getElem?_eq_none (by rw [List.length_map]; exact Nat.le_of_not_lt hi), List.getElem?_eq_none (by omega)]
theorem upd_wants (b : Bk) (wt : List Wt) : mergeG (partK.zip (partL kf b)) [(Sum.inr "wants", .lst (wt.map encW))] = partK.zip (partL kl { b with wt := wt }) := by
  show putG (partK.zip (partL kf b)) (Sum.inr "wants") (Dt.lst (wt.map encW)) = _
  rfl
theorem srtS_one (z : Str) : srtS [z] = [z] := List.perm_singleton.mp (srtS_perm [z])

section
variable {P : Program} {w : World} {K : PySem.W.Frag} {mg : Str → Option Value} {base : Heap}

def n_b_wants : List Str := ["self"]
def p_b_wants : List Str := ["self"]
theorem sc_b_wants : FnScope n_b_wants p_b_wants (defScope s_b_wants) := ⟨rfl, rfl, rfl, by decide +kernel, rfl, by decide +kernel, by decide +kernel⟩
def R_b_wants (K : PySem.W.Frag) : List Dt → Dt → Prop := fun ds d => ∃ b : Bk, ds = [bkD (BC K) b] ∧ d = .lst (b.wt.map encW)
theorem c_wants (T : Tx K mg) : C8.Met P w K mg base 1 (He.ga K "Book") "wants" (SpD (R_b_wants K)) [] := by
  obtain ⟨fd, F⟩ := T.f_b_wants
  refine met T.c_Book T.m_b_wants F sc_b_wants (fun _ _ _ _ _ _ us hl => match us, hl with | [_], _ => rfl) (spD_len (n := 1) (by first | (rintro _ _ ⟨_, rfl, _⟩; rfl))) fun cdv A outer s H E hr => ⟨_, (pss_one (ps_ret (pe_callTy (Kr.list (K := K) rfl) (by rfl) T.n_list (by decide +kernel) (pa_cons (pe_ix (Kr.ix (K := K) rfl) (Kr.fld (K := K) rfl (pv 0)) pe_int (fun _ _ => rfl)) pa_nil)))), ?_⟩
  intro vs Q h
  refine spD_of (N := n_b_wants) (fun ds d hR => ?_) h
  obtain ⟨b, rfl, rfl⟩ := hR
  exact run_retD (ev_cb (xs := [seqD .f (b.wt.map encW)]) (ea_cons (ev_op (f_record T (ev_var rfl)) ev_int (rv_ix (t := .t) (atI_nat (j := 3) rfl))) ea_nil) rc_list)
def n_b_names : List Str := ["self"]
def p_b_names : List Str := ["self"]
theorem sc_b_names : FnScope n_b_names p_b_names (defScope s_b_names) := ⟨rfl, rfl, rfl, by decide +kernel, rfl, by decide +kernel, by decide +kernel⟩
def R_b_names (K : PySem.W.Frag) : List Dt → Dt → Prop := fun ds d => ∃ b : Bk, ds = [bkD (BC K) b] ∧ d = lstS b.names
theorem c_names (T : Tx K mg) : C8.Met P w K mg base 1 (He.ga K "Book") "names" (SpD (R_b_names K)) [] := by
  obtain ⟨fd, F⟩ := T.f_b_names
  refine met T.c_Book T.m_b_names F sc_b_names (fun _ _ _ _ _ _ us hl => match us, hl with | [_], _ => rfl) (spD_len (n := 1) (by first | (rintro _ _ ⟨_, rfl, _⟩; rfl))) fun cdv A outer s H E hr => ⟨_, (pss_one (ps_ret (pe_callTy (Kr.list (K := K) rfl) (by rfl) T.n_list (by decide +kernel) (pa_cons (Kr.fld (K := K) rfl (pv 0)) pa_nil)))), ?_⟩
  intro vs Q h
  refine spD_of (N := n_b_names) (fun ds d hR => ?_) h
  obtain ⟨b, rfl, rfl⟩ := hR
  exact run_retD (ev_cb (xs := [seqD .l (b.names.map Dt.str)]) (ea_cons (f_names T (ev_var rfl)) ea_nil) rc_list)
def n_book_by : List Str := ["parts", "skills", "points", "needs", "wants", "bars", "gives", "prices", "reset"]
def p_book_by : List Str := ["parts"]
theorem sc_book_by : FnScope n_book_by p_book_by (defScope s_book_by) := ⟨rfl, rfl, rfl, by decide +kernel, rfl, by decide +kernel, by decide +kernel⟩
def R_book_by (K : PySem.W.Frag) : List Dt → Dt → Prop := fun ds d => ∃ k : Kds, ∃ b : Bk, ds = [.lst (partL k b)] ∧ b.Ok ∧ k.Ok ∧ d = bkD (BC K) b
theorem c_book_by (T : Tx K mg) : C8.Cal P w K mg base 7 "book_by" (SpD (R_book_by K)) [] := by
  obtain ⟨fd, F⟩ := T.f_book_by
  obtain ⟨fdB, FB, KB⟩ := c_Book (P := P) (w := w) (base := base) T
  refine cal F T.g_book_by sc_book_by (fun _ _ _ _ _ _ us hl => match us, hl with | [_], _ => rfl) (spD_len (n := 1) (by rintro _ _ ⟨_, _, rfl, _⟩; rfl)) fun cdv A outer s H E hr => ⟨_, (pss_cons (ps_asg (pv 0) (Kr.unl (K := K) (n := 8) rfl rfl (pgs_cons (pg_name (i := 1) sc_book_by.nd rfl (by first | exact Or.inl rfl | exact Or.inr rfl)) (pgs_cons (pg_name (i := 2) sc_book_by.nd rfl (by first | exact Or.inl rfl | exact Or.inr rfl)) (pgs_cons (pg_name (i := 3) sc_book_by.nd rfl (by first | exact Or.inl rfl | exact Or.inr rfl)) (pgs_cons (pg_name (i := 4) sc_book_by.nd rfl (by first | exact Or.inl rfl | exact Or.inr rfl)) (pgs_cons (pg_name (i := 5) sc_book_by.nd rfl (by first | exact Or.inl rfl | exact Or.inr rfl)) (pgs_cons (pg_name (i := 6) sc_book_by.nd rfl (by first | exact Or.inl rfl | exact Or.inr rfl)) (pgs_cons (pg_name (i := 7) sc_book_by.nd rfl (by first | exact Or.inl rfl | exact Or.inr rfl)) (pgs_cons (pg_name (i := 8) sc_book_by.nd rfl (by first | exact Or.inl rfl | exact Or.inr rfl)) pgs_nil)))))))))) (pss_one (ps_ret (pe_makeK T.mk_Book FB (hr.mono (by decide)) (by rfl) T.g_Book KB (C8.pass0 (E := C8.E0)) (pa_cons (pv 1) (pa_cons (pv 2) pa_nil)) (pk_cons (pv 3) (pk_cons (pv 4) (pk_cons (pv 5) (pk_cons (pv 6) (pk_cons (pv 7) (pk_cons (pv 8) pk_nil)))))))))), ?_⟩
  intro vs Q h
  refine spD_of (N := n_book_by) (fun ds d hR => ?_) h
  obtain ⟨k, b, rfl, ok, kok, rfl⟩ := hR
  refine run_seq (run_asg (vs := [1, 2, 3, 4, 5, 6, 7, 8]) (P := fun d => d = .lst (partL k b)) (ez_of (ev_var rfl)) fun d e => ?_)
  subst e
  refine ⟨_, bind_unl (bind_cons bind_name (bind_cons bind_name (bind_cons bind_name (bind_cons bind_name (bind_cons bind_name (bind_cons bind_name (bind_cons bind_name (bind_cons bind_name bind_nil)))))))), ?_⟩
  refine run_retD ((evp_makeK (G := fun gs => gs = bkF b) (ds := (partL k b).take 2) (es := (partL k b).drop 2) (fs := partL k b) (ea_cons (ev_var rfl) (ea_cons (ev_var rfl) ea_nil)) (ea_cons (ev_var rfl) (ea_cons (ev_var rfl) (ea_cons (ev_var rfl) (ea_cons (ev_var rfl) (ea_cons (ev_var rfl) (ea_cons (ev_var rfl) ea_nil)))))) rfl rfl (fun x vs zs Hk r1 r2 => ⟨vs ++ zs, rfl, r1.append r2⟩) ⟨k, b, rfl, ok, kok, rfl⟩).imp fun d ⟨gs, e1, e2⟩ => by rw [e2, e1]; rfl)
def n_b_changed : List Str := ["self", "parts", "name", "told", "part"]
def p_b_changed : List Str := ["self", "parts"]
theorem sc_b_changed : FnScope n_b_changed p_b_changed (defScope s_b_changed) := ⟨rfl, rfl, rfl, by decide +kernel, rfl, by decide +kernel, by decide +kernel⟩
def R_changed (K : PySem.W.Frag) : List Dt → Dt → Prop := fun ds d => ∃ b : Bk, ∃ wt : List Wt, ds = [bkD (BC K) b, .lst (wt.map encW)] ∧ Bk.Ok { b with wt := wt } ∧ d = bkD (BC K) { b with wt := wt }
def R_changed0 (K : PySem.W.Frag) : List Dt → Dt → Prop := fun ds d => ∃ b : Bk, ∃ wt : List Wt, ds = [bkD (BC K) b, .fk [(Sum.inr "wants", .lst (wt.map encW))]] ∧ Bk.Ok { b with wt := wt } ∧ d = bkD (BC K) { b with wt := wt }
theorem changed_conv {K : PySem.W.Frag} {vs : List V} {H : Hp} {Q : VK} {E : XK} (h : SpD (R_changed K) vs H Q E) : ∃ x y, vs = [x, y] ∧ ∀ d ob, H d = none → SpD (R_changed0 K) [x, .ref d] (upd H d (.frz ob (.dK [(Sum.inr "wants", y)]))) Q E := by
  obtain ⟨Hk, ds, d, k, r, ⟨b, wt, rfl, ok, rfl⟩, q⟩ := h
  obtain ⟨x, y, rfl, r1, r2⟩ := rps2 r
  refine ⟨x, y, rfl, fun a ob ha => ?_⟩
  have g : Grow noF Hk H (upd Hk a (.frz ob (.dK [(Sum.inr "wants", y)]))) (upd H a (.frz ob (.dK [(Sum.inr "wants", y)]))) := .new k _ ha
  refine ⟨_, _, _, g.kh, .cons (r1.mono g.kk) (.cons (.fk' upd_same (.cons (r2.mono g.kk) .nil)) .nil), ⟨b, wt, rfl, ok, rfl⟩, fun v Hk' H' g2 r2 => q v Hk' H' (g.trans g2) r2⟩
theorem c_changed (T : Tx K mg) : Cr.FnK P w K mg base C8.CX0 9 (He.ma K (He.ga K "Book") "changed") ["wants"] (SpD (R_changed K)) := by
  obtain ⟨fd, F⟩ := T.f_b_changed
  have c_book_by := c_book_by (P := P) (w := w) (base := base) T
  obtain ⟨oc, od, dV, kV, doc, pm, an, cdv, ct, osl, rfl, lk, hcd, hD, hK⟩ := F.ex
  have main := Cr.fn_kw1 (P := P) (w := w) (mg := mg) (base := base) (CX := C8.CX0) (k := 8) (sp := SpD (R_changed0 K)) (kw := "wants") lk hcd sc_b_changed StX.cxUp_none (fun u x => ?_) (fun A outer s H vs Q E hr h => ⟨_, PSs.nox (pss_cons (ps_for PassesOwn.never rfl (Kr.seq (K := K) rfl (pe_callB (Kr.sortedS (K := K) rfl) (by rfl) T.n_sorted (by decide +kernel) (pa_cons (pe_lc (own := [("part", 4)]) rfl sc_b_changed.nd (pi_keys (pv 1)) (blkOk_by (own := [("part", 4)]) (N := n_b_changed) (sc := defScope s_b_changed) (by decide +kernel)) (fun _ _ _ _ _ => (pg_name (i := 4) sc_b_changed.nd rfl (by first | exact Or.inl rfl | exact Or.inr rfl))) (fun _ _ _ _ _ => pts_nil) (fun _ _ _ _ _ => (pe_callTy SkE.call_str_str (by rfl) T.n_str (by decide +kernel) (pa_cons (pv 4) pa_nil)))) pa_nil))) (pg_name (i := 2) sc_b_changed.nd rfl (by first | exact Or.inl rfl | exact Or.inr rfl)) (pss_one (ps_if (pt_cmpR (Kr.onin (K := K) rfl) (pv 2) (pe_gc (by rfl) T.k_PARTS) (by rfl)) (pss_one ps_never) pss_nil))) (pss_cons (ps_set (i := 3) sc_b_changed.nd rfl (Or.inr rfl) (Cr.pe_dictZip (K := K) rfl rfl (by rfl) T.n_dict (by rfl) T.n_zip (pa_cons (pe_gc (by rfl) T.k_PARTS) (pa_cons (Kr.fld (K := K) rfl (pv 0)) pa_nil)))) (pss_cons (ps_expr (Kr.bm (K := K) rfl PySem.F.plainAttrs_dict PySem.F.slot_dict_update PySem.F.type_dict_update Cr.mt_upd (pv 3) (pa_cons (pv 1) pa_nil))) (pss_one (ps_ret (pe_c c_book_by hr (by decide) (by rfl) (pa_cons (pe_lc (own := [("name", 2)]) rfl sc_b_changed.nd (Kr.seq (K := K) rfl (pe_gc (by rfl) T.k_PARTS)) (blkOk_by (own := [("name", 2)]) (N := n_b_changed) (sc := defScope s_b_changed) (by decide +kernel)) (fun _ _ _ _ _ => (pg_name (i := 2) sc_b_changed.nd rfl (by first | exact Or.inl rfl | exact Or.inr rfl))) (fun _ _ _ _ _ => pts_nil) (fun _ _ _ _ _ => (pe_dget (hu_of hr) (pv 3) (pv 2) (fun _ _ => rfl)))) pa_nil))))))), ?_⟩)
  · exact fun A outer s H us ws vs zs Q E hr e0 r rz hl h => main A outer s H us ws vs zs Q E hr e0 r rz hl (changed_conv h)
  · rcases hD with ⟨_, rfl⟩ | ⟨e, _⟩
    · rfl
    · exact absurd rfl e
  · refine spD_of (N := n_b_changed) (fun ds d hR => ?_) h
    obtain ⟨b, wt, rfl, ok, rfl⟩ := hR
    refine run_seq (run_forL (vs := [2]) ([("wants" : Str)]) Dt.str (fun pre δ M => ∃ o2 o3 o4, δ = [some (bkD (BC K) b), some (.fk [(Sum.inr "wants", .lst (wt.map encW))]), o2, o3, o4] ∧ M = noM) (iz_of (ei_lst ((ev_cb (xs := [lstS ["wants"]]) (ea_cons (ev_lc0 [("wants" : Str)] Dt.str Dt.str (ei_keys (ks := [(Sum.inr "wants", .lst (wt.map encW))]) (ev_var rfl)) (fun x hx => ⟨_, bind_name, ev_cb (xs := [.str x]) (ea_cons (ev_var rfl) ea_nil) rc_strS⟩) (by show 1 ≤ 100000; decide)) ea_nil) (rc_sortSD (by show 1 < 64; decide))).eq (by rw [srtS_one]; rfl)))) ⟨_, _, _, rfl, rfl⟩ ?_ ?_)
    · rintro pre x post δ1 M1 hx ⟨o2, o3, o4, rfl, rfl⟩
      have hx1 : x = "wants" := List.mem_singleton.mp (by rw [hx]; simp)
      subst hx1
      refine ⟨_, bind_name, run_if (tz_of ((et_test (ev_op (x := .str "wants") (y := .adr (He.ga K "PARTS")) (ev_var rfl) ev_adr (rv_ninK (ss := partsL) T.t_PARTS))).eq (b := false) (by decide +kernel))) (fun e => nomatch e) fun _ => run_next ⟨_, _, _, rfl, rfl⟩⟩
    rintro δ1 M1 ⟨o2, o3, o4, rfl, rfl⟩
    refine run_seq (run_dictZip (ks := partK) (ys := partL kf b) (ea_cons ev_adr (ea_cons (f_record T (ev_var rfl)) ea_nil)) (.inr (.inr ⟨_, rfl, T.t_PARTS, rfl⟩)) fun a _ => ?_)
    rw [mergeG_nd (partK_nd kf b)]
    refine run_seq (run_upd (a := a) (more := [(Sum.inr "wants", .lst (wt.map encW))]) rfl updM_same (by show 8 + 1 ≤ 100000; decide) (ev_var rfl) ?_)
    rw [updM_updM, upd_wants]
    refine run_pub (a := a) (i := 3) rfl updM_same (fun z => z) ?_
    refine run_retD (ev_call (ds := [.lst (partL kl { b with wt := wt })]) (ea_cons ((ev_lc0 partsL Dt.str (fun z => (lkG (partK.zip (partL kl { b with wt := wt })) (Sum.inr z)).getD .non) (ei_kt ev_adr T.t_PARTS) (fun z hz => ⟨_, bind_name, ev_dget (ev_var rfl) (ev_var rfl) ?_⟩) (by show 8 ≤ 100000; decide)).eq (by rw [lk_back rfl])) ea_nil) ⟨kl, _, rfl, ok, kl_ok, rfl⟩)
    obtain ⟨i, hi⟩ := List.getElem?_of_mem hz
    have hi8 : i < 8 := (List.getElem?_eq_some_iff.mp hi).1
    have h2 : (partL kl { b with wt := wt })[i]? = some ((partL kl { b with wt := wt })[i]'hi8) := List.getElem?_eq_getElem _
    show some (lkG _ (Sum.inr z)) = _
    rw [show partK = partsL.map Sum.inr from rfl, lk_at (ds := partL kl { b with wt := wt }) partsL _ i partsL_nodup hi h2]
    rfl

end
end Rt
end

section
set_option Elab.async false
set_option linter.all false
set_option maxRecDepth 100000
set_option maxHeartbeats 4000000

namespace Rt
open PySem PySem.Spec PyProof.Rows L2 Ab C8
local macro_rules | `(tactic| walk_at "rv") => `(tactic| first
  | exact rv_I0i | exact rv_I0b | exact rv_eqI | exact rv_eqS | exact rv_neI | exact rv_neS | exact rv_eqB | exact rv_inS (t := .t) | exact rv_inS (t := .l) | exact rv_inI (t := .t) | exact rv_inI (t := .l) | exact rv_ninS (t := .t) | exact rv_ninS (t := .l) | exact rv_ninI (t := .t) | exact rv_ninI (t := .l) | exact rv_isN rfl | exact rv_notN rfl | exact rv_eqTI | exact rv_neTI | exact rv_eqLI | exact rv_neTS | exact rv_eqLTS | exact rv_neLTI | exact rv_sign)
local macro_rules | `(tactic| walk_at "ev") => `(tactic| first
  | exact ev_var rfl | exact ev_int | exact ev_str | exact ev_bl | exact ev_non | exact ev_ty | exact ea_nil | exact et_yes
  | ((with_reducible refine ev_op ?_ ?_ ?_) <;> walk_at "ev")
  | ((with_reducible refine ea_cons ?_ ?_) <;> walk_at "ev")
  | ((with_reducible refine ev_and ?_ ?_) <;> walk_at "ev")
  | ((with_reducible refine ev_or ?_ ?_) <;> walk_at "ev")
  | (with_reducible refine ev_not ?_; walk_at "ev")
  | (with_reducible refine ev_tup ?_; walk_at "ev")
  | (with_reducible refine ev_lst ?_; walk_at "ev")
  | (with_reducible refine et_not ?_; walk_at "ev")
  | ((with_reducible refine et_and ?_ ?_) <;> walk_at "ev")
  | ((with_reducible refine et_or ?_ ?_) <;> walk_at "ev")
  | (with_reducible refine et_test ?_; walk_at "ev")
  | (with_reducible refine et_B ?_; walk_at "ev")
  | (with_reducible refine fun (_ : _ = _) => ?_; walk_at "ev")
  | walk_at "rv"
  | skip)


theorem Bk.reach_nd (b : Bk) : b.reach.Nodup := bfs_nodup _ _ _ (List.nodup_cons.mpr ⟨List.not_mem_nil, List.nodup_nil⟩)
theorem Bk.reach_lt (b : Bk) (ok : b.Ok) : ∀ x ∈ b.reach, x < 32 := bfs_mem (P := fun x => x < 32) (fun x hx y hy => b.nb_lt ok hx y hy) _ _ _ (fun x hx => by rw [List.mem_singleton.mp hx]; decide)
theorem Bk.reach_len (b : Bk) (ok : b.Ok) : b.reach.length ≤ 32 := nodup_below 32 _ b.reach_nd (b.reach_lt ok)
/-- the masks that can be come to, in their order -/
def Bk.goal (b : Bk) : List Int := srtI (b.reach.map fun m => ((m : Nat) : Int))
theorem Bk.goal_perm (b : Bk) : b.goal.Perm (b.reach.map fun m => ((m : Nat) : Int)) := srtI_perm _
/-- the wants with these indexes alone -/
def Bk.cut (b : Bk) (is : List Int) : Bk := { b with wt := (b.wt.zipIdx.filter fun x => decide (((x.2 : Nat) : Int) ∈ is)).map (·.1) }
theorem Bk.cut_ok {b : Bk} (ok : b.Ok) (is : List Int) : (b.cut is).Ok := by
  have hsub : ∀ x ∈ (b.wt.zipIdx.filter fun x => decide (((x.2 : Nat) : Int) ∈ is)).map (·.1), x ∈ b.wt := fun x hx => by
    obtain ⟨y, hy, rfl⟩ := List.mem_map.mp hx
    exact List.fst_mem_of_mem_zipIdx (List.mem_filter.mp hy).1
  refine ⟨ok.ne, ok.len, ok.wrd, ok.nod, ok.srt, ok.p0, ok.p1, ok.nl, ok.no, ok.nn, ok.ns, ?_, fun x hx => ok.wo x (hsub x hx), ok.bl, ok.bo, ok.bu, ok.gl, ok.go, ok.gn, ok.pl, ok.po, ok.pn, ok.ro⟩
  show ((b.wt.zipIdx.filter fun x => decide (((x.2 : Nat) : Int) ∈ is)).map (·.1)).length ≤ 4
  rw [List.length_map]
  have h1 := List.length_filter_le (fun x : Wt × Nat => decide (((x.2 : Nat) : Int) ∈ is)) b.wt.zipIdx
  rw [List.length_zipIdx] at h1
  have := ok.wl
  omega
def encWI2 (x : Wt × Nat) : Dt := .tup [.int ((x.2 : Nat) : Int), encW x.1]
theorem enumD_zip : ∀ (ws : List Wt) (n : Nat), enumD n (ws.map encW) = (ws.zipIdx n).map encWI2
  | [], n => rfl
  | w :: ws, n => by
    rw [List.zipIdx_cons, List.map_cons, List.map_cons]
    show Dt.tup [.int ((n : Nat) : Int), encW w] :: enumD (n + 1) (ws.map encW) = _
    rw [enumD_zip ws (n + 1)]
    rfl
/-! the sets of indexes -/
def rangeI (lo : Int) (n : Nat) : List Int := (List.range n).map fun i => lo + ((i : Nat) : Int)
theorem rangeI_D (lo : Int) (n : Nat) : rngD lo n = (rangeI lo n).map Dt.int := by
  unfold rngD rangeI
  rw [List.map_map]
  rfl
def lowOf (row : List Int) : Int := match row.getLast? with
  | none => 0
  | some x => x + 1
def setsOf : Nat → Nat → List (List Int)
  | 0, _ => [[]]
  | k + 1, s => (setsOf k s).flatMap fun row => (rangeI (lowOf row) ((s : Int) - lowOf row).toNat).map fun one => row ++ [one]
theorem sets_small {k s : Nat} (hk : k ≤ 5) (hs : s ≤ 4) : (setsOf k s).length ≤ 100 := by
  have h : ∀ k : Fin 6, ∀ s : Fin 5, (setsOf k s).length ≤ 100 := by decide +kernel
  exact h ⟨k, by omega⟩ ⟨s, by omega⟩
theorem sets_in {k s : Nat} (hk : k ≤ 5) (hs : s ≤ 4) : ∀ row ∈ setsOf k s, row.length = k ∧ row.Nodup ∧ ∀ i ∈ row, 0 ≤ i ∧ i < (s : Int) := by
  have h : ∀ k : Fin 6, ∀ s : Fin 5, ∀ row ∈ setsOf k s, row.length = k ∧ row.Nodup ∧ ∀ i ∈ row, 0 ≤ i ∧ i < ((s : Nat) : Int) := by decide +kernel
  exact h ⟨k, by omega⟩ ⟨s, by omega⟩
def isMore (found : List (List Int)) (s : List Int) : Bool := found.any fun less => less.all fun i => decide (i ∈ s)
def Bk.addSet (b : Bk) (found : List (List Int)) (s : List Int) : List (List Int) := if !isMore found s && decide ((b.cut s).goal = b.goal) then found ++ [s] else found
def allSets (n : Nat) : List (List Int) := (List.range (n + 1)).flatMap fun k => setsOf k n
def Bk.least (b : Bk) : List (List Int) := (allSets b.wt.length).foldl b.addSet []
theorem Bk.addSet_len (b : Bk) : ∀ (xs found : List (List Int)), (xs.foldl b.addSet found).length ≤ found.length + xs.length
  | [], found => Nat.le_refl _
  | x :: xs, found => by
    have h := Bk.addSet_len b xs (b.addSet found x)
    have h2 : (b.addSet found x).length ≤ found.length + 1 := by
      unfold Bk.addSet
      split
      · rw [List.length_append]; exact Nat.le_refl _
      · exact Nat.le_succ _
    rw [List.foldl_cons, List.length_cons]
    omega
def Bk.idle (b : Bk) : List Int := (rangeI 0 b.wt.length).filter fun i => decide ((b.cut ((rangeI 0 b.wt.length).filter fun o => !decide (o = i))).goal = b.goal)
def Bk.build (b : Bk) (m : Nat) : List Str := b.names.filter fun s => (((m &&& b.bit s : Nat) : Int) != 0)
abbrev rSortDI : List V → Hp → VK → Prop := fun xs H Q => ∃ (a : Addr) (kvs : List (Key × V)) (ks : List Int), xs = [.ref a] ∧ Rd H a (.dK kvs) ∧ kvs.map (·.1) = ks.map Sum.inl ∧ ks.length < 64 ∧ ∀ (ys : List Int) (p : Addr), ys.Perm ks → ys.Pairwise (· ≤ ·) → H p = none → Q (.ref p) (upd H p (.lst (ys.map V.int)))
theorem last_row {row : List Int} (h : row ≠ []) : ∃ i x, row = i ++ [x] ∧ lowOf row = x + 1 := by
  rcases List.eq_nil_or_concat row with e | ⟨i, x, e⟩
  · exact absurd e h
  · refine ⟨i, x, by simpa using e, ?_⟩
    rw [e]
    unfold lowOf
    simp
theorem rv_eqLS {p : Option Addr} {K : PySem.W.Frag} {x y : List Str} : RvD p (rEqP K) (lstS x) (lstS y) (.bl (decide (x = y))) := by
  have hd : ∀ z : List Str, (py (lstS z)).depth ≤ 1 := fun z => by rw [py_lstS]; exact Nat.succ_le_succ (depthAll_map _ 0 z fun _ _ => Nat.le_refl _)
  exact rv_eqP (plain_lstS x) (plain_lstS y) (by have := hd x; omega) (by rw [py_lstS, py_lstS]; exact eqvAll_map _ eqv_str x y)
/-- bits tell the skills -/
theorem bit_test (m i : Nat) : (((m &&& 2 ^ i : Nat) : Int) != 0) = m.testBit i := by
  cases q : m.testBit i with
  | true =>
    have h : m &&& 2 ^ i ≠ 0 := fun z => by
      have : (m &&& 2 ^ i).testBit i = true := by rw [Nat.testBit_and, q, Nat.testBit_two_pow_self]; rfl
      rw [z, Nat.zero_testBit] at this
      cases this
    have h2 : ((m &&& 2 ^ i : Nat) : Int) ≠ 0 := by omega
    simpa using h2
  | false =>
    have h : m &&& 2 ^ i = 0 := by
      apply Nat.eq_of_testBit_eq
      intro j
      rw [Nat.testBit_and, Nat.testBit_two_pow, Nat.zero_testBit]
      by_cases e : i = j
      · rw [← e, q]; rfl
      · rw [decide_eq_false e, Bool.and_false]
    rw [h]
    rfl
theorem Bk.mem_build {b : Bk} {m : Nat} {s : Str} : s ∈ b.build m ↔ s ∈ b.names ∧ m.testBit (b.names.idxOf s) = true := by
  unfold Bk.build Bk.bit
  rw [List.mem_filter, bit_test]
theorem Bk.build_inj {b : Bk} (ok : b.Ok) {m n : Nat} (hm : m < 2 ^ b.names.length) (hn : n < 2 ^ b.names.length) (h : ∀ s, s ∈ b.build m → s ∈ b.build n) (h2 : ∀ s, s ∈ b.build n → s ∈ b.build m) : m = n := by
  apply Nat.eq_of_testBit_eq
  intro i
  by_cases hi : i < b.names.length
  · have hs : b.names[i] ∈ b.names := List.getElem_mem hi
    have e := ok.nod.idxOf_getElem i hi
    cases q : m.testBit i with
    | true =>
      have := (Bk.mem_build.mp (h _ (Bk.mem_build.mpr ⟨hs, by rw [e]; exact q⟩))).2
      rw [e] at this
      exact this.symm
    | false =>
      cases q2 : n.testBit i with
      | false => rfl
      | true =>
        have := (Bk.mem_build.mp (h2 _ (Bk.mem_build.mpr ⟨hs, by rw [e]; exact q2⟩))).2
        rw [e, q] at this
        cases this
  · have hp : 2 ^ b.names.length ≤ 2 ^ i := Nat.pow_le_pow_right (by decide) (Nat.le_of_not_lt hi)
    rw [Nat.testBit_lt_two_pow (Nat.lt_of_lt_of_le hm hp), Nat.testBit_lt_two_pow (Nat.lt_of_lt_of_le hn hp)]
theorem Bk.nb_pow (b : Bk) {m : Nat} (h : m < 2 ^ b.names.length) : ∀ y ∈ b.nb m, y < 2 ^ b.names.length := by
  intro y hy
  have h1 : ∀ s ∈ b.names, m ^^^ b.bit s < 2 ^ b.names.length := fun s hs => Nat.xor_lt_two_pow h (by
    unfold Bk.bit
    exact Nat.pow_lt_pow_right (by decide) (List.idxOf_lt_length_of_mem hs))
  obtain ⟨x, hx, rfl⟩ := List.mem_map.mp hy
  rcases List.mem_append.mp hx with q | q
  · obtain ⟨s, hs, rfl⟩ := List.mem_map.mp q
    exact h1 s (List.mem_filter.mp hs).1
  · obtain ⟨s, hs, rfl⟩ := List.mem_map.mp q
    exact h1 s (List.mem_filter.mp hs).1
theorem Bk.reach_pow (b : Bk) : ∀ x ∈ b.reach, x < 2 ^ b.names.length := bfs_mem (P := fun x => x < 2 ^ b.names.length) (fun x hx y hy => b.nb_pow hx y hy) _ _ _ (fun x hx => by rw [List.mem_singleton.mp hx]; exact Nat.two_pow_pos _)
/-- the sorted builds that can be come to -/
noncomputable def Bk.keyset (b : Bk) : List (List Key) := b.reach.map fun m => (srtS (b.build m)).map Sum.inr
theorem Bk.keyset_nd {b : Bk} (ok : b.Ok) : b.keyset.Nodup := by
  unfold Bk.keyset
  refine List.pairwise_map.mpr (b.reach_nd.imp_of_mem fun {x y} hx hy ne e => ne ?_)
  have e2 : srtS (b.build x) = srtS (b.build y) := List.map_inj_right (fun _ _ q => Sum.inr.inj q) |>.mp e
  have e3 : (b.build x).Perm (b.build y) := (srtS_perm _).symm.trans (by rw [e2]; exact srtS_perm _)
  exact Bk.build_inj ok (b.reach_pow x hx) (b.reach_pow y hy) (fun s hs => e3.subset hs) (fun s hs => e3.symm.subset hs)

section
variable {P : Program} {w : World} {K : PySem.W.Frag} {mg : Str → Option Value} {base : Heap}


theorem ev_goal (T : Tx K mg) {p : Option Addr} {δ : Dst} {ta : TA} {b : Bk} {E : XK} (ok : b.Ok) (h : EvAD p ta δ [bkD (BC K) b]) : EvD p (tCB rSortDI (tCons (tCall (SpN (R_reached_masks K)) [] E ta) tNil)) δ (lstI b.goal) := by
  refine evp_cb (eap_one (evp_callN h ⟨b, rfl, ok, rfl⟩)) fun xs ⟨d, ⟨ks, e1, e2⟩, e3⟩ => ?_
  subst e3 e1
  exact rc_sortF (is := b.reach.map fun m => ((m : Nat) : Int)) (by rw [e2, List.map_map]; rfl) (by rw [List.length_map]; have := b.reach_len ok; omega)
theorem ei_reach (T : Tx K mg) {p : Option Addr} {δ : Dst} {ta : TA} {b : Bk} {E : XK} (ok : b.Ok) (h : EvAD p ta δ [bkD (BC K) b]) : EvID p (iKeys (tCall (SpN (R_reached_masks K)) [] E ta)) δ (b.reach.map natD) := fun σ Hk H s k o R q =>
  eip_keys (P := fun ks => ks.map (·.1) = b.reach.map fun m => Sum.inl ((m : Nat) : Int)) ((evp_callN h ⟨b, rfl, ok, rfl⟩).imp fun d ⟨ks, e1, e2⟩ => ⟨ks, e2, e1⟩) σ Hk H s k o R fun J ds Hk' H' g o' ⟨ks, e1, e2⟩ w => q J ds Hk' H' g o' (by
    have : ks.map (fun x => Cr.kDt x.1) = (ks.map (·.1)).map Cr.kDt := by rw [List.map_map]; rfl
    rw [e2, this, e1, List.map_map]
    rfl) w

def n_masks_with : List Str := ["book", "indexes", "wants", "index", "want"]
def p_masks_with : List Str := ["book", "indexes"]
theorem sc_masks_with : FnScope n_masks_with p_masks_with (defScope s_masks_with) := ⟨rfl, rfl, rfl, by decide +kernel, rfl, by decide +kernel, by decide +kernel⟩
def R_masks_with (K : PySem.W.Frag) : List Dt → Dt → Prop := fun ds d => ∃ t, ∃ b : Bk, ∃ is : List Int, ds = [bkD (BC K) b, seqD t (is.map Dt.int)] ∧ b.Ok ∧ d = lstI (b.cut is).goal
theorem c_masks_with (T : Tx K mg) : C8.Cal P w K mg base 10 "masks_with" (SpD (R_masks_with K)) [] := by
  obtain ⟨fd, F⟩ := T.f_masks_with
  have c_changed := c_changed (P := P) (w := w) (base := base) T
  have c_reached_masks := c_reached_masks (P := P) (w := w) (base := base) T
  have c_wants := c_wants (P := P) (w := w) (base := base) T
  refine cal F T.g_masks_with sc_masks_with (fun _ _ _ _ _ _ us hl => match us, hl with | [_, _], _ => rfl) (spD_len (n := 2) (by rintro _ _ ⟨_, _, _, rfl, _⟩; rfl)) fun cdv A outer s H E hr => ⟨_, (pss_cons (ps_setLc (i := 2) (own := [("index", 3), ("want", 4)]) rfl sc_masks_with.nd rfl rfl (sw_true rfl rfl rfl (by decide +kernel)) (Kr.enum (K := K) rfl (by rfl) T.n_enumerate (pa_cons (pe_mt0 c_wants hr (by decide) (pv 0)) pa_nil)) (blkOk_by (own := [("index", 3), ("want", 4)]) (N := n_masks_with) (sc := defScope s_masks_with) (by decide +kernel)) (fun _ _ _ _ _ => (Kr.tup (K := K) (n := 2) rfl rfl (pgs_cons (pg_name (i := 3) sc_masks_with.nd rfl (by first | exact Or.inl rfl | exact Or.inr rfl)) (pgs_cons (pg_name (i := 4) sc_masks_with.nd rfl (by first | exact Or.inl rfl | exact Or.inr rfl)) pgs_nil)))) (fun _ _ _ _ _ => pts_one (pt_cmpR (Kr.oin (K := K) rfl) (pv 3) (pv 1) (by rfl))) (fun _ _ _ _ _ => (pv 4))) (pss_one (ps_ret (pe_callB (call_sortedDI rfl) (by rfl) T.n_sorted (by decide +kernel) (pa_cons (pe_c c_reached_masks hr (by decide) (by rfl) (pa_cons (Cr.pe_methK (pv 0) T.c_Book T.m_b_changed c_changed (hr.mono (by decide)) (C8.pass0 (E := C8.E0)) (pk_cons (pv 2) pk_nil)) pa_nil)) pa_nil))))), ?_⟩
  intro vs Q h
  refine spD_of (N := n_masks_with) (fun ds d hR => ?_) h
  obtain ⟨t, b, is, rfl, ok, rfl⟩ := hR
  have hwl := ok.wl
  refine run_setD (d := .lst ((b.cut is).wt.map encW)) ((ev_lc b.wt.zipIdx encWI2 (fun x => decide (((x.2 : Nat) : Int) ∈ is)) (fun x => encW x.1) (by rw [← enumD_zip]; exact ei_enum (ea_cons (ev_meth (R := R_b_wants K) (gs := bkF b) (ev_var rfl) (by rfl) ea_nil ⟨b, rfl, rfl⟩) ea_nil)) (fun x hx => ⟨_, bind_tup (bind_cons bind_name (bind_cons bind_name bind_nil)), et_test (ev_op (x := .int ((x.2 : Nat) : Int)) (y := seqD t (is.map Dt.int)) (ev_var rfl) (ev_var rfl) rv_inI), fun _ => ev_var rfl⟩) (by rw [List.length_zipIdx]; omega)).eq (by unfold Bk.cut; rw [List.map_map]; rfl)) ?_
  exact run_retD (ev_goal T (Bk.cut_ok ok is) (ea_cons (ev_methK (R := R_changed K) (gs := bkF b) (ev_var rfl) (by rfl) (ea_cons (ev_var rfl) ea_nil) rfl ⟨b, (b.cut is).wt, rfl, Bk.cut_ok ok is, rfl⟩) ea_nil))
def n_is_so : List Str := ["book", "goal", "indexes"]
def p_is_so : List Str := ["book", "goal", "indexes"]
theorem sc_is_so : FnScope n_is_so p_is_so (defScope s_is_so) := ⟨rfl, rfl, rfl, by decide +kernel, rfl, by decide +kernel, by decide +kernel⟩
def R_is_so (K : PySem.W.Frag) : List Dt → Dt → Prop := fun ds d => ∃ t, ∃ b : Bk, ∃ g is : List Int, ds = [bkD (BC K) b, lstI g, seqD t (is.map Dt.int)] ∧ b.Ok ∧ d = .bl (decide ((b.cut is).goal = g))
theorem c_is_so (T : Tx K mg) : C8.Cal P w K mg base 11 "is_so" (SpD (R_is_so K)) [] := by
  obtain ⟨fd, F⟩ := T.f_is_so
  have c_masks_with := c_masks_with (P := P) (w := w) (base := base) T
  refine cal F T.g_is_so sc_is_so (fun _ _ _ _ _ _ us hl => match us, hl with | [_, _, _], _ => rfl) (spD_len (n := 3) (by rintro _ _ ⟨_, _, _, _, rfl, _⟩; rfl)) fun cdv A outer s H E hr => ⟨_, (pss_one (ps_ret (pe_cmpR (Kr.eqP (K := K) rfl hr.units) (pe_c c_masks_with hr (by decide) (by rfl) (pa_cons (pv 0) (pa_cons (pv 2) pa_nil))) (pv 1) (nomark _)))), ?_⟩
  intro vs Q h
  refine spD_of (N := n_is_so) (fun ds d hR => ?_) h
  obtain ⟨t, b, g, is, rfl, ok, rfl⟩ := hR
  exact run_retD (ev_op (x := lstI (b.cut is).goal) (y := lstI g) (ev_call (ds := [bkD (BC K) b, seqD t (is.map Dt.int)]) (ea_cons (ev_var rfl) (ea_cons (ev_var rfl) ea_nil)) ⟨t, b, is, rfl, ok, rfl⟩) (ev_var rfl) rv_eqLI)
def n_idle_wants : List Str := ["book", "every", "goal", "index", "one"]
def p_idle_wants : List Str := ["book"]
theorem sc_idle_wants : FnScope n_idle_wants p_idle_wants (defScope s_idle_wants) := ⟨rfl, rfl, rfl, by decide +kernel, rfl, by decide +kernel, by decide +kernel⟩
def R_idle_wants (K : PySem.W.Frag) : List Dt → Dt → Prop := fun ds d => ∃ b : Bk, ds = [bkD (BC K) b] ∧ b.Ok ∧ d = lstI b.idle
theorem c_idle_wants (T : Tx K mg) : C8.Cal P w K mg base 12 "idle_wants" (SpD (R_idle_wants K)) [] := by
  obtain ⟨fd, F⟩ := T.f_idle_wants
  have c_is_so := c_is_so (P := P) (w := w) (base := base) T
  have c_reached_masks := c_reached_masks (P := P) (w := w) (base := base) T
  have c_wants := c_wants (P := P) (w := w) (base := base) T
  refine cal F T.g_idle_wants sc_idle_wants (fun _ _ _ _ _ _ us hl => match us, hl with | [_], _ => rfl) (spD_len (n := 1) (by first | (rintro _ _ ⟨_, rfl, _⟩; rfl))) fun cdv A outer s H E hr => ⟨_, (pss_cons (ps_asg (pe_tup (pa_cons (pe_listRg rfl (by rfl) T.n_list (prg_1 (by rfl) T.n_range (pe_callB (Kr.len (K := K) rfl) (by rfl) T.n_len (by decide +kernel) (pa_cons (pe_mt0 c_wants hr (by decide) (pv 0)) pa_nil)))) (pa_cons (pe_callB (call_sortedDI rfl) (by rfl) T.n_sorted (by decide +kernel) (pa_cons (pe_c c_reached_masks hr (by decide) (by rfl) (pa_cons (pv 0) pa_nil)) pa_nil)) pa_nil))) (Kr.tup (K := K) (n := 2) rfl rfl (pgs_cons (pg_name (i := 1) sc_idle_wants.nd rfl (by first | exact Or.inl rfl | exact Or.inr rfl)) (pgs_cons (pg_name (i := 2) sc_idle_wants.nd rfl (by first | exact Or.inl rfl | exact Or.inr rfl)) pgs_nil)))) (pss_one (ps_ret (pe_lc (own := [("index", 3)]) rfl sc_idle_wants.nd (Kr.seq (K := K) rfl (pv 1)) (blkOk_by (own := [("index", 3)]) (N := n_idle_wants) (sc := defScope s_idle_wants) (by decide +kernel)) (fun _ _ _ _ _ => (pg_name (i := 3) sc_idle_wants.nd rfl (by first | exact Or.inl rfl | exact Or.inr rfl))) (fun _ _ _ _ _ => pts_one (pt_val (pe_c c_is_so hr (by decide) (by rfl) (pa_cons (pv 0) (pa_cons (pv 2) (pa_cons (pe_lc (own := [("one", 4)]) rfl sc_idle_wants.nd (Kr.seq (K := K) rfl (pv 1)) (blkOk_by (own := [("one", 4)]) (N := n_idle_wants) (by kernel_rfl)) (fun _ _ _ _ _ => (pg_name (i := 4) sc_idle_wants.nd rfl (by first | exact Or.inl rfl | exact Or.inr rfl))) (fun _ _ _ _ _ => pts_one (pt_cmpR op_ne (pv 4) (pv 3) (nomark _))) (fun _ _ _ _ _ => (pv 4))) pa_nil)))))) (fun _ _ _ _ _ => (pv 3)))))), ?_⟩
  intro vs Q h
  refine spD_of (N := n_idle_wants) (fun ds d hR => ?_) h
  obtain ⟨b, rfl, ok, rfl⟩ := hR
  have hwl := ok.wl
  have hrl : (rangeI 0 b.wt.length).length ≤ 4 := by unfold rangeI; rw [List.length_map, List.length_range]; omega
  refine run_seq (run_asg (vs := [1, 2]) (P := fun d => d = .tup [lstI (rangeI 0 b.wt.length), lstI b.goal]) (ez_of (ev_tup (ea_cons ((ev_lstRg1 (j := ((b.wt.map encW).length : Nat)) (ev_cb (xs := [seqD .l (b.wt.map encW)]) (ea_cons (ev_meth (R := R_b_wants K) (gs := bkF b) (ev_var rfl) (by rfl) ea_nil ⟨b, rfl, rfl⟩) ea_nil) rc_len) (by rw [List.length_map]; omega)).eq (by rw [Int.toNat_natCast, List.length_map, rangeI_D]; rfl)) (ea_cons (ev_goal T ok (ea_cons (ev_var rfl) ea_nil)) ea_nil)))) fun d e => ?_)
  subst e
  refine ⟨_, bind_tup (bind_cons bind_name (bind_cons bind_name bind_nil)), ?_⟩
  refine run_retD ((ev_lc (rangeI 0 b.wt.length) Dt.int (fun i => decide ((b.cut ((rangeI 0 b.wt.length).filter fun o => !decide (o = i))).goal = b.goal)) Dt.int (ei_lst (ev_var rfl)) (fun i hi => ⟨_, bind_name, ?_, fun _ => ev_var rfl⟩) (by omega)).eq rfl)
  refine et_B (ev_call (ds := [bkD (BC K) b, lstI b.goal, seqD .l (((rangeI 0 b.wt.length).filter fun o => !decide (o = i)).map Dt.int)]) (ea_cons (ev_var rfl) (ea_cons (ev_var rfl) (ea_cons (ev_lc (rangeI 0 b.wt.length) Dt.int (fun o => !decide (o = i)) Dt.int (ei_lst (ev_var rfl)) (fun o ho => ⟨_, bind_name, et_test (ev_op (x := .int o) (y := .int i) (ev_var rfl) (ev_var rfl) rv_neI), fun _ => ev_var rfl⟩) (by omega)) ea_nil))) ⟨.l, b, _, _, rfl, ok, rfl⟩)
def n_are_indexes : List Str := ["book", "value", "index"]
def p_are_indexes : List Str := ["book", "value"]
theorem sc_are_indexes : FnScope n_are_indexes p_are_indexes (defScope s_are_indexes) := ⟨rfl, rfl, rfl, by decide +kernel, rfl, by decide +kernel, by decide +kernel⟩
def R_are_indexes (K : PySem.W.Frag) : List Dt → Dt → Prop := fun ds d => ∃ t, ∃ b : Bk, ∃ is : List Int, ds = [bkD (BC K) b, seqD t (is.map Dt.int)] ∧ b.Ok ∧ is.Nodup ∧ is.length ≤ 4 ∧ (∀ i ∈ is, 0 ≤ i ∧ i < (b.wt.length : Int)) ∧ d = .bl true
theorem c_are_indexes (T : Tx K mg) : C8.Cal P w K mg base 3 "are_indexes" (SpD (R_are_indexes K)) [] := by
  obtain ⟨fd, F⟩ := T.f_are_indexes
  have c_is_row := c_is_row (P := P) (w := w) (base := base) T
  have c_is_number := c_is_number (P := P) (w := w) (base := base) T
  have c_are_unlike := c_are_unlike (P := P) (w := w) (base := base) T
  have c_wants := c_wants (P := P) (w := w) (base := base) T
  refine cal F T.g_are_indexes sc_are_indexes (fun _ _ _ _ _ _ us hl => match us, hl with | [_, _], _ => rfl) (spD_len (n := 2) (by rintro _ _ ⟨_, _, _, rfl, _⟩; rfl)) fun cdv A outer s H E hr => ⟨_, (pss_cons (ps_if (PW.pt (pw_or (pt_not (pt_val (pe_c c_is_row hr (by decide) (by rfl) (pa_cons (pv 1) pa_nil)))) (pw_or1 (pt_not (pt_val (pe_callB (Kr.all (K := K) rfl) (by rfl) T.n_all (by decide +kernel) (pa_cons (pe_lc (own := [("index", 2)]) rfl sc_are_indexes.nd (Kr.seq (K := K) rfl (pv 1)) (blkOk_by (own := [("index", 2)]) (N := n_are_indexes) (sc := defScope s_are_indexes) (by decide +kernel)) (fun _ _ _ _ _ => (pg_name (i := 2) sc_are_indexes.nd rfl (by first | exact Or.inl rfl | exact Or.inr rfl))) (fun _ _ _ _ _ => pts_nil) (fun _ _ _ _ _ => (pe_c c_is_number hr (by decide) (by rfl) (pa_cons (pv 2) (pa_cons pe_int (pa_cons (pe_op op_sub (pe_callB (Kr.len (K := K) rfl) (by rfl) T.n_len (by decide +kernel) (pa_cons (pe_mt0 c_wants hr (by decide) (pv 0)) pa_nil)) pe_int) pa_nil)))))) pa_nil))))))) (pss_one (ps_ret pe_bl)) pss_nil) (pss_one (ps_ret (pe_c c_are_unlike hr (by decide) (by rfl) (pa_cons (pv 1) pa_nil))))), ?_⟩
  intro vs Q h
  refine spD_of (N := n_are_indexes) (fun ds d hR => ?_) h
  obtain ⟨t, b, is, rfl, ok, hn, hl, hi, rfl⟩ := hR
  refine run_skip ((et_or (a := false) (b := false) (et_not (a := true) (et_B (ev_call (ds := [seqD t (is.map Dt.int)]) (ea_cons (ev_var rfl) ea_nil) ⟨t, _, rfl, rfl⟩))) (fun _ => et_not (a := true) (et_B (ev_cb (xs := [.lst (is.map fun _ => .bl true)]) (ea_cons (ev_lc0 is Dt.int (fun _ => .bl true) (ei_seq (t := t) (ev_var rfl)) (fun i hm => ⟨_, bind_name, ev_call (ds := [.int i, .int 0, .int (((b.wt.map encW).length : Nat) - 1)]) (ea_cons (ev_var rfl) (ea_cons ev_int (ea_cons (ev_op (x := .int ((b.wt.map encW).length : Nat)) (y := .int 1) (ev_cb (xs := [seqD .l (b.wt.map encW)]) (ea_cons (ev_meth (R := R_b_wants K) (gs := bkF b) (ev_var rfl) (by rfl) ea_nil ⟨b, rfl, rfl⟩) ea_nil) rc_len) ev_int rv_I0i) ea_nil))) ⟨i, 0, _, rfl, (num_true ⟨(hi i hm).1, by rw [List.length_map]; have := (hi i hm).2; omega⟩).symm⟩⟩) (by omega)) ea_nil) rc_allT)))).eq rfl) ?_
  exact run_retD (ev_call (ds := [seqD t (is.map Dt.int)]) (ea_cons (ev_var rfl) ea_nil) ⟨t, is.map Sum.inl, by rw [keys_inl], nodup_map (fun _ _ e => Sum.inl.inj e) hn, by rw [List.length_map]; omega, rfl⟩)
def n_is_enough : List Str := ["book", "indexes"]
def p_is_enough : List Str := ["book", "indexes"]
theorem sc_is_enough : FnScope n_is_enough p_is_enough (defScope s_is_enough) := ⟨rfl, rfl, rfl, by decide +kernel, rfl, by decide +kernel, by decide +kernel⟩
def R_is_enough (K : PySem.W.Frag) : List Dt → Dt → Prop := fun ds d => ∃ t, ∃ b : Bk, ∃ is : List Int, ds = [bkD (BC K) b, seqD t (is.map Dt.int)] ∧ b.Ok ∧ is.Nodup ∧ is.length ≤ 4 ∧ (∀ i ∈ is, 0 ≤ i ∧ i < (b.wt.length : Int)) ∧ d = .bl (decide ((b.cut is).goal = b.goal))
theorem c_is_enough (T : Tx K mg) : C8.Cal P w K mg base 12 "is_enough" (SpD (R_is_enough K)) [] := by
  obtain ⟨fd, F⟩ := T.f_is_enough
  have c_are_indexes := c_are_indexes (P := P) (w := w) (base := base) T
  have c_is_so := c_is_so (P := P) (w := w) (base := base) T
  have c_reached_masks := c_reached_masks (P := P) (w := w) (base := base) T
  refine cal F T.g_is_enough sc_is_enough (fun _ _ _ _ _ _ us hl => match us, hl with | [_, _], _ => rfl) (spD_len (n := 2) (by rintro _ _ ⟨_, _, _, rfl, _⟩; rfl)) fun cdv A outer s H E hr => ⟨_, (pss_cons (ps_if (pt_not (pt_val (pe_c c_are_indexes hr (by decide) (by rfl) (pa_cons (pv 0) (pa_cons (pv 1) pa_nil))))) (pss_one ps_never) pss_nil) (pss_one (ps_ret (pe_c c_is_so hr (by decide) (by rfl) (pa_cons (pv 0) (pa_cons (pe_callB (call_sortedDI rfl) (by rfl) T.n_sorted (by decide +kernel) (pa_cons (pe_c c_reached_masks hr (by decide) (by rfl) (pa_cons (pv 0) pa_nil)) pa_nil)) (pa_cons (pv 1) pa_nil))))))), ?_⟩
  intro vs Q h
  refine spD_of (N := n_is_enough) (fun ds d hR => ?_) h
  obtain ⟨t, b, is, rfl, ok, hn, hl, hi, rfl⟩ := hR
  refine run_skip (et_not (a := true) (et_B (ev_call (ds := [bkD (BC K) b, seqD t (is.map Dt.int)]) (ea_cons (ev_var rfl) (ea_cons (ev_var rfl) ea_nil)) ⟨t, b, is, rfl, ok, hn, hl, hi, rfl⟩))) ?_
  exact run_retD (ev_call (ds := [bkD (BC K) b, lstI b.goal, seqD t (is.map Dt.int)]) (ea_cons (ev_var rfl) (ea_cons (ev_goal T ok (ea_cons (ev_var rfl) ea_nil)) (ea_cons (ev_var rfl) ea_nil))) ⟨t, b, _, is, rfl, ok, rfl⟩)
end
end Rt
end

section
set_option Elab.async false
set_option linter.all false
set_option maxRecDepth 100000
set_option maxHeartbeats 4000000
/-! Promises of new things, draws, what is owned and walked. -/
namespace Ab
open PySem PySem.Spec PyProof.Rows L2 C8 Cr
/-! ### a def that gives a new list or dict, the caller's own -/
def SpO (R : List Dt → (Dt → Prop) → Prop) : Sp := fun vs H Q _ => ∃ Hk ds P, Kn Hk H ∧ Rps Hk vs ds ∧ R ds P ∧ ∀ q d Hk' H', P d → Grow noF Hk H Hk' H' → Hk' q = none → H q = none → Own Hk' H' q d → Q (.ref q) H'
/-- .. that draws, too -/
def SpPO (R : List Dt → (Dt → Prop) → Prop) : Sp := fun vs H Q _ => ∃ a Hk ds P, Kn Hk H ∧ PoolOk (some a) Hk H ∧ Rps Hk vs (.adr a :: ds) ∧ R ds P ∧
  ∀ q d Hk' H', P d → Grow (fr (some a)) Hk H Hk' H' → PoolOk (some a) Hk' H' → Hk' q = none → H q = none → q ≠ a → Own Hk' H' q d → Q (.ref q) H'
section
variable {F : Addr → Prop} {p : Option Addr} {A0 B0 : Hp} {M : Led} {δ : Dst} {Hk H : Hp} {σ : L2.St} {K : PySem.W.Frag} {te : TE} {ta t : TA} {i j : Nat} {a : Addr} {N : Dst → Led → Prop} {R : Dt → Led → Prop} {P : Dt → Prop} {E : XK}
theorem spO_of {R : List Dt → (Dt → Prop) → Prop} {t : TS} {N : List Str} (h : ∀ ds P, R ds P → Run noF none t (startD N.length ds) noM (fun _ _ => False) (fun e M => ∃ q d, e = .adr q ∧ M q = some d ∧ P d)) {vs : List V} {H : Hp} {Q : VK} {E : XK} (s : SpO R vs H Q E) : t { nx := fun _ H' => Q .non H', rt := Q } (L2.start N vs) H := by
  obtain ⟨Hk, ds, P, k, r, hr, q⟩ := s
  refine h ds P hr (fun _ e => nomatch e) Hk H Hk (L2.start N vs) H _ ⟨.refl k, .none, sto_start r, fun a d e => nomatch e⟩ (fun δ' M' Hk' σ' H' e s' _ => e.elim) fun e M' v δ' Hk' σ' H' ⟨b, d, e1, e2, e3⟩ s' _ r' => ?_
  subst e1
  cases r'
  obtain ⟨h1, _, h3, h4⟩ := s'.ow b d e2
  exact q b d Hk' H' e3 s'.gr h1 (h3.resolve_right fun z => z) h4
theorem spO_len {R : List Dt → (Dt → Prop) → Prop} {n : Nat} (h : ∀ ds d, R ds d → ds.length = n) : ∀ vs H Q E, SpO R vs H Q E → vs.length = n := fun vs H Q E ⟨Hk, ds, d, k, r, hr, _⟩ => by rw [r.length]; exact h ds d hr
theorem spPO_of {R : List Dt → (Dt → Prop) → Prop} {t : TS} {N : List Str} (h : ∀ a ds P, R ds P → Run (fr (some a)) (some a) t (startD N.length (.adr a :: ds)) noM (fun _ _ => False) (fun e M => ∃ q d, e = .adr q ∧ M q = some d ∧ P d)) {vs : List V} {H : Hp} {Q : VK} {E : XK} (s : SpPO R vs H Q E) : t { nx := fun _ H' => Q .non H', rt := Q } (L2.start N vs) H := by
  obtain ⟨a, Hk, ds, P, k, o, r, hr, q⟩ := s
  refine h a ds P hr (fun _ e => e) Hk H Hk (L2.start N vs) H _ ⟨.refl k, o, sto_start r, fun a d e => nomatch e⟩ (fun δ' M' Hk' σ' H' e s' _ => e.elim) fun e M' v δ' Hk' σ' H' ⟨b, d, e1, e2, e3⟩ s' _ r' => ?_
  subst e1
  cases r'
  obtain ⟨h1, h2, h3, h4⟩ := s'.ow b d e2
  have ne : b ≠ a := fun z => h2 (by rw [z])
  exact q b d Hk' H' e3 s'.gr s'.po h1 (h3.resolve_right fun z => ne (by unfold fr at z; exact (Option.some.inj z).symm)) ne h4
theorem spPO_len {R : List Dt → (Dt → Prop) → Prop} {n : Nat} (h : ∀ ds d, R ds d → ds.length + 1 = n) : ∀ vs H Q E, SpPO R vs H Q E → vs.length = n := fun vs H Q E ⟨a, Hk, ds, d, k, o, r, hr, _⟩ => by rw [r.length]; exact h ds d hr
/-- a new thing beside what is owned -/
theorem Hst.adopt (s : Hst F p A0 B0 M δ Hk σ H) {Hk' H' : Hp} {q : Addr} {d : Dt} (hF : ∀ a, p = some a → F a) (g : Grow (fr p) Hk H Hk' H') (o : PoolOk p Hk' H') (h1 : Hk' q = none) (h2 : H q = none) (w : Own Hk' H' q d) (hp : p ≠ some q) : M q = none ∧ Hst F p A0 B0 (updM M q d) δ Hk' σ H' := by
  have hB : B0 q = none := by
    cases y : B0 q with
    | none => rfl
    | some u => exact absurd h2 (s.gr.th q (by rw [y]; exact fun z => nomatch z))
  have hm : M q = none := by
    cases y : M q with
    | none => rfl
    | some d' => exact absurd h2 (s.ow q d' y).2.2.2.ne
  have s' := s.step g o hF
  refine ⟨hm, s'.gr, s'.po, s'.st, fun b e z => ?_⟩
  by_cases y : b = q
  · rw [y, updM_same] at z
    cases z
    rw [y]
    exact ⟨h1, hp, .inl hB, w⟩
  · rw [updM_ne y] at z
    exact s'.ow b e z
/-- name = f(..), the answer owned -/
theorem run_setO {R' : List Dt → (Dt → Prop) → Prop} {ds : List Dt} (h : EvAD p t δ ds) (hr : R' ds P) (k : ∀ q d, M q = none → P d → N (δ.set i (some (.adr q))) (updM M q d)) : Run F p (tAsg (tCall (SpO R') [] E t) (gName i)) δ M N R := fun hF A0 B0 Hk σ H D s nx rt =>
  h σ Hk H s.st s.gr.kh s.po _ fun vs es H1k H1 g1 o1 e r => by
    subst e
    show SpO R' (vs ++ []) H1 _ E
    rw [List.append_nil]
    have s1 := s.step g1 o1 hF
    refine ⟨H1k, _, P, s1.gr.kh, r, hr, fun q d Hk' H' pd g h1 h2 w => ?_⟩
    have hp : p ≠ some q := fun z => by obtain ⟨_, x, y, h3, _⟩ := o1 q z; rw [h3] at h2; cases h2
    obtain ⟨hm, s2⟩ := s1.adopt hF g.up (o1.grow g) h1 h2 w hp
    exact nx _ _ Hk' _ H' (k q d hm pd) (s2.set i (.adr q)) (g1.kk.trans g.kk)
/-- .. as data -/
theorem evp_callO {R' : List Dt → (Dt → Prop) → Prop} {ds : List Dt} (h : EvAD p t δ ds) (hr : R' ds P) : EvP p (tCall (SpO R') [] E t) δ P := fun σ Hk H s k o Q q =>
  h σ Hk H s k o _ fun vs es H1k H1 g1 o1 e r => by
    subst e
    show SpO R' (vs ++ []) H1 Q E
    rw [List.append_nil]
    refine ⟨H1k, _, P, g1.kh, r, hr, fun b d Hk' H' pd g h1 h2 w => ?_⟩
    cases y : H' b with
    | none => exact absurd y w.ne
    | some u =>
      have kk : Kn Hk' (upd Hk' b u) := Kn.upd h1
      have G : Grow noF H1k H1 (upd Hk' b u) H' := by
        refine ⟨g.kk.trans kk, g.hh, g.th, fun c o e => ?_, fun c e => ?_⟩
        · by_cases z : c = b
          · rw [z, upd_same] at e; rw [z, y]; exact e
          · rw [upd_ne z] at e; exact g.kh c o e
        · by_cases z : c = b
          · exact .inr (by rw [z]; exact h2)
          · rw [upd_ne z] at e; exact g.nw c e
      exact q (.ref b) d _ H' (g1.trans G.up) (o1.grow G) pd (w.rp kk fun v e => by rw [y] at e; cases e; exact upd_same)
/-- .. with draws -/
theorem run_setPO {R' : List Dt → (Dt → Prop) → Prop} {T : List Dt → Prop} (h : EvA (some a) t δ fun xs => ∃ ds, T ds ∧ xs = .adr a :: ds) (hr : ∀ ds, T ds → R' ds P) (k : ∀ q d, M q = none → P d → N (δ.set i (some (.adr q))) (updM M q d)) : Run F (some a) (tAsg (tCall (SpPO R') [] E t) (gName i)) δ M N R := fun hF A0 B0 Hk σ H D s nx rt =>
  h σ Hk H s.st s.gr.kh s.po _ fun vs es H1k H1 g1 o1 ⟨ds, td, e⟩ r => by
    subst e
    show SpPO R' (vs ++ []) H1 _ E
    rw [List.append_nil]
    have s1 := s.step g1 o1 hF
    refine ⟨a, H1k, ds, P, s1.gr.kh, o1, r, hr ds td, fun q d Hk' H' pd g o h1 h2 ne w => ?_⟩
    obtain ⟨hm, s2⟩ := s1.adopt hF g o h1 h2 w (fun z => ne (Option.some.inj z).symm)
    exact nx _ _ Hk' _ H' (k q d hm pd) (s2.set i (.adr q)) (g1.kk.trans g.kk)
/-- name = f(pool, ..), the pool owned here -/
def PoolD (d : Dt) : Prop := ∃ x y : Int, d = .lst [.int x, .int y] ∧ 0 ≤ x ∧ 0 ≤ y ∧ y < 2147483647
theorem run_setP {R' : List Dt → (Dt → Prop) → Prop} {ds : List Dt} {d0 : Dt} (hi : δ[j]? = some (some (.adr a))) (hm : M a = some d0) (hd : PoolD d0) (h : EvAD none t δ ds) (hr : R' ds P) (k : ∀ d d', PoolD d' → P d → N (δ.set i (some d)) (updM M a d')) : Run F none (tAsg (tCall (SpP R') [] E (tCons (tVar j) t)) (gName i)) δ M N R := fun hF A0 B0 Hk σ H D s nx rt => by
  obtain ⟨v, h1, h2⟩ := s.st.2 j _ hi
  cases h2
  refine ⟨.ref a, h1, h σ Hk H s.st s.gr.kh s.po _ fun vs es H1k H1 g1 o1 e r => ?_⟩
  subst e
  show SpP R' ((.ref a :: vs) ++ []) H1 _ E
  rw [List.append_nil]
  have s1 := s.step g1 o1 hF
  obtain ⟨x, y, rfl, b1, b2, b3⟩ := hd
  obtain ⟨w1, w2, w3, ws, w4, w5⟩ := s1.ow a _ hm
  have e5 : ws = [V.int x, V.int y] := Rps.ints (ns := [x, y]) w5
  subst e5
  have o2 : PoolOk (some a) H1k H1 := fun b e => by cases e; exact ⟨w1, x, y, w4, b1, b2, b3⟩
  refine ⟨a, H1k, _, P, s1.gr.kh, o2, .cons (.adr a) r, hr, fun v d Hk' H' g o pd rr => ?_⟩
  obtain ⟨p1, x', y', p2, p3, p4, p5⟩ := o a rfl
  have fa : ∀ b, ¬ (fr (some a) b) → b ≠ a := fun b z e => z (by rw [e]; rfl)
  have notB : ∀ b u, ¬ F b → B0 b = some u → b ≠ a := fun b u hf e z => by
    rcases w3 with q | q
    · rw [z, q] at e; cases e
    · exact hf (by rw [z]; exact q)
  have s2 : Hst F none A0 B0 (updM M a (.lst [.int x', .int y'])) δ Hk' σ H' := by
    refine ⟨⟨s1.gr.kk.trans g.kk, fun b u hf e => g.hh b u (fun z => notB b u hf e (Option.some.inj z).symm) (s1.gr.hh b u hf e), fun b e => g.th b (s1.gr.th b e), g.kh, fun b e => ?_⟩, .none, s1.st.mono g.kk, fun b e z => ?_⟩
    · rcases g.nw b e with q | q
      · exact s1.gr.nw b q
      · refine .inr ?_
        cases y : B0 b with
        | none => rfl
        | some u => exact absurd q (s1.gr.th b (by rw [y]; exact fun z => nomatch z))
    · by_cases q : b = a
      · rw [q, updM_same] at z
        cases z
        rw [q]
        exact ⟨p1, w2, w3, _, p2, .cons (.int x') (.cons (.int y') .nil)⟩
      · rw [updM_ne q] at z
        obtain ⟨h3, h4, h5, h6⟩ := s1.ow b e z
        refine ⟨?_, h4, h5, h6.mono g.kk fun u w => g.hh b u (fun z => q (Option.some.inj z).symm) w⟩
        cases y : Hk' b with
        | none => rfl
        | some u =>
          rcases g.nw b (by rw [y]; exact fun z => nomatch z) with z | z
          · exact absurd h3 z
          · exact absurd z h6.ne
  exact nx _ _ Hk' _ H' (k d _ ⟨x', y', rfl, p3, p4, p5⟩ pd) (s2.set i rr) (g1.kk.trans g.kk)
/-- return of a new list, told by its place -/
theorem run_retNew {ds : List Dt} (h : EvAD p ta δ ds) (hl : ds.length ≤ 1000) (k : ∀ q, M q = none → R (.adr q) (updM M q (.lst ds))) : Run F p (tRet (tLst ta)) δ M N R := fun hF A0 B0 Hk σ H D s nx rt =>
  h σ Hk H s.st s.gr.kh s.po _ fun vs es H1k H1 g1 o1 e1 r1 => ⟨by rw [r1.length, e1]; exact szL (by omega), fun q hq => by
    subst e1
    obtain ⟨hm, s2⟩ := (s.step g1 o1 hF).own hq (o := .lst vs) (d := .lst _) ⟨vs, upd_same, r1⟩
    exact rt (.adr q) _ (.ref q) δ H1k σ _ (k q hm) s2 g1.kk (.adr q)⟩
/-- name.clear(), owned -/
theorem run_clear {ds : List Dt} (hi : δ[i]? = some (some (.adr a))) (hm : M a = some (.lst ds)) (k : N δ (updM M a (.lst []))) : Run F p (tDrop (tBM0 K "list" rClear (tVar i))) δ M N R := fun hF A0 B0 Hk σ H D s nx rt => by
  obtain ⟨v, h1, h2⟩ := s.st.2 i _ hi
  cases h2
  obtain ⟨_, _, _, vs, h3, _⟩ := s.ow a _ hm
  exact ⟨.ref a, h1, .inl ⟨rfl, vs, .inl (.inl h3)⟩, a, vs, rfl, rfl, h3, nx δ _ Hk σ _ k (s.put hm ⟨[], upd_same, .nil⟩) Kn.refl⟩
/-- for x in xs, xs owned and left alone -/
theorem run_forO {g : TG} {tb : TS} {vs : List Nat} {α : Type} (xs : List α) (enc : α → Dt) (Inv : List α → Dst → Led → Prop) (hi : δ[i]? = some (some (.adr a))) (hm : ∀ pre δ1 M1, Inv pre δ1 M1 → M1 a = some (.lst (xs.map enc))) (h0 : Inv [] δ M)
    (hs : ∀ pre x post δ1 M1, xs = pre ++ x :: post → Inv pre δ1 M1 → ∃ δ2, BindD g (enc x) δ1 δ2 vs ∧ Run F p tb δ2 M1 (Inv (pre ++ [x])) R) (hd : ∀ δ1 M1, Inv xs δ1 M1 → N δ1 M1) : Run F p (tFor (iSeq K (tVar i)) g tb) δ M N R := fun hF A0 B0 Hk σ H D s nx rt => by
  obtain ⟨v, h1, h2⟩ := s.st.2 i _ hi
  cases h2
  obtain ⟨_, _, _, vs0, h3, h4⟩ := s.ow a _ (hm [] δ M h0)
  refine ⟨.ref a, h1, a, vs0, rfl, .inl ⟨.inl (.inl h3), ?_⟩⟩
  let W : Nat → Nat → L2.St → Hp → Prop := fun n m σ' H' => m = xs.length - n ∧ n ≤ xs.length ∧ ∃ δ1 M1 Hk', Inv (xs.take n) δ1 M1 ∧ Hst F p A0 B0 M1 δ1 Hk' σ' H' ∧ Kn Hk Hk'
  refine ⟨W, ⟨xs.length, by simp, Nat.zero_le _, δ, M, Hk, h0, s, Kn.refl⟩, ?_⟩
  rintro n m σ' H' ⟨rfl, hn, δ1, M1, Hk', iv, s', k'⟩
  obtain ⟨_, _, _, vs1, h5, h6⟩ := s'.ow a _ (hm _ δ1 M1 iv)
  have hS : SqL K H' a vs1 := .inl (.inl h5)
  have hl : vs1.length = xs.length := by rw [h6.length, List.length_map]
  by_cases hlt : n < xs.length
  · obtain ⟨w, hw1, hw2⟩ := h6.get (i := n) (d := enc xs[n]) (by simp [hlt])
    refine .inr ⟨⟨vs1, w, hS, hw1⟩, W (n + 1) (xs.length - (n + 1)), fun σ2 H2 p' => ⟨_, by omega, p'⟩, fun x H2 y => ?_⟩
    obtain ⟨e3, y⟩ := y
    subst e3
    have := y vs1 hS
    rw [hw1] at this
    cases this
    have e4 : xs = xs.take n ++ xs[n] :: xs.drop (n + 1) := by rw [List.getElem_cons_drop, List.take_append_drop]
    have e5 : xs.take (n + 1) = xs.take n ++ [xs[n]] := by rw [List.take_add_one]; simp [hlt]
    obtain ⟨δ2, hb, hr⟩ := hs (xs.take n) xs[n] (xs.drop (n + 1)) δ1 M1 e4 iv
    refine hb σ' Hk' _ w s'.st hw2 s'.gr.kh _ fun σ3 st3 _ => ?_
    exact hr hF A0 B0 Hk' σ3 _ _ ⟨s'.gr, s'.po, st3, s'.ow⟩ (fun δ3 M3 Hk3 σ4 H3 q s3 k3 => ⟨rfl, hlt, δ3, M3, Hk3, by rw [e5]; exact q, s3, k'.trans k3⟩)
      fun d M3 v δ3 Hk3 σ4 H3 q s3 k3 r3 => rt d M3 v δ3 Hk3 σ4 H3 q s3 (k'.trans k3) r3
  · have e : n = xs.length := by omega
    subst e
    rw [List.take_length] at iv
    exact .inl ⟨⟨vs1, hS, by omega⟩, nx δ1 M1 Hk' σ' H' (hd δ1 M1 iv) s' k'⟩
end
/-! ### data without dicts, where only dicts are owned -/
mutual
inductive LT : Dt → Prop
  | non : LT .non
  | bl (b : Bool) : LT (.bl b)
  | int (i : Int) : LT (.int i)
  | str (x : Str) : LT (.str x)
  | ty (n : String) : LT (.ty n)
  | adr (a : Addr) : LT (.adr a)
  | lst {ds : List Dt} : LTs ds → LT (.lst ds)
  | tup {ds : List Dt} : LTs ds → LT (.tup ds)
inductive LTs : List Dt → Prop
  | nil : LTs []
  | cons {d : Dt} {ds : List Dt} : LT d → LTs ds → LTs (d :: ds)
end
theorem LTs.of {ds : List Dt} (h : ∀ d ∈ ds, LT d) : LTs ds := by
  induction ds with
  | nil => exact .nil
  | cons d ds ih => exact .cons (h d List.mem_cons_self) (ih fun e he => h e (List.mem_cons_of_mem _ he))
theorem LTs.map {α : Type} {f : α → Dt} (h : ∀ x, LT (f x)) (xs : List α) : LTs (xs.map f) := .of fun d hd => by
  obtain ⟨x, _, rfl⟩ := List.mem_map.mp hd
  exact h x
def isLT : HO → Prop
  | .lst _ => True
  | .tup _ => True
  | _ => False
theorem Rp.lt {H H' : Hp} (k : ∀ a o, isLT o → H a = some o → H' a = some o) {v : V} {d : Dt} (r : Rp H v d) : LT d → Rp H' v d := by
  refine Rp.rec (H := H) (motive_1 := fun v d _ => LT d → Rp H' v d) (motive_2 := fun vs ds _ => LTs ds → Rps H' vs ds) (fun _ => .non) (fun b _ => .bl b) (fun b _ => .int b) (fun b _ => .str b) (fun b _ => .ty b) (fun b _ => .adr b) ?_ ?_ ?_ ?_ ?_ ?_ ?_ ?_ (fun _ => .nil) ?_ r
  · intro a vs ds e _ q n; cases n with | lst n => exact .lst (k _ _ True.intro e) (q n)
  · intro a vs ds e _ q n; cases n with | tup n => exact .tup (k _ _ True.intro e) (q n)
  · intro a o vs ds h e _ q n; cases n
  · intro a o vs ds e _ q n; cases n
  · intro a o kvs ks e e2 _ q n; cases n
  · intro a kvs ks e e2 _ q n; cases n
  · intro a kvs ks e e2 _ q n; cases n
  · intro a C dx fs gs e e2 _ q n; cases n
  · intro v d vs ds _ _ q1 q2 n; cases n with | cons n1 n2 => exact .cons (q1 n1) (q2 n2)
theorem Sep.lt {M : Led} {d : Dt} (h : LT d) (hM : ∀ a e, M a = some e → ∃ ks, e = .dk ks) : Sep M d := fun Hk H v o e r => by
  refine r.lt (fun a u hu ha => ?_) h
  show (if (M a).isSome = true then none else Hk a) = some u
  cases q : M a with
  | none => exact ha
  | some x =>
    obtain ⟨ks, rfl⟩ := hM a x q
    obtain ⟨kvs, h1, _⟩ := o a _ q
    rw [← e a (by rw [q]; rfl), ha] at h1
    cases h1
    exact hu.elim
end Ab
end

section
set_option Elab.async false
set_option linter.all false
set_option maxRecDepth 100000
set_option maxHeartbeats 4000000

namespace Rt
open PySem PySem.Spec PyProof.Rows L2 Ab C8
local macro_rules | `(tactic| walk_at "rv") => `(tactic| first
  | exact rv_I0i | exact rv_I0b | exact rv_eqI | exact rv_eqS | exact rv_neI | exact rv_neS | exact rv_eqB | exact rv_inS (t := .t) | exact rv_inS (t := .l) | exact rv_inI (t := .t) | exact rv_inI (t := .l) | exact rv_ninS (t := .t) | exact rv_ninS (t := .l) | exact rv_ninI (t := .t) | exact rv_ninI (t := .l) | exact rv_isN rfl | exact rv_notN rfl | exact rv_eqTI | exact rv_neTI | exact rv_eqLI | exact rv_neTS | exact rv_eqLTS | exact rv_neLTI | exact rv_sign)
local macro_rules | `(tactic| walk_at "ev") => `(tactic| first
  | exact ev_var rfl | exact ev_int | exact ev_str | exact ev_bl | exact ev_non | exact ev_ty | exact ea_nil | exact et_yes
  | ((with_reducible refine ev_op ?_ ?_ ?_) <;> walk_at "ev")
  | ((with_reducible refine ea_cons ?_ ?_) <;> walk_at "ev")
  | ((with_reducible refine ev_and ?_ ?_) <;> walk_at "ev")
  | ((with_reducible refine ev_or ?_ ?_) <;> walk_at "ev")
  | (with_reducible refine ev_not ?_; walk_at "ev")
  | (with_reducible refine ev_tup ?_; walk_at "ev")
  | (with_reducible refine ev_lst ?_; walk_at "ev")
  | (with_reducible refine et_not ?_; walk_at "ev")
  | ((with_reducible refine et_and ?_ ?_) <;> walk_at "ev")
  | ((with_reducible refine et_or ?_ ?_) <;> walk_at "ev")
  | (with_reducible refine et_test ?_; walk_at "ev")
  | (with_reducible refine et_B ?_; walk_at "ev")
  | (with_reducible refine fun (_ : _ = _) => ?_; walk_at "ev")
  | walk_at "rv"
  | skip)


theorem lowOf_bd {k s : Nat} (hk : k ≤ 5) (hs : s ≤ 4) : ∀ row ∈ setsOf k s, 0 ≤ lowOf row ∧ lowOf row ≤ 4 := fun row hr => by
  obtain ⟨h1, h2, h3⟩ := sets_in hk hs row hr
  by_cases e : row = []
  · subst e; decide
  · obtain ⟨i, x, e1, e2⟩ := last_row e
    have := h3 x (by rw [e1]; simp)
    omega
theorem Bk.addSet_pos {b : Bk} {f : List (List Int)} {z : List Int} (h : true = (!isMore f z && decide ((b.cut z).goal = b.goal))) : b.addSet f z = f ++ [z] := by unfold Bk.addSet; rw [if_pos h.symm]
theorem Bk.addSet_neg {b : Bk} {f : List (List Int)} {z : List Int} (h : false = (!isMore f z && decide ((b.cut z).goal = b.goal))) : b.addSet f z = f := by unfold Bk.addSet; rw [if_neg (by rw [← h]; exact Bool.false_ne_true)]
theorem Bk.addSet_mem (b : Bk) : ∀ (xs found : List (List Int)) (x : List Int), x ∈ xs.foldl b.addSet found → x ∈ found ∨ x ∈ xs
  | [], found, x, h => .inl h
  | y :: xs, found, x, h => by
    rcases Bk.addSet_mem b xs (b.addSet found y) x h with q | q
    · unfold Bk.addSet at q
      split at q
      · rcases List.mem_append.mp q with w | w
        · exact .inl w
        · exact .inr (by rw [List.mem_singleton.mp w]; exact List.mem_cons_self)
      · exact .inl q
    · exact .inr (List.mem_cons_of_mem _ q)

section
variable {P : Program} {w : World} {K : PySem.W.Frag} {mg : Str → Option Value} {base : Heap}

def n_sets_of : List Str := ["many", "size", "row", "one"]
def p_sets_of : List Str := ["many", "size"]
theorem sc_sets_of : FnScope n_sets_of p_sets_of (defScope s_sets_of) := ⟨rfl, rfl, rfl, by decide +kernel, rfl, by decide +kernel, by decide +kernel⟩
def R_sets_of (n : Nat) : List Dt → Dt → Prop := fun ds d => ∃ k s : Nat, ds = [natD k, natD s] ∧ k ≤ n ∧ s ≤ 4 ∧ d = .lst ((setsOf k s).map tupI)
theorem c_sets_of0 (T : Tx K mg) : C8.Cal P w K mg base 1 "sets_of" (SpD (R_sets_of 0)) [] := by
  obtain ⟨fd, F⟩ := T.f_sets_of
  refine cal F T.g_sets_of sc_sets_of (fun _ _ _ _ _ _ us hl => match us, hl with | [_, _], _ => rfl) (spD_len (n := 2) (by rintro _ _ ⟨_, _, rfl, _⟩; rfl)) fun cdv A outer s H E hr => ⟨_, (pss_cons (ps_if (pt_cmpR op_eq (pv 0) pe_int (nomark _)) (pss_one (ps_ret (pe_lst (pa_cons (pe_tup pa_nil) pa_nil)))) pss_nil) (pss_one ps_never)), ?_⟩
  intro vs Q h
  refine spD_of (N := n_sets_of) (fun ds d hR => ?_) h
  obtain ⟨k, z, rfl, hk, hz, rfl⟩ := hR
  have : k = 0 := by omega
  subst this
  refine run_seq (run_if (tz_of (et_test (ev_op (x := natD 0) (y := .int 0) (ev_var rfl) ev_int rv_eqI))) (fun _ => run_ret (P := fun d => d = .lst ((setsOf 0 z).map tupI)) (ez_of (ev_lst (xs := [tupI []]) (ea_cons (ev_tup ea_nil) ea_nil))) fun d e => e) (fun e => nomatch e))

theorem c_sets_of_step (T : Tx K mg) (n : Nat) (hn : n ≤ 4) (c_sets_of : C8.Cal P w K mg base (n + 1) "sets_of" (SpD (R_sets_of n)) []) : C8.Cal P w K mg base (n + 2) "sets_of" (SpD (R_sets_of (n + 1))) [] := by
  obtain ⟨fd, F⟩ := T.f_sets_of
  refine cal F T.g_sets_of sc_sets_of (fun _ _ _ _ _ _ us hl => match us, hl with | [_, _], _ => rfl) (spD_len (n := 2) (by rintro _ _ ⟨_, _, rfl, _⟩; rfl)) fun cdv A outer s H E hr => ⟨_, (pss_cons (ps_if (pt_cmpR op_eq (pv 0) pe_int (nomark _)) (pss_one (ps_ret (pe_lst (pa_cons (pe_tup pa_nil) pa_nil)))) pss_nil) (pss_one (ps_ret (pe_lc2 (own := [("row", 2), ("one", 3)]) (vs1 := [3]) rfl sc_sets_of.nd (Kr.seq (K := K) rfl (pe_c c_sets_of hr (Nat.le_refl _) (by rfl) (pa_cons (pe_op op_sub (pv 0) pe_int) (pa_cons (pv 1) pa_nil)))) (blkOk_by (own := [("row", 2), ("one", 3)]) (N := n_sets_of) (sc := defScope s_sets_of) (by decide +kernel)) (by decide) (fun _ _ _ _ _ => (pg_name (i := 2) sc_sets_of.nd rfl (by first | exact Or.inl rfl | exact Or.inr rfl))) (fun _ _ _ _ _ => pts_nil) (fun _ _ _ _ _ => (pi_range2 (by rfl) T.n_range (pa_cons (pe_ifExp (pt_cmpR (Kr.neP (K := K) rfl hr.units) (pv 2) (pe_tup pa_nil) (nomark _)) (pe_op op_add (pe_ix (Kr.ix (K := K) rfl) (pv 2) (pe_un un_neg pe_int) (fun _ _ => rfl)) pe_int) pe_int) (pa_cons (pv 1) pa_nil)))) (fun _ _ _ _ _ => (pg_name (i := 3) sc_sets_of.nd rfl (by first | exact Or.inl rfl | exact Or.inr rfl))) (fun _ _ _ _ _ => pts_nil) (fun _ _ _ _ _ => (pe_tup (Kr.star (K := K) rfl (pv 2) (pa_cons (pv 3) pa_nil)))))))), ?_⟩
  intro vs Q h
  refine spD_of (N := n_sets_of) (fun ds d hR => ?_) h
  obtain ⟨k, z, rfl, hk, hz, rfl⟩ := hR
  cases k with
  | zero =>
    refine run_seq (run_if (tz_of (et_test (ev_op (x := natD 0) (y := .int 0) (ev_var rfl) ev_int rv_eqI))) (fun _ => run_ret (P := fun d => d = .lst ((setsOf 0 z).map tupI)) (ez_of (ev_lst (xs := [tupI []]) (ea_cons (ev_tup ea_nil) ea_nil))) fun d e => e) (fun e => nomatch e))
  | succ k =>
    refine run_skip ((et_test (ev_op (x := natD (k + 1)) (y := .int 0) (ev_var rfl) ev_int rv_eqI)).eq (decide_eq_false (by omega))) ?_
    refine run_retD ((ev_lc2 (setsOf k z) tupI (fun row => rangeI (lowOf row) ((z : Int) - lowOf row).toNat) Dt.int (fun row one => tupI (row ++ [one])) (ei_lst (ev_call (ds := [natD k, natD z]) (ea_cons ((ev_op (x := natD (k + 1)) (y := .int 1) (ev_var rfl) ev_int rv_I0i).eq (by show Dt.int (((k + 1 : Nat) : Int) - 1) = _; unfold natD; congr 1; omega)) (ea_cons (ev_var rfl) ea_nil)) ⟨k, z, rfl, by omega, hz, rfl⟩)) (fun row hrow => ⟨_, bind_name, ?_, fun one hone => ⟨_, bind_name, ?_⟩⟩) ?_).eq ?_)
    · rw [← rangeI_D]
      obtain ⟨h1, h2⟩ := lowOf_bd (show k ≤ 5 by omega) hz row hrow
      refine ei_rng2 (i := lowOf row) (j := (z : Int)) (ea_cons ((ev_if (b := !decide (row = [])) (x := .int (lowOf row)) (y := .int 0) (et_test (ev_op (x := tupI row) (y := tupI []) (ev_var rfl) (ev_tup ea_nil) rv_neTI)) (fun e => ?_) (fun _ => ev_int)).eq ?_) (ea_cons (ev_var rfl) ea_nil)) ?_
      · have hne : row ≠ [] := fun z => by rw [z] at e; cases e
        obtain ⟨i, x, e1, e2⟩ := last_row hne
        rw [e2]
        exact ev_op (x := .int x) (y := .int 1) (ev_op (y := .int (-1)) (ev_var rfl) (ev_un (x := .int 1) ev_int (fun u Hk H r k o Q q => by cases r; exact ⟨1, rfl, q (.int (-1)) Hk H (.refl k) o (.int _)⟩)) (rv_ix (t := .t) (by rw [e1, List.map_append]; exact atI_last _ _))) ev_int rv_I0i
      · by_cases e : row = []
        · subst e; rfl
        · rw [decide_eq_false e]; rfl
      · have hz' : (z : Int) ≤ 4 := by omega
        refine ⟨by omega, by omega, by omega, by omega⟩
    · exact (ev_tup (xs := row.map Dt.int ++ [.int one]) (ea_star (t := .t) (ev_var rfl) (ea_cons (ev_var rfl) ea_nil)) (by
        rw [List.length_append, List.length_map, List.length_singleton]
        have := (sets_in (show k ≤ 5 by omega) hz row hrow).1
        omega)).eq (by unfold tupI; rw [List.map_append]; rfl)
    · have h := sets_small (k := k + 1) (s := z) (by omega) hz
      have e : ((setsOf k z).flatMap fun x => (rangeI (lowOf x) ((z : Int) - lowOf x).toNat).map fun one => tupI (x ++ [one])) = (setsOf (k + 1) z).map tupI := by
        show _ = ((setsOf k z).flatMap _).map tupI
        rw [List.map_flatMap]
        congr 1
        funext x
        rw [List.map_map]
        rfl
      rw [e, List.length_map]
      omega
    · show Dt.lst _ = Dt.lst (((setsOf k z).flatMap _).map tupI)
      rw [List.map_flatMap]
      congr 2
      funext x
      rw [List.map_map]
      rfl
theorem c_sets_of (T : Tx K mg) : C8.Cal P w K mg base 6 "sets_of" (SpD (R_sets_of 5)) [] :=
  c_sets_of_step T 4 (by decide) (c_sets_of_step T 3 (by decide) (c_sets_of_step T 2 (by decide) (c_sets_of_step T 1 (by decide) (c_sets_of_step T 0 (by decide) (c_sets_of0 T)))))

def n_least_wants : List Str := ["book", "size", "found", "goal", "many", "indexes", "is_more", "less", "index"]
def p_least_wants : List Str := ["book"]
theorem sc_least_wants : FnScope n_least_wants p_least_wants (defScope s_least_wants) := ⟨rfl, rfl, rfl, by decide +kernel, rfl, by decide +kernel, by decide +kernel⟩
def R_least_wants (K : PySem.W.Frag) : List Dt → (Dt → Prop) → Prop := fun ds P => ∃ b : Bk, ds = [bkD (BC K) b] ∧ b.Ok ∧ P = fun d => d = .lst (b.least.map tupI)
theorem c_least_wants (T : Tx K mg) : C8.Cal P w K mg base 12 "least_wants" (SpO (R_least_wants K)) [] := by
  obtain ⟨fd, F⟩ := T.f_least_wants
  have c_wants := c_wants (P := P) (w := w) (base := base) T
  have c_reached_masks := c_reached_masks (P := P) (w := w) (base := base) T
  have c_sets_of := c_sets_of (P := P) (w := w) (base := base) T
  have c_is_so := c_is_so (P := P) (w := w) (base := base) T
  refine cal F T.g_least_wants sc_least_wants (fun _ _ _ _ _ _ us hl => match us, hl with | [_], _ => rfl) (spO_len (n := 1) (by first | (rintro _ _ ⟨_, rfl, _⟩; rfl))) fun cdv A outer s H E hr => ⟨_, (pss_cons (ps_par (i := 1) (j := 2) (by rfl) sc_least_wants.nd rfl rfl (by decide) rfl rfl (pa_cons (pe_callB (Kr.len (K := K) rfl) (by rfl) T.n_len (by decide +kernel) (pa_cons (pe_mt0 c_wants hr (by decide) (pv 0)) pa_nil)) (pa_cons (pe_lst pa_nil) pa_nil)) (by rfl)) (pss_cons (ps_if (pt_cmpR op_gt (pv 1) (pe_gc (by rfl) T.k_MOST_WANTS_idling) (nomark _)) (pss_one ps_never) pss_nil) (pss_cons (ps_set (i := 3) sc_least_wants.nd rfl (Or.inl rfl) (pe_callB (call_sortedDI rfl) (by rfl) T.n_sorted (by decide +kernel) (pa_cons (pe_c c_reached_masks hr (by decide) (by rfl) (pa_cons (pv 0) pa_nil)) pa_nil))) (pss_cons (ps_for PassesOwn.never rfl (pi_range1 (by rfl) T.n_range (pa_cons (pe_op op_add (pv 1) pe_int) pa_nil)) (pg_name (i := 4) sc_least_wants.nd rfl (by first | exact Or.inl rfl | exact Or.inr rfl)) (pss_one (ps_for PassesOwn.never rfl (Kr.seq (K := K) rfl (pe_c c_sets_of hr (by decide) (by rfl) (pa_cons (pv 4) (pa_cons (pv 1) pa_nil)))) (pg_name (i := 5) sc_least_wants.nd rfl (by first | exact Or.inl rfl | exact Or.inr rfl)) (pss_cons (ps_set (i := 6) sc_least_wants.nd rfl (Or.inl rfl) (pe_callB (Kr.any (K := K) rfl) (by rfl) T.n_any (by decide +kernel) (pa_cons (pe_lc (own := [("less", 7)]) rfl sc_least_wants.nd (Kr.seq (K := K) rfl (pv 2)) (blkOk_by (own := [("less", 7)]) (N := n_least_wants) (sc := defScope s_least_wants) (by decide +kernel)) (fun _ _ _ _ _ => (pg_name (i := 7) sc_least_wants.nd rfl (by first | exact Or.inl rfl | exact Or.inr rfl))) (fun _ _ _ _ _ => pts_nil) (fun _ _ _ _ _ => (pe_callB (Kr.all (K := K) rfl) (by rfl) T.n_all (by decide +kernel) (pa_cons (pe_lc (own := [("index", 8)]) rfl sc_least_wants.nd (Kr.seq (K := K) rfl (pv 7)) (blkOk_by (own := [("index", 8)]) (N := n_least_wants) (by kernel_rfl)) (fun _ _ _ _ _ => (pg_name (i := 8) sc_least_wants.nd rfl (by first | exact Or.inl rfl | exact Or.inr rfl))) (fun _ _ _ _ _ => pts_nil) (fun _ _ _ _ _ => (pe_cmpR (Kr.oin (K := K) rfl) (pv 8) (pv 5) (by rfl)))) pa_nil)))) pa_nil))) (pss_one (ps_if (PW.pt (pw_and (pt_not (pt_val (pv 6))) (pw_and1 (pt_val (pe_c c_is_so hr (by decide) (by rfl) (pa_cons (pv 0) (pa_cons (pv 3) (pa_cons (pv 5) pa_nil)))))))) (pss_one (ps_expr (Kr.bm (K := K) rfl PySem.F.plainAttrs_list PySem.F.slot_list_append PySem.F.type_list_append mt_append (pv 2) (pa_cons (pv 5) pa_nil)))) pss_nil)))))) (pss_one (ps_ret (pv 2))))))), ?_⟩
  intro vs Q h
  refine spO_of (N := n_least_wants) (fun ds P hR => ?_) h
  obtain ⟨b, rfl, ok, rfl⟩ := hR
  have hwl := ok.wl
  have hal : (allSets b.wt.length).length ≤ 1000 := by
    unfold allSets
    rw [List.length_flatMap]
    have h : ∀ s : Fin 5, ((List.range (s.1 + 1)).map fun k => (setsOf k s.1).length).sum ≤ 1000 := by decide +kernel
    exact h ⟨b.wt.length, by omega⟩
  refine run_seq (run_parO (P := fun d => d = natD b.wt.length) (ez_of ((ev_cb (xs := [seqD .l (b.wt.map encW)]) (ea_cons (ev_meth (R := R_b_wants K) (gs := bkF b) (ev_var rfl) (by rfl) ea_nil ⟨b, rfl, rfl⟩) ea_nil) rc_len).eq (by rw [List.length_map]; rfl))) fun d a e _ => ?_)
  subst e
  refine run_skip ((et_test (ev_op (x := natD b.wt.length) (y := .int 8) (ev_var rfl) ev_int rv_I0b)).eq (decide_eq_false (by omega))) ?_
  refine run_setD (d := lstI b.goal) (ev_goal T ok (ea_cons (ev_var rfl) ea_nil)) ?_
  refine run_seq (run_forL (vs := [4]) (List.range (b.wt.length + 1)) natD (fun pre δ M => ∃ o4 o5 o6 o7 o8, δ = [some (bkD (BC K) b), some (natD b.wt.length), some (.adr a), some (lstI b.goal), o4, o5, o6, o7, o8] ∧ M = updM noM a (.lst (((pre.flatMap fun k => setsOf k b.wt.length).foldl b.addSet []).map tupI))) (iz_of (fun σ Hk H s k o' R q => ei_rng1 (j := ((b.wt.length + 1 : Nat) : Int)) (ea_cons (ev_op (x := natD b.wt.length) (y := .int 1) (ev_var rfl) ev_int rv_I0i) ea_nil) (by omega) (by omega) σ Hk H s k o' R fun J ds Hk' H' g o2 e2 w => q J ds Hk' H' g o2 (by rw [e2, Int.toNat_natCast]; exact rng_nat _) w)) ⟨_, _, _, _, _, rfl, rfl⟩ ?_ ?_)
  · rintro pre x post δ1 M1 hx ⟨o4, o5, o6, o7, o8, rfl, rfl⟩
    have hxl : x < b.wt.length + 1 := List.mem_range.mp (by rw [hx]; simp)
    refine ⟨_, bind_name, ?_⟩
    have hlen : ∀ q r, setsOf x b.wt.length = q ++ r → ((pre.flatMap fun k => setsOf k b.wt.length) ++ q).length ≤ 1000 := fun q r hq => by
      have h1 : allSets b.wt.length = ((pre.flatMap fun k => setsOf k b.wt.length) ++ q) ++ (r ++ post.flatMap fun k => setsOf k b.wt.length) := by
        unfold allSets
        rw [hx, List.flatMap_append, List.flatMap_cons, hq]
        simp
      rw [h1, List.length_append] at hal
      omega
    refine run_forL (vs := [5]) (setsOf x b.wt.length) tupI (fun q δ M => ∃ o5 o6 o7 o8, δ = [some (bkD (BC K) b), some (natD b.wt.length), some (.adr a), some (lstI b.goal), some (natD x), o5, o6, o7, o8] ∧ M = updM noM a (.lst ((((pre.flatMap fun k => setsOf k b.wt.length) ++ q).foldl b.addSet []).map tupI))) (iz_of (ei_lst (ev_call (ds := [natD x, natD b.wt.length]) (ea_cons (ev_var rfl) (ea_cons (ev_var rfl) ea_nil)) ⟨x, b.wt.length, rfl, by omega, by omega, rfl⟩))) ⟨_, _, _, _, rfl, by rw [List.append_nil]⟩ ?_ ?_
    · rintro q z post2 δ2 M2 hz ⟨o5, o6, o7, o8, rfl, rfl⟩
      have hz1 := hlen q (z :: post2) hz
      generalize hpq : (pre.flatMap fun k => setsOf k b.wt.length) ++ q = pq at *
      have hfl : (pq.foldl b.addSet []).length ≤ 1000 := by
        have := b.addSet_len pq []
        rw [List.length_nil] at this
        omega
      have hzm : z ∈ setsOf x b.wt.length := by rw [hz]; simp
      have hzl := (sets_in (show x ≤ 5 by omega) (show b.wt.length ≤ 4 by omega) z hzm).1
      refine ⟨_, bind_name, ?_⟩
      refine run_seq (run_set (P := fun d => d = .bl (isMore (pq.foldl b.addSet []) z)) (ez_fz (Fz.refl.set (i := 2) rfl updM_same) (ev_cb (ea_cons (ev_lc0 (pq.foldl b.addSet []) tupI (fun less => .bl (less.all fun i => decide (i ∈ z))) (ei_lst (ev_var rfl)) (fun less hless => ⟨_, bind_name, ev_cb (ea_cons (ev_lc0 less Dt.int (fun i => .bl (decide (i ∈ z))) (ei_tup (ev_var rfl)) (fun i hi => ⟨_, bind_name, ev_op (x := .int i) (y := tupI z) (ev_var rfl) (ev_var rfl) (rv_inI (t := .t))⟩) ?_) ea_nil) rc_allM⟩) (by omega)) ea_nil) rc_anyM) (fun d e => Sep.flat (.inr (.inl ⟨_, e⟩)))) fun d e => ?_)
      · rcases b.addSet_mem pq [] less hless with w | w
        · cases w
        · rw [← hpq] at w
          rcases List.mem_append.mp w with w | w
          · obtain ⟨k, hk, hw⟩ := List.mem_flatMap.mp w
            have hkl : k < b.wt.length + 1 := List.mem_range.mp (by rw [hx]; exact List.mem_append_left _ hk)
            have := (sets_in (show k ≤ 5 by omega) (show b.wt.length ≤ 4 by omega) less hw).1
            omega
          · have := (sets_in (show x ≤ 5 by omega) (show b.wt.length ≤ 4 by omega) less (by rw [hz]; exact List.mem_append_left _ w)).1
            omega
      subst e
      refine run_if (B := fun c => c = (!isMore (pq.foldl b.addSet []) z && decide ((b.cut z).goal = b.goal))) (tz_of (et_and (et_not (et_B (ev_var rfl))) (fun _ => et_B (ev_call (ds := [bkD (BC K) b, lstI b.goal, tupI z]) (ea_cons (ev_var rfl) (ea_cons (ev_var rfl) (ea_cons (ev_var rfl) ea_nil))) ⟨.t, b, _, z, rfl, ok, rfl⟩)))) (fun e => ?_) (fun e => run_next ?_)
      · refine run_append (a := a) (P := fun d => d = tupI z) rfl updM_same (by rw [List.length_map]; omega) (ez_of (ev_var rfl)) (fun d e2 => ⟨_, _, _, _, rfl, ?_⟩)
        rw [updM_updM, e2, ← List.append_assoc, hpq, List.foldl_append]
        show _ = updM noM a (.lst ((b.addSet (pq.foldl b.addSet []) z).map tupI))
        rw [Bk.addSet_pos e, List.map_append]
        rfl
      · refine ⟨_, _, _, _, rfl, ?_⟩
        rw [← List.append_assoc, hpq, List.foldl_append]
        show _ = updM noM a (.lst ((b.addSet (pq.foldl b.addSet []) z).map tupI))
        rw [Bk.addSet_neg e]
    · rintro δ2 M2 ⟨o5, o6, o7, o8, rfl, rfl⟩
      refine ⟨_, _, _, _, _, rfl, ?_⟩
      rw [List.flatMap_append, List.flatMap_cons, List.flatMap_nil, List.append_nil]
  · rintro δ1 M1 ⟨o4, o5, o6, o7, o8, rfl, rfl⟩
    exact run_ret (P := fun d => d = .adr a) (ez_of (ev_var rfl)) fun d e => ⟨a, _, e, updM_same, rfl⟩
def n_build_by : List Str := ["book", "mask", "name"]
def p_build_by : List Str := ["book", "mask"]
theorem sc_build_by : FnScope n_build_by p_build_by (defScope s_build_by) := ⟨rfl, rfl, rfl, by decide +kernel, rfl, by decide +kernel, by decide +kernel⟩
def R_build_by (K : PySem.W.Frag) : List Dt → Dt → Prop := fun ds d => ∃ b : Bk, ∃ m : Nat, ds = [bkD (BC K) b, natD m] ∧ b.Ok ∧ d = tupS (b.build m)
theorem c_build_by (T : Tx K mg) : C8.Cal P w K mg base 1 "build_by" (SpD (R_build_by K)) [] := by
  obtain ⟨fd, F⟩ := T.f_build_by
  refine cal F T.g_build_by sc_build_by (fun _ _ _ _ _ _ us hl => match us, hl with | [_, _], _ => rfl) (spD_len (n := 2) (by rintro _ _ ⟨_, _, rfl, _⟩; rfl)) fun cdv A outer s H E hr => ⟨_, (pss_one (ps_ret (pe_callTy (Kr.tuple (K := K) rfl) (by rfl) T.n_tuple (by decide +kernel) (pa_cons (pe_lc (own := [("name", 2)]) rfl sc_build_by.nd (Kr.seq (K := K) rfl (Kr.fld (K := K) rfl (pv 0))) (blkOk_by (own := [("name", 2)]) (N := n_build_by) (sc := defScope s_build_by) (by decide +kernel)) (fun _ _ _ _ _ => (pg_name (i := 2) sc_build_by.nd rfl (by first | exact Or.inl rfl | exact Or.inr rfl))) (fun _ _ _ _ _ => pts_one (Kr.truth (K := K) rfl (pe_op op_and (pv 1) (pe_dget (hu_of hr) (Kr.fld (K := K) rfl (pv 0)) (pv 2) (fun _ _ => rfl))) (by intro _; rfl))) (fun _ _ _ _ _ => (pv 2))) pa_nil)))), ?_⟩
  intro vs Q h
  refine spD_of (N := n_build_by) (fun ds d hR => ?_) h
  obtain ⟨b, m, rfl, ok, rfl⟩ := hR
  have hnl := ok.nlen
  exact run_retD (ev_cb (xs := [lstS (b.build m)]) (ea_cons (ev_lc b.names Dt.str (fun z => (((m &&& b.bit z : Nat) : Int) != 0)) Dt.str (ei_lst (f_names T (ev_var rfl))) (fun z hz => ⟨_, bind_name, et_truth (d := natD (m &&& b.bit z)) (ev_op (ev_var rfl) (ev_bit T ok (ev_var rfl) (ev_var rfl) hz) rv_and) rfl, fun _ => ev_var rfl⟩) (by omega)) ea_nil) rc_tuple)
def n_skill_sets : List Str := ["book", "builds", "mask", "build", "skill"]
def p_skill_sets : List Str := ["book"]
theorem sc_skill_sets : FnScope n_skill_sets p_skill_sets (defScope s_skill_sets) := ⟨rfl, rfl, rfl, by decide +kernel, rfl, by decide +kernel, by decide +kernel⟩
def R_skill_sets (K : PySem.W.Frag) : List Dt → Dt → Prop := fun ds d => ∃ b : Bk, ds = [bkD (BC K) b] ∧ b.Ok ∧ d = .dt (b.keyset.map fun k => (k, Dt.bl true))
theorem c_skill_sets (T : Tx K mg) : C8.Cal P w K mg base 8 "skill_sets" (SpD (R_skill_sets K)) [] := by
  obtain ⟨fd, F⟩ := T.f_skill_sets
  have c_reached_masks := c_reached_masks (P := P) (w := w) (base := base) T
  have c_build_by := c_build_by (P := P) (w := w) (base := base) T
  refine cal F T.g_skill_sets sc_skill_sets (fun _ _ _ _ _ _ us hl => match us, hl with | [_], _ => rfl) (spD_len (n := 1) (by first | (rintro _ _ ⟨_, rfl, _⟩; rfl))) fun cdv A outer s H E hr => ⟨_, (pss_cons (ps_setLc (i := 1) (own := [("mask", 2)]) rfl sc_skill_sets.nd rfl rfl (sw_true rfl rfl rfl (by decide +kernel)) (pi_keys (pe_c c_reached_masks hr (by decide) (by rfl) (pa_cons (pv 0) pa_nil))) (blkOk_by (own := [("mask", 2)]) (N := n_skill_sets) (sc := defScope s_skill_sets) (by decide +kernel)) (fun _ _ _ _ _ => (pg_name (i := 2) sc_skill_sets.nd rfl (by first | exact Or.inl rfl | exact Or.inr rfl))) (fun _ _ _ _ _ => pts_nil) (fun _ _ _ _ _ => (pe_c c_build_by hr (by decide) (by rfl) (pa_cons (pv 0) (pa_cons (pv 2) pa_nil))))) (pss_one (ps_ret (Cr.pe_dcT (own := [("build", 3)]) (hu_of hr) rfl sc_skill_sets.nd (Kr.seq (K := K) rfl (pv 1)) (blkOk_by (own := [("build", 3)]) (N := n_skill_sets) (sc := defScope s_skill_sets) (by decide +kernel)) (fun _ _ _ _ _ => (pg_name (i := 3) sc_skill_sets.nd rfl (by first | exact Or.inl rfl | exact Or.inr rfl))) (fun _ _ _ _ _ => (pe_callTy (Kr.tuple (K := K) rfl) (by rfl) T.n_tuple (by decide +kernel) (pa_cons (pe_callB (Kr.sortedS (K := K) rfl) (by rfl) T.n_sorted (by decide +kernel) (pa_cons (pe_lc (own := [("skill", 4)]) rfl sc_skill_sets.nd (Kr.seq (K := K) rfl (pv 3)) (blkOk_by (own := [("skill", 4)]) (N := n_skill_sets) (by kernel_rfl)) (fun _ _ _ _ _ => (pg_name (i := 4) sc_skill_sets.nd rfl (by first | exact Or.inl rfl | exact Or.inr rfl))) (fun _ _ _ _ _ => pts_nil) (fun _ _ _ _ _ => (pe_callTy SkE.call_str_str (by rfl) T.n_str (by decide +kernel) (pa_cons (pv 4) pa_nil)))) pa_nil)) pa_nil))) (fun _ _ _ _ _ => pe_bl))))), ?_⟩
  intro vs Q h
  refine spD_of (N := n_skill_sets) (fun ds d hR => ?_) h
  obtain ⟨b, rfl, ok, rfl⟩ := hR
  have hrl := b.reach_len ok
  have hnl := ok.nlen
  refine run_setD (d := .lst ((b.reach.map b.build).map tupS)) ((ev_lc0 b.reach natD (fun m => tupS (b.build m)) (ei_reach T ok (ea_cons (ev_var rfl) ea_nil)) (fun m hm => ⟨_, bind_name, ev_call (ds := [bkD (BC K) b, natD m]) (ea_cons (ev_var rfl) (ea_cons (ev_var rfl) ea_nil)) ⟨b, m, rfl, ok, rfl⟩⟩) (by omega)).eq (by rw [List.map_map]; rfl)) ?_
  have hbl : ∀ x ∈ b.reach.map b.build, x.length ≤ 5 := fun x hx => by
    obtain ⟨m, _, rfl⟩ := List.mem_map.mp hx
    have := List.length_filter_le (fun s => (((m &&& b.bit s : Nat) : Int) != 0)) b.names
    unfold Bk.build
    omega
  refine run_retD ((ev_dcT (b.reach.map b.build) tupS (fun x => (srtS x).map Sum.inr) (fun _ => .bl true) (ei_lst (ev_var rfl)) (fun x hx => ⟨_, bind_name, ?_, ev_bl⟩) (by rw [List.length_map]; omega)).eq ?_)
  · refine (ev_cb (xs := [lstS (srtS x)]) (ea_cons (ev_cb (xs := [lstS x]) (ea_cons (ev_lc0 x Dt.str Dt.str (ei_tup (ev_var rfl)) (fun z hz => ⟨_, bind_name, ev_cb (xs := [.str z]) (ea_cons (ev_var rfl) ea_nil) rc_strS⟩) (by have := hbl x hx; omega)) ea_nil) (rc_sortSD (by have := hbl x hx; omega))) ea_nil) rc_tuple).eq ?_
    rw [List.map_map]
    rfl
  · rw [foldl_putG0 (fun x : List Str => ((srtS x).map Sum.inr : List Key)) (fun _ => Dt.bl true) (b.reach.map b.build) (by rw [List.map_map]; exact Bk.keyset_nd ok)]
    unfold Bk.keyset
    rw [List.map_map, List.map_map]
    rfl
def n_are_of_like_skills : List Str := ["one", "other", "name"]
def p_are_of_like_skills : List Str := ["one", "other"]
theorem sc_are_of_like_skills : FnScope n_are_of_like_skills p_are_of_like_skills (defScope s_are_of_like_skills) := ⟨rfl, rfl, rfl, by decide +kernel, rfl, by decide +kernel, by decide +kernel⟩
def R_are_of_like_skills (K : PySem.W.Frag) : List Dt → Dt → Prop := fun ds d => ∃ b c : Bk, ds = [bkD (BC K) b, bkD (BC K) c] ∧ b.Ok ∧ c.Ok ∧ b.names = c.names ∧ d = .bl true
theorem c_are_of_like_skills (T : Tx K mg) : C8.Cal P w K mg base 2 "are_of_like_skills" (SpD (R_are_of_like_skills K)) [] := by
  obtain ⟨fd, F⟩ := T.f_are_of_like_skills
  have c_names := c_names (P := P) (w := w) (base := base) T
  refine cal F T.g_are_of_like_skills sc_are_of_like_skills (fun _ _ _ _ _ _ us hl => match us, hl with | [_, _], _ => rfl) (spD_len (n := 2) (by rintro _ _ ⟨_, _, rfl, _⟩; rfl)) fun cdv A outer s H E hr => ⟨_, (pss_one (ps_ret (pe_cmpR (Kr.eqP (K := K) rfl hr.units) (pe_callB (Kr.sortedS (K := K) rfl) (by rfl) T.n_sorted (by decide +kernel) (pa_cons (pe_lc (own := [("name", 2)]) rfl sc_are_of_like_skills.nd (Kr.seq (K := K) rfl (pe_mt0 c_names hr (by decide) (pv 0))) (blkOk_by (own := [("name", 2)]) (N := n_are_of_like_skills) (sc := defScope s_are_of_like_skills) (by decide +kernel)) (fun _ _ _ _ _ => (pg_name (i := 2) sc_are_of_like_skills.nd rfl (by first | exact Or.inl rfl | exact Or.inr rfl))) (fun _ _ _ _ _ => pts_nil) (fun _ _ _ _ _ => (pe_callTy SkE.call_str_str (by rfl) T.n_str (by decide +kernel) (pa_cons (pv 2) pa_nil)))) pa_nil)) (pe_callB (Kr.sortedS (K := K) rfl) (by rfl) T.n_sorted (by decide +kernel) (pa_cons (pe_lc (own := [("name", 2)]) rfl sc_are_of_like_skills.nd (Kr.seq (K := K) rfl (pe_mt0 c_names hr (by decide) (pv 1))) (blkOk_by (own := [("name", 2)]) (N := n_are_of_like_skills) (sc := defScope s_are_of_like_skills) (by decide +kernel)) (fun _ _ _ _ _ => (pg_name (i := 2) sc_are_of_like_skills.nd rfl (by first | exact Or.inl rfl | exact Or.inr rfl))) (fun _ _ _ _ _ => pts_nil) (fun _ _ _ _ _ => (pe_callTy SkE.call_str_str (by rfl) T.n_str (by decide +kernel) (pa_cons (pv 2) pa_nil)))) pa_nil)) (nomark _)))), ?_⟩
  intro vs Q h
  refine spD_of (N := n_are_of_like_skills) (fun ds d hR => ?_) h
  obtain ⟨b, c, rfl, ok, ok2, e, rfl⟩ := hR
  have hnl := ok.nlen
  have hnl2 := ok2.nlen
  refine run_retD ((ev_op (x := lstS (srtS b.names)) (y := lstS (srtS c.names)) (ev_cb (xs := [lstS b.names]) (ea_cons (ev_lc0 b.names Dt.str Dt.str (ei_lst (ev_meth (R := R_b_names K) (gs := bkF b) (ev_var rfl) (by rfl) ea_nil ⟨b, rfl, rfl⟩)) (fun z hz => ⟨_, bind_name, ev_cb (xs := [.str z]) (ea_cons (ev_var rfl) ea_nil) rc_strS⟩) (by omega)) ea_nil) (rc_sortSD (by omega))) (ev_cb (xs := [lstS c.names]) (ea_cons (ev_lc0 c.names Dt.str Dt.str (ei_lst (ev_meth (R := R_b_names K) (gs := bkF c) (ev_var rfl) (by rfl) ea_nil ⟨c, rfl, rfl⟩)) (fun z hz => ⟨_, bind_name, ev_cb (xs := [.str z]) (ea_cons (ev_var rfl) ea_nil) rc_strS⟩) (by omega)) ea_nil) (rc_sortSD (by omega))) rv_eqLS).eq ?_)
  rw [e, decide_eq_true rfl]
def n_alike : List Str := ["one", "other"]
def p_alike : List Str := ["one", "other"]
theorem sc_alike : FnScope n_alike p_alike (defScope s_alike) := ⟨rfl, rfl, rfl, by decide +kernel, rfl, by decide +kernel, by decide +kernel⟩
def R_alike (K : PySem.W.Frag) : List Dt → Dt → Prop := fun ds d => ∃ b c : Bk, ds = [bkD (BC K) b, bkD (BC K) c] ∧ b.Ok ∧ c.Ok ∧ b.sk = c.sk ∧ b.goal = c.goal ∧ d = .bl true
theorem c_alike (T : Tx K mg) : C8.Cal P w K mg base 9 "alike" (SpD (R_alike K)) [] := by
  obtain ⟨fd, F⟩ := T.f_alike
  have c_are_of_like_skills := c_are_of_like_skills (P := P) (w := w) (base := base) T
  have c_skill_sets := c_skill_sets (P := P) (w := w) (base := base) T
  refine cal F T.g_alike sc_alike (fun _ _ _ _ _ _ us hl => match us, hl with | [_, _], _ => rfl) (spD_len (n := 2) (by rintro _ _ ⟨_, _, rfl, _⟩; rfl)) fun cdv A outer s H E hr => ⟨_, (pss_one (ps_ret (pe_and (pe_c c_are_of_like_skills hr (by decide) (by rfl) (pa_cons (pv 0) (pa_cons (pv 1) pa_nil))) (pe_one (pe_cmpR (Cr.op_eqDT (hu_of hr)) (pe_c c_skill_sets hr (by decide) (by rfl) (pa_cons (pv 0) pa_nil)) (pe_c c_skill_sets hr (by decide) (by rfl) (pa_cons (pv 1) pa_nil)) (nomark _)))))), ?_⟩
  intro vs Q h
  refine spD_of (N := n_alike) (fun ds d hR => ?_) h
  obtain ⟨b, c, rfl, ok, ok2, e, e2, rfl⟩ := hR
  have hn : b.names = c.names := by unfold Bk.names; rw [e]
  have hp : (b.reach.map fun m => ((m : Nat) : Int)).Perm (c.reach.map fun m => ((m : Nat) : Int)) := b.goal_perm.symm.trans (by rw [e2]; exact c.goal_perm)
  have hbd : ∀ m, b.build m = c.build m := fun m => by
    unfold Bk.build Bk.bit
    rw [hn]
  refine run_retD ((ev_and (a := true) (b := true) (ev_call (ds := [bkD (BC K) b, bkD (BC K) c]) (ea_cons (ev_var rfl) (ea_cons (ev_var rfl) ea_nil)) ⟨b, c, rfl, ok, ok2, hn, rfl⟩) (fun _ => ev_op (ev_call (ds := [bkD (BC K) b]) (ea_cons (ev_var rfl) ea_nil) ⟨b, rfl, ok, rfl⟩) (ev_call (ds := [bkD (BC K) c]) (ea_cons (ev_var rfl) ea_nil) ⟨c, rfl, ok2, rfl⟩) (rv_eqDT (Bk.keyset_nd ok2) ?_ ?_))).eq rfl)
  · unfold Bk.keyset
    rw [List.length_map, List.length_map]
    have := hp.length_eq
    rw [List.length_map, List.length_map] at this
    exact this
  · intro k hk
    obtain ⟨m, hm, rfl⟩ := List.mem_map.mp hk
    have h1 : ((m : Nat) : Int) ∈ c.reach.map fun m => ((m : Nat) : Int) := hp.subset (List.mem_map.mpr ⟨m, hm, rfl⟩)
    obtain ⟨n, hn1, hn2⟩ := List.mem_map.mp h1
    have : n = m := by
      have : (n : Int) = (m : Int) := hn2
      omega
    subst this
    exact List.mem_map.mpr ⟨n, hn1, by rw [hbd]⟩
end
end Rt
end

section
set_option Elab.async false
set_option linter.all false
set_option maxRecDepth 100000
set_option maxHeartbeats 4000000

namespace Rt
open PySem PySem.Spec PyProof.Rows L2 Ab C8
local macro_rules | `(tactic| walk_at "rv") => `(tactic| first
  | exact rv_I0i | exact rv_I0b | exact rv_eqI | exact rv_eqS | exact rv_neI | exact rv_neS | exact rv_eqB | exact rv_inS (t := .t) | exact rv_inS (t := .l) | exact rv_inI (t := .t) | exact rv_inI (t := .l) | exact rv_ninS (t := .t) | exact rv_ninS (t := .l) | exact rv_ninI (t := .t) | exact rv_ninI (t := .l) | exact rv_isN rfl | exact rv_notN rfl | exact rv_eqTI | exact rv_neTI | exact rv_eqLI | exact rv_neTS | exact rv_eqLTS | exact rv_neLTI | exact rv_sign)
local macro_rules | `(tactic| walk_at "ev") => `(tactic| first
  | exact ev_var rfl | exact ev_int | exact ev_str | exact ev_bl | exact ev_non | exact ev_ty | exact ea_nil | exact et_yes
  | ((with_reducible refine ev_op ?_ ?_ ?_) <;> walk_at "ev")
  | ((with_reducible refine ea_cons ?_ ?_) <;> walk_at "ev")
  | ((with_reducible refine ev_and ?_ ?_) <;> walk_at "ev")
  | ((with_reducible refine ev_or ?_ ?_) <;> walk_at "ev")
  | (with_reducible refine ev_not ?_; walk_at "ev")
  | (with_reducible refine ev_tup ?_; walk_at "ev")
  | (with_reducible refine ev_lst ?_; walk_at "ev")
  | (with_reducible refine et_not ?_; walk_at "ev")
  | ((with_reducible refine et_and ?_ ?_) <;> walk_at "ev")
  | ((with_reducible refine et_or ?_ ?_) <;> walk_at "ev")
  | (with_reducible refine et_test ?_; walk_at "ev")
  | (with_reducible refine et_B ?_; walk_at "ev")
  | (with_reducible refine fun (_ : _ = _) => ?_; walk_at "ev")
  | walk_at "rv"
  | skip)


/-- the law's book -/
def lawD (b : Bk) : Dt := .dk (partsD kll b)
def Bk.rowMet (w : Wt) (bl : List Str) : Bool := decide ((((w.ns.filter fun n => decide (n ∈ bl)).length : Nat) : Int) ≥ w.many)
def Bk.lbelow (b : Bk) (bl : List Str) (s : Str) : List Str := bl.filter fun o => decide (b.tier o < b.tier s)
def Bk.lmet (b : Bk) (bl : List Str) (s : Str) : Bool := if decide ((((b.lbelow bl s).length : Nat) : Int) < b.needOf (b.tier s)) then false else (b.wt.filter fun w => decide (w.sk = s) && !Bk.rowMet w bl).isEmpty
def Bk.lsize (b : Bk) (bl : List Str) : Int := b.pts + ((b.gv.filter fun x => decide (x.1 ∈ bl)).map (·.2)).sum
def Bk.lholds (b : Bk) (bl : List Str) : Bool := if decide (b.lsize bl < ((bl.length : Nat) : Int)) then false else if !(b.br.filter fun x => decide (x.1 ∈ bl) && decide (x.2 ∈ bl)).isEmpty then false else (bl.filter fun s => !b.lmet bl s).isEmpty
theorem tier_head {xs : List (Str × Int)} {s : Str} (h : s ∈ xs.map (·.1)) : ∃ r, (xs.filter fun x => decide (x.1 = s)).map (fun x => Dt.int x.2) = Dt.int ((xs.lookup s).getD 0) :: r := by
  induction xs with
  | nil => cases h
  | cons x xs ih =>
    by_cases e : x.1 = s
    · refine ⟨(xs.filter fun x => decide (x.1 = s)).map (fun x => Dt.int x.2), ?_⟩
      rw [List.filter_cons_of_pos (by exact decide_eq_true e), List.lookup_cons, show (s == x.1) = true from beq_iff_eq.mpr e.symm]
      rfl
    · have h' : s ∈ xs.map (·.1) := by
        rcases List.mem_cons.mp h with q | q
        · exact absurd q.symm e
        · exact q
      obtain ⟨r, hr⟩ := ih h'
      refine ⟨r, ?_⟩
      rw [List.filter_cons_of_neg (by rw [decide_eq_false e]; exact Bool.false_ne_true), hr, List.lookup_cons, show (s == x.1) = false from beq_eq_false_iff_ne.mpr fun q => e q.symm]
theorem plain_encW (w : Wt) : (py (encW w)).plain = true := by
  have h := plain_tupS w.ns
  unfold encW
  cases w.k with
  | all => show PyData.plainAll [.str _, .str _, py (tupS w.ns)] = true; unfold PyData.plainAll PyData.plainAll PyData.plainAll PyData.plainAll; rw [h]; rfl
  | any => show PyData.plainAll [.str _, .str _, py (tupS w.ns)] = true; unfold PyData.plainAll PyData.plainAll PyData.plainAll PyData.plainAll; rw [h]; rfl
  | count n => show PyData.plainAll [.str _, .str _, py (tupS w.ns), .int n] = true; unfold PyData.plainAll PyData.plainAll PyData.plainAll PyData.plainAll PyData.plainAll; rw [h]; rfl
theorem plain_wts (ws : List Wt) : PyData.plainAll (pys (ws.map encW)) = true := by
  rw [pys_map]
  exact plainAll_map _ ws fun w _ => plain_encW w
theorem plain_strs (ws : List Str) : PyData.plainAll (pys (ws.map Dt.str)) = true := by
  rw [pys_map]
  exact plainAll_map _ ws fun w _ => rfl
theorem plain_prs (ws : List (Str × Str)) : PyData.plainAll (pys (ws.map encSS)) = true := by
  rw [pys_map]
  exact plainAll_map _ ws fun w _ => rfl
theorem rv_ge {p : Option Addr} {i j : Int} : RvD p (rI0 fun i j => .bl (decide (i ≥ j))) (.int i) (.int j) (.bl (decide (i ≥ j))) := rv_I0b (g := fun i j => decide (i ≥ j))

section
variable {P : Program} {w : World} {K : PySem.W.Frag} {mg : Str → Option Value} {base : Heap}

def n__law_names : List Str := ["_law_book_here", "_law_row"]
def p__law_names : List Str := ["_law_book_here"]
theorem sc__law_names : FnScope n__law_names p__law_names (defScope s__law_names) := ⟨rfl, rfl, rfl, by decide +kernel, rfl, by decide +kernel, by decide +kernel⟩
def R__law_names : List Dt → Dt → Prop := fun ds d => ∃ b : Bk, ds = [lawD b] ∧ b.Ok ∧ d = lstS b.names
theorem c__law_names (T : Tx K mg) : C8.Cal P w K mg base 1 "_law_names" (SpD (R__law_names)) [] := by
  obtain ⟨fd, F⟩ := T.f__law_names
  refine cal F T.g__law_names sc__law_names (fun _ _ _ _ _ _ us hl => match us, hl with | [_], _ => rfl) (spD_len (n := 1) (by first | (rintro _ _ ⟨_, rfl, _⟩; rfl))) fun cdv A outer s H E hr => ⟨_, (pss_one (ps_ret (pe_lc (own := [("_law_row", 1)]) rfl sc__law_names.nd (Kr.seq (K := K) rfl (pe_dget (hu_of hr) (pv 0) pe_str (fun _ _ => rfl))) (blkOk_by (own := [("_law_row", 1)]) (N := n__law_names) (sc := defScope s__law_names) (by decide +kernel)) (fun _ _ _ _ _ => (pg_name (i := 1) sc__law_names.nd rfl (by first | exact Or.inl rfl | exact Or.inr rfl))) (fun _ _ _ _ _ => pts_nil) (fun _ _ _ _ _ => (pe_ix (Kr.ix (K := K) rfl) (pv 1) pe_int (fun _ _ => rfl)))))), ?_⟩
  intro vs Q h
  refine spD_of (N := n__law_names) (fun ds d hR => ?_) h
  obtain ⟨b, rfl, ok, rfl⟩ := hR
  have hl := ok.len
  exact run_retD ((ev_lc0 b.sk encSI (fun x => .str x.1) (ei_lst (ev_dget (ev_var rfl) ev_str (get_part 0 rfl rfl))) (fun x hx => ⟨_, bind_name, ev_op (x := encSI x) (ev_var rfl) ev_int (rv_ix (t := .t) (atI_nat (j := 0) rfl))⟩) (by omega)).eq (by unfold lstS Bk.names; rw [List.map_map]; rfl))
def n__law_tier : List Str := ["_law_book_here", "_law_name", "_law_row"]
def p__law_tier : List Str := ["_law_book_here", "_law_name"]
theorem sc__law_tier : FnScope n__law_tier p__law_tier (defScope s__law_tier) := ⟨rfl, rfl, rfl, by decide +kernel, rfl, by decide +kernel, by decide +kernel⟩
def R__law_tier : List Dt → Dt → Prop := fun ds d => ∃ b : Bk, ∃ s : Str, ds = [lawD b, .str s] ∧ b.Ok ∧ s ∈ b.names ∧ d = .int (b.tier s)
theorem c__law_tier (T : Tx K mg) : C8.Cal P w K mg base 1 "_law_tier" (SpD (R__law_tier)) [] := by
  obtain ⟨fd, F⟩ := T.f__law_tier
  refine cal F T.g__law_tier sc__law_tier (fun _ _ _ _ _ _ us hl => match us, hl with | [_, _], _ => rfl) (spD_len (n := 2) (by rintro _ _ ⟨_, _, rfl, _⟩; rfl)) fun cdv A outer s H E hr => ⟨_, (pss_one (ps_ret (pe_ix (Kr.ix (K := K) rfl) (pe_lc (own := [("_law_row", 2)]) rfl sc__law_tier.nd (Kr.seq (K := K) rfl (pe_dget (hu_of hr) (pv 0) pe_str (fun _ _ => rfl))) (blkOk_by (own := [("_law_row", 2)]) (N := n__law_tier) (sc := defScope s__law_tier) (by decide +kernel)) (fun _ _ _ _ _ => (pg_name (i := 2) sc__law_tier.nd rfl (by first | exact Or.inl rfl | exact Or.inr rfl))) (fun _ _ _ _ _ => pts_one (pt_cmpR op_eq (pe_ix (Kr.ix (K := K) rfl) (pv 2) pe_int (fun _ _ => rfl)) (pv 1) (nomark _))) (fun _ _ _ _ _ => (pe_ix (Kr.ix (K := K) rfl) (pv 2) pe_int (fun _ _ => rfl)))) pe_int (fun _ _ => rfl)))), ?_⟩
  intro vs Q h
  refine spD_of (N := n__law_tier) (fun ds d hR => ?_) h
  obtain ⟨b, z, rfl, ok, hz, rfl⟩ := hR
  have hl := ok.len
  obtain ⟨r, hr⟩ := tier_head hz
  exact run_retD (ev_op (ev_lc b.sk encSI (fun x => decide (x.1 = z)) (fun x => .int x.2) (ei_lst (ev_dget (ev_var rfl) ev_str (get_part 0 rfl rfl))) (fun x hx => ⟨_, bind_name, et_test (ev_op (x := .str x.1) (y := .str z) (ev_op (x := encSI x) (ev_var rfl) ev_int (rv_ix (t := .t) (atI_nat (j := 0) rfl))) (ev_var rfl) rv_eqS), fun _ => ev_op (x := encSI x) (ev_var rfl) ev_int (rv_ix (t := .t) (atI_nat (j := 1) rfl))⟩) (by omega)) ev_int (rv_ix (t := .l) (by rw [hr]; exact atI_nat (j := 0) rfl)))
def n__law_need : List Str := ["_law_book_here", "_law_tier_here"]
def p__law_need : List Str := ["_law_book_here", "_law_tier_here"]
theorem sc__law_need : FnScope n__law_need p__law_need (defScope s__law_need) := ⟨rfl, rfl, rfl, by decide +kernel, rfl, by decide +kernel, by decide +kernel⟩
def R__law_need : List Dt → Dt → Prop := fun ds d => ∃ b : Bk, ∃ t : Int, ds = [lawD b, .int t] ∧ b.Ok ∧ d = .int (b.needOf t)
theorem c__law_need (T : Tx K mg) : C8.Cal P w K mg base 1 "_law_need" (SpD (R__law_need)) [] := by
  obtain ⟨fd, F⟩ := T.f__law_need
  refine cal F T.g__law_need sc__law_need (fun _ _ _ _ _ _ us hl => match us, hl with | [_, _], _ => rfl) (spD_len (n := 2) (by rintro _ _ ⟨_, _, rfl, _⟩; rfl)) fun cdv A outer s H E hr => ⟨_, (pss_one (ps_ret (pe_dget2 (hu_of hr) (pe_callTy (Cr.call_dictS (K := K) rfl rfl) (by rfl) T.n_dict (by decide +kernel) (pa_cons (pe_dget (hu_of hr) (pv 0) pe_str (fun _ _ => rfl)) pa_nil)) (pv 1) pe_int ⟨rfl, rfl, rfl, rfl⟩))), ?_⟩
  intro vs Q h
  refine spD_of (N := n__law_need) (fun ds d hR => ?_) h
  obtain ⟨b, t, rfl, ok, rfl⟩ := hR
  have need : getD? (.dk (b.nd.map fun x => ((Sum.inl x.1 : Key), Dt.int x.2))) (.int t) = some ((b.nd.lookup t).map Dt.int) := by
    show some (lkG _ (Sum.inl _)) = _
    rw [lk_inl']
  refine run_retD ((ev_dget2 (d := .dk (b.nd.map fun x => ((Sum.inl x.1 : Key), Dt.int x.2))) ((ev_cb (xs := [seqD .l (b.nd.map encII)]) (ea_cons (ev_dget (ev_var rfl) ev_str (get_part 2 rfl rfl)) ea_nil) (by rw [kII]; exact Cr.rc_dictS (fun z => nomatch z))).eq (by rw [mergeG_nd (ndII ok.nn)])) (ev_var rfl) ev_int need).eq ?_)
  unfold Bk.needOf
  cases b.nd.lookup t <;> rfl
def n__law_order : List Str := ["_law_book_here", "_law_some", "_law_name"]
def p__law_order : List Str := ["_law_book_here", "_law_some"]
theorem sc__law_order : FnScope n__law_order p__law_order (defScope s__law_order) := ⟨rfl, rfl, rfl, by decide +kernel, rfl, by decide +kernel, by decide +kernel⟩
def R__law_order : List Dt → Dt → Prop := fun ds d => ∃ b : Bk, ∃ bl : List Str, ds = [lawD b, tupS bl] ∧ b.Ok ∧ d = tupS (b.names.filter fun s => decide (s ∈ bl))
theorem c__law_order (T : Tx K mg) : C8.Cal P w K mg base 2 "_law_order" (SpD (R__law_order)) [] := by
  obtain ⟨fd, F⟩ := T.f__law_order
  have c__law_names := c__law_names (P := P) (w := w) (base := base) T
  refine cal F T.g__law_order sc__law_order (fun _ _ _ _ _ _ us hl => match us, hl with | [_, _], _ => rfl) (spD_len (n := 2) (by rintro _ _ ⟨_, _, rfl, _⟩; rfl)) fun cdv A outer s H E hr => ⟨_, (pss_one (ps_ret (pe_callTy (Kr.tuple (K := K) rfl) (by rfl) T.n_tuple (by decide +kernel) (pa_cons (pe_lc (own := [("_law_name", 2)]) rfl sc__law_order.nd (Kr.seq (K := K) rfl (pe_c c__law_names hr (by decide) (by rfl) (pa_cons (pv 0) pa_nil))) (blkOk_by (own := [("_law_name", 2)]) (N := n__law_order) (sc := defScope s__law_order) (by decide +kernel)) (fun _ _ _ _ _ => (pg_name (i := 2) sc__law_order.nd rfl (by first | exact Or.inl rfl | exact Or.inr rfl))) (fun _ _ _ _ _ => pts_one (pt_cmpR (Kr.oin (K := K) rfl) (pv 2) (pv 1) (by rfl))) (fun _ _ _ _ _ => (pv 2))) pa_nil)))), ?_⟩
  intro vs Q h
  refine spD_of (N := n__law_order) (fun ds d hR => ?_) h
  obtain ⟨b, bl, rfl, ok, rfl⟩ := hR
  have hl := ok.nlen
  exact run_retD (ev_cb (xs := [lstS (b.names.filter fun s => decide (s ∈ bl))]) (ea_cons (ev_lc b.names Dt.str (fun s => decide (s ∈ bl)) Dt.str (ei_lst (ev_call (ds := [lawD b]) (ea_cons (ev_var rfl) ea_nil) ⟨b, rfl, ok, rfl⟩)) (fun z hz => ⟨_, bind_name, et_test (ev_op (x := .str z) (y := tupS bl) (ev_var rfl) (ev_var rfl) (rv_inS (t := .t))), fun _ => ev_var rfl⟩) (by omega)) ea_nil) rc_tuple)
def n__law_is_row_met : List Str := ["_law_row", "_law_build", "_law_many", "_law_name"]
def p__law_is_row_met : List Str := ["_law_row", "_law_build"]
theorem sc__law_is_row_met : FnScope n__law_is_row_met p__law_is_row_met (defScope s__law_is_row_met) := ⟨rfl, rfl, rfl, by decide +kernel, rfl, by decide +kernel, by decide +kernel⟩
def R__law_is_row_met : List Dt → Dt → Prop := fun ds d => ∃ w : Wt, ∃ bl : List Str, ds = [encW w, tupS bl] ∧ w.ns.length ≤ 100 ∧ d = .bl (Bk.rowMet w bl)
theorem c__law_is_row_met (T : Tx K mg) : C8.Cal P w K mg base 1 "_law_is_row_met" (SpD (R__law_is_row_met)) [] := by
  obtain ⟨fd, F⟩ := T.f__law_is_row_met
  refine cal F T.g__law_is_row_met sc__law_is_row_met (fun _ _ _ _ _ _ us hl => match us, hl with | [_, _], _ => rfl) (spD_len (n := 2) (by rintro _ _ ⟨_, _, rfl, _⟩; rfl)) fun cdv A outer s H E hr => ⟨_, (pss_cons (ps_set (i := 2) sc__law_is_row_met.nd rfl (Or.inl rfl) (pe_callB (Kr.len (K := K) rfl) (by rfl) T.n_len (by decide +kernel) (pa_cons (pe_lc (own := [("_law_name", 3)]) rfl sc__law_is_row_met.nd (Kr.seq (K := K) rfl (pe_ix (Kr.ix (K := K) rfl) (pv 0) pe_int (fun _ _ => rfl))) (blkOk_by (own := [("_law_name", 3)]) (N := n__law_is_row_met) (sc := defScope s__law_is_row_met) (by decide +kernel)) (fun _ _ _ _ _ => (pg_name (i := 3) sc__law_is_row_met.nd rfl (by first | exact Or.inl rfl | exact Or.inr rfl))) (fun _ _ _ _ _ => pts_one (pt_cmpR (Kr.oin (K := K) rfl) (pv 3) (pv 1) (by rfl))) (fun _ _ _ _ _ => (pv 3))) pa_nil))) (pss_one (ps_ret (pe_cmpR op_ge (pv 2) (pe_ifExp (pt_cmpR op_eq (pe_ix (Kr.ix (K := K) rfl) (pv 0) pe_int (fun _ _ => rfl)) pe_str (nomark _)) (pe_callB (Kr.len (K := K) rfl) (by rfl) T.n_len (by decide +kernel) (pa_cons (pe_ix (Kr.ix (K := K) rfl) (pv 0) pe_int (fun _ _ => rfl)) pa_nil)) (pe_ifExp (pt_cmpR op_eq (pe_ix (Kr.ix (K := K) rfl) (pv 0) pe_int (fun _ _ => rfl)) pe_str (nomark _)) pe_int (pe_ix (Kr.ix (K := K) rfl) (pv 0) pe_int (fun _ _ => rfl)))) (nomark _))))), ?_⟩
  intro vs Q h
  refine spD_of (N := n__law_is_row_met) (fun ds d hR => ?_) h
  obtain ⟨w, bl, rfl, hl, rfl⟩ := hR
  rw [encW_eq]
  refine run_setD (d := .int (((w.ns.filter fun n => decide (n ∈ bl)).map Dt.str).length : Nat)) (ev_cb (xs := [seqD .l ((w.ns.filter fun n => decide (n ∈ bl)).map Dt.str)]) (ea_cons (ev_lc w.ns Dt.str (fun n => decide (n ∈ bl)) Dt.str (ei_tup (ev_op (ev_var rfl) ev_int (rv_ix (t := .t) (atI_nat (j := 2) rfl)))) (fun z hz => ⟨_, bind_name, et_test (ev_op (x := .str z) (y := tupS bl) (ev_var rfl) (ev_var rfl) (rv_inS (t := .t))), fun _ => ev_var rfl⟩) (by omega)) ea_nil) rc_len) ?_
  have k0 : ∀ {δ : Dst} {te : TE}, EvD none te δ (Dt.tup (.str (kwOf w.k) :: .str w.sk :: tupS w.ns :: restOf w.k)) → EvD none (tOp (rIx K) te (tC (.int 0))) δ (.str (kwOf w.k)) := fun h => ev_op h ev_int (rv_ix (t := .t) (atI_nat (j := 0) rfl))
  refine run_retD ((ev_op (x := .int (((w.ns.filter fun n => decide (n ∈ bl)).map Dt.str).length : Nat)) (y := .int w.many) (ev_var rfl) ((ev_if (b := decide (kwOf w.k = "all")) (x := .int (w.ns.length : Nat)) (y := if decide (kwOf w.k = "any") then Dt.int 1 else Dt.int w.many) (et_test (ev_op (x := .str (kwOf w.k)) (y := .str "all") (k0 (ev_var rfl)) ev_str rv_eqS)) (fun _ => (ev_cb (xs := [seqD .t (w.ns.map Dt.str)]) (ea_cons (ev_op (ev_var rfl) ev_int (rv_ix (t := .t) (atI_nat (j := 2) rfl))) ea_nil) rc_len).eq (by rw [List.length_map])) (fun e => ev_if (b := decide (kwOf w.k = "any")) (x := .int 1) (y := .int w.many) (et_test (ev_op (x := .str (kwOf w.k)) (y := .str "any") (k0 (ev_var rfl)) ev_str rv_eqS)) (fun _ => ev_int) (fun e2 => ?_))).eq ?_) rv_ge).eq ?_)
  · have h1 := of_decide_eq_false e
    have h2 := of_decide_eq_false e2
    unfold Wt.many
    cases hk : w.k with
    | all => rw [hk] at h1; exact absurd rfl h1
    | any => rw [hk] at h2; exact absurd rfl h2
    | count n => exact ev_op (ev_var rfl) ev_int (rv_ix (t := .t) (atI_nat (j := 3) rfl))
  · unfold Wt.many
    cases w.k with
    | all => rfl
    | any => rfl
    | count n => rfl
  · rw [List.length_map]
    rfl
def n__law_below : List Str := ["_law_book_here", "_law_build", "_law_name", "_law_other"]
def p__law_below : List Str := ["_law_book_here", "_law_build", "_law_name"]
theorem sc__law_below : FnScope n__law_below p__law_below (defScope s__law_below) := ⟨rfl, rfl, rfl, by decide +kernel, rfl, by decide +kernel, by decide +kernel⟩
def R__law_below : List Dt → Dt → Prop := fun ds d => ∃ b : Bk, ∃ bl : List Str, ∃ s : Str, ds = [lawD b, tupS bl, .str s] ∧ b.Ok ∧ bl.length ≤ 100 ∧ (∀ x ∈ bl, x ∈ b.names) ∧ s ∈ b.names ∧ d = natD (b.lbelow bl s).length
theorem c__law_below (T : Tx K mg) : C8.Cal P w K mg base 2 "_law_below" (SpD (R__law_below)) [] := by
  obtain ⟨fd, F⟩ := T.f__law_below
  have c__law_tier := c__law_tier (P := P) (w := w) (base := base) T
  refine cal F T.g__law_below sc__law_below (fun _ _ _ _ _ _ us hl => match us, hl with | [_, _, _], _ => rfl) (spD_len (n := 3) (by rintro _ _ ⟨_, _, _, rfl, _⟩; rfl)) fun cdv A outer s H E hr => ⟨_, (pss_one (ps_ret (pe_callB (Kr.len (K := K) rfl) (by rfl) T.n_len (by decide +kernel) (pa_cons (pe_lc (own := [("_law_other", 3)]) rfl sc__law_below.nd (Kr.seq (K := K) rfl (pv 1)) (blkOk_by (own := [("_law_other", 3)]) (N := n__law_below) (sc := defScope s__law_below) (by decide +kernel)) (fun _ _ _ _ _ => (pg_name (i := 3) sc__law_below.nd rfl (by first | exact Or.inl rfl | exact Or.inr rfl))) (fun _ _ _ _ _ => pts_one (pt_cmpR op_lt (pe_c c__law_tier hr (by decide) (by rfl) (pa_cons (pv 0) (pa_cons (pv 3) pa_nil))) (pe_c c__law_tier hr (by decide) (by rfl) (pa_cons (pv 0) (pa_cons (pv 2) pa_nil))) (nomark _))) (fun _ _ _ _ _ => (pv 3))) pa_nil)))), ?_⟩
  intro vs Q h
  refine spD_of (N := n__law_below) (fun ds d hR => ?_) h
  obtain ⟨b, bl, z, rfl, ok, hl, hb, hz, rfl⟩ := hR
  exact run_retD ((ev_cb (xs := [seqD .l ((b.lbelow bl z).map Dt.str)]) (ea_cons (ev_lc bl Dt.str (fun o => decide (b.tier o < b.tier z)) Dt.str (ei_tup (ev_var rfl)) (fun x hx => ⟨_, bind_name, et_test (ev_op (x := .int (b.tier x)) (y := .int (b.tier z)) (ev_call (ds := [lawD b, .str x]) (ea_cons (ev_var rfl) (ea_cons (ev_var rfl) ea_nil)) ⟨b, x, rfl, ok, hb x hx, rfl⟩) (ev_call (ds := [lawD b, .str z]) (ea_cons (ev_var rfl) (ea_cons (ev_var rfl) ea_nil)) ⟨b, z, rfl, ok, hz, rfl⟩) rv_I0b), fun _ => ev_var rfl⟩) (by omega)) ea_nil) rc_len).eq (by rw [List.length_map]; rfl))
def n__law_is_met : List Str := ["_law_book_here", "_law_build", "_law_name", "_law_row"]
def p__law_is_met : List Str := ["_law_book_here", "_law_build", "_law_name"]
theorem sc__law_is_met : FnScope n__law_is_met p__law_is_met (defScope s__law_is_met) := ⟨rfl, rfl, rfl, by decide +kernel, rfl, by decide +kernel, by decide +kernel⟩
def R__law_is_met : List Dt → Dt → Prop := fun ds d => ∃ b : Bk, ∃ bl : List Str, ∃ s : Str, ds = [lawD b, tupS bl, .str s] ∧ b.Ok ∧ bl.length ≤ 100 ∧ (∀ x ∈ bl, x ∈ b.names) ∧ s ∈ b.names ∧ d = .bl (b.lmet bl s)
theorem c__law_is_met (T : Tx K mg) : C8.Cal P w K mg base 3 "_law_is_met" (SpD (R__law_is_met)) [] := by
  obtain ⟨fd, F⟩ := T.f__law_is_met
  have c__law_below := c__law_below (P := P) (w := w) (base := base) T
  have c__law_need := c__law_need (P := P) (w := w) (base := base) T
  have c__law_tier := c__law_tier (P := P) (w := w) (base := base) T
  have c__law_is_row_met := c__law_is_row_met (P := P) (w := w) (base := base) T
  refine cal F T.g__law_is_met sc__law_is_met (fun _ _ _ _ _ _ us hl => match us, hl with | [_, _, _], _ => rfl) (spD_len (n := 3) (by rintro _ _ ⟨_, _, _, rfl, _⟩; rfl)) fun cdv A outer s H E hr => ⟨_, (pss_cons (ps_if (pt_cmpR op_lt (pe_c c__law_below hr (by decide) (by rfl) (pa_cons (pv 0) (pa_cons (pv 1) (pa_cons (pv 2) pa_nil)))) (pe_c c__law_need hr (by decide) (by rfl) (pa_cons (pv 0) (pa_cons (pe_c c__law_tier hr (by decide) (by rfl) (pa_cons (pv 0) (pa_cons (pv 2) pa_nil))) pa_nil))) (nomark _)) (pss_one (ps_ret pe_bl)) pss_nil) (pss_one (ps_ret (pe_cmpR (Kr.eqP (K := K) rfl hr.units) (pe_lc (own := [("_law_row", 3)]) rfl sc__law_is_met.nd (Kr.seq (K := K) rfl (pe_dget (hu_of hr) (pv 0) pe_str (fun _ _ => rfl))) (blkOk_by (own := [("_law_row", 3)]) (N := n__law_is_met) (sc := defScope s__law_is_met) (by decide +kernel)) (fun _ _ _ _ _ => (pg_name (i := 3) sc__law_is_met.nd rfl (by first | exact Or.inl rfl | exact Or.inr rfl))) (fun _ _ _ _ _ => pts_one (PW.pt (pw_and (pt_cmpR op_eq (pe_ix (Kr.ix (K := K) rfl) (pv 3) pe_int (fun _ _ => rfl)) (pv 2) (nomark _)) (pw_and1 (pt_not (pt_val (pe_c c__law_is_row_met hr (by decide) (by rfl) (pa_cons (pv 3) (pa_cons (pv 1) pa_nil))))))))) (fun _ _ _ _ _ => (pv 3))) (pe_lst pa_nil) (nomark _))))), ?_⟩
  intro vs Q h
  refine spD_of (N := n__law_is_met) (fun ds d hR => ?_) h
  obtain ⟨b, bl, z, rfl, ok, hl, hb, hz, rfl⟩ := hR
  have hwl := ok.wl
  refine run_seq (run_if (B := fun c => c = decide ((((b.lbelow bl z).length : Nat) : Int) < b.needOf (b.tier z))) (tz_of (et_test (ev_op (x := natD (b.lbelow bl z).length) (y := .int (b.needOf (b.tier z))) (ev_call (ds := [lawD b, tupS bl, .str z]) (ea_cons (ev_var rfl) (ea_cons (ev_var rfl) (ea_cons (ev_var rfl) ea_nil))) ⟨b, bl, z, rfl, ok, hl, hb, hz, rfl⟩) (ev_call (ds := [lawD b, .int (b.tier z)]) (ea_cons (ev_var rfl) (ea_cons (ev_call (ds := [lawD b, .str z]) (ea_cons (ev_var rfl) (ea_cons (ev_var rfl) ea_nil)) ⟨b, z, rfl, ok, hz, rfl⟩) ea_nil)) ⟨b, _, rfl, ok, rfl⟩) rv_I0b))) (fun e => ?_) fun e => run_next ?_)
  · refine run_retD (ev_bl.eq ?_)
    unfold Bk.lmet
    rw [← e]
    rfl
  · refine run_retD ((ev_op (ev_lc b.wt encW (fun w => decide (w.sk = z) && !Bk.rowMet w bl) encW (ei_lst (ev_dget (ev_var rfl) ev_str (get_part 3 rfl rfl))) (fun x hx => ⟨_, bind_name, ?_, fun _ => ev_var rfl⟩) (by omega)) (ev_lst ea_nil) (rv_eqNil (plain_wts _))).eq ?_)
    · rw [encW_eq]
      refine et_and (et_test (ev_op (x := .str x.sk) (y := .str z) (ev_op (ev_var rfl) ev_int (rv_ix (t := .t) (atI_nat (j := 1) rfl))) (ev_var rfl) rv_eqS)) (fun _ => et_not (et_B (ev_call (ds := [encW x, tupS bl]) (by rw [encW_eq]; exact ea_cons (ev_var rfl) (ea_cons (ev_var rfl) ea_nil)) ⟨x, bl, rfl, ?_, rfl⟩)))
      have h1 : x.ns.length ≤ b.names.length := nodup_sub _ _ (ok.wo x hx).nod fun n hn => ((ok.wo x hx).mem n hn).1
      have := ok.nlen
      omega
    · unfold Bk.lmet
      rw [← e, List.isEmpty_map]
      rfl
def n__law_size_let : List Str := ["_law_book_here", "_law_build", "_law_name", "_law_many"]
def p__law_size_let : List Str := ["_law_book_here", "_law_build"]
theorem sc__law_size_let : FnScope n__law_size_let p__law_size_let (defScope s__law_size_let) := ⟨rfl, rfl, rfl, by decide +kernel, rfl, by decide +kernel, by decide +kernel⟩
def R__law_size_let : List Dt → Dt → Prop := fun ds d => ∃ b : Bk, ∃ bl : List Str, ds = [lawD b, tupS bl] ∧ b.Ok ∧ d = .int (b.lsize bl)
theorem c__law_size_let (T : Tx K mg) : C8.Cal P w K mg base 1 "_law_size_let" (SpD (R__law_size_let)) [] := by
  obtain ⟨fd, F⟩ := T.f__law_size_let
  refine cal F T.g__law_size_let sc__law_size_let (fun _ _ _ _ _ _ us hl => match us, hl with | [_, _], _ => rfl) (spD_len (n := 2) (by rintro _ _ ⟨_, _, rfl, _⟩; rfl)) fun cdv A outer s H E hr => ⟨_, (pss_one (ps_ret (pe_op op_add (pe_dget (hu_of hr) (pv 0) pe_str (fun _ _ => rfl)) (pe_callB (Kr.sum (K := K) rfl) (by rfl) T.n_sum (by decide +kernel) (pa_cons (pe_lc (own := [("_law_name", 2), ("_law_many", 3)]) rfl sc__law_size_let.nd (Kr.seq (K := K) rfl (pe_dget (hu_of hr) (pv 0) pe_str (fun _ _ => rfl))) (blkOk_by (own := [("_law_name", 2), ("_law_many", 3)]) (N := n__law_size_let) (sc := defScope s__law_size_let) (by decide +kernel)) (fun _ _ _ _ _ => (Kr.tup (K := K) (n := 2) rfl rfl (pgs_cons (pg_name (i := 2) sc__law_size_let.nd rfl (by first | exact Or.inl rfl | exact Or.inr rfl)) (pgs_cons (pg_name (i := 3) sc__law_size_let.nd rfl (by first | exact Or.inl rfl | exact Or.inr rfl)) pgs_nil)))) (fun _ _ _ _ _ => pts_one (pt_cmpR (Kr.oin (K := K) rfl) (pv 2) (pv 1) (by rfl))) (fun _ _ _ _ _ => (pv 3))) pa_nil))))), ?_⟩
  intro vs Q h
  refine spD_of (N := n__law_size_let) (fun ds d hR => ?_) h
  obtain ⟨b, bl, rfl, ok, rfl⟩ := hR
  have hl := ok.gl
  exact run_retD (ev_op (x := .int b.pts) (y := .int ((b.gv.filter fun x => decide (x.1 ∈ bl)).map (·.2)).sum) (ev_dget (ev_var rfl) ev_str (get_part 1 rfl rfl)) (ev_cb (ea_cons (ev_lc b.gv encSI (fun x => decide (x.1 ∈ bl)) (fun x => .int x.2) (ei_lst (ev_dget (ev_var rfl) ev_str (get_part 5 rfl rfl))) (fun x hx => ⟨_, bind_tup (bind_cons bind_name (bind_cons bind_name bind_nil)), et_test (ev_op (x := .str x.1) (y := tupS bl) (ev_var rfl) (ev_var rfl) (rv_inS (t := .t))), fun _ => ev_var rfl⟩) (by omega)) ea_nil) rc_sumM) rv_I0i)
def n__law_holds : List Str := ["_law_book_here", "_law_build", "_law_pair", "_law_name"]
def p__law_holds : List Str := ["_law_book_here", "_law_build"]
theorem sc__law_holds : FnScope n__law_holds p__law_holds (defScope s__law_holds) := ⟨rfl, rfl, rfl, by decide +kernel, rfl, by decide +kernel, by decide +kernel⟩
def R__law_holds : List Dt → Dt → Prop := fun ds d => ∃ b : Bk, ∃ bl : List Str, ds = [lawD b, tupS bl] ∧ b.Ok ∧ bl.length ≤ 100 ∧ (∀ x ∈ bl, x ∈ b.names) ∧ d = .bl (b.lholds bl)
theorem c__law_holds (T : Tx K mg) : C8.Cal P w K mg base 4 "_law_holds" (SpD (R__law_holds)) [] := by
  obtain ⟨fd, F⟩ := T.f__law_holds
  have c__law_size_let := c__law_size_let (P := P) (w := w) (base := base) T
  have c__law_is_met := c__law_is_met (P := P) (w := w) (base := base) T
  refine cal F T.g__law_holds sc__law_holds (fun _ _ _ _ _ _ us hl => match us, hl with | [_, _], _ => rfl) (spD_len (n := 2) (by rintro _ _ ⟨_, _, rfl, _⟩; rfl)) fun cdv A outer s H E hr => ⟨_, (pss_cons (ps_if (pt_cmpR op_gt (pe_callB (Kr.len (K := K) rfl) (by rfl) T.n_len (by decide +kernel) (pa_cons (pv 1) pa_nil)) (pe_c c__law_size_let hr (by decide) (by rfl) (pa_cons (pv 0) (pa_cons (pv 1) pa_nil))) (nomark _)) (pss_one (ps_ret pe_bl)) pss_nil) (pss_cons (ps_if (pt_cmpR (Kr.neP (K := K) rfl hr.units) (pe_lc (own := [("_law_pair", 2)]) rfl sc__law_holds.nd (Kr.seq (K := K) rfl (pe_dget (hu_of hr) (pv 0) pe_str (fun _ _ => rfl))) (blkOk_by (own := [("_law_pair", 2)]) (N := n__law_holds) (sc := defScope s__law_holds) (by decide +kernel)) (fun _ _ _ _ _ => (pg_name (i := 2) sc__law_holds.nd rfl (by first | exact Or.inl rfl | exact Or.inr rfl))) (fun _ _ _ _ _ => pts_one (PW.pt (pw_and (pt_cmpR (Kr.oin (K := K) rfl) (pe_ix (Kr.ix (K := K) rfl) (pv 2) pe_int (fun _ _ => rfl)) (pv 1) (by rfl)) (pw_and1 (pt_cmpR (Kr.oin (K := K) rfl) (pe_ix (Kr.ix (K := K) rfl) (pv 2) pe_int (fun _ _ => rfl)) (pv 1) (by rfl)))))) (fun _ _ _ _ _ => (pv 2))) (pe_lst pa_nil) (nomark _)) (pss_one (ps_ret pe_bl)) pss_nil) (pss_one (ps_ret (pe_cmpR (Kr.eqP (K := K) rfl hr.units) (pe_lc (own := [("_law_name", 3)]) rfl sc__law_holds.nd (Kr.seq (K := K) rfl (pv 1)) (blkOk_by (own := [("_law_name", 3)]) (N := n__law_holds) (sc := defScope s__law_holds) (by decide +kernel)) (fun _ _ _ _ _ => (pg_name (i := 3) sc__law_holds.nd rfl (by first | exact Or.inl rfl | exact Or.inr rfl))) (fun _ _ _ _ _ => pts_one (pt_not (pt_val (pe_c c__law_is_met hr (by decide) (by rfl) (pa_cons (pv 0) (pa_cons (pv 1) (pa_cons (pv 3) pa_nil))))))) (fun _ _ _ _ _ => (pv 3))) (pe_lst pa_nil) (nomark _)))))), ?_⟩
  intro vs Q h
  refine spD_of (N := n__law_holds) (fun ds d hR => ?_) h
  obtain ⟨b, bl, rfl, ok, hl, hb, rfl⟩ := hR
  have hbl := ok.bl
  refine run_seq (run_if (B := fun c => c = decide (b.lsize bl < ((bl.length : Nat) : Int))) (tz_of ((et_test (ev_op (x := .int ((bl.map Dt.str).length : Nat)) (y := .int (b.lsize bl)) (ev_cb (xs := [seqD .t (bl.map Dt.str)]) (ea_cons (ev_var rfl) ea_nil) rc_len) (ev_call (ds := [lawD b, tupS bl]) (ea_cons (ev_var rfl) (ea_cons (ev_var rfl) ea_nil)) ⟨b, bl, rfl, ok, rfl⟩) rv_I0b)).eq (by rw [List.length_map]))) (fun e => ?_) fun e => run_next ?_)
  · refine run_retD (ev_bl.eq ?_)
    unfold Bk.lholds
    rw [← e]
    rfl
  refine run_seq (run_if (B := fun c => c = !(b.br.filter fun x => decide (x.1 ∈ bl) && decide (x.2 ∈ bl)).isEmpty) (tz_of ((et_test (ev_op (ev_lc b.br encSS (fun x => decide (x.1 ∈ bl) && decide (x.2 ∈ bl)) encSS (ei_lst (ev_dget (ev_var rfl) ev_str (get_part 4 rfl rfl))) (fun x hx => ⟨_, bind_name, et_and (et_test (ev_op (x := .str x.1) (y := tupS bl) (ev_op (x := encSS x) (ev_var rfl) ev_int (rv_ix (t := .t) (atI_nat (j := 0) rfl))) (ev_var rfl) (rv_inS (t := .t)))) (fun _ => et_test (ev_op (x := .str x.2) (y := tupS bl) (ev_op (x := encSS x) (ev_var rfl) ev_int (rv_ix (t := .t) (atI_nat (j := 1) rfl))) (ev_var rfl) (rv_inS (t := .t)))), fun _ => ev_var rfl⟩) (by omega)) (ev_lst ea_nil) (rv_neNil (plain_prs _)))).eq (by rw [List.isEmpty_map]))) (fun e2 => ?_) fun e2 => run_next ?_)
  · refine run_retD (ev_bl.eq ?_)
    unfold Bk.lholds
    rw [← e, ← e2]
    rfl
  refine run_retD ((ev_op (ev_lc bl Dt.str (fun s => !b.lmet bl s) Dt.str (ei_tup (ev_var rfl)) (fun x hx => ⟨_, bind_name, et_not (et_B (ev_call (ds := [lawD b, tupS bl, .str x]) (ea_cons (ev_var rfl) (ea_cons (ev_var rfl) (ea_cons (ev_var rfl) ea_nil))) ⟨b, bl, x, rfl, ok, hl, hb, hb x hx, rfl⟩)), fun _ => ev_var rfl⟩) (by omega)) (ev_lst ea_nil) (rv_eqNil (plain_strs _))).eq ?_)
  unfold Bk.lholds
  rw [← e, ← e2, List.isEmpty_map]
  rfl
end
end Rt
end

section
set_option Elab.async false
set_option linter.all false
set_option maxRecDepth 100000
set_option maxHeartbeats 4000000
/-! Masks and builds: what holds. -/
namespace Rt
open PySem Ab
def popcF : Nat → Nat → Nat
  | 0, _ => 0
  | f + 1, m => if m = 0 then 0 else popcF f (m &&& (m - 1)) + 1
theorem popc_F : ∀ (f m : Nat), m ≤ f → popc m = popcF f m
  | 0, m, h => by rw [show m = 0 by omega, popc_zero]; rfl
  | f + 1, m, h => by
    unfold popcF
    by_cases e : m = 0
    · rw [if_pos e, e, popc_zero]
    · have h1 : m &&& (m - 1) ≤ m - 1 := Nat.and_le_right
      rw [if_neg e, popc_pos (by omega), popc_F f _ (by omega)]
theorem popc_cnt {n Y : Nat} (hn : n ≤ 5) (hY : Y < 2 ^ n) : popc Y = ((List.range n).filter fun i => Y.testBit i).length := by
  have h : ∀ n : Fin 6, ∀ Y : Fin 32, Y.1 < 2 ^ n.1 → popcF 32 Y.1 = ((List.range n.1).filter fun i => Y.1.testBit i).length := by decide +kernel
  have h32 : Y < 32 := Nat.lt_of_lt_of_le hY (Nat.le_trans (Nat.pow_le_pow_right (by decide) hn) (by decide))
  rw [popc_F 32 Y (by omega)]
  exact h ⟨n, by omega⟩ ⟨Y, h32⟩ hY
theorem add_bits {i M j : Nat} (hi : i < 5) (hM : M < 32) (hj : j < 5) (h : M.testBit i = false) : (2 ^ i + M).testBit j = (decide (i = j) || M.testBit j) := by
  have H : ∀ i : Fin 5, ∀ M : Fin 32, ∀ j : Fin 5, M.1.testBit i.1 = false → (2 ^ i.1 + M.1).testBit j.1 = (decide (i.1 = j.1) || M.1.testBit j.1) := by decide +kernel
  exact H ⟨i, hi⟩ ⟨M, hM⟩ ⟨j, hj⟩ h
theorem add_lt {n i M : Nat} (hn : n ≤ 5) (hi : i < n) (hM : M < 2 ^ n) (h : M.testBit i = false) : 2 ^ i + M < 2 ^ n := by
  have H : ∀ n : Fin 6, ∀ i : Fin 5, ∀ M : Fin 32, i.1 < n.1 → M.1 < 2 ^ n.1 → M.1.testBit i.1 = false → 2 ^ i.1 + M.1 < 2 ^ n.1 := by decide +kernel
  have h32 : M < 32 := Nat.lt_of_lt_of_le hM (Nat.le_trans (Nat.pow_le_pow_right (by decide) hn) (by decide))
  exact H ⟨n, by omega⟩ ⟨i, by omega⟩ ⟨M, h32⟩ hi hM h
theorem pair_bits {i j m : Nat} (hi : i < 5) (hj : j < 5) (hm : m < 32) (ne : i ≠ j) : (m &&& (2 ^ i + 2 ^ j) = 2 ^ i + 2 ^ j) ↔ (m.testBit i = true ∧ m.testBit j = true) := by
  have H : ∀ i : Fin 5, ∀ j : Fin 5, ∀ m : Fin 32, i.1 ≠ j.1 → ((m.1 &&& (2 ^ i.1 + 2 ^ j.1) = 2 ^ i.1 + 2 ^ j.1) ↔ (m.1.testBit i.1 = true ∧ m.1.testBit j.1 = true)) := by decide +kernel
  exact H ⟨i, hi⟩ ⟨j, hj⟩ ⟨m, hm⟩ ne
theorem same_len {α : Type} [DecidableEq α] {l m : List α} (hl : l.Nodup) (hm : m.Nodup) (h : ∀ x, x ∈ l ↔ x ∈ m) : l.length = m.length :=
  Nat.le_antisymm (nodup_sub l m hl fun x hx => (h x).mp hx) (nodup_sub m l hm fun x hx => (h x).mpr hx)
namespace Bk
variable {b : Bk}
theorem idx_range (ok : b.Ok) : b.names.map (b.names.idxOf ·) = List.range b.names.length := by
  apply List.ext_getElem
  · rw [List.length_map, List.length_range]
  · intro i h1 h2
    rw [List.getElem_map, List.getElem_range]
    exact ok.nod.idxOf_getElem i _
theorem cnt_names (ok : b.Ok) (f : Nat → Bool) : ((List.range b.names.length).filter f).length = (b.names.filter fun s => f (b.names.idxOf s)).length := by
  rw [← idx_range ok, List.filter_map, List.length_map]
  rfl
theorem popc_names (ok : b.Ok) {Y : Nat} (hY : Y < 2 ^ b.names.length) : popc Y = (b.names.filter fun s => Y.testBit (b.names.idxOf s)).length := by
  rw [popc_cnt ok.nlen hY, cnt_names ok]
theorem build_eq (m : Nat) : b.build m = b.names.filter fun s => m.testBit (b.names.idxOf s) := by
  unfold build bit
  apply List.filter_congr
  intro s _
  exact bit_test _ _
theorem mem_build' {m : Nat} {s : Str} (hs : s ∈ b.names) : decide (s ∈ b.build m) = m.testBit (b.names.idxOf s) := by
  cases q : m.testBit (b.names.idxOf s) with
  | true => exact decide_eq_true (mem_build.mpr ⟨hs, q⟩)
  | false => exact decide_eq_false fun h => by rw [(mem_build.mp h).2] at q; cases q
theorem build_nd (ok : b.Ok) (m : Nat) : (b.build m).Nodup := ok.nod.filter _
theorem build_sub {m : Nat} : ∀ x ∈ b.build m, x ∈ b.names := fun x hx => (mem_build.mp hx).1
theorem build_len (ok : b.Ok) (m : Nat) : (b.build m).length ≤ 5 := Nat.le_trans (List.length_filter_le _ _) ok.nlen
theorem popc_build (ok : b.Ok) {m : Nat} (hm : m < 2 ^ b.names.length) : popc m = (b.build m).length := by rw [popc_names ok hm, build_eq]
theorem mask_bits (ok : b.Ok) : ∀ (L : List Str), L.Nodup → (∀ x ∈ L, x ∈ b.names) → b.maskOf L < 2 ^ b.names.length ∧ ∀ s ∈ b.names, (b.maskOf L).testBit (b.names.idxOf s) = decide (s ∈ L)
  | [], _, _ => ⟨Nat.two_pow_pos _, fun s _ => by show Nat.testBit 0 _ = _; rw [Nat.zero_testBit]; exact (decide_eq_false (List.not_mem_nil)).symm⟩
  | x :: L, hn, hs => by
    obtain ⟨h1, h2⟩ := List.nodup_cons.mp hn
    obtain ⟨h3, h4⟩ := mask_bits ok L h2 fun y hy => hs y (List.mem_cons_of_mem _ hy)
    have hx := hs x List.mem_cons_self
    have hxi := List.idxOf_lt_length_of_mem hx
    have hnl := ok.nlen
    have hM : b.maskOf L < 32 := Nat.lt_of_lt_of_le h3 (Nat.le_trans (Nat.pow_le_pow_right (by decide) hnl) (by decide))
    have hf : (b.maskOf L).testBit (b.names.idxOf x) = false := by rw [h4 x hx]; exact decide_eq_false h1
    have e : b.maskOf (x :: L) = 2 ^ b.names.idxOf x + b.maskOf L := by
      unfold maskOf
      rw [List.map_cons, List.sum_cons]
      rfl
    rw [e]
    refine ⟨add_lt hnl hxi h3 hf, fun s hs' => ?_⟩
    have hsi := List.idxOf_lt_length_of_mem hs'
    rw [add_bits (by omega) hM (by omega) hf, h4 s hs']
    by_cases q : s = x
    · subst q
      rw [decide_eq_true rfl, decide_eq_true List.mem_cons_self]
      rfl
    · have ne : b.names.idxOf x ≠ b.names.idxOf s := fun z => q (by
        have e1 := List.getElem_idxOf (xs := b.names) (x := x) hxi
        have e2 := List.getElem_idxOf (xs := b.names) (x := s) hsi
        rw [← e1, ← e2]
        congr 1
        exact z.symm)
      rw [decide_eq_false ne, Bool.false_or]
      by_cases w : s ∈ L
      · rw [decide_eq_true w, decide_eq_true (List.mem_cons_of_mem _ w)]
      · rw [decide_eq_false w, decide_eq_false (fun z => (List.mem_cons.mp z).elim q w)]
theorem popc_mask (ok : b.Ok) {m : Nat} (hm : m < 2 ^ b.names.length) {L : List Str} (hn : L.Nodup) (hs : ∀ x ∈ L, x ∈ b.names) : popc (m &&& b.maskOf L) = (L.filter fun s => decide (s ∈ b.build m)).length := by
  obtain ⟨h1, h2⟩ := mask_bits ok L hn hs
  have hY : m &&& b.maskOf L < 2 ^ b.names.length := Nat.lt_of_le_of_lt Nat.and_le_left hm
  rw [popc_names ok hY]
  refine same_len (ok.nod.filter _) (hn.filter _) fun s => ?_
  rw [List.mem_filter, List.mem_filter, Nat.testBit_and, Bool.and_eq_true, decide_eq_true_eq]
  constructor
  · rintro ⟨hs', q1, q2⟩
    rw [h2 s hs'] at q2
    exact ⟨of_decide_eq_true q2, mem_build.mpr ⟨hs', q1⟩⟩
  · rintro ⟨hL, hb⟩
    obtain ⟨q1, q2⟩ := mem_build.mp hb
    exact ⟨q1, q2, by rw [h2 s q1]; exact decide_eq_true hL⟩
theorem tier_of (ok : b.Ok) {x : Str × Int} (hx : x ∈ b.sk) : b.tier x.1 = x.2 := by
  have hn : (b.sk.map (·.1)).Nodup := ok.nod
  unfold tier
  generalize b.sk = xs at hx hn
  induction xs with
  | nil => cases hx
  | cons y xs ih =>
    obtain ⟨h1, h2⟩ := List.nodup_cons.mp hn
    rw [List.lookup_cons]
    rcases List.mem_cons.mp hx with e | e
    · subst e
      rw [show (x.1 == x.1) = true from beq_self_eq_true _]
      rfl
    · have ne : x.1 ≠ y.1 := fun z => h1 (by show y.1 ∈ _; rw [← z]; exact List.mem_map.mpr ⟨x, e, rfl⟩)
      rw [show (x.1 == y.1) = false from beq_eq_false_iff_ne.mpr ne]
      exact ih e h2
def lower (b : Bk) (s : Str) : List Str := (b.sk.filter fun x => decide (x.2 < b.tier s)).map (·.1)
theorem lower_nd (ok : b.Ok) (s : Str) : (b.lower s).Nodup := List.Sublist.nodup (List.Sublist.map _ List.filter_sublist) ok.nod
theorem mem_lower (ok : b.Ok) {s o : Str} : o ∈ b.lower s ↔ o ∈ b.names ∧ b.tier o < b.tier s := by
  unfold lower
  constructor
  · intro h
    obtain ⟨x, hx, rfl⟩ := List.mem_map.mp h
    obtain ⟨h1, h2⟩ := List.mem_filter.mp hx
    exact ⟨List.mem_map.mpr ⟨x, h1, rfl⟩, by rw [tier_of ok h1]; exact of_decide_eq_true h2⟩
  · rintro ⟨h1, h2⟩
    obtain ⟨x, hx, rfl⟩ := List.mem_map.mp h1
    rw [tier_of ok hx] at h2
    exact List.mem_map.mpr ⟨x, List.mem_filter.mpr ⟨hx, decide_eq_true h2⟩, rfl⟩
theorem below_len (ok : b.Ok) {m : Nat} (hm : m < 2 ^ b.names.length) (s : Str) : popc (m &&& b.below s) = (b.lbelow (b.build m) s).length := by
  show popc (m &&& b.maskOf (b.lower s)) = _
  rw [popc_mask ok hm (lower_nd ok s) fun x hx => ((mem_lower ok).mp hx).1]
  refine same_len ((lower_nd ok s).filter _) ((build_nd ok m).filter _) fun o => ?_
  rw [List.mem_filter, decide_eq_true_eq, mem_lower ok]
  unfold lbelow
  rw [List.mem_filter, decide_eq_true_eq]
  constructor
  · rintro ⟨⟨_, h2⟩, h3⟩; exact ⟨h3, h2⟩
  · rintro ⟨h1, h2⟩; exact ⟨⟨build_sub o h1, h2⟩, h1⟩
theorem isLet_eq (ok : b.Ok) {m : Nat} (hm : m < 2 ^ b.names.length) (s : Str) : b.isLet m s = b.lmet (b.build m) s := by
  unfold isLet askedBy lmet
  rw [List.all_cons, below_len ok hm]
  by_cases h : (((b.lbelow (b.build m) s).length : Nat) : Int) < b.needOf (b.tier s)
  · rw [if_pos (decide_eq_true h), decide_eq_false (by omega), Bool.false_and]
  · rw [if_neg (by rw [decide_eq_false h]; exact Bool.false_ne_true), decide_eq_true (by omega), Bool.true_and, List.all_map]
    have e : ∀ w ∈ b.wt, ((popc (m &&& b.maskOf w.ns) : Nat) : Int) = (((w.ns.filter fun n => decide (n ∈ b.build m)).length : Nat) : Int) := fun w hw => by
      rw [popc_mask ok hm (ok.wo w hw).nod fun x hx => ((ok.wo w hw).mem x hx).1]
    apply Bool.eq_iff_iff.mpr
    rw [List.all_eq_true, List.isEmpty_iff, List.filter_eq_nil_iff]
    constructor
    · intro H w hw
      rw [Bool.and_eq_true, not_and]
      intro hk
      have h1 := H w (List.mem_filter.mpr ⟨hw, hk⟩)
      have h2 : w.many ≤ ((popc (m &&& b.maskOf w.ns) : Nat) : Int) := of_decide_eq_true h1
      rw [e w hw] at h2
      unfold rowMet
      rw [decide_eq_true (show _ ≥ _ from h2)]
      exact Bool.false_ne_true
    · intro H w hw
      obtain ⟨h1, h2⟩ := List.mem_filter.mp hw
      have h3 := H w h1
      rw [Bool.and_eq_true, not_and] at h3
      have h4 := h3 h2
      show decide (w.many ≤ ((popc (m &&& b.maskOf w.ns) : Nat) : Int)) = true
      rw [e w h1]
      unfold rowMet at h4
      by_cases q : (((w.ns.filter fun n => decide (n ∈ b.build m)).length : Nat) : Int) ≥ w.many
      · exact decide_eq_true q
      · rw [decide_eq_false q] at h4; exact absurd rfl h4
theorem spots_at {i : Nat} (hi : i < b.names.length) : b.spots.getD i 0 = 2 ^ i := by
  unfold spots n
  have : i < b.sk.length := by unfold names at hi; rwa [List.length_map] at hi
  rw [List.getD_eq_getElem?_getD, List.getElem?_map, List.getElem?_range this]
  rfl
theorem spotsIn_eq (m : Nat) : b.spotsIn m = (List.range b.names.length).filter fun i => m.testBit i := by
  unfold spotsIn
  apply List.filter_congr
  intro i hi
  rw [spots_at (List.mem_range.mp hi), bit_test]
theorem holds_eq (ok : b.Ok) {m : Nat} (hm : m < 2 ^ b.names.length) : b.doesHold m = b.lholds (b.build m) := by
  have hnl := ok.nlen
  have hm32 : m < 32 := Nat.lt_of_lt_of_le hm (Nat.le_trans (Nat.pow_le_pow_right (by decide) hnl) (by decide))
  have e1 : b.pointsLet m = b.lsize (b.build m) := by
    unfold pointsLet lsize
    congr 2
    congr 1
    apply List.filter_congr
    intro x hx
    rw [mem_build' (ok.go x hx).1]
    exact bit_test _ _
  have e2 : (b.barred.any fun q => decide (m &&& q = q)) = !(b.br.filter fun x => decide (x.1 ∈ b.build m) && decide (x.2 ∈ b.build m)).isEmpty := by
    apply Bool.eq_iff_iff.mpr
    rw [List.any_eq_true, Bool.not_eq_true', ← Bool.not_eq_true, List.isEmpty_iff, List.filter_eq_nil_iff]
    have key : ∀ x ∈ b.br, decide (m &&& (b.bit x.1 + b.bit x.2) = b.bit x.1 + b.bit x.2) = (decide (x.1 ∈ b.build m) && decide (x.2 ∈ b.build m)) := fun x hx => by
      obtain ⟨h1, h2, h3⟩ := ok.bo x hx
      have i1 := List.idxOf_lt_length_of_mem h1
      have i2 := List.idxOf_lt_length_of_mem h2
      have ne : b.names.idxOf x.1 ≠ b.names.idxOf x.2 := fun z => h3 (by
        have q1 := List.getElem_idxOf (xs := b.names) (x := x.1) i1
        have q2 := List.getElem_idxOf (xs := b.names) (x := x.2) i2
        rw [← q1, ← q2]
        congr 1)
      rw [mem_build' h1, mem_build' h2]
      apply Bool.eq_iff_iff.mpr
      rw [decide_eq_true_eq, Bool.and_eq_true]
      exact pair_bits (by omega) (by omega) hm32 ne
    constructor
    · rintro ⟨q, hq, hd⟩ H
      obtain ⟨x, hx, rfl⟩ := List.mem_map.mp hq
      rw [key x hx] at hd
      exact H x hx hd
    · intro H
      by_cases w : ∃ x ∈ b.br, (decide (x.1 ∈ b.build m) && decide (x.2 ∈ b.build m)) = true
      · obtain ⟨x, hx, hd⟩ := w
        exact ⟨_, List.mem_map.mpr ⟨x, hx, rfl⟩, by rw [key x hx]; exact hd⟩
      · exact absurd (fun x hx hd => w ⟨x, hx, hd⟩) H
  have e3 : ((b.spotsIn m).all fun i => b.isLet m (b.nm i)) = ((b.build m).filter fun s => !b.lmet (b.build m) s).isEmpty := by
    apply Bool.eq_iff_iff.mpr
    rw [List.all_eq_true, List.isEmpty_iff, List.filter_eq_nil_iff, spotsIn_eq]
    constructor
    · intro H s hs
      obtain ⟨h1, h2⟩ := mem_build.mp hs
      have i1 := List.idxOf_lt_length_of_mem h1
      have h3 := H (b.names.idxOf s) (List.mem_filter.mpr ⟨List.mem_range.mpr i1, h2⟩)
      have h4 : b.nm (b.names.idxOf s) = s := by
        have q := b.nm_get i1
        rw [List.getElem?_eq_getElem i1, List.getElem_idxOf] at q
        exact (Option.some.inj q).symm
      rw [h4, isLet_eq ok hm] at h3
      rw [h3]
      exact Bool.false_ne_true
    · intro H i hi
      obtain ⟨h1, h2⟩ := List.mem_filter.mp hi
      have i1 := List.mem_range.mp h1
      have h4 : b.nm i = b.names[i] := by
        have q := b.nm_get i1
        rw [List.getElem?_eq_getElem i1] at q
        exact (Option.some.inj q).symm
      have hs : b.names[i] ∈ b.build m := mem_build.mpr ⟨List.getElem_mem i1, by rw [ok.nod.idxOf_getElem i i1]; exact h2⟩
      have h3 := H _ hs
      rw [h4, isLet_eq ok hm]
      cases q : b.lmet (b.build m) b.names[i] with
      | true => rfl
      | false => rw [q] at h3; exact absurd rfl h3
  unfold doesHold lholds
  rw [e1, e2, e3, popc_build ok hm]
  cases decide (b.lsize (b.build m) < (((b.build m).length : Nat) : Int)) with
  | true => rfl
  | false => rfl
end Bk
end Rt
end

section
set_option Elab.async false
set_option linter.all false
set_option maxRecDepth 100000
set_option maxHeartbeats 4000000
/-! {tuple: v}; pair[::-1]; d[k] as a target. -/
namespace Cr
open PySem PySem.Spec PyProof.Rows L2 C8 Ab
section
variable {X : Cx} {K : PySem.W.Frag}
/-- {k: v}, k a tuple -/
def tDispT (trs : List (TE × TE)) : TE := fun σ H Q => ∀ p, H p = none → tPairs trs σ (upd H p (.dT [])) fun ps H2 => H2 p = some (.dT []) ∧ ∃ (k : List Key) (b : Addr) (v : V), ps = [(.ref b, v)] ∧ H2 b = some (.tup (k.map kV)) ∧ Q (.ref p) (upd H2 p (.dT [(k, v)]))
theorem pe_dispT {pos : Pos} {keys : List (Option Expr)} {values : List Expr} {trs : List (TE × TE)} (hu : X.A.units + 1 < cLine) (h : PPs X pos keys values trs) (hall : keys.all (·.isSome) = true) (hl : keys.length = values.length) (h0 : keys ≠ [])
    (h15 : keys.length ≤ 15) : PE X (.Dict keys values pos) (tDispT trs) := by
  refine ⟨fun pins s σ H Q I q => ?_⟩
  have hn := I.hok.fresh (Nat.le_refl s.heap.objs.size)
  have J := I.laid (a := s.heap.objs.size) (o := .dT []) (h' := s.heap.push { cls := .type "dict", data := .dict #[] }) (t' := s.toks) (fun _ _ q => Heap.get?_push_of_some _ q) (Nat.le_refl _) (dt_empty s.heap I.big)
  have hpl := pairTrees_length keys values X.env pos hall hl
  have hp0 : pairTrees keys values X.env pos ≠ [] := fun e => by
    rw [e] at hpl
    exact h0 (List.length_eq_zero_iff.mp hpl.symm)
  rw [arm_eval_Dict, zip_pairTrees keys values X.env pos hall hl, dictDisplay_pairs _ hp0 (by omega)]
  refine wpAny_bind (wpAny_standAt (wpAny_bind (wpAny_subDictH (knd := tupleKind (mixKind X.prog X.w)) (show (tupleKind (mixKind X.prog X.w)).room X.A from Nat.lt_of_succ_lt hu) (by rw [hpl]; exact h15) ?_)))
  refine thn (h.run pins _ σ _ _ J (q _ hn)) fun ws s2 ⟨ps, H2, I2, rel, e, k, b, v, ep, eb, q2⟩ => ?_
  subst ep
  obtain ⟨u1, u2, ews, r1, r2⟩ : ∃ u1 u2, ws = [(u1, u2)] ∧ RelV (V.ref b) u1 ∧ RelV v u2 := by
    cases rel with
    | @cons _ y _ _ hh tt =>
      cases tt
      exact ⟨y.1, y.2, rfl, hh.1, hh.2⟩
  subst ews
  cases r1
  obtain ⟨z, hd, xs, r0, dd⟩ := dt_of I2.hok e
  cases r0
  refine ⟨[(k, b, u2)], ⟨rfl, rfl, key_of I2.hok eb, True.intro⟩, dd, fun g tk gd sb => wpAny_pure ⟨.ref s.heap.objs.size, _, ?_, rfl, q2⟩⟩
  obtain ⟨og, es, ep, g1, g2, g3, g4, _, g5⟩ := gd
  have e2 : storedAllH [] [(k, b, u2)] = [(k, b, u2)] := rfl
  rw [e2] at g4 g5
  refine d_write I2 (by rw [e]; exact True.intro) sb ⟨og, g1⟩ ⟨by show 1 ≤ sizeLine; decide, hd, [(k, b, u2)], .cons ⟨rfl, ?_, r2⟩ .nil, og, es, ep, g1, g2, g3, g4, g5⟩
  show upd H2 _ _ b = _
  rw [upd_ne (ne_of eb e (fun z => nomatch z))]
  exact eb
/-- pair[::-1] -/
def tRev2 (K : PySem.W.Frag) (te : TE) : TE := fun σ H Q => te σ H fun x H1 => ∃ a u v, x = .ref a ∧ SqT K H1 a [u, v] ∧ ∀ p, H1 p = none → Q (.ref p) (upd H1 p (.tup [v, u]))
theorem getItem_rev2 {prog : Program} {w : World} {A : Around} {E : Value → Shared → Prop} {s : Shared} {t sl : Addr} {u v : Value} {tk : Tok} {Q : Value → Shared → Prop} (ht : IsTup s.heap t #[u, v]) (hs : s.heap.IsSliceOf sl .none .none (.int (-1) tk))
    (h : Q (.ref s.heap.objs.size) { s with heap := s.heap.push { cls := .type "tuple", data := .seq #[v, u] } }) : wpAny (model prog w) A (getItem (.ref t) (.ref sl)) Q E s := by
  obtain ⟨os, hos, hcs, hds⟩ := id hs
  have ty : s.TypeIs (.ref sl) "slice" := ⟨os, hos, hcs⟩
  unfold getItem
  refine wpAny_holding ?_
  refine wpAny_bind (wpAny_sequenceKey ht.typeIs (by decide) (wpAny_bind (wpAny_callSpecial?_slot (name := Str.ofString "__getitem__") ht.typeIs PyProof.Rows.slot_tuple_getitem (wpAny_call_entry PyProof.Rows.slot_tuple_getitem ht.typeIs entry_tuple_getitem ?_ (args_tuple_getitem _ _)))))
  refine wpAny_bind (m := Builtin.Tuple.tupleItemsOf (.ref t)) (tupleItemsOf_ ht (wpAny_bind (wpAny_typeOf ty ?_)))
  rw [if_pos (by decide)]
  refine wpAny_bind (m := Builtin.Slice.sliceApplied (.ref sl) _) ?_
  unfold Builtin.Slice.sliceApplied Builtin.Slice.sliceFields
  refine wpAny_bind (wpAny_bind (wpAny_field hos hds (x := .none) rfl (wpAny_bind (wpAny_field hos hds (x := .none) rfl (wpAny_bind (wpAny_field hos hds (x := .int (-1) tk) rfl (wpAny_pure ?_)))))))
  refine wpAny_bind (HT.slicePart_ (.int (-1) tk) ?_)
  show wpAny _ _ (if ((-1 : Int) == 0) = true then _ else _) _ _ s
  rw [if_neg (by decide)]
  refine wpAny_bind (HT.slicePart_ .none (wpAny_bind (HT.slicePart_ .none (wpAny_bind (wpAny_pure (wpAny_pure ?_))))))
  have htake : sizeOk (.seq #[v, u]) := by show 2 ≤ sizeLine; decide
  show wpAny _ _ (if ((1 : Int) == 0 && (-1 : Int) == 1 && (2 : Nat) == 2) = true then _ else _) _ _ s
  rw [if_neg (by decide)]
  show wpAny _ _ (Builtin.Tuple.tupleExact ((List.range (Builtin.Slice.slicePlaces 1 (-1) (-1))).filterMap fun (k : Nat) => (#[u, v] : Array Value)[((1 : Int) + (k : Int) * (-1)).toNat]?).toArray >>= fun d => ret d) _ _ _
  rw [show Builtin.Slice.slicePlaces 1 (-1) (-1) = 2 by decide +kernel, show ((List.range 2).filterMap fun (k : Nat) => (#[u, v] : Array Value)[((1 : Int) + (k : Int) * (-1)).toNat]?).toArray = #[v, u] from rfl]
  exact wpAny_bind (m := Builtin.Tuple.tupleExact _) (wpAny_newObj_type (wpAny_pure ⟨.ref s.heap.objs.size, rfl, wpAny_pure h⟩) htake)
theorem pe_rev2 {e st : Expr} {te : TE} {pos p2 : Pos} (hK : X.K = K) (he : PE X e te) (hst : PO X (some st) (tPart (tUn (rU fun i => .int (-i)) (tC (.int 1))))) : PE X (.Subscript e (.Slice none none (some st) p2) pos) (tRev2 K te) := by
  subst hK
  refine ⟨fun pins s σ H Q I h => ?_⟩
  have h' : te σ H fun x H1 => ∃ a u v, x = .ref a ∧ SqT X.K H1 a [u, v] ∧ ∀ p, H1 p = none → Q (.ref p) (upd H1 p (.tup [v, u])) := h
  refine Subscript_ (thn (he.run pins s σ H _ I h') fun v0 s1 hx => ?_)
  obtain ⟨x, H1, I1, r1, a, u, v, ex, hq, q⟩ := hx
  subst ex
  cases r1
  refine wpAny_Slice ?_
  rw [evalPart_none]
  refine wpAny_pure (wpAny_pure ?_)
  refine thn (hst.run pins s1 σ H1 (fun o H' => o = some (-1) ∧ H' = H1) I1 (show tPart (tUn (rU fun i => .int (-i)) (tC (.int 1))) σ H1 (fun o H' => o = some (-1) ∧ H' = H1) from ⟨1, rfl, -1, rfl, rfl, rfl⟩)) fun vs s3 hy => ?_
  obtain ⟨o, H3, I3, pp, eo, eH⟩ := hy
  subst eo
  cases eH
  cases pp with
  | int i tk =>
    have I4 : L2.Inv X pins σ H1 { s3 with heap := s3.heap.push { cls := .type "slice", data := .fields #[.none, .none, .int (-1) tk] } } := I3.kept (t' := s3.toks) fun b ob q => Heap.get?_push_of_some _ q
    obtain ⟨its, rv, ht, _⟩ := I4.tuple hq
    obtain ⟨w1, w2, ei, x1, x2⟩ := vals2 rv
    subst ei
    have hT : Shared.TypeIs { s3 with heap := s3.heap.push { cls := .type "slice", data := .fields #[.none, .none, .int (-1) tk] } } (.ref a) "tuple" := ht.typeIs
    refine tail_any (ops := [.ref a, .ref s3.heap.objs.size]) hT PyProof.Rows.slot_tuple_getitem.lookup ?_ (by with_unfolding_all rfl)
    refine getItem_rev2 (tk := tk) ht (Heap.IsSliceOf.new ..) ?_
    exact ⟨.ref _, _, I4.laid (t' := s3.toks) (o := .tup [v, u]) (fun b ob q => Heap.get?_push_of_some _ q) (Nat.le_refl _) ⟨by show 2 ≤ sizeLine; decide, [w2, w1], .cons x2 (.cons x1 .nil), IsTup.new _ _⟩, rfl, q _ (I4.hok.fresh (Nat.le_refl _))⟩
/-- d[k] as one of several targets -/
def rSetD : TSet := fun o i v H R => ∃ a H', o = .ref a ∧ DPut H a i v H' ∧ R H'
theorem set_dict (hu : X.A.units + 1 < cLine) : PSet X rSetD := by
  intro pins s σ H o i v ov iv u Q I ro ri rv h
  obtain ⟨a, H', eo, g, q⟩ := h
  subst eo
  cases ro
  exact d_setItem hu I g ri rv fun s' J => ⟨H', J, q⟩
end
end Cr
end

section
set_option Elab.async false
set_option linter.all false
set_option maxRecDepth 100000
set_option maxHeartbeats 4000000
namespace Ab
open PySem PySem.Spec PyProof.Rows L2 C8 Cr
theorem keysD_kDt : ∀ k : List Key, keysD (k.map kDt) = some k
  | [] => rfl
  | .inl i :: k => by
    have := keysD_kDt k
    simp only [List.map_cons, kDt, keysD, keyD, this]
  | .inr i :: k => by
    have := keysD_kDt k
    simp only [List.map_cons, kDt, keysD, keyD, this]
theorem tupS_kDt (s : List Str) : tupS s = .tup ((s.map Sum.inr : List Key).map kDt) := by
  unfold tupS
  rw [List.map_map]
  rfl
theorem getD_dt (ks : List (List Key × Dt)) (k : List Key) : getD? (.dt ks) (.tup (k.map kDt)) = some (lkG ks k) := by
  show (keysD (k.map kDt)).map (fun k => lkG ks k) = _
  rw [keysD_kDt]
  rfl
section
variable {F : Addr → Prop} {p : Option Addr} {A0 B0 : Hp} {M : Led} {δ : Dst} {Hk H : Hp} {σ : L2.St} {K : PySem.W.Frag} {te ty tv tk : TE} {ta t : TA} {i j l : Nat} {a d : Addr} {N : Dst → Led → Prop} {R : Dt → Led → Prop} {P : Dt → Prop} {E : XK}
/-- line, found, at = ([x], {x: e}, n) -/
theorem run_par3W {k : List Key} {x y z : Dt} (h1 : EvD p te δ x) (h2 : EvD p tk δ (.tup (k.map kDt))) (h3 : EvD p tv δ y) (h4 : EvD p ty δ z)
    (kk : ∀ q b, M q = none → M b = none → b ≠ q → N (((δ.set i (some (.adr q))).set j (some (.adr b))).set l (some z)) (updM (updM M q (.lst [x])) b (.dt [(k, y)]))) :
    Run F p (tPar3 i j l (tCons (tLst (tCons te tNil)) (tCons (tDispT [(tk, tv)]) (tCons ty tNil)))) δ M N R := fun hF A0 B0 Hk σ H D s nx rt =>
  h1 σ Hk H s.st s.gr.kh s.po _ fun v1 d1 H1k H1 g1 o1 e1 r1 => ⟨by show 1 ≤ sizeLine; decide, fun q hq => by
    subst e1
    have s1 := s.step g1 o1 hF
    obtain ⟨hm1, s2⟩ := s1.own hq (o := .lst [v1]) (d := .lst [d1]) ⟨[v1], upd_same, .cons r1 .nil⟩
    intro b hb
    obtain ⟨hm2, s3⟩ := s2.own hb (o := .dT []) (d := .dt []) ⟨[], upd_same, .nil⟩
    have nbq : b ≠ q := fun z => by rw [z, updM_same] at hm2; cases hm2
    refine h2 σ H1k _ s3.st s3.gr.kh s3.po _ fun v2 d2 H2k H2 g2 o2 e2 r2 => ?_
    subst e2
    have s4 := s3.step g2 o2 hF
    refine h3 σ H2k H2 s4.st s4.gr.kh s4.po _ fun v3 d3 H3k H3 g3 o3 e3 r3 => ?_
    subst e3
    have s5 := s4.step g3 o3 hF
    obtain ⟨_, _, _, kv0, e0, r0⟩ := s5.ow b _ updM_same
    cases r0
    refine ⟨e0, ?_⟩
    obtain ⟨c, us, ec, e5, r5⟩ := (r2.mono g3.kk).tup_inv
    rw [keys_kV r5] at e5
    subst ec
    refine ⟨k, c, v3, rfl, s5.gr.kh _ _ e5, ?_⟩
    have s6 := s5.put updM_same (o := .dT [(k, v3)]) (d := .dt [(k, d3)]) ⟨_, upd_same, .cons r3 .nil⟩
    rw [updM_updM] at s6
    refine h4 σ H3k _ s6.st s6.gr.kh s6.po _ fun v4 d4 H4k H4 g4 o4 e4 r4 => ?_
    subst e4
    have s7 := s6.step g4 o4 hF
    have hmb : M b = none := by rw [updM_ne nbq] at hm2; exact hm2
    exact ⟨.ref q, .ref b, v4, rfl, nx _ _ H4k _ H4 (kk q b hm1 hmb nbq) (((s7.set i (.adr q)).set j (.adr b)).set l r4) (g1.kk.trans (g2.kk.trans (g3.kk.trans g4.kk)))⟩⟩
/-- d[k] = e, d owned, its keys tuples -/
theorem run_dputT {ks : List (List Key × Dt)} {k : List Key} (hi : δ[i]? = some (some (.adr a))) (hm : M a = some (.dt ks)) (hl : ks.length < 100000) (hj : δ[j]? = some (some (.tup (k.map kDt)))) (hv : Ez F p M δ tv P) (kk : ∀ x, P x → N δ (updM M a (.dt (putG ks k x)))) : Run F p (sDPut (tVar i) (tVar j) tv) δ M N R := fun hF A0 B0 Hk σ H D s nx rt =>
  hv hF A0 B0 Hk σ H _ s fun w x Hk' H' px s' k' r => by
    obtain ⟨u, e2, r2⟩ := s'.st.2 i _ hi
    cases r2
    obtain ⟨v, e1, r1⟩ := s'.st.2 j _ hj
    obtain ⟨c, us, ec, e5, r5⟩ := r1.tup_inv
    rw [keys_kV r5] at e5
    subst ec
    obtain ⟨_, _, _, kvs, h9, h10⟩ := s'.ow a _ hm
    refine ⟨.ref a, e2, .ref c, e1, a, _, rfl, .t h9 (s'.gr.kh _ _ e5) (by rw [h10.length]; exact szl hl), ?_⟩
    exact nx δ _ Hk' σ _ (kk x px) (s'.put hm ⟨_, upd_same, h10.put r⟩) k'
/-- d['x'], d['y'] = [], [] -/
theorem run_two {ks : List (Key × Dt)} {x y : Str} (hi : δ[i]? = some (some (.adr a))) (hm : M a = some (.dk ks)) (hl : ks.length < 1000) (kk : N δ (updM M a (.dk (putG (putG ks (Sum.inr x) (.lst [])) (Sum.inr y) (.lst []))))) :
    Run F p (tAsg (tTup (tCons (tLst tNil) (tCons (tLst tNil) tNil))) (gTup K 2 (gCons (gSub (tVar i) (tC (.str x)) rSetD) (gCons (gSub (tVar i) (tC (.str y)) rSetD) gNil)))) δ M N R := fun hF A0 B0 Hk σ H D s nx rt => by
  have ht : EvD p (tTup (tCons (tLst tNil) (tCons (tLst tNil) tNil))) δ (.tup [.lst [], .lst []]) := ev_tup (ea_cons (ev_lst ea_nil) (ea_cons (ev_lst ea_nil) ea_nil))
  refine ez_of ht hF A0 B0 Hk σ H _ s fun w x' Hk' H' px s' k' r => ?_
  subst px
  obtain ⟨c, us, ec, e5, r5⟩ := r.tup_inv
  obtain ⟨w1, w2, eu, r6, r7⟩ := rps2 r5
  subst ec eu
  obtain ⟨u, e2, r2⟩ := s'.st.2 i _ hi
  cases r2
  obtain ⟨_, _, _, kvs, h9, h10⟩ := s'.ow a _ hm
  have s1 := s'.put hm (o := .dK (putK kvs (Sum.inr x) w1)) (d := .dk (putG ks (Sum.inr x) (.lst []))) ⟨_, upd_same, h10.put r6⟩
  have s2 := s1.put updM_same (o := .dK (putK (putK kvs (Sum.inr x) w1) (Sum.inr y) w2)) (d := .dk (putG (putG ks (Sum.inr x) (.lst [])) (Sum.inr y) (.lst []))) ⟨_, upd_same, (h10.put r6).put r7⟩
  rw [updM_updM] at s2
  have l1 := length_putK kvs (Sum.inr x : Key) w1
  have l2 := h10.length
  refine ⟨c, [w1, w2], rfl, .inl (.inl (s'.gr.kh _ _ e5)), rfl, ?_⟩
  refine ⟨w1, [w2], rfl, .ref a, e2, a, _, rfl, .k (kvs := kvs) (k := Sum.inr x) h9 (szl (by omega)), w2, [], rfl, .ref a, e2, a, _, rfl, .k (kvs := putK kvs (Sum.inr x) w1) (k := Sum.inr y) upd_same (szl (by omega)), rfl, ?_⟩
  exact nx δ _ Hk' σ _ kk s2 k'
/-- found.append(left.pop(e)) -/
theorem run_appPop {b : Addr} {ds es : List Dt} {tq : TE} {B : Int → Prop} (hi : δ[i]? = some (some (.adr a))) (hm : M a = some (.lst ds)) (hj : δ[j]? = some (some (.adr b))) (hm2 : M b = some (.lst es)) (ne : a ≠ b) (hl : es.length < 1000) (hl2 : ds.length < 1000)
    (he : Ez F p M δ tq fun x => ∃ n : Nat, n < ds.length ∧ x = .int (n : Int)) (kk : ∀ (n : Nat) (x : Dt), ds[n]? = some x → N δ (updM (updM M a (.lst (ds.eraseIdx n))) b (.lst (es ++ [x])))) :
    Run F p (tDrop (tBM K "list" rAppend (tVar j) (tCons (tBM K "list" rPopAt (tVar i) (tCons tq tNil)) tNil))) δ M N R := fun hF A0 B0 Hk σ H D s nx rt => by
  obtain ⟨u, h1, r1⟩ := s.st.2 j _ hj
  cases r1
  obtain ⟨_, _, _, vs2, h3, _⟩ := s.ow b _ hm2
  refine ⟨.ref b, h1, .inl ⟨rfl, vs2, .inl (.inl h3)⟩, ?_⟩
  obtain ⟨u, h2, r2⟩ := s.st.2 i _ hi
  cases r2
  obtain ⟨_, _, _, vs1, h4, _⟩ := s.ow a _ hm
  refine ⟨.ref a, h2, .inl ⟨rfl, vs1, .inl (.inl h4)⟩, ?_⟩
  refine he hF A0 B0 Hk σ H _ s fun w x Hk' H' ⟨n, hn, ex⟩ s' k' r => ?_
  subst ex
  cases r
  obtain ⟨_, _, _, ws1, h5, h6⟩ := s'.ow a _ hm
  have hx := List.getElem?_eq_getElem hn
  obtain ⟨y, hy1, hy2⟩ := h6.get hx
  have hlen := h6.length
  refine ⟨a, ws1, (n : Int), n, y, rfl, rfl, h5, by omega, by omega, ?_, hy1, ?_⟩
  · rw [seqIndex_of (by omega) (by omega), Int.toNat_natCast]
  have s1 := s'.put hm (o := .lst (ws1.eraseIdx n)) (d := .lst (ds.eraseIdx n)) ⟨_, upd_same, h6.eraseIdx n⟩
  have hm2' : updM M a (.lst (ds.eraseIdx n)) b = some (.lst es) := by rw [updM_ne ne.symm]; exact hm2
  obtain ⟨_, _, _, ws2, h7, h8⟩ := s1.ow b _ hm2'
  refine ⟨b, ws2, y, rfl, rfl, h7, by rw [h8.length]; exact szl (by omega), ?_⟩
  exact nx δ _ Hk' σ _ (kk n _ hx) (s1.put hm2' ⟨_, upd_same, h8.snoc hy2⟩) k'
end
end Ab
end

section
set_option Elab.async false
set_option linter.all false
set_option maxRecDepth 100000
set_option maxHeartbeats 4000000

namespace Rt
open PySem PySem.Spec PyProof.Rows L2 Ab C8
local macro_rules | `(tactic| walk_at "rv") => `(tactic| first
  | exact rv_I0i | exact rv_I0b | exact rv_eqI | exact rv_eqS | exact rv_neI | exact rv_neS | exact rv_eqB | exact rv_inS (t := .t) | exact rv_inS (t := .l) | exact rv_inI (t := .t) | exact rv_inI (t := .l) | exact rv_ninS (t := .t) | exact rv_ninS (t := .l) | exact rv_ninI (t := .t) | exact rv_ninI (t := .l) | exact rv_isN rfl | exact rv_notN rfl | exact rv_eqTI | exact rv_neTI | exact rv_eqLI | exact rv_neTS | exact rv_eqLTS | exact rv_neLTI | exact rv_sign)
local macro_rules | `(tactic| walk_at "ev") => `(tactic| first
  | exact ev_var rfl | exact ev_int | exact ev_str | exact ev_bl | exact ev_non | exact ev_ty | exact ea_nil | exact et_yes
  | ((with_reducible refine ev_op ?_ ?_ ?_) <;> walk_at "ev")
  | ((with_reducible refine ea_cons ?_ ?_) <;> walk_at "ev")
  | ((with_reducible refine ev_and ?_ ?_) <;> walk_at "ev")
  | ((with_reducible refine ev_or ?_ ?_) <;> walk_at "ev")
  | (with_reducible refine ev_not ?_; walk_at "ev")
  | (with_reducible refine ev_tup ?_; walk_at "ev")
  | (with_reducible refine ev_lst ?_; walk_at "ev")
  | (with_reducible refine et_not ?_; walk_at "ev")
  | ((with_reducible refine et_and ?_ ?_) <;> walk_at "ev")
  | ((with_reducible refine et_or ?_ ?_) <;> walk_at "ev")
  | (with_reducible refine et_test ?_; walk_at "ev")
  | (with_reducible refine et_B ?_; walk_at "ev")
  | (with_reducible refine fun (_ : _ = _) => ?_; walk_at "ev")
  | walk_at "rv"
  | skip)


/-- what a step leads to -/
def Bk.lbehind (b : Bk) (bl : List Str) (st : List Str) : List Str := match st with
  | [w, s] => if w = "take" then b.names.filter fun n => decide (n ∈ bl ++ [s]) else bl.filter fun n => !decide (n = s)
  | _ => []
def Bk.resets (b : Bk) (bl : List Str) : List (List Str) := if b.rs.isSome && !decide (bl = []) then [["reset"]] else []
def stepL (x : (Str × Str) × Nat) : List Str := [x.1.1, x.1.2]
theorem xor_bits {m i j : Nat} : (m ^^^ 2 ^ i).testBit j = (m.testBit j ^^ decide (i = j)) := by rw [Nat.testBit_xor, Nat.testBit_two_pow]
namespace Bk
variable {b : Bk}
theorem idx_inj {s t : Str} (hs : s ∈ b.names) (ht : t ∈ b.names) (e : b.names.idxOf s = b.names.idxOf t) : s = t := by
  have e1 := List.getElem_idxOf (xs := b.names) (x := s) (List.idxOf_lt_length_of_mem hs)
  have e2 := List.getElem_idxOf (xs := b.names) (x := t) (List.idxOf_lt_length_of_mem ht)
  rw [← e1, ← e2]
  congr 1
theorem step_pow {m : Nat} (hm : m < 2 ^ b.names.length) {s : Str} (hs : s ∈ b.names) : m ^^^ b.bit s < 2 ^ b.names.length := Nat.xor_lt_two_pow hm (by
  unfold bit
  exact Nat.pow_lt_pow_right (by decide) (List.idxOf_lt_length_of_mem hs))
theorem lb_take {bl : List Str} {s : Str} : b.lbehind bl ["take", s] = b.names.filter fun n => decide (n ∈ bl ++ [s]) := by
  show (if ("take" : Str) = "take" then (b.names.filter fun n => decide (n ∈ bl ++ [s])) else bl.filter fun n => !decide (n = s)) = _
  exact if_pos rfl
theorem lb_give {bl : List Str} {s : Str} : b.lbehind bl ["give", s] = bl.filter fun n => !decide (n = s) := by
  show (if ("give" : Str) = "take" then (b.names.filter fun n => decide (n ∈ bl ++ [s])) else bl.filter fun n => !decide (n = s)) = _
  exact if_neg (by decide +kernel)
theorem behind_take {m : Nat} {s : Str} (hs : s ∈ b.names) (h : m.testBit (b.names.idxOf s) = false) : b.lbehind (b.build m) ["take", s] = b.build (m ^^^ b.bit s) := by
  rw [lb_take, build_eq (m ^^^ b.bit s)]
  apply List.filter_congr
  intro n hn
  unfold bit
  rw [xor_bits]
  by_cases e : n = s
  · subst e
    rw [h, decide_eq_true (List.mem_append_right _ (List.mem_singleton.mpr rfl)), decide_eq_true rfl]
    rfl
  · have ne : b.names.idxOf s ≠ b.names.idxOf n := fun z => e (idx_inj hn hs z.symm)
    rw [decide_eq_false ne, Bool.xor_false, ← mem_build' hn]
    apply Bool.eq_iff_iff.mpr
    rw [decide_eq_true_eq, decide_eq_true_eq, List.mem_append, List.mem_singleton]
    exact ⟨fun q => q.elim id fun q => absurd q e, .inl⟩
theorem behind_give {m : Nat} {s : Str} (hs : s ∈ b.names) (h : m.testBit (b.names.idxOf s) = true) : b.lbehind (b.build m) ["give", s] = b.build (m ^^^ b.bit s) := by
  rw [lb_give, build_eq m, build_eq (m ^^^ b.bit s), List.filter_filter]
  apply List.filter_congr
  intro n hn
  unfold bit
  rw [xor_bits]
  by_cases e : n = s
  · subst e
    rw [h, decide_eq_true rfl, decide_eq_true rfl]
    rfl
  · have ne : b.names.idxOf s ≠ b.names.idxOf n := fun z => e (idx_inj hn hs z.symm)
    rw [decide_eq_false ne, decide_eq_false e, Bool.xor_false]
    rfl
theorem pos_bit (m i : Nat) : decide ((0 : Int) < ((m &&& 2 ^ i : Nat) : Int)) = m.testBit i := by
  rw [← bit_test m i]
  by_cases h : m &&& 2 ^ i = 0
  · rw [h]; rfl
  · have h1 : (0 : Int) < ((m &&& 2 ^ i : Nat) : Int) := by omega
    have h2 : ((m &&& 2 ^ i : Nat) : Int) ≠ 0 := by omega
    rw [decide_eq_true h1]
    exact (bne_iff_ne.mpr h2).symm
/-- the law's steps are the package's -/
theorem steps_eq (ok : b.Ok) {m : Nat} (hm : m < 2 ^ b.names.length) :
    ((((b.names.filter fun s => !decide (s ∈ b.build m)).map fun s => [("take" : Str), s]) ++ (b.build m).map fun s => [("give" : Str), s]).filter fun st => b.lholds (b.lbehind (b.build m) st)) = (b.nbrs m).map stepL := by
  unfold nbrs
  rw [List.filter_append, List.map_append, List.filter_map, List.filter_map, List.filter_filter, List.map_map, List.map_map]
  congr 1
  · congr 1
    unfold stepsOf
    apply List.filter_congr
    intro s hs
    show (b.lholds (b.lbehind (b.build m) ["take", s]) && !decide (s ∈ b.build m)) = _
    have e0 : decide ((0 : Int) < ((m &&& b.bit s : Nat) : Int)) = m.testBit (b.names.idxOf s) := pos_bit _ _
    rw [e0, mem_build' hs]
    cases q : m.testBit (b.names.idxOf s) with
    | true => rw [Bool.not_true, Bool.and_false]; rfl
    | false => rw [behind_take hs q, ← holds_eq ok (step_pow hm hs), Bool.and_comm]; rfl
  · congr 1
    unfold stepsOf
    rw [build_eq, List.filter_filter]
    apply List.filter_congr
    intro s hs
    rw [← build_eq]
    show (b.lholds (b.lbehind (b.build m) ["give", s]) && _) = _
    have e0 : decide ((0 : Int) < ((m &&& b.bit s : Nat) : Int)) = m.testBit (b.names.idxOf s) := pos_bit _ _
    rw [e0]
    cases q : m.testBit (b.names.idxOf s) with
    | false => rw [Bool.and_false]; rfl
    | true => rw [behind_give hs q, ← holds_eq ok (step_pow hm hs), Bool.and_comm]; rfl
end Bk

section
variable {P : Program} {w : World} {K : PySem.W.Frag} {mg : Str → Option Value} {base : Heap}

def n__law_behind : List Str := ["_law_book_here", "_law_build", "_law_step", "_law_name"]
def p__law_behind : List Str := ["_law_book_here", "_law_build", "_law_step"]
theorem sc__law_behind : FnScope n__law_behind p__law_behind (defScope s__law_behind) := ⟨rfl, rfl, rfl, by decide +kernel, rfl, by decide +kernel, by decide +kernel⟩
def R__law_behind : List Dt → Dt → Prop := fun ds d => ∃ b : Bk, ∃ bl st : List Str, ds = [lawD b, tupS bl, tupS st] ∧ b.Ok ∧ bl.length ≤ 100 ∧ (st = [("reset" : Str)] ∨ ∃ s, st = [("take" : Str), s] ∨ st = [("give" : Str), s]) ∧ d = tupS (b.lbehind bl st)
theorem c__law_behind (T : Tx K mg) : C8.Cal P w K mg base 3 "_law_behind" (SpD (R__law_behind)) [] := by
  obtain ⟨fd, F⟩ := T.f__law_behind
  have c__law_order := c__law_order (P := P) (w := w) (base := base) T
  refine cal F T.g__law_behind sc__law_behind (fun _ _ _ _ _ _ us hl => match us, hl with | [_, _, _], _ => rfl) (spD_len (n := 3) (by rintro _ _ ⟨_, _, _, rfl, _⟩; rfl)) fun cdv A outer s H E hr => ⟨_, (pss_cons (ps_if (pt_cmpR op_eq (pe_ix (Kr.ix (K := K) rfl) (pv 2) pe_int (fun _ _ => rfl)) pe_str (nomark _)) (pss_one (ps_ret (pe_tup pa_nil))) pss_nil) (pss_cons (ps_if (pt_cmpR op_eq (pe_ix (Kr.ix (K := K) rfl) (pv 2) pe_int (fun _ _ => rfl)) pe_str (nomark _)) (pss_one (ps_ret (pe_c c__law_order hr (by decide) (by rfl) (pa_cons (pv 0) (pa_cons (pe_op (Kr.catT (K := K) rfl) (pv 1) (pe_tup (pa_cons (pe_ix (Kr.ix (K := K) rfl) (pv 2) pe_int (fun _ _ => rfl)) pa_nil))) pa_nil))))) pss_nil) (pss_one (ps_ret (pe_callTy (Kr.tuple (K := K) rfl) (by rfl) T.n_tuple (by decide +kernel) (pa_cons (pe_lc (own := [("_law_name", 3)]) rfl sc__law_behind.nd (Kr.seq (K := K) rfl (pv 1)) (blkOk_by (own := [("_law_name", 3)]) (N := n__law_behind) (sc := defScope s__law_behind) (by decide +kernel)) (fun _ _ _ _ _ => (pg_name (i := 3) sc__law_behind.nd rfl (by first | exact Or.inl rfl | exact Or.inr rfl))) (fun _ _ _ _ _ => pts_one (pt_cmpR op_ne (pv 3) (pe_ix (Kr.ix (K := K) rfl) (pv 2) pe_int (fun _ _ => rfl)) (nomark _))) (fun _ _ _ _ _ => (pv 3))) pa_nil)))))), ?_⟩
  intro vs Q h
  refine spD_of (N := n__law_behind) (fun ds d hR => ?_) h
  obtain ⟨b, bl, st, rfl, ok, hl, hst, rfl⟩ := hR
  have x0 : ∀ {δ : Dst} {te : TE} {w : Str} {r : List Str}, EvD none te δ (tupS (w :: r)) → EvD none (tOp (rIx K) te (tC (.int 0))) δ (.str w) := fun h => ev_op h ev_int (rv_ix (t := .t) (atI_nat (j := 0) rfl))
  have x1 : ∀ {δ : Dst} {te : TE} {w s : Str}, EvD none te δ (tupS [w, s]) → EvD none (tOp (rIx K) te (tC (.int 1))) δ (.str s) := fun h => ev_op h ev_int (rv_ix (t := .t) (atI_nat (j := 1) rfl))
  rcases hst with rfl | ⟨z, rfl | rfl⟩
  · refine run_seq (run_if (tz_of (et_test (ev_op (x := .str "reset") (y := .str "reset") (x0 (ev_var rfl)) ev_str rv_eqS))) (fun _ => run_ret (P := fun d => d = tupS []) (ez_of (ev_tup ea_nil)) fun d e => e) (fun e => ?_))
    exact absurd e (by decide +kernel)
  · refine run_skip ((et_test (ev_op (x := .str "take") (y := .str "reset") (x0 (ev_var rfl)) ev_str rv_eqS)).eq (b := false) (by decide +kernel)) ?_
    refine run_seq (run_if (tz_of (et_test (ev_op (x := .str "take") (y := .str "take") (x0 (ev_var rfl)) ev_str rv_eqS))) (fun _ => ?_) (fun e => absurd e (by decide +kernel)))
    exact run_retD (ev_call (ds := [lawD b, tupS (bl ++ [z])]) (ea_cons (ev_var rfl) (ea_cons ((ev_op (x := .tup (bl.map Dt.str)) (y := .tup [.str z]) (ev_var rfl) (ev_tup (ea_cons (x1 (ev_var rfl)) ea_nil)) (rv_catT (by rw [List.length_map, List.length_singleton]; omega))).eq (by unfold tupS; rw [List.map_append]; rfl)) ea_nil)) ⟨b, _, rfl, ok, rfl⟩)
  · refine run_skip ((et_test (ev_op (x := .str "give") (y := .str "reset") (x0 (ev_var rfl)) ev_str rv_eqS)).eq (b := false) (by decide +kernel)) ?_
    refine run_skip ((et_test (ev_op (x := .str "give") (y := .str "take") (x0 (ev_var rfl)) ev_str rv_eqS)).eq (b := false) (by decide +kernel)) ?_
    refine run_retD ((ev_cb (xs := [lstS (bl.filter fun n => !decide (n = z))]) (ea_cons (ev_lc bl Dt.str (fun n => !decide (n = z)) Dt.str (ei_tup (ev_var rfl)) (fun n hn => ⟨_, bind_name, et_test (ev_op (x := .str n) (y := .str z) (ev_var rfl) (x1 (ev_var rfl)) rv_neS), fun _ => ev_var rfl⟩) (by omega)) ea_nil) rc_tuple).eq ?_)
    rw [Bk.lb_give]
    rfl
def n__law_steps : List Str := ["_law_book_here", "_law_build", "_law_names_here", "_law_found", "_law_name", "_law_step"]
def p__law_steps : List Str := ["_law_book_here", "_law_build"]
theorem sc__law_steps : FnScope n__law_steps p__law_steps (defScope s__law_steps) := ⟨rfl, rfl, rfl, by decide +kernel, rfl, by decide +kernel, by decide +kernel⟩
def R__law_steps : List Dt → Dt → Prop := fun ds d => ∃ b : Bk, ∃ m : Nat, ds = [lawD b, tupS (b.build m)] ∧ b.Ok ∧ m < 2 ^ b.names.length ∧ d = .lst (((b.nbrs m).map stepL ++ b.resets (b.build m)).map tupS)
theorem c__law_steps (T : Tx K mg) : C8.Cal P w K mg base 5 "_law_steps" (SpD (R__law_steps)) [] := by
  obtain ⟨fd, F⟩ := T.f__law_steps
  have c__law_names := c__law_names (P := P) (w := w) (base := base) T
  have c__law_holds := c__law_holds (P := P) (w := w) (base := base) T
  have c__law_behind := c__law_behind (P := P) (w := w) (base := base) T
  refine cal F T.g__law_steps sc__law_steps (fun _ _ _ _ _ _ us hl => match us, hl with | [_, _], _ => rfl) (spD_len (n := 2) (by rintro _ _ ⟨_, _, rfl, _⟩; rfl)) fun cdv A outer s H E hr => ⟨_, (pss_cons (ps_set (i := 2) sc__law_steps.nd rfl (Or.inl rfl) (pe_c c__law_names hr (by decide) (by rfl) (pa_cons (pv 0) pa_nil))) (pss_cons (ps_setLc (i := 3) (own := [("_law_name", 4)]) rfl sc__law_steps.nd rfl rfl (sw_true rfl rfl rfl (by decide +kernel)) (Kr.seq (K := K) rfl (pv 2)) (blkOk_by (own := [("_law_name", 4)]) (N := n__law_steps) (sc := defScope s__law_steps) (by decide +kernel)) (fun _ _ _ _ _ => (pg_name (i := 4) sc__law_steps.nd rfl (by first | exact Or.inl rfl | exact Or.inr rfl))) (fun _ _ _ _ _ => pts_one (pt_cmpR (Kr.onin (K := K) rfl) (pv 4) (pv 1) (by rfl))) (fun _ _ _ _ _ => (pe_tup (pa_cons pe_str (pa_cons (pv 4) pa_nil))))) (pss_cons (ps_setLc (i := 3) (own := [("_law_step", 5)]) rfl sc__law_steps.nd rfl rfl (sw_true rfl rfl rfl (by decide +kernel)) (Kr.seq (K := K) rfl (pe_op op_cat (pv 3) (pe_lc (own := [("_law_name", 4)]) rfl sc__law_steps.nd (Kr.seq (K := K) rfl (pv 1)) (blkOk_by (own := [("_law_name", 4)]) (N := n__law_steps) (sc := defScope s__law_steps) (by decide +kernel)) (fun _ _ _ _ _ => (pg_name (i := 4) sc__law_steps.nd rfl (by first | exact Or.inl rfl | exact Or.inr rfl))) (fun _ _ _ _ _ => pts_nil) (fun _ _ _ _ _ => (pe_tup (pa_cons pe_str (pa_cons (pv 4) pa_nil))))))) (blkOk_by (own := [("_law_step", 5)]) (N := n__law_steps) (sc := defScope s__law_steps) (by decide +kernel)) (fun _ _ _ _ _ => (pg_name (i := 5) sc__law_steps.nd rfl (by first | exact Or.inl rfl | exact Or.inr rfl))) (fun _ _ _ _ _ => pts_one (pt_val (pe_c c__law_holds hr (by decide) (by rfl) (pa_cons (pv 0) (pa_cons (pe_c c__law_behind hr (by decide) (by rfl) (pa_cons (pv 0) (pa_cons (pv 1) (pa_cons (pv 5) pa_nil)))) pa_nil))))) (fun _ _ _ _ _ => (pv 5))) (pss_one (ps_ret (pe_op op_cat (pv 3) (pe_op op_rep (pe_lst (pa_cons (pe_tup (pa_cons pe_str pa_nil)) pa_nil)) (pe_callTy call_int1 (by rfl) T.n_int (by decide +kernel) (pa_cons (pe_and (pe_cmpR op_notN (pe_dget (hu_of hr) (pv 0) pe_str (fun _ _ => rfl)) pe_non (nomark _)) (pe_one (pe_cmpR (Kr.neP (K := K) rfl hr.units) (pv 1) (pe_tup pa_nil) (nomark _)))) pa_nil))))))))), ?_⟩
  intro vs Q h
  refine spD_of (N := n__law_steps) (fun ds d hR => ?_) h
  obtain ⟨b, m, rfl, ok, hm, rfl⟩ := hR
  have hnl := ok.nlen
  have hbl := Bk.build_len ok m
  have H1 : ∀ st ∈ ((b.names.filter fun s => !decide (s ∈ b.build m)).map fun s => [("take" : Str), s]) ++ (b.build m).map fun s => [("give" : Str), s], st = [("reset" : Str)] ∨ ∃ s, st = [("take" : Str), s] ∨ st = [("give" : Str), s] := fun st hst => by
    rcases List.mem_append.mp hst with q | q
    · obtain ⟨z, _, rfl⟩ := List.mem_map.mp q
      exact .inr ⟨z, .inl rfl⟩
    · obtain ⟨z, _, rfl⟩ := List.mem_map.mp q
      exact .inr ⟨z, .inr rfl⟩
  have H2 : ∀ st ∈ ((b.names.filter fun s => !decide (s ∈ b.build m)).map fun s => [("take" : Str), s]) ++ (b.build m).map fun s => [("give" : Str), s], (b.lbehind (b.build m) st).length ≤ 100 := fun st hst => by
    rcases List.mem_append.mp hst with q | q
    · obtain ⟨z, _, rfl⟩ := List.mem_map.mp q
      rw [Bk.lb_take]
      have := List.length_filter_le (fun n => decide (n ∈ b.build m ++ [z])) b.names
      omega
    · obtain ⟨z, _, rfl⟩ := List.mem_map.mp q
      rw [Bk.lb_give]
      have := List.length_filter_le (fun n => !decide (n = z)) (b.build m)
      omega
  have H3 : ∀ st ∈ ((b.names.filter fun s => !decide (s ∈ b.build m)).map fun s => [("take" : Str), s]) ++ (b.build m).map fun s => [("give" : Str), s], ∀ x ∈ b.lbehind (b.build m) st, x ∈ b.names := fun st hst => by
    rcases List.mem_append.mp hst with q | q
    · obtain ⟨z, _, rfl⟩ := List.mem_map.mp q
      rw [Bk.lb_take]
      exact fun x hx => (List.mem_filter.mp hx).1
    · obtain ⟨z, _, rfl⟩ := List.mem_map.mp q
      rw [Bk.lb_give]
      exact fun x hx => Bk.build_sub x (List.mem_filter.mp hx).1
  refine run_setD (d := lstS b.names) (ev_call (ds := [lawD b]) (ea_cons (ev_var rfl) ea_nil) ⟨b, rfl, ok, rfl⟩) ?_
  refine run_setD (d := .lst (((b.names.filter fun s => !decide (s ∈ b.build m)).map fun s => [("take" : Str), s]).map tupS)) ((ev_lc b.names Dt.str (fun s => !decide (s ∈ b.build m)) (fun s => tupS ["take", s]) (ei_lst (ev_var rfl)) (fun z hz => ⟨_, bind_name, et_test (ev_op (x := .str z) (y := tupS (b.build m)) (ev_var rfl) (ev_var rfl) (rv_ninS (t := .t))), fun _ => ev_tup (ea_cons ev_str (ea_cons (ev_var rfl) ea_nil)) (by show 2 ≤ 100000; decide)⟩) (by omega)).eq (by rw [List.map_map]; rfl)) ?_
  refine run_setD (d := .lst (((b.nbrs m).map stepL).map tupS)) ((ev_lc (((b.names.filter fun s => !decide (s ∈ b.build m)).map fun s => [("take" : Str), s]) ++ (b.build m).map fun s => [("give" : Str), s]) tupS (fun st => b.lholds (b.lbehind (b.build m) st)) tupS (ei_lst ((ev_op (ev_var rfl) (ev_lc0 (b.build m) Dt.str (fun s => tupS ["give", s]) (ei_tup (ev_var rfl)) (fun z hz => ⟨_, bind_name, ev_tup (ea_cons ev_str (ea_cons (ev_var rfl) ea_nil)) (by show 2 ≤ 100000; decide)⟩) (by omega)) (rv_catL ?_)).eq ?_)) (fun st hst => ⟨_, bind_name, et_B (ev_call (ds := [lawD b, tupS (b.lbehind (b.build m) st)]) (ea_cons (ev_var rfl) (ea_cons (ev_call (ds := [lawD b, tupS (b.build m), tupS st]) (ea_cons (ev_var rfl) (ea_cons (ev_var rfl) (ea_cons (ev_var rfl) ea_nil))) ⟨b, _, st, rfl, ok, by omega, H1 st hst, rfl⟩) ea_nil)) ⟨b, _, rfl, ok, H2 st hst, H3 st hst, rfl⟩), fun _ => ev_var rfl⟩) ?_).eq (by rw [Bk.steps_eq ok hm])) ?_
  · have h1 := List.length_filter_le (fun s => !decide (s ∈ b.build m)) b.names
    rw [List.length_map, List.length_map, List.length_map]
    omega
  · rw [List.map_append, List.map_map (g := tupS) (l := b.build m)]
    rfl
  · have h1 := List.length_filter_le (fun s => !decide (s ∈ b.build m)) b.names
    rw [List.length_append, List.length_map, List.length_map]
    omega
  have hnb := b.nbrs_len ok m
  refine run_retD ((ev_op (ev_var rfl) (ev_op (x := .lst [tupS ["reset"]]) (y := .int (if (b.rs.isSome && !decide (b.build m = [])) then 1 else 0)) (ev_lst (ea_cons (ev_tup (ea_cons ev_str ea_nil)) ea_nil)) (ev_cb (xs := [.bl (b.rs.isSome && !decide (b.build m = []))]) (ea_cons (ev_and (ev_op (x := encO b.rs) (y := .non) (ev_dget (ev_var rfl) ev_str (get_part 7 rfl rfl)) ev_non (rv_notN (by cases b.rs <;> rfl))) (fun _ => ev_op (x := tupS (b.build m)) (y := tupS []) (ev_var rfl) (ev_tup ea_nil) rv_neTS)) ea_nil) rc_intB) (rv_repL (by split <;> decide) (by split <;> decide) (by decide))) (rv_catL ?_)).eq ?_)
  · rw [List.length_map, List.length_map]
    cases (b.rs.isSome && !decide (b.build m = [])) with
    | true => show _ + 1 ≤ _; omega
    | false => show _ + 0 ≤ _; omega
  · unfold Bk.resets
    rw [List.map_append]
    cases (b.rs.isSome && !decide (b.build m = [])) with
    | true => rfl
    | false => rfl
end
end Rt
end

section
set_option Elab.async false
set_option linter.all false
set_option maxRecDepth 100000
set_option maxHeartbeats 4000000

namespace Rt
open PySem PySem.Spec PyProof.Rows L2 Ab C8
local macro_rules | `(tactic| walk_at "rv") => `(tactic| first
  | exact rv_I0i | exact rv_I0b | exact rv_eqI | exact rv_eqS | exact rv_neI | exact rv_neS | exact rv_eqB | exact rv_inS (t := .t) | exact rv_inS (t := .l) | exact rv_inI (t := .t) | exact rv_inI (t := .l) | exact rv_ninS (t := .t) | exact rv_ninS (t := .l) | exact rv_ninI (t := .t) | exact rv_ninI (t := .l) | exact rv_isN rfl | exact rv_notN rfl | exact rv_eqTI | exact rv_neTI | exact rv_eqLI | exact rv_neTS | exact rv_eqLTS | exact rv_neLTI | exact rv_sign)
local macro_rules | `(tactic| walk_at "ev") => `(tactic| first
  | exact ev_var rfl | exact ev_int | exact ev_str | exact ev_bl | exact ev_non | exact ev_ty | exact ea_nil | exact et_yes
  | ((with_reducible refine ev_op ?_ ?_ ?_) <;> walk_at "ev")
  | ((with_reducible refine ea_cons ?_ ?_) <;> walk_at "ev")
  | ((with_reducible refine ev_and ?_ ?_) <;> walk_at "ev")
  | ((with_reducible refine ev_or ?_ ?_) <;> walk_at "ev")
  | (with_reducible refine ev_not ?_; walk_at "ev")
  | (with_reducible refine ev_tup ?_; walk_at "ev")
  | (with_reducible refine ev_lst ?_; walk_at "ev")
  | (with_reducible refine et_not ?_; walk_at "ev")
  | ((with_reducible refine et_and ?_ ?_) <;> walk_at "ev")
  | ((with_reducible refine et_or ?_ ?_) <;> walk_at "ev")
  | (with_reducible refine et_test ?_; walk_at "ev")
  | (with_reducible refine et_B ?_; walk_at "ev")
  | (with_reducible refine fun (_ : _ = _) => ?_; walk_at "ev")
  | walk_at "rv"
  | skip)


def bkey (b : Bk) (m : Nat) : List Key := (b.build m).map Sum.inr
theorem tupS_bkey (b : Bk) (m : Nat) : tupS (b.build m) = .tup ((bkey b m).map Cr.kDt) := tupS_kDt _
theorem getD_bld (b : Bk) (ks : List (List Key × Dt)) (m : Nat) : getD? (.dt ks) (tupS (b.build m)) = some (lkG ks (bkey b m)) := by rw [tupS_bkey]; exact getD_dt _ _
theorem bkey_inj {b : Bk} (ok : b.Ok) {m n : Nat} (hm : m < 2 ^ b.names.length) (hn : n < 2 ^ b.names.length) (h : bkey b m = bkey b n) : m = n := by
  have e : b.build m = b.build n := (List.map_inj_right fun x y h => Sum.inr.inj h).mp h
  exact Bk.build_inj ok hm hn (fun s h => e ▸ h) (fun s h => e ▸ h)
theorem build_zero (b : Bk) : b.build 0 = [] := by
  unfold Bk.build
  exact List.filter_eq_nil_iff.mpr fun s _ => by rw [Nat.zero_and]; exact fun z => nomatch z
theorem mem_of_lkG {κ : Type} [DecidableEq κ] {β : Type} {ks : List (κ × β)} {k : κ} {x : β} (h : lkG ks k = some x) : (k, x) ∈ ks := by
  unfold lkG at h
  obtain ⟨y, h1, h2⟩ := Option.map_eq_some_iff.mp h
  have h3 := List.mem_of_find?_eq_some h1
  have h4 : y.1 = k := of_decide_eq_true (List.find?_some (p := fun kv : κ × β => decide (kv.1 = k)) h1)
  rw [← h4, ← h2]
  exact h3
theorem lk_some {κ : Type} [DecidableEq κ] {β : Type} {ks : List (κ × β)} {k : κ} (h : k ∈ ks.map (·.1)) : ∃ x, lkG ks k = some x := by
  cases z : lkG ks k with
  | some x => exact ⟨x, rfl⟩
  | none =>
    exfalso
    obtain ⟨x, h2, h3⟩ := List.mem_map.mp h
    unfold lkG at z
    rw [Option.map_eq_none_iff, List.find?_eq_none] at z
    exact z x h2 (decide_eq_true h3)
theorem lk_bld {b : Bk} (ok : b.Ok) {ks : List (List Key × Dt)} {l : List Nat} (h : ks.map (·.1) = l.map (bkey b)) (lt : ∀ x ∈ l, x < 2 ^ b.names.length) {y : Nat} (hy : y < 2 ^ b.names.length) : (lkG ks (bkey b y)).isSome = decide (y ∈ l) := by
  by_cases q : y ∈ l
  · obtain ⟨x, e⟩ := lk_some (ks := ks) (k := bkey b y) (by rw [h]; exact List.mem_map.mpr ⟨y, q, rfl⟩)
    rw [e, decide_eq_true q]
    rfl
  · rw [decide_eq_false q, lkG_none]
    · rfl
    · rw [h]
      intro z
      obtain ⟨m, h1, h2⟩ := List.mem_map.mp z
      exact q (bkey_inj ok (lt m h1) hy h2 ▸ h1)
theorem nbrs_behind {b : Bk} {m : Nat} : ∀ x ∈ b.nbrs m, b.lbehind (b.build m) (stepL x) = b.build x.2 ∧ (stepL x = [("take" : Str), x.1.2] ∨ stepL x = [("give" : Str), x.1.2]) := by
  intro x hx
  rcases List.mem_append.mp hx with q | q
  · obtain ⟨s, hs, rfl⟩ := List.mem_map.mp q
    obtain ⟨h1, h2⟩ := List.mem_filter.mp hs
    refine ⟨Bk.behind_take h1 ?_, .inl rfl⟩
    have h3 := (Bool.and_eq_true _ _).mp h2
    have h4 := of_decide_eq_true h3.1
    rw [← Bk.pos_bit]
    exact h4
  · obtain ⟨s, hs, rfl⟩ := List.mem_map.mp q
    obtain ⟨h1, h2⟩ := List.mem_filter.mp hs
    refine ⟨Bk.behind_give h1 ?_, .inr rfl⟩
    have h3 := (Bool.and_eq_true _ _).mp h2
    have h4 := of_decide_eq_true h3.1
    rw [← Bk.pos_bit]
    exact h4
/-- what the web's loop keeps -/
structure WbI (b : Bk) (q d : Addr) (l : List Nat) (M : Led) : Prop where
  dq : d ≠ q
  md : ∃ ks : List (List Key × Dt), M d = some (.dt ks) ∧ ks.map (·.1) = l.map (bkey b) ∧ ∀ x ∈ ks, ∃ i : Int, x.2 = .int i
  mq : M q = some (.lst (l.map fun m => tupS (b.build m)))
  nd : l.Nodup
  lt : ∀ x ∈ l, x < 2 ^ b.names.length
theorem WbI.len {b : Bk} (ok : b.Ok) {q d : Addr} {l : List Nat} {M : Led} (I : WbI b q d l M) : l.length ≤ 32 := nodup_below 32 l I.nd fun x hx => by
  have h1 := I.lt x hx
  have h2 := ok.nlen
  have h3 : 2 ^ b.names.length ≤ 2 ^ 5 := Nat.pow_le_pow_right (by decide) h2
  omega
def encX : Option ((Str × Str) × Nat) → Dt
  | some x => tupS (stepL x)
  | none => tupS ["reset"]
def webX (b : Bk) (m : Nat) : List (Option ((Str × Str) × Nat)) := (b.nbrs m).map some ++ (b.resets (b.build m)).map fun _ => none
theorem webX_enc (b : Bk) (m : Nat) : (((b.nbrs m).map stepL ++ b.resets (b.build m)).map tupS) = (webX b m).map encX := by
  unfold webX
  rw [List.map_append, List.map_append, List.map_map, List.map_map, List.map_map]
  congr 1
  unfold Bk.resets
  split <;> rfl
def nxs (pre : List (Option ((Str × Str) × Nat))) : List Nat := (pre.filterMap id).map (·.2)
theorem nxs_snoc (pre : List (Option ((Str × Str) × Nat))) (x : (Str × Str) × Nat) : nxs (pre ++ [some x]) = nxs pre ++ [x.2] := by
  unfold nxs
  rw [List.filterMap_append, List.map_append]
  rfl
theorem nxs_none (pre : List (Option ((Str × Str) × Nat))) : nxs (pre ++ [none]) = nxs pre := by
  unfold nxs
  rw [List.filterMap_append]
  exact congrArg _ (List.append_nil _)
theorem nxs_all (b : Bk) (m : Nat) : nxs (webX b m) = b.nb m := by
  unfold nxs webX
  rw [List.filterMap_append]
  have e1 : ((b.resets (b.build m)).map fun _ => (none : Option ((Str × Str) × Nat))).filterMap id = [] := by
    unfold Bk.resets
    split <;> rfl
  rw [e1, List.append_nil, List.filterMap_map]
  have e2 : (b.nbrs m).filterMap (id ∘ some) = b.nbrs m := by
    have : (id ∘ some : ((Str × Str) × Nat) → Option _) = some := rfl
    rw [this, List.filterMap_some]
  rw [e2]
  rfl

section
variable {P : Program} {w : World} {K : PySem.W.Frag} {mg : Str → Option Value} {base : Heap}

def n__law_web : List Str := ["_law_book_here", "_law_build", "_law_with_resets", "_law_line", "_law_found", "_law_at", "_law_step", "_law_later"]
def p__law_web : List Str := ["_law_book_here", "_law_build", "_law_with_resets"]
theorem sc__law_web : FnScope n__law_web p__law_web (defScope s__law_web) := ⟨rfl, rfl, rfl, by decide +kernel, rfl, by decide +kernel, by decide +kernel⟩
def R__law_web : List Dt → (Dt → Prop) → Prop := fun ds P => ∃ b : Bk, ds = [lawD b, tupS [], .bl false] ∧ b.Ok ∧ P = fun d => ∃ ks : List (List Key × Dt), d = .dt ks ∧ ks.map (·.1) = b.reach.map (bkey b)
theorem c__law_web (T : Tx K mg) : C8.Cal P w K mg base 6 "_law_web" (SpN (R__law_web)) [] := by
  obtain ⟨fd, F⟩ := T.f__law_web
  have c__law_steps := c__law_steps (P := P) (w := w) (base := base) T
  have c__law_behind := c__law_behind (P := P) (w := w) (base := base) T
  refine cal F T.g__law_web sc__law_web (fun _ _ _ _ _ _ us hl => match us, hl with | [_, _, _], _ => rfl) (spN_len (n := 3) (by first | (rintro _ _ ⟨_, rfl, _⟩; rfl))) fun cdv A outer s H E hr => ⟨_, (pss_cons (ps_par3 (i := 3) (j := 4) (l := 5) (by rfl) sc__law_web.nd rfl rfl rfl (by decide) (by decide) (by decide) rfl rfl rfl (pa_cons (pe_lst (pa_cons (pv 1) pa_nil)) (pa_cons ((Cr.pe_dispT (hu_of hr)) (pps_cons (pv 1) pe_int pps_nil) (by rfl) (by rfl) (fun z => by cases z) (by decide)) (pa_cons pe_int pa_nil))) (by rfl)) (pss_cons (ps_while PassesOwn.never (pt_cmpR op_lt (pv 5) (pe_callB (Kr.len (K := K) rfl) (by rfl) T.n_len (by decide +kernel) (pa_cons (pv 3) pa_nil)) (nomark _)) (pss_cons (ps_for PassesOwn.never rfl (Kr.seq (K := K) rfl (pe_c c__law_steps hr (by decide) (by rfl) (pa_cons (pv 0) (pa_cons (pe_ix (Kr.ix (K := K) rfl) (pv 3) (pv 5) (fun _ _ => rfl)) pa_nil)))) (pg_name (i := 6) sc__law_web.nd rfl (by first | exact Or.inl rfl | exact Or.inr rfl)) (pss_cons (ps_set (i := 7) sc__law_web.nd rfl (Or.inl rfl) (pe_c c__law_behind hr (by decide) (by rfl) (pa_cons (pv 0) (pa_cons (pe_ix (Kr.ix (K := K) rfl) (pv 3) (pv 5) (fun _ _ => rfl)) (pa_cons (pv 6) pa_nil))))) (pss_one (ps_if (PW.pt (pw_and (pt_cmp (pc_dnotin (hu_of hr) (pv 7) (pv 4))) (pw_and1 (PW.pt (pw_or (pt_val (pv 2)) (pw_or1 (pt_cmpR op_ne (pe_ix (Kr.ix (K := K) rfl) (pv 6) pe_int (fun _ _ => rfl)) pe_str (nomark _)))))))) (pss_cons (ps_dput (hu_of hr) (pv 4) (pv 7) (pe_op op_add (pe_dget (hu_of hr) (pv 4) (pe_ix (Kr.ix (K := K) rfl) (pv 3) (pv 5) (fun _ _ => rfl)) (fun _ _ => rfl)) pe_int) rfl) (pss_one (ps_expr (Kr.bm (K := K) rfl PySem.F.plainAttrs_list PySem.F.slot_list_append PySem.F.type_list_append mt_append (pv 3) (pa_cons (pv 7) pa_nil))))) pss_nil)))) (pss_one (ps_set (i := 5) sc__law_web.nd rfl (Or.inl rfl) (pe_op op_add (pv 5) pe_int))))) (pss_one (ps_ret (pv 4))))), ?_⟩
  intro vs Q h
  refine spN_of (N := n__law_web) (fun ds P hR => ?_) h
  obtain ⟨b, rfl, ok, rfl⟩ := hR
  refine run_seq (run_par3W (k := bkey b 0) (x := tupS []) (y := .int 0) (z := natD 0) (ev_var rfl) ((ev_var (d := tupS []) rfl).eq (by rw [← tupS_bkey, build_zero])) ev_int ev_int fun q d hq hd ne => ?_)
  refine run_seq (run_while (fun k δ M => ∃ l i o6 o7, δ = [some (lawD b), some (tupS []), some (.bl false), some (.adr q), some (.adr d), some (natD i), o6, o7] ∧ WbI b q d l M ∧ bfs b.nb (64 - i) l i = b.reach ∧ k = 64 - i) (m0 := 64) ⟨[0], 0, none, none, rfl, ⟨ne, ⟨[(bkey b 0, .int 0)], updM_same, rfl, ?_⟩, ?_, by simp, ?_⟩, rfl, rfl⟩ ?_)
  · intro x hx
    rw [List.mem_singleton.mp hx]
    exact ⟨0, rfl⟩
  · rw [updM_ne ne.symm, updM_same]
    show some (Dt.lst [tupS []]) = some (Dt.lst [tupS (b.build 0)])
    rw [build_zero]
  · intro x hx
    rw [List.mem_singleton.mp hx]
    exact Nat.two_pow_pos _
  rintro k δ M ⟨l, i, o6, o7, rfl, I, hb, rfl⟩
  have hl := I.len ok
  have ht : ∀ {δ' : Dst} {w : Str} {r : List Str}, δ'[6]? = some (some (tupS (w :: r))) → EvTD none (tTest (tOp rNe (tOp (rIx K) (tVar 6) (tC (.int 0))) (tC (.str "reset")))) δ' (!decide (w = "reset")) := fun h => et_test (ev_op (x := .str _) (y := .str "reset") (ev_op (x := tupS _) (ev_var h) ev_int (rv_ix (t := .t) (atI_nat (j := 0) rfl))) ev_str rv_neS)
  refine ⟨fun c => c = decide ((i : Int) < ((l.map fun m => tupS (b.build m)).length : Nat)), tz_fz (Fz.refl.set (i := 3) rfl I.mq) (et_test (ev_op (x := natD i) (y := .int ((l.map fun m => tupS (b.build m)).length : Nat)) (ev_var rfl) (ev_cb (xs := [seqD .l (l.map fun m => tupS (b.build m))]) (ea_cons (ev_var rfl) ea_nil) rc_len) rv_I0b)), fun hc => ?_, fun hc => ?_⟩
  · have hi : i < l.length := by
      have := of_decide_eq_true hc.symm
      rw [List.length_map] at this
      omega
    have hx := List.getElem?_eq_getElem hi
    generalize hxm : l[i] = m at hx
    have hmp : m < 2 ^ b.names.length := I.lt m (by rw [← hxm]; exact List.getElem_mem hi)
    have e64 : 64 - i = (64 - (i + 1)) + 1 := by omega
    rw [e64, bfs_step hx] at hb
    have hat : ∀ {l' : List Nat} {δ' : Dst}, l'[i]? = some m → δ'[3]? = some (some (.lst (l'.map fun m => tupS (b.build m)))) → δ'[5]? = some (some (natD i)) → EvD none (tOp (rIx K) (tVar 3) (tVar 5)) δ' (tupS (b.build m)) := fun h1 h2 h3 => ev_op (ev_var h2) (ev_var h3) (rv_ix (t := .l) (atI_map h1))
    refine run_seq (run_forL (vs := [6]) (webX b m) encX (fun pre δ M => ∃ o6 o7, δ = [some (lawD b), some (tupS []), some (.bl false), some (.adr q), some (.adr d), some (natD i), o6, o7] ∧ WbI b q d (bfsIn l (nxs pre)) M) (iz_seq ((ez_call (R := R__law_steps) (P := fun x => x = .lst ((webX b m).map encX)) (eza_cons (ez_of (ev_var (d := lawD b) rfl)) (eza_cons (ez_fz (P := fun x => x = tupS (b.build m)) (Fz.refl.set (i := 3) rfl I.mq) (hat hx rfl rfl) (fun x e => Sep.tt (by rw [e]; exact tt_tupS _))) eza_nil)) (fun ds hds => ?_)).imp fun x e => ⟨.l, _, rfl, e⟩)) ⟨o6, o7, rfl, I⟩ ?_ ?_)
    · obtain ⟨d1, es, e1, ⟨d2, es2, e2, e3, e4⟩, e5⟩ := hds
      exact ⟨_, ⟨b, m, by rw [e5, e4, e3, e1, e2], ok, hmp, rfl⟩, by rw [webX_enc]⟩
    · rintro pre x post δ1 M1 hs ⟨p6, p7, rfl, I1⟩
      refine ⟨_, bind_name, ?_⟩
      obtain ⟨ks, hk1, hk2, hk3⟩ := I1.md
      have hl1 := I1.len ok
      have hkl : ks.length = (bfsIn l (nxs pre)).length := by
        have := congrArg List.length hk2
        rw [List.length_map, List.length_map] at this
        exact this
      cases x with
      | none =>
        refine run_seq (run_set (P := fun e => e = tupS (b.lbehind (b.build m) ["reset"])) (ez_call (R := R__law_behind) (eza_cons (ez_of (ev_var (d := lawD b) rfl)) (eza_cons (ez_fz (P := fun x => x = tupS (b.build m)) (Fz.refl.set (i := 3) rfl I1.mq) (hat (bfsIn_get hx) rfl rfl) (fun x e => Sep.tt (by rw [e]; exact tt_tupS _))) (eza_cons (ez_of (ev_var (d := tupS ["reset"]) rfl)) eza_nil))) (fun ds hds => ?_)) fun e he => ?_)
        · obtain ⟨d1, es, e1, ⟨d2, es2, e2, ⟨d3, es3, e3, e4, e5⟩, e6⟩, e7⟩ := hds
          have hbl := Bk.build_len ok m
          exact ⟨_, ⟨b, _, ["reset"], by rw [e7, e6, e5, e4, e1, e2, e3], ok, by omega, .inl rfl, rfl⟩, rfl⟩
        subst he
        have e0 : b.lbehind (b.build m) ["reset"] = b.build 0 := by rw [build_zero]; rfl
        rw [e0]
        refine run_if (B := fun c => c = false) (tz_fz (Fz.refl.set (i := 4) rfl hk1) ?_) (fun hc2 => nomatch hc2) (fun hc2 => run_next ⟨_, _, rfl, by rw [nxs_none]; exact I1⟩)
        refine EvTD.eq (et_and (a := !(lkG ks (bkey b 0)).isSome) (b := false) ?_ fun _ => ?_) (Bool.and_false _)
        · exact et_B (ev_dnin (ev_var (d := tupS (b.build 0)) rfl) (ev_var rfl) (getD_bld b ks _))
        refine EvTD.eq (et_or (a := false) (b := false) (et_B (ev_var rfl)) fun _ => ?_) rfl
        exact EvTD.eq (ht (w := "reset") (r := []) rfl) (by decide +kernel)
      | some x =>
        have hxm : x ∈ b.nbrs m := by
          have h1 : some x ∈ webX b m := by rw [hs]; simp
          rcases List.mem_append.mp h1 with h | h
          · obtain ⟨y, h2, h3⟩ := List.mem_map.mp h
            cases h3
            exact h2
          · obtain ⟨y, _, h3⟩ := List.mem_map.mp h
            cases h3
        obtain ⟨e0, hst⟩ := nbrs_behind x hxm
        have hxp : x.2 < 2 ^ b.names.length := b.nb_pow hmp x.2 (List.mem_map.mpr ⟨x, hxm, rfl⟩)
        refine run_seq (run_set (P := fun e => e = tupS (b.lbehind (b.build m) (stepL x))) (ez_call (R := R__law_behind) (eza_cons (ez_of (ev_var (d := lawD b) rfl)) (eza_cons (ez_fz (P := fun x => x = tupS (b.build m)) (Fz.refl.set (i := 3) rfl I1.mq) (hat (bfsIn_get hx) rfl rfl) (fun x e => Sep.tt (by rw [e]; exact tt_tupS _))) (eza_cons (ez_of (ev_var (d := tupS (stepL x)) rfl)) eza_nil))) (fun ds hds => ?_)) fun e he => ?_)
        · obtain ⟨d1, es, e1, ⟨d2, es2, e2, ⟨d3, es3, e3, e4, e5⟩, e6⟩, e7⟩ := hds
          have hbl := Bk.build_len ok m
          exact ⟨_, ⟨b, _, stepL x, by rw [e7, e6, e5, e4, e1, e2, e3], ok, by omega, .inr ⟨_, hst⟩, rfl⟩, rfl⟩
        subst he
        rw [e0]
        have hstep : bfsIn l (nxs (pre ++ [some x])) = if x.2 ∈ bfsIn l (nxs pre) then bfsIn l (nxs pre) else bfsIn l (nxs pre) ++ [x.2] := by
          rw [nxs_snoc]
          exact bfsIn_snoc l (nxs pre) x.2
        have hne : decide (x.1.1 = "reset") = false := by
          rcases hst with h | h
          · have h4 : x.1.1 = "take" := (List.cons.inj h).1
            rw [h4]; decide +kernel
          · have h4 : x.1.1 = "give" := (List.cons.inj h).1
            rw [h4]; decide +kernel
        refine run_if (B := fun c => c = (!(lkG ks (bkey b x.2)).isSome && true)) (tz_fz (Fz.refl.set (i := 4) rfl hk1) ?_) (fun hc2 => ?_) (fun hc2 => run_next ?_)
        · refine et_and (a := !(lkG ks (bkey b x.2)).isSome) (b := true) ?_ fun _ => ?_
          · exact et_B (ev_dnin (ev_var (d := tupS (b.build x.2)) rfl) (ev_var rfl) (getD_bld b ks _))
          refine EvTD.eq (et_or (a := false) (b := true) (et_B (ev_var rfl)) fun _ => ?_) rfl
          exact EvTD.eq (ht (w := x.1.1) (r := [x.1.2]) rfl) (by rw [hne]; rfl)
  
        · rw [Bool.and_true, lk_bld ok hk2 I1.lt hxp] at hc2
          have hnm : x.2 ∉ bfsIn l (nxs pre) := by
            intro z
            rw [decide_eq_true z] at hc2
            cases hc2
          obtain ⟨y0, hy0⟩ := lk_some (ks := ks) (k := bkey b m) (by rw [hk2]; exact List.mem_map.mpr ⟨m, List.mem_of_getElem? (bfsIn_get hx), rfl⟩)
          obtain ⟨n0, hn0⟩ := hk3 _ (mem_of_lkG hy0)
          have hn0' : y0 = .int n0 := hn0
          subst hn0'
          refine run_seq (run_dputT (i := 4) (j := 7) (a := d) (k := bkey b x.2) (P := fun y => y = .int (n0 + 1)) rfl hk1 (by omega) (by rw [← tupS_bkey]; rfl) (ez_fz ((Fz.refl.set (i := 3) rfl I1.mq).set (i := 4) rfl hk1) (ev_op (x := .int n0) (y := .int 1) (ev_dget (ev_var rfl) (hat (bfsIn_get hx) rfl rfl) (by rw [getD_bld, hy0])) ev_int rv_I0i) (fun y e => Sep.flat (.inl (by rw [e]; exact fun z => nomatch z)))) fun y e => ?_)
          subst e
          refine run_append (a := q) (P := fun y => y = tupS (b.build x.2)) rfl (by rw [updM_ne I1.dq.symm]; exact I1.mq) (by rw [List.length_map]; omega) (ez_of (ev_var rfl)) fun z ez => ?_
          subst ez
          refine ⟨_, _, rfl, ?_⟩
          rw [hstep, if_neg hnm]
          have hk4 : putG ks (bkey b x.2) (.int (n0 + 1)) = ks ++ [(bkey b x.2, .int (n0 + 1))] := putG_new (by
            rw [hk2]
            intro z
            obtain ⟨m', h1, h2⟩ := List.mem_map.mp z
            exact hnm (bkey_inj ok (I1.lt m' h1) hxp h2 ▸ h1))
          refine ⟨I1.dq, ⟨_, by rw [updM_ne I1.dq, updM_same], ?_, ?_⟩, ?_, ?_, ?_⟩
          · rw [hk4, List.map_append, hk2, List.map_append]
            rfl
          · rw [hk4]
            intro z hz
            rcases List.mem_append.mp hz with h | h
            · exact hk3 z h
            · rw [List.mem_singleton.mp h]; exact ⟨_, rfl⟩
          · rw [updM_same, List.map_append]
            rfl
          · have := bfsIn_nodup [x.2] (bfsIn l (nxs pre)) I1.nd
            rw [show bfsIn (bfsIn l (nxs pre)) [x.2] = (if x.2 ∈ bfsIn l (nxs pre) then bfsIn l (nxs pre) else bfsIn l (nxs pre) ++ [x.2]) from rfl, if_neg hnm] at this
            exact this
          · intro z hz
            rcases List.mem_append.mp hz with h | h
            · exact I1.lt z h
            · rw [List.mem_singleton.mp h]; exact hxp
        · rw [Bool.and_true, lk_bld ok hk2 I1.lt hxp] at hc2
          have hnm : x.2 ∈ bfsIn l (nxs pre) := by
            by_cases z : x.2 ∈ bfsIn l (nxs pre)
            · exact z
            · rw [decide_eq_false z] at hc2
              cases hc2
          refine ⟨_, _, rfl, ?_⟩
          rw [hstep, if_pos hnm]
          exact I1
    · rintro δ1 M1 ⟨p6, p7, rfl, I1⟩
      rw [nxs_all] at I1
      refine run_set (P := fun e => e = natD (i + 1)) (ez_of (ev_op (x := natD i) (y := .int 1) (ev_var rfl) ev_int rv_I0i)) fun e he => ?_
      subst he
      exact ⟨64 - (i + 1), by omega, _, i + 1, p6, p7, rfl, I1, hb, rfl⟩
  · have hi : l.length ≤ i := by
      have := of_decide_eq_false hc.symm
      rw [List.length_map] at this
      omega
    rw [bfs_end hi] at hb
    obtain ⟨ks, hk1, hk2, _⟩ := I.md
    exact run_retO (i := 4) rfl hk1 (fun z => z) ⟨ks, rfl, by rw [hk2, hb]⟩
end
end Rt
end

section
set_option Elab.async false
set_option linter.all false
set_option maxRecDepth 100000
set_option maxHeartbeats 4000000

namespace Rt
open PySem PySem.Spec PyProof.Rows L2 Ab C8
local macro_rules | `(tactic| walk_at "rv") => `(tactic| first
  | exact rv_I0i | exact rv_I0b | exact rv_eqI | exact rv_eqS | exact rv_neI | exact rv_neS | exact rv_eqB | exact rv_inS (t := .t) | exact rv_inS (t := .l) | exact rv_inI (t := .t) | exact rv_inI (t := .l) | exact rv_ninS (t := .t) | exact rv_ninS (t := .l) | exact rv_ninI (t := .t) | exact rv_ninI (t := .l) | exact rv_isN rfl | exact rv_notN rfl | exact rv_eqTI | exact rv_neTI | exact rv_eqLI | exact rv_neTS | exact rv_eqLTS | exact rv_neLTI | exact rv_sign)
local macro_rules | `(tactic| walk_at "ev") => `(tactic| first
  | exact ev_var rfl | exact ev_int | exact ev_str | exact ev_bl | exact ev_non | exact ev_ty | exact ea_nil | exact et_yes
  | ((with_reducible refine ev_op ?_ ?_ ?_) <;> walk_at "ev")
  | ((with_reducible refine ea_cons ?_ ?_) <;> walk_at "ev")
  | ((with_reducible refine ev_and ?_ ?_) <;> walk_at "ev")
  | ((with_reducible refine ev_or ?_ ?_) <;> walk_at "ev")
  | (with_reducible refine ev_not ?_; walk_at "ev")
  | (with_reducible refine ev_tup ?_; walk_at "ev")
  | (with_reducible refine ev_lst ?_; walk_at "ev")
  | (with_reducible refine et_not ?_; walk_at "ev")
  | ((with_reducible refine et_and ?_ ?_) <;> walk_at "ev")
  | ((with_reducible refine et_or ?_ ?_) <;> walk_at "ev")
  | (with_reducible refine et_test ?_; walk_at "ev")
  | (with_reducible refine et_B ?_; walk_at "ev")
  | (with_reducible refine fun (_ : _ = _) => ?_; walk_at "ev")
  | walk_at "rv"
  | skip)


theorem cutFrom {α : Type} (xs : List α) (f : α → Dt) {k : Nat} (hk : k ≤ xs.length) : Ab.cutD (xs.map f) (some (k : Int)) none = (xs.drop k).map f := by
  unfold Ab.cutD
  have e : HT.sIx (xs.map f).length 0 (some (k : Int)) = min k (xs.map f).length := HT.sIx_nat _ _ k
  rw [e, HT.sIx_none, List.length_map, Nat.min_eq_left hk, List.map_drop]
  exact List.take_of_length_le (by rw [List.length_drop, List.length_map]; omega)
def lowS (ns : List Str) (bl : List Str) : Nat := match bl.getLast? with
  | some s => ns.idxOf s + 1
  | none => 0
def ext (ns : List Str) (bl : List Str) : List (List Str) := (ns.drop (lowS ns bl)).map fun n => bl ++ [n]
def lev (ns : List Str) : Nat → List (List Str)
  | 0 => [[]]
  | k + 1 => (lev ns k).flatMap (ext ns)
def subsK (ns : List Str) (k : Nat) : List (List Str) := (List.range (k + 1)).flatMap (lev ns)
def subs (ns : List Str) : List (List Str) := subsK ns ns.length
theorem subsK_succ (ns : List Str) (k : Nat) : subsK ns (k + 1) = subsK ns k ++ lev ns (k + 1) := by
  unfold subsK
  rw [List.range_succ, List.flatMap_append]
  congr 1
  exact List.append_nil _
theorem flat_len {α β : Type} (f : α → List β) {c : Nat} (h : ∀ x, (f x).length ≤ c) : ∀ xs : List α, (xs.flatMap f).length ≤ c * xs.length
  | [] => Nat.le_refl _
  | x :: xs => by
    rw [List.flatMap_cons, List.length_append, List.length_cons, Nat.mul_succ]
    have h1 := h x
    have h2 := flat_len f h xs
    omega
theorem ext_len {ns : List Str} (hn : ns.length ≤ 5) (bl : List Str) : (ext ns bl).length ≤ 5 := by
  unfold ext
  rw [List.length_map, List.length_drop]
  omega
theorem lev_len {ns : List Str} (hn : ns.length ≤ 5) : ∀ k, (lev ns k).length ≤ 5 ^ k
  | 0 => Nat.le_refl _
  | k + 1 => by
    have h1 := flat_len (ext ns) (ext_len hn) (lev ns k)
    have h2 := lev_len hn k
    show ((lev ns k).flatMap (ext ns)).length ≤ 5 ^ (k + 1)
    rw [Nat.pow_succ]
    omega
theorem lev_len5 {ns : List Str} (hn : ns.length ≤ 5) {k : Nat} (hk : k ≤ 5) : (lev ns k).length ≤ 3125 := by
  have h1 := lev_len hn k
  have h2 : 5 ^ k ≤ 5 ^ 5 := Nat.pow_le_pow_right (by decide) hk
  omega
theorem subsK_len {ns : List Str} (hn : ns.length ≤ 5) : ∀ {k : Nat}, k ≤ 5 → (subsK ns k).length ≤ 3125 * (k + 1)
  | 0, _ => by show 1 ≤ 3125 * (0 + 1); decide
  | k + 1, hk => by
    rw [subsK_succ, List.length_append]
    have h1 := subsK_len hn (k := k) (by omega)
    have h2 := lev_len5 hn hk
    omega
theorem lev_in (ns : List Str) : ∀ k, ∀ bl ∈ lev ns k, bl.length = k ∧ ∀ s ∈ bl, s ∈ ns
  | 0, bl, h => by
    rw [List.mem_singleton.mp h]
    exact ⟨rfl, fun s hs => nomatch hs⟩
  | k + 1, bl, h => by
    obtain ⟨x, hx, h2⟩ := List.mem_flatMap.mp h
    obtain ⟨n, hn, rfl⟩ := List.mem_map.mp h2
    obtain ⟨h3, h4⟩ := lev_in ns k x hx
    refine ⟨by rw [List.length_append, h3]; rfl, fun s hs => ?_⟩
    rcases List.mem_append.mp hs with q | q
    · exact h4 s q
    · rw [List.mem_singleton.mp q]
      exact List.mem_of_mem_drop hn
theorem lowS_snoc (ns i : List Str) (x : Str) : lowS ns (i ++ [x]) = ns.idxOf x + 1 := by
  unfold lowS
  rw [List.getLast?_concat]
theorem lowS_le (ns bl : List Str) (h : ∀ s ∈ bl, s ∈ ns) : lowS ns bl ≤ ns.length := by
  rcases List.eq_nil_or_concat bl with rfl | ⟨i, x, rfl⟩
  · exact Nat.zero_le _
  · rw [List.concat_eq_append] at h ⊢
    rw [lowS_snoc]
    exact List.idxOf_lt_length_of_mem (h x (by simp))
/-- the rows of indexes, by size -/
def lvI (n : Nat) : Nat → List (List Int)
  | 0 => [[]]
  | k + 1 => (lvI n k).flatMap fun row => (rangeI (lowOf row) ((n : Int) - lowOf row).toNat).map fun i => row ++ [i]
theorem lvI_sets (n : Nat) : ∀ k, lvI n k = setsOf k n
  | 0 => rfl
  | k + 1 => by
    show (lvI n k).flatMap _ = (setsOf k n).flatMap _
    rw [lvI_sets n k]
def sets2 (n k : Nat) : List (List Int) := (List.range (k + 1)).flatMap fun k => setsOf k n
theorem sets2_succ (n k : Nat) : sets2 n (k + 1) = sets2 n k ++ setsOf (k + 1) n := by
  unfold sets2
  rw [List.range_succ, List.flatMap_append]
  congr 1
  exact List.append_nil _
theorem sets2_len {n k : Nat} (hn : n ≤ 4) : k ≤ 5 → (sets2 n k).length ≤ 100 * (k + 1) := by
  induction k with
  | zero => intro _; show ((setsOf 0 n) ++ []).length ≤ _; rw [List.append_nil]; exact sets_small (by omega) hn
  | succ k ih =>
    intro hk
    rw [sets2_succ, List.length_append]
    have := ih (by omega)
    have := sets_small hk hn
    omega

section
variable {P : Program} {w : World} {K : PySem.W.Frag} {mg : Str → Option Value} {base : Heap}

def n__law_subsets : List Str := ["_law_book_here", "_law_names_here", "_law_found", "_law_level", "_law_turn", "_law_longer", "_law_build", "_law_low", "_law_name"]
def p__law_subsets : List Str := ["_law_book_here"]
theorem sc__law_subsets : FnScope n__law_subsets p__law_subsets (defScope s__law_subsets) := ⟨rfl, rfl, rfl, by decide +kernel, rfl, by decide +kernel, by decide +kernel⟩
def R__law_subsets : List Dt → Dt → Prop := fun ds d => ∃ b : Bk, ds = [lawD b] ∧ b.Ok ∧ d = .lst ((subs b.names).map tupS)
theorem c__law_subsets (T : Tx K mg) : C8.Cal P w K mg base 2 "_law_subsets" (SpD (R__law_subsets)) [] := by
  obtain ⟨fd, F⟩ := T.f__law_subsets
  have c__law_names := c__law_names (P := P) (w := w) (base := base) T
  refine cal F T.g__law_subsets sc__law_subsets (fun _ _ _ _ _ _ us hl => match us, hl with | [_], _ => rfl) (spD_len (n := 1) (by first | (rintro _ _ ⟨_, rfl, _⟩; rfl))) fun cdv A outer s H E hr => ⟨_, (pss_cons (ps_set (i := 1) sc__law_subsets.nd rfl (Or.inl rfl) (pe_c c__law_names hr (by decide) (by rfl) (pa_cons (pv 0) pa_nil))) (pss_cons (ps_par (i := 2) (j := 3) (by rfl) sc__law_subsets.nd rfl rfl (by decide) rfl rfl (pa_cons (pe_lst (pa_cons (pe_tup pa_nil) pa_nil)) (pa_cons (pe_lst (pa_cons (pe_tup pa_nil) pa_nil)) pa_nil)) (by rfl)) (pss_cons (ps_for PassesOwn.never rfl (pi_range1 (by rfl) T.n_range (pa_cons (pe_callB (Kr.len (K := K) rfl) (by rfl) T.n_len (by decide +kernel) (pa_cons (pv 1) pa_nil)) pa_nil)) (pg_name (i := 4) sc__law_subsets.nd rfl (by first | exact Or.inl rfl | exact Or.inr rfl)) (pss_cons (ps_set (i := 5) sc__law_subsets.nd rfl (Or.inl rfl) (pe_lst pa_nil)) (pss_cons (ps_for PassesOwn.never rfl (Kr.seq (K := K) rfl (pv 3)) (pg_name (i := 6) sc__law_subsets.nd rfl (by first | exact Or.inl rfl | exact Or.inr rfl)) (pss_cons (ps_set (i := 7) sc__law_subsets.nd rfl (Or.inl rfl) (pe_ifExp (pt_cmpR (Kr.neP (K := K) rfl hr.units) (pv 6) (pe_tup pa_nil) (nomark _)) (pe_op op_add (Kr.bm (K := K) rfl PySem.F.plainAttrs_list PySem.F.slot_list_index PySem.F.type_list_index (Kr.index (K := K) rfl) (pv 1) (pa_cons (pe_ix (Kr.ix (K := K) rfl) (pv 6) (pe_un un_neg pe_int) (fun _ _ => rfl)) pa_nil)) pe_int) pe_int)) (pss_one (ps_set (i := 5) sc__law_subsets.nd rfl (Or.inl rfl) (pe_op op_cat (pv 5) (pe_lc (own := [("_law_name", 8)]) rfl sc__law_subsets.nd (Kr.seq (K := K) rfl (pe_slice (Kr.sl (K := K) rfl) (pv 1) (po_some (pv 7)) po_none)) (blkOk_by (own := [("_law_name", 8)]) (N := n__law_subsets) (sc := defScope s__law_subsets) (by decide +kernel)) (fun _ _ _ _ _ => (pg_name (i := 8) sc__law_subsets.nd rfl (by first | exact Or.inl rfl | exact Or.inr rfl))) (fun _ _ _ _ _ => pts_nil) (fun _ _ _ _ _ => (pe_op (Kr.catT (K := K) rfl) (pv 6) (pe_tup (pa_cons (pv 8) pa_nil)))))))))) (pss_one (ps_par (i := 2) (j := 3) (by rfl) sc__law_subsets.nd rfl rfl (by decide) rfl rfl (pa_cons (pe_op op_cat (pv 2) (pv 5)) (pa_cons (pv 5) pa_nil)) (by rfl)))))) (pss_one (ps_ret (pv 2)))))), ?_⟩
  intro vs Q h
  refine spD_of (N := n__law_subsets) (fun ds d hR => ?_) h
  obtain ⟨b, rfl, ok, rfl⟩ := hR
  have hn := ok.nlen
  have hnd := ok.nod
  refine run_setD (d := lstS b.names) (ev_call (ds := [lawD b]) (ea_cons (ev_var rfl) ea_nil) ⟨b, rfl, ok, rfl⟩) ?_
  have e1 : ∀ {δ : Dst}, EvD none (tLst (tCons (tTup tNil) tNil)) δ (.lst ([[]].map tupS)) := ev_lst (xs := [tupS []]) (ea_cons (ev_tup ea_nil) ea_nil)
  refine run_seq (run_par (T := fun d e => d = .lst ((subsK b.names 0).map tupS) ∧ e = .lst ((lev b.names 0).map tupS)) (show EvA none _ _ _ from fun σ Hk H s k o' Q q => (ea_cons e1 (ea_cons e1 ea_nil)) σ Hk H s k o' Q fun vs xs Hk' H' g o2 e2 r => q vs xs Hk' H' g o2 ⟨_, _, ⟨rfl, rfl⟩, e2⟩ r) fun d e ⟨e1, e2⟩ => ?_)
  subst e1 e2
  refine run_seq (run_forL (vs := [4]) (List.range b.names.length) natD (fun pre δ M => ∃ o4 o5 o6 o7 o8, δ = [some (lawD b), some (lstS b.names), some (.lst ((subsK b.names pre.length).map tupS)), some (.lst ((lev b.names pre.length).map tupS)), o4, o5, o6, o7, o8] ∧ M = noM) (iz_of (fun σ Hk H s k o' R q => ei_rng1 (j := ((b.names.length : Nat) : Int)) (ea_cons ((ev_cb (xs := [seqD .l (b.names.map Dt.str)]) (ea_cons (ev_var rfl) ea_nil) rc_len).eq (by rw [List.length_map])) ea_nil) (by omega) (by omega) σ Hk H s k o' R fun J ds Hk' H' g o2 e2 w => q J ds Hk' H' g o2 (by rw [e2, Int.toNat_natCast]; exact rng_nat _) w)) ⟨_, _, _, _, _, rfl, rfl⟩ ?_ ?_)
  · rintro pre x post δ1 M1 hs ⟨o4, o5, o6, o7, o8, rfl, rfl⟩
    have hpl : pre.length < b.names.length := by
      have := congrArg List.length hs
      rw [List.length_range, List.length_append, List.length_cons] at this
      omega
    have h5 := lev_len5 hn (show pre.length ≤ 5 by omega)
    have h6 := subsK_len hn (show pre.length ≤ 5 by omega)
    refine ⟨_, bind_name, ?_⟩
    refine run_setD (d := .lst []) (ev_lst ea_nil) ?_
    refine run_seq (run_forL (vs := [6]) (lev b.names pre.length) tupS (fun pre2 δ M => ∃ o6 o7 o8, δ = [some (lawD b), some (lstS b.names), some (.lst ((subsK b.names pre.length).map tupS)), some (.lst ((lev b.names pre.length).map tupS)), some (natD x), some (.lst ((pre2.flatMap (ext b.names)).map tupS)), o6, o7, o8] ∧ M = noM) (iz_of (ei_lst (ev_var rfl))) ⟨_, _, _, rfl, rfl⟩ ?_ ?_)
    · rintro pre2 bl post2 δ2 M2 hs2 ⟨o6, o7, o8, rfl, rfl⟩
      obtain ⟨hb1, hb2⟩ := lev_in b.names pre.length bl (by rw [hs2]; simp)
      have hp2 : pre2.length ≤ 3125 := by
        have := congrArg List.length hs2
        rw [List.length_append] at this
        omega
      have hfl := flat_len (ext b.names) (ext_len hn) pre2
      have hel := ext_len hn bl
      have hlow := lowS_le b.names bl hb2
      refine ⟨_, bind_name, ?_⟩
      refine run_setD (d := natD (lowS b.names bl)) ((ev_if (b := !decide (bl = [])) (x := natD (lowS b.names bl)) (y := .int 0) (et_test (ev_op (x := tupS bl) (y := tupS []) (ev_var rfl) (ev_tup ea_nil) rv_neTS)) (fun e => ?_) (fun _ => ev_int)).eq ?_) ?_
      · rcases List.eq_nil_or_concat bl with rfl | ⟨i, z, rfl⟩
        · cases e
        rw [List.concat_eq_append] at hb2 ⊢
        have hz := hb2 z (by simp)
        have hj := List.idxOf_lt_length_of_mem hz
        have hg : b.names[b.names.idxOf z]? = some z := by rw [List.getElem?_eq_getElem hj, List.getElem_idxOf]
        exact (ev_op (x := .int ((b.names.idxOf z : Nat) : Int)) (y := .int 1) (ev_index (ss := b.names) (ev_var rfl) (ea_cons (ev_op (x := tupS (i ++ [z])) (y := .int (-1)) (ev_var rfl) (ev_un (x := .int 1) ev_int (fun u Hk H r k o Q q => by cases r; exact ⟨1, rfl, q (.int (-1)) Hk H (.refl k) o (.int _)⟩)) (rv_ix (t := .t) (by rw [List.map_append]; exact atI_last _ _))) ea_nil) hg (fun m hm hc => by
          have := (List.getElem?_inj (Nat.lt_trans hm hj) hnd).mp (hc.trans hg.symm)
          omega)) ev_int rv_I0i).eq (by rw [lowS_snoc]; rfl)
      · by_cases e : bl = []
        · subst e; rfl
        · rw [decide_eq_false e]; rfl
      refine run_set (P := fun d => d = .lst (((pre2 ++ [bl]).flatMap (ext b.names)).map tupS)) (ez_of ((ev_op (x := .lst ((pre2.flatMap (ext b.names)).map tupS)) (y := .lst ((ext b.names bl).map tupS)) (ev_var rfl) ((ev_lc0 (b.names.drop (lowS b.names bl)) Dt.str (fun n => tupS (bl ++ [n])) (ei_lst ((ev_slice (ev_var rfl) (eo_some (ev_var rfl)) eo_none).eq (by rw [cutFrom _ _ hlow]))) (fun n hn' => ⟨_, bind_name, (ev_op (x := .tup (bl.map Dt.str)) (y := .tup [.str n]) (ev_var rfl) (ev_tup (ea_cons (ev_var rfl) ea_nil)) (rv_catT (by rw [List.length_map, List.length_singleton]; omega))).eq (by unfold tupS; rw [List.map_append]; rfl)⟩) (by rw [List.length_drop]; omega)).eq (by unfold ext; rw [List.map_map]; rfl)) (rv_catL (by rw [List.length_map, List.length_map]; omega))).eq (by rw [List.flatMap_append, List.flatMap_cons, List.flatMap_nil, List.append_nil, List.map_append]))) fun d e => ?_
      subst e
      exact ⟨_, _, _, rfl, rfl⟩
    · rintro δ2 M2 ⟨o6, o7, o8, rfl, rfl⟩
      have e3 : (pre ++ [x]).length = pre.length + 1 := by rw [List.length_append]; rfl
      have h7 := lev_len5 hn (show pre.length + 1 ≤ 5 by omega)
      refine run_par (T := fun d e => d = .lst ((subsK b.names (pre.length + 1)).map tupS) ∧ e = .lst ((lev b.names (pre.length + 1)).map tupS)) (show EvA none _ _ _ from fun σ Hk H s k o' Q q => (ea_cons ((ev_op (ev_var rfl) (ev_var rfl) (rv_catL (by rw [List.length_map, List.length_map]; exact (by have : (lev b.names (pre.length + 1)).length ≤ 3125 := h7; omega : (subsK b.names pre.length).length + (lev b.names (pre.length + 1)).length ≤ 100000)))).eq (show _ = Dt.lst ((subsK b.names (pre.length + 1)).map tupS) by rw [subsK_succ, List.map_append]; rfl)) (ea_cons (ev_var rfl) ea_nil)) σ Hk H s k o' Q fun vs xs Hk' H' g o2 e2 r => q vs xs Hk' H' g o2 ⟨_, _, ⟨rfl, rfl⟩, e2⟩ r) fun d e ⟨e1, e2⟩ => ?_
      subst e1 e2
      rw [e3]
      exact ⟨_, _, _, _, _, rfl, rfl⟩
  · rintro δ1 M1 ⟨o4, o5, o6, o7, o8, rfl, rfl⟩
    rw [List.length_range]
    exact run_retD (ev_var rfl)
end
end Rt
end

section
set_option Elab.async false
set_option linter.all false
set_option maxRecDepth 100000
set_option maxHeartbeats 4000000
namespace Rt
open PySem PySem.Spec PyProof.Rows L2 Ab C8
theorem sub_lev {ns : List Str} : ∀ (k : Nat) (s : List Str), s.length = k → s.Sublist ns → s ∈ lev ns k
  | 0, s, h, _ => by
    rw [List.eq_nil_of_length_eq_zero h]
    exact List.mem_singleton.mpr rfl
  | k + 1, s, h, hs => by
    rcases List.eq_nil_or_concat s with rfl | ⟨t, x, rfl⟩
    · cases h
    rw [List.concat_eq_append] at h hs ⊢
    rw [List.length_append] at h
    have ht : t.Sublist ns := (List.sublist_append_left t [x]).trans hs
    refine List.mem_flatMap.mpr ⟨t, sub_lev k t (by simpa using h) ht, List.mem_map.mpr ⟨x, ?_, rfl⟩⟩
    rcases List.eq_nil_or_concat t with rfl | ⟨i, z, rfl⟩
    · exact hs.subset (by simp)
    rw [List.concat_eq_append] at hs ⊢
    rw [lowS_snoc]
    have h2 : List.Sublist [z, x] ns := by
      refine List.Sublist.trans ?_ hs
      rw [List.append_assoc]
      exact List.sublist_append_right i [z, x]
    obtain ⟨r1, r2, e, h3, h4⟩ := List.cons_sublist_iff.mp h2
    have h5 : ns.idxOf z = r1.idxOf z := by
      rw [e, List.idxOf_append, if_pos h3]
    have h6 := List.idxOf_lt_length_of_mem h3
    rw [h5, e, List.drop_append]
    refine List.mem_append_right _ ?_
    rw [show r1.idxOf z + 1 - r1.length = 0 from by omega]
    exact h4.subset (by simp)
theorem sub_subs {ns s : List Str} (h : s.Sublist ns) : s ∈ subs ns :=
  List.mem_flatMap.mpr ⟨s.length, List.mem_range.mpr (Nat.lt_succ_of_le h.length_le), sub_lev s.length s rfl h⟩
def Bk.reachedL (b : Bk) : List (List Str) := (subs b.names).filter fun s => decide (s ∈ b.reach.map b.build)
theorem Bk.build_subs (b : Bk) (m : Nat) : b.build m ∈ subs b.names := sub_subs List.filter_sublist
theorem nodup_perm {α : Type} [DecidableEq α] {l m : List α} (hl : l.Nodup) (hm : m.Nodup) (h : ∀ x, x ∈ l ↔ x ∈ m) : l.Perm m := by
  rw [List.perm_iff_count]
  intro x
  rw [hl.count, hm.count]
  by_cases q : x ∈ l
  · rw [if_pos q, if_pos ((h x).mp q)]
  · rw [if_neg q, if_neg fun z => q ((h x).mpr z)]
theorem Bk.goal_mem (b : Bk) {m : Nat} : ((m : Nat) : Int) ∈ b.goal ↔ m ∈ b.reach := by
  rw [b.goal_perm.mem_iff]
  constructor
  · intro h
    obtain ⟨n, h1, h2⟩ := List.mem_map.mp h
    rw [← show n = m from by omega]
    exact h1
  · exact fun h => List.mem_map.mpr ⟨m, h, rfl⟩
theorem Bk.goal_of_reach {b c : Bk} (h : ∀ m, m ∈ b.reach ↔ m ∈ c.reach) : b.goal = c.goal := by
  have hp : b.reach.Perm c.reach := nodup_perm b.reach_nd c.reach_nd h
  exact PySem.W.ksm_same (b.goal_perm.trans ((hp.map _).trans c.goal_perm.symm)) (srtI_up _) (srtI_up _)
theorem Bk.build_names {b c : Bk} (h : b.names = c.names) (m : Nat) : b.build m = c.build m := by
  unfold Bk.build Bk.bit
  rw [h]
theorem Bk.reached_iff {b c : Bk} (okb : b.Ok) (okc : c.Ok) (h : b.names = c.names) : b.reachedL = c.reachedL ↔ b.goal = c.goal := by
  have key : ∀ {b c : Bk}, b.Ok → c.Ok → b.names = c.names → b.reachedL = c.reachedL → ∀ m, m ∈ b.reach → m ∈ c.reach := by
    intro b c okb okc h e m hm
    have h1 : b.build m ∈ b.reachedL := List.mem_filter.mpr ⟨b.build_subs m, decide_eq_true (List.mem_map.mpr ⟨m, hm, rfl⟩)⟩
    rw [e] at h1
    obtain ⟨n, h2, h3⟩ := List.mem_map.mp (of_decide_eq_true (List.mem_filter.mp h1).2)
    rw [← Bk.build_names h] at h3
    have h4 := c.reach_pow n h2
    rw [← h] at h4
    rw [← Bk.build_inj okb h4 (b.reach_pow m hm) (fun s q => h3 ▸ q) (fun s q => h3 ▸ q)]
    exact h2
  constructor
  · intro e
    exact Bk.goal_of_reach fun m => ⟨key okb okc h e m, key okc okb h.symm e.symm m⟩
  · intro e
    unfold Bk.reachedL
    rw [h]
    apply List.filter_congr
    intro s hs
    apply decide_eq_decide.mpr
    constructor
    · intro q
      obtain ⟨m, h1, h2⟩ := List.mem_map.mp q
      exact List.mem_map.mpr ⟨m, c.goal_mem.mp (e ▸ b.goal_mem.mpr h1), by rw [← Bk.build_names h]; exact h2⟩
    · intro q
      obtain ⟨m, h1, h2⟩ := List.mem_map.mp q
      exact List.mem_map.mpr ⟨m, b.goal_mem.mp (e ▸ c.goal_mem.mpr h1), by rw [Bk.build_names h]; exact h2⟩
def d0 : Wt := ⟨.all, ⟨#[]⟩, []⟩
def Bk.wtAt (b : Bk) (i : Int) : Wt := b.wt.getD i.toNat d0
/-- the book with just these wants -/
def Bk.withW (b : Bk) (row : List Int) : Bk := { b with wt := row.map b.wtAt }
theorem rows_asc : ∀ n : Fin 5, ∀ row ∈ allSets n.1, (List.range n.1).filter (fun i => decide (((i : Nat) : Int) ∈ row)) = row.map Int.toNat := by decide +kernel
theorem rows_bd : ∀ n : Fin 5, ∀ row ∈ allSets n.1, row.length ≤ 4 ∧ ∀ i ∈ row, 0 ≤ i ∧ i < ((n.1 : Nat) : Int) := by decide +kernel
theorem zipIdx_range {α : Type} (xs : List α) (d : α) : xs.zipIdx = (List.range xs.length).map fun i => (xs.getD i d, i) := by
  apply List.ext_getElem
  · simp
  · intro i h1 h2
    simp at h1
    simp [List.getElem?_eq_getElem h1]
theorem Bk.cut_with {b : Bk} (ok : b.Ok) {row : List Int} (h : row ∈ allSets b.wt.length) : b.cut row = b.withW row := by
  have hw := ok.wl
  have e1 := rows_asc ⟨b.wt.length, by omega⟩ row h
  unfold Bk.cut Bk.withW
  congr 1
  rw [zipIdx_range b.wt d0, List.filter_map, List.map_map]
  have e2 : ((fun x : Wt × Nat => decide (((x.2 : Nat) : Int) ∈ row)) ∘ fun i => (b.wt.getD i d0, i)) = fun i => decide (((i : Nat) : Int) ∈ row) := rfl
  rw [e2]
  have e3 : (List.range b.wt.length).filter (fun i => decide (((i : Nat) : Int) ∈ row)) = row.map Int.toNat := e1
  rw [e3, List.map_map]
  rfl
theorem Bk.withW_ok {b : Bk} (ok : b.Ok) {row : List Int} (h : row ∈ allSets b.wt.length) : (b.withW row).Ok := by
  rw [← Bk.cut_with ok h]
  exact Bk.cut_ok ok row
end Rt
end

section
set_option Elab.async false
set_option linter.all false
set_option maxRecDepth 100000
set_option maxHeartbeats 4000000
/-! list(d.items()). -/
namespace Ab
open PySem PySem.Spec PyProof.Rows L2 C8 Cr
section
variable {p : Option Addr} {δ : Dst} {te : TE}
theorem paired_rps {H : Hp} : ∀ {ts : List Addr} {kvs : List (Key × V)} {ks : List (Key × Dt)}, Paired (fun (t : Addr) (q : Key × V) => H t = some (.tup [kV q.1, q.2])) ts kvs → KRp H kvs ks → Rps H (ts.map V.ref) (ks.map prD)
  | _, _, _, .nil, .nil => .nil
  | _, _, _, .cons a b, r => by
    cases r with
    | @cons k v d kvs ks r c => exact .cons (.tup a (.cons (by cases k with
      | inl i => exact .int i
      | inr s => exact .str s) (.cons r .nil))) (paired_rps b c)
/-- list(d.items()) -/
theorem ev_listItems {ks : List (Key × Dt)} (h : EvD p te δ (.dk ks)) : EvD p (LiI.tListItems te) δ (.lst (ks.map prD)) := fun σ Hk H s k o Q q =>
  h σ Hk H s k o _ fun v d H1k H1 g1 o1 e r => by
    subst e
    obtain ⟨a, kvs, e, e1, kr⟩ := r.dk_inv
    subst e
    refine ⟨a, kvs, rfl, g1.kh _ _ e1, fun H' b ts hk hb ht hnt hb' hp => ?_⟩
    have free : ∀ c, (c = b ∨ c ∈ ts) → H1 c = none := fun c z => z.elim (fun z => by rw [z]; exact hb) (ht c)
    let Hk' : Hp := fun c => if c = b ∨ c ∈ ts then H' c else H1k c
    have old : ∀ c, ¬ (c = b ∨ c ∈ ts) → Hk' c = H1k c := fun c z => if_neg z
    have new : ∀ c, (c = b ∨ c ∈ ts) → Hk' c = H' c := fun c z => if_pos z
    have kk : Kn H1k Hk' := fun c u e => by
      rw [old c fun z => by have := g1.kh _ _ e; rw [free c z] at this; cases this]
      exact e
    have G : Grow noF H1k H1 Hk' H' := by
      refine ⟨kk, fun c u _ e => hk c u e, fun c e => ?_, fun c u e => ?_, fun c e => ?_⟩
      · cases y : H1 c with
        | none => exact absurd y e
        | some u => rw [hk c u y]; exact fun z => nomatch z
      · by_cases z : c = b ∨ c ∈ ts
        · rw [new c z] at e; exact e
        · rw [old c z] at e; exact hk c u (g1.kh _ _ e)
      · by_cases z : c = b ∨ c ∈ ts
        · exact .inr (free c z)
        · rw [old c z] at e; exact .inl e
    refine q (.ref b) _ Hk' H' (g1.trans G.up) (o1.grow G) rfl (.lst (by rw [new b (.inl rfl)]; exact hb') ?_)
    refine paired_rps ?_ (kr.mono kk)
    have : ∀ {us : List Addr} {ws : List (Key × V)}, (∀ t ∈ us, t ∈ ts) → Paired (fun (t : Addr) (q : Key × V) => H' t = some (.tup [kV q.1, q.2])) us ws → Paired (fun (t : Addr) (q : Key × V) => Hk' t = some (.tup [kV q.1, q.2])) us ws := by
      intro us ws hm pr
      induction pr with
      | nil => exact .nil
      | cons a b ih => exact .cons (by rw [new _ (.inr (hm _ List.mem_cons_self))]; exact a) (ih fun t ht => hm t (List.mem_cons_of_mem _ ht))
    exact this (fun t h => h) hp
end
end Ab
end

section
set_option Elab.async false
set_option linter.all false
set_option maxRecDepth 100000
set_option maxHeartbeats 4000000

namespace Rt
open PySem PySem.Spec PyProof.Rows L2 Ab C8
local macro_rules | `(tactic| walk_at "rv") => `(tactic| first
  | exact rv_I0i | exact rv_I0b | exact rv_eqI | exact rv_eqS | exact rv_neI | exact rv_neS | exact rv_eqB | exact rv_inS (t := .t) | exact rv_inS (t := .l) | exact rv_inI (t := .t) | exact rv_inI (t := .l) | exact rv_ninS (t := .t) | exact rv_ninS (t := .l) | exact rv_ninI (t := .t) | exact rv_ninI (t := .l) | exact rv_isN rfl | exact rv_notN rfl | exact rv_eqTI | exact rv_neTI | exact rv_eqLI | exact rv_neTS | exact rv_eqLTS | exact rv_neLTI | exact rv_sign)
local macro_rules | `(tactic| walk_at "ev") => `(tactic| first
  | exact ev_var rfl | exact ev_int | exact ev_str | exact ev_bl | exact ev_non | exact ev_ty | exact ea_nil | exact et_yes
  | ((with_reducible refine ev_op ?_ ?_ ?_) <;> walk_at "ev")
  | ((with_reducible refine ea_cons ?_ ?_) <;> walk_at "ev")
  | ((with_reducible refine ev_and ?_ ?_) <;> walk_at "ev")
  | ((with_reducible refine ev_or ?_ ?_) <;> walk_at "ev")
  | (with_reducible refine ev_not ?_; walk_at "ev")
  | (with_reducible refine ev_tup ?_; walk_at "ev")
  | (with_reducible refine ev_lst ?_; walk_at "ev")
  | (with_reducible refine et_not ?_; walk_at "ev")
  | ((with_reducible refine et_and ?_ ?_) <;> walk_at "ev")
  | ((with_reducible refine et_or ?_ ?_) <;> walk_at "ev")
  | (with_reducible refine et_test ?_; walk_at "ev")
  | (with_reducible refine et_B ?_; walk_at "ev")
  | (with_reducible refine fun (_ : _ = _) => ?_; walk_at "ev")
  | walk_at "rv"
  | skip)


theorem lk_isSome {κ : Type} [DecidableEq κ] {β : Type} {ks : List (κ × β)} {k : κ} : (lkG ks k).isSome = decide (k ∈ ks.map (·.1)) := by
  by_cases q : k ∈ ks.map (·.1)
  · obtain ⟨x, e⟩ := lk_some q
    rw [e, decide_eq_true q]
    rfl
  · rw [decide_eq_false q, lkG_none q]
    rfl
def skey (s : List Str) : List Key := s.map Sum.inr
theorem getD_skey (ks : List (List Key × Dt)) (s : List Str) : getD? (.dt ks) (tupS s) = some (lkG ks (skey s)) := by rw [tupS_kDt]; exact getD_dt _ _
theorem reach_keys (b : Bk) (s : List Str) : skey s ∈ b.reach.map (bkey b) ↔ s ∈ b.reach.map b.build := by
  constructor
  · intro h
    obtain ⟨m, h1, h2⟩ := List.mem_map.mp h
    exact List.mem_map.mpr ⟨m, h1, (List.map_inj_right fun x y h => Sum.inr.inj h).mp h2⟩
  · intro h
    obtain ⟨m, h1, rfl⟩ := List.mem_map.mp h
    exact List.mem_map.mpr ⟨m, h1, rfl⟩
theorem plain_ints (ws : List Int) : PyData.plainAll (pys (ws.map Dt.int)) = true := by
  rw [pys_map]
  exact plainAll_map _ ws fun w _ => rfl
theorem plain_rows (ws : List (List Int)) : PyData.plainAll (pys (ws.map tupI)) = true := by
  rw [pys_map]
  exact plainAll_map _ ws fun w _ => plain_tupI w
theorem filter_any {α : Type} (f : α → Bool) : ∀ xs : List α, (xs.filter f).isEmpty = !xs.any f
  | [] => rfl
  | x :: xs => by
    rw [List.filter_cons, List.any_cons]
    cases q : f x with
    | true => rfl
    | false => exact filter_any f xs
theorem filter_all {α : Type} (f : α → Bool) : ∀ xs : List α, (xs.filter fun x => !f x).isEmpty = xs.all f
  | [] => rfl
  | x :: xs => by
    rw [List.filter_cons, List.all_cons]
    cases q : f x with
    | false => rfl
    | true => exact filter_all f xs
theorem is_more (found : List (List Int)) (row : List Int) : (found.filter fun less => (less.filter fun i => !decide (i ∈ row)).isEmpty).isEmpty = !isMore found row := by
  rw [filter_any]
  unfold isMore
  congr 2
  funext less
  exact filter_all (fun i => decide (i ∈ row)) less
theorem all_len {n : Nat} (h : n ≤ 4) : (allSets n).length ≤ 16 := by
  have h : ∀ s : Fin 5, (allSets s.1).length ≤ 16 := by decide +kernel
  exact h ⟨n, by omega⟩
theorem mergeG_snoc (acc xs : List (Key × Dt)) (kv : Key × Dt) : mergeG acc (xs ++ [kv]) = putG (mergeG acc xs) kv.1 kv.2 := by
  unfold mergeG
  rw [List.foldl_append]
  rfl
theorem wants_part (b : Bk) (row : List Int) : putG (partsD kll b) (Sum.inr "wants") (.lst ((row.map b.wtAt).map encW)) = partsD kll (b.withW row) := by kernel_rfl

section
variable {P : Program} {w : World} {K : PySem.W.Frag} {mg : Str → Option Value} {base : Heap}

def n__law_all_sets : List Str := ["_law_many", "_law_found", "_law_level", "_law_turn", "_law_longer", "_law_row", "_law_low", "_law_spot"]
def p__law_all_sets : List Str := ["_law_many"]
theorem sc__law_all_sets : FnScope n__law_all_sets p__law_all_sets (defScope s__law_all_sets) := ⟨rfl, rfl, rfl, by decide +kernel, rfl, by decide +kernel, by decide +kernel⟩
def R__law_all_sets : List Dt → Dt → Prop := fun ds d => ∃ n : Nat, ds = [natD n] ∧ n ≤ 4 ∧ d = .lst ((allSets n).map tupI)
theorem c__law_all_sets (T : Tx K mg) : C8.Cal P w K mg base 1 "_law_all_sets" (SpD (R__law_all_sets)) [] := by
  obtain ⟨fd, F⟩ := T.f__law_all_sets
  refine cal F T.g__law_all_sets sc__law_all_sets (fun _ _ _ _ _ _ us hl => match us, hl with | [_], _ => rfl) (spD_len (n := 1) (by first | (rintro _ _ ⟨_, rfl, _⟩; rfl))) fun cdv A outer s H E hr => ⟨_, (pss_cons (ps_par (i := 1) (j := 2) (by rfl) sc__law_all_sets.nd rfl rfl (by decide) rfl rfl (pa_cons (pe_lst (pa_cons (pe_tup pa_nil) pa_nil)) (pa_cons (pe_lst (pa_cons (pe_tup pa_nil) pa_nil)) pa_nil)) (by rfl)) (pss_cons (ps_for PassesOwn.never rfl (pi_range1 (by rfl) T.n_range (pa_cons (pv 0) pa_nil)) (pg_name (i := 3) sc__law_all_sets.nd rfl (by first | exact Or.inl rfl | exact Or.inr rfl)) (pss_cons (ps_set (i := 4) sc__law_all_sets.nd rfl (Or.inl rfl) (pe_lst pa_nil)) (pss_cons (ps_for PassesOwn.never rfl (Kr.seq (K := K) rfl (pv 2)) (pg_name (i := 5) sc__law_all_sets.nd rfl (by first | exact Or.inl rfl | exact Or.inr rfl)) (pss_cons (ps_set (i := 6) sc__law_all_sets.nd rfl (Or.inl rfl) (pe_ifExp (pt_cmpR (Kr.neP (K := K) rfl hr.units) (pv 5) (pe_tup pa_nil) (nomark _)) (pe_op op_add (pe_ix (Kr.ix (K := K) rfl) (pv 5) (pe_un un_neg pe_int) (fun _ _ => rfl)) pe_int) pe_int)) (pss_one (ps_set (i := 4) sc__law_all_sets.nd rfl (Or.inl rfl) (pe_op op_cat (pv 4) (pe_lc (own := [("_law_spot", 7)]) rfl sc__law_all_sets.nd (pi_range2 (by rfl) T.n_range (pa_cons (pv 6) (pa_cons (pv 0) pa_nil))) (blkOk_by (own := [("_law_spot", 7)]) (N := n__law_all_sets) (sc := defScope s__law_all_sets) (by decide +kernel)) (fun _ _ _ _ _ => (pg_name (i := 7) sc__law_all_sets.nd rfl (by first | exact Or.inl rfl | exact Or.inr rfl))) (fun _ _ _ _ _ => pts_nil) (fun _ _ _ _ _ => (pe_op (Kr.catT (K := K) rfl) (pv 5) (pe_tup (pa_cons (pv 7) pa_nil)))))))))) (pss_one (ps_par (i := 1) (j := 2) (by rfl) sc__law_all_sets.nd rfl rfl (by decide) rfl rfl (pa_cons (pe_op op_cat (pv 1) (pv 4)) (pa_cons (pv 4) pa_nil)) (by rfl)))))) (pss_one (ps_ret (pv 1))))), ?_⟩
  intro vs Q h
  refine spD_of (N := n__law_all_sets) (fun ds d hR => ?_) h
  obtain ⟨n, rfl, hn, rfl⟩ := hR
  have e1 : ∀ {δ : Dst}, EvD none (tLst (tCons (tTup tNil) tNil)) δ (.lst ([[]].map tupI)) := ev_lst (xs := [tupI []]) (ea_cons (ev_tup ea_nil) ea_nil)
  refine run_seq (run_par (T := fun d e => d = .lst ((sets2 n 0).map tupI) ∧ e = .lst ((setsOf 0 n).map tupI)) (show EvA none _ _ _ from fun σ Hk H s k o' Q q => (ea_cons e1 (ea_cons e1 ea_nil)) σ Hk H s k o' Q fun vs xs Hk' H' g o2 e2 r => q vs xs Hk' H' g o2 ⟨_, _, ⟨rfl, rfl⟩, e2⟩ r) fun d e ⟨e1, e2⟩ => ?_)
  subst e1 e2
  refine run_seq (run_forL (vs := [3]) (List.range n) natD (fun pre δ M => ∃ o3 o4 o5 o6 o7, δ = [some (natD n), some (.lst ((sets2 n pre.length).map tupI)), some (.lst ((setsOf pre.length n).map tupI)), o3, o4, o5, o6, o7] ∧ M = noM) (iz_of (fun σ Hk H s k o' R q => ei_rng1 (j := ((n : Nat) : Int)) (ea_cons (ev_var rfl) ea_nil) (by omega) (by omega) σ Hk H s k o' R fun J ds Hk' H' g o2 e2 w => q J ds Hk' H' g o2 (by rw [e2, Int.toNat_natCast]; exact rng_nat _) w)) ⟨_, _, _, _, _, rfl, rfl⟩ ?_ ?_)
  · rintro pre x post δ1 M1 hs ⟨o3, o4, o5, o6, o7, rfl, rfl⟩
    have hpl : pre.length < n := by
      have := congrArg List.length hs
      rw [List.length_range, List.length_append, List.length_cons] at this
      omega
    have h5 := sets_small (k := pre.length) (by omega) hn
    have h6 := sets2_len (n := n) (k := pre.length) hn (by omega)
    refine ⟨_, bind_name, ?_⟩
    refine run_setD (d := .lst []) (ev_lst ea_nil) ?_
    refine run_seq (run_forL (vs := [5]) (setsOf pre.length n) tupI (fun pre2 δ M => ∃ o5 o6 o7, δ = [some (natD n), some (.lst ((sets2 n pre.length).map tupI)), some (.lst ((setsOf pre.length n).map tupI)), some (natD x), some (.lst ((pre2.flatMap fun row => (rangeI (lowOf row) ((n : Int) - lowOf row).toNat).map fun i => row ++ [i]).map tupI)), o5, o6, o7] ∧ M = noM) (iz_of (ei_lst (ev_var rfl))) ⟨_, _, _, rfl, rfl⟩ ?_ ?_)
    · rintro pre2 row post2 δ2 M2 hs2 ⟨o5, o6, o7, rfl, rfl⟩
      have hrow : row ∈ setsOf pre.length n := by rw [hs2]; simp
      obtain ⟨h1, h2⟩ := lowOf_bd (show pre.length ≤ 5 by omega) hn row hrow
      have hrl := (sets_in (show pre.length ≤ 5 by omega) hn row hrow).1
      have hp2 : pre2.length ≤ 100 := by
        have := congrArg List.length hs2
        rw [List.length_append] at this
        omega
      have hri : ∀ lo : Int, ∀ k : Nat, (rangeI lo k).length = k := fun lo k => by unfold rangeI; rw [List.length_map, List.length_range]
      have hfl : ∀ ys : List (List Int), (∀ y ∈ ys, y ∈ setsOf pre.length n) → (ys.flatMap fun row => (rangeI (lowOf row) ((n : Int) - lowOf row).toNat).map fun i => row ++ [i]).length ≤ 5 * ys.length := by
        intro ys
        induction ys with
        | nil => intro _; exact Nat.le_refl _
        | cons y ys ih =>
          intro hy
          rw [List.flatMap_cons, List.length_append, List.length_map, hri, List.length_cons]
          have := ih fun z hz => hy z (List.mem_cons_of_mem _ hz)
          obtain ⟨h3, h4⟩ := lowOf_bd (show pre.length ≤ 5 by omega) hn y (hy y List.mem_cons_self)
          omega
      have hf2 := hfl pre2 fun y hy => by rw [hs2]; exact List.mem_append_left _ hy
      refine ⟨_, bind_name, ?_⟩
      refine run_setD (d := .int (lowOf row)) ((ev_if (b := !decide (row = [])) (x := .int (lowOf row)) (y := .int 0) (et_test (ev_op (x := tupI row) (y := tupI []) (ev_var rfl) (ev_tup ea_nil) rv_neTI)) (fun e => ?_) (fun _ => ev_int)).eq ?_) ?_
      · have hne : row ≠ [] := fun z => by rw [z] at e; cases e
        obtain ⟨i, z, e1, e2⟩ := last_row hne
        rw [e2]
        exact ev_op (x := .int z) (y := .int 1) (ev_op (y := .int (-1)) (ev_var rfl) (ev_un (x := .int 1) ev_int (fun u Hk H r k o Q q => by cases r; exact ⟨1, rfl, q (.int (-1)) Hk H (.refl k) o (.int _)⟩)) (rv_ix (t := .t) (by rw [e1, List.map_append]; exact atI_last _ _))) ev_int rv_I0i
      · by_cases e : row = []
        · subst e; rfl
        · rw [decide_eq_false e]; rfl
      refine run_set (P := fun d => d = .lst (((pre2 ++ [row]).flatMap fun row => (rangeI (lowOf row) ((n : Int) - lowOf row).toNat).map fun i => row ++ [i]).map tupI)) (ez_of ((ev_op (y := .lst (((rangeI (lowOf row) ((n : Int) - lowOf row).toNat).map fun i => row ++ [i]).map tupI)) (ev_var rfl) ((ev_lc0 (rangeI (lowOf row) ((n : Int) - lowOf row).toNat) Dt.int (fun i => tupI (row ++ [i])) (by rw [← rangeI_D]; exact ei_rng2 (i := lowOf row) (j := (n : Int)) (ea_cons (ev_var rfl) (ea_cons (ev_var rfl) ea_nil)) (by (have : (n : Int) ≤ 4 := by omega); exact ⟨by omega, by omega, by omega, by omega⟩)) (fun i hi => ⟨_, bind_name, (ev_op (x := .tup (row.map Dt.int)) (y := .tup [.int i]) (ev_var rfl) (ev_tup (ea_cons (ev_var rfl) ea_nil)) (rv_catT (by rw [List.length_map, List.length_singleton]; omega))).eq (by unfold tupI; rw [List.map_append]; rfl)⟩) (by rw [hri]; omega)).eq (by rw [List.map_map]; rfl)) (rv_catL (by rw [List.length_map, List.length_map, List.length_map, hri]; omega))).eq (by rw [List.flatMap_append, List.flatMap_cons, List.flatMap_nil, List.append_nil, List.map_append]))) fun d e => ?_
      subst e
      exact ⟨_, _, _, rfl, rfl⟩
    · rintro δ2 M2 ⟨o5, o6, o7, rfl, rfl⟩
      have e3 : (pre ++ [x]).length = pre.length + 1 := by rw [List.length_append]; rfl
      have h7 := sets_small (k := pre.length + 1) (by omega) hn
      refine run_par (T := fun d e => d = .lst ((sets2 n (pre.length + 1)).map tupI) ∧ e = .lst ((setsOf (pre.length + 1) n).map tupI)) (show EvA none _ _ _ from fun σ Hk H s k o' Q q => (ea_cons ((ev_op (ev_var rfl) (ev_var rfl) (rv_catL (by rw [List.length_map, List.length_map]; exact (by omega : (sets2 n pre.length).length + (setsOf (pre.length + 1) n).length ≤ 100000)))).eq (show _ = Dt.lst ((sets2 n (pre.length + 1)).map tupI) by rw [sets2_succ, List.map_append]; rfl)) (ea_cons (ev_var rfl) ea_nil)) σ Hk H s k o' Q fun vs xs Hk' H' g o2 e2 r => q vs xs Hk' H' g o2 ⟨_, _, ⟨rfl, rfl⟩, e2⟩ r) fun d e ⟨e1, e2⟩ => ?_
      subst e1 e2
      rw [e3]
      exact ⟨_, _, _, _, _, rfl, rfl⟩
  · rintro δ1 M1 ⟨o3, o4, o5, o6, o7, rfl, rfl⟩
    rw [List.length_range]
    exact run_retD (ev_var rfl)
def n__law_reached : List Str := ["_law_book_here", "_law_found", "_law_build"]
def p__law_reached : List Str := ["_law_book_here"]
theorem sc__law_reached : FnScope n__law_reached p__law_reached (defScope s__law_reached) := ⟨rfl, rfl, rfl, by decide +kernel, rfl, by decide +kernel, by decide +kernel⟩
def R__law_reached : List Dt → Dt → Prop := fun ds d => ∃ b : Bk, ds = [lawD b] ∧ b.Ok ∧ d = .lst (b.reachedL.map tupS)
theorem c__law_reached (T : Tx K mg) : C8.Cal P w K mg base 7 "_law_reached" (SpD (R__law_reached)) [] := by
  obtain ⟨fd, F⟩ := T.f__law_reached
  have c__law_web := c__law_web (P := P) (w := w) (base := base) T
  have c__law_subsets := c__law_subsets (P := P) (w := w) (base := base) T
  refine cal F T.g__law_reached sc__law_reached (fun _ _ _ _ _ _ us hl => match us, hl with | [_], _ => rfl) (spD_len (n := 1) (by first | (rintro _ _ ⟨_, rfl, _⟩; rfl))) fun cdv A outer s H E hr => ⟨_, (pss_cons (ps_set (i := 1) sc__law_reached.nd rfl (Or.inr rfl) (pe_c c__law_web hr (by decide) (by rfl) (pa_cons (pv 0) (pa_cons (pe_tup pa_nil) (pa_cons pe_bl pa_nil))))) (pss_one (ps_ret (pe_lc (own := [("_law_build", 2)]) rfl sc__law_reached.nd (Kr.seq (K := K) rfl (pe_c c__law_subsets hr (by decide) (by rfl) (pa_cons (pv 0) pa_nil))) (blkOk_by (own := [("_law_build", 2)]) (N := n__law_reached) (sc := defScope s__law_reached) (by decide +kernel)) (fun _ _ _ _ _ => (pg_name (i := 2) sc__law_reached.nd rfl (by first | exact Or.inl rfl | exact Or.inr rfl))) (fun _ _ _ _ _ => pts_one (pt_cmp (pc_din (hu_of hr) (pv 2) (pv 1)))) (fun _ _ _ _ _ => (pv 2)))))), ?_⟩
  intro vs Q h
  refine spD_of (N := n__law_reached) (fun ds d hR => ?_) h
  obtain ⟨b, rfl, ok, rfl⟩ := hR
  refine run_seq (run_set (P := fun d => ∃ ks : List (List Key × Dt), d = .dt ks ∧ ks.map (·.1) = b.reach.map (bkey b)) (ez_of (evp_callN (R := R__law_web) (ds := [lawD b, tupS [], .bl false]) (ea_cons (ev_var rfl) (ea_cons (ev_tup ea_nil) (ea_cons ev_bl ea_nil))) ⟨b, rfl, ok, rfl⟩)) fun d ⟨ks, e, hk⟩ => ?_)
  subst e
  refine run_retD (ev_lc (subs b.names) tupS (fun s => decide (s ∈ b.reach.map b.build)) tupS (ei_lst (ev_call (ds := [lawD b]) (ea_cons (ev_var rfl) ea_nil) ⟨b, rfl, ok, rfl⟩)) (fun s hs => ⟨_, bind_name, (et_B (ev_din (d := .dt ks) (r := lkG ks (skey s)) (ev_var rfl) (ev_var rfl) (getD_skey _ _))).eq (by rw [lk_isSome, hk]; exact decide_eq_decide.mpr (reach_keys b s)), fun _ => ev_var rfl⟩) ?_)
  have := subsK_len ok.nlen (k := b.names.length) ok.nlen
  have h5 := ok.nlen
  show (subsK b.names b.names.length).length ≤ _
  omega
def n__law_with_wants : List Str := ["_law_book_here", "_law_indexes", "_law_spot"]
def p__law_with_wants : List Str := ["_law_book_here", "_law_indexes"]
theorem sc__law_with_wants : FnScope n__law_with_wants p__law_with_wants (defScope s__law_with_wants) := ⟨rfl, rfl, rfl, by decide +kernel, rfl, by decide +kernel, by decide +kernel⟩
def R__law_with_wants : List Dt → Dt → Prop := fun ds d => ∃ b : Bk, ∃ row : List Int, ds = [lawD b, tupI row] ∧ row.length ≤ 4 ∧ (∀ i ∈ row, 0 ≤ i ∧ i < ((b.wt.length : Nat) : Int)) ∧ d = lawD (b.withW row)
theorem c__law_with_wants (T : Tx K mg) : C8.Cal P w K mg base 1 "_law_with_wants" (SpD (R__law_with_wants)) [] := by
  obtain ⟨fd, F⟩ := T.f__law_with_wants
  refine cal F T.g__law_with_wants sc__law_with_wants (fun _ _ _ _ _ _ us hl => match us, hl with | [_, _], _ => rfl) (spD_len (n := 2) (by rintro _ _ ⟨_, _, rfl, _⟩; rfl)) fun cdv A outer s H E hr => ⟨_, (pss_one (ps_ret (pe_callTy (Cr.call_dictS (K := K) rfl rfl) (by rfl) T.n_dict (by decide +kernel) (pa_cons (pe_op op_cat (LiI.pe_listItems rfl (pv 0) (by rfl) T.n_list (by decide +kernel)) (pe_lst (pa_cons (pe_tup (pa_cons pe_str (pa_cons (pe_lc (own := [("_law_spot", 2)]) rfl sc__law_with_wants.nd (Kr.seq (K := K) rfl (pv 1)) (blkOk_by (own := [("_law_spot", 2)]) (N := n__law_with_wants) (sc := defScope s__law_with_wants) (by decide +kernel)) (fun _ _ _ _ _ => (pg_name (i := 2) sc__law_with_wants.nd rfl (by first | exact Or.inl rfl | exact Or.inr rfl))) (fun _ _ _ _ _ => pts_nil) (fun _ _ _ _ _ => (pe_ix (Kr.ix (K := K) rfl) (pe_dget (hu_of hr) (pv 0) pe_str (fun _ _ => rfl)) (pv 2) (fun _ _ => rfl)))) pa_nil))) pa_nil))) pa_nil)))), ?_⟩
  intro vs Q h
  refine spD_of (N := n__law_with_wants) (fun ds d hR => ?_) h
  obtain ⟨b, row, rfl, hl, hb, rfl⟩ := hR
  refine run_retD ((ev_cb (xs := [seqD .l ((partsD kll b ++ [((Sum.inr "wants" : Key), Dt.lst ((row.map b.wtAt).map encW))]).map Cr.prD)]) (ea_cons ((ev_op (ev_listItems (ks := partsD kll b) (ev_var rfl)) (ev_lst (xs := [.tup [.str "wants", .lst ((row.map b.wtAt).map encW)]]) (ea_cons (ev_tup (ea_cons ev_str (ea_cons ((ev_lc0 row Dt.int (fun i => encW (b.wtAt i)) (ei_tup (ev_var rfl)) (fun i hi => ⟨_, bind_name, ev_op (x := .lst (b.wt.map encW)) (ev_dget (ev_var rfl) ev_str (get_part 3 rfl rfl)) (ev_var rfl) (rv_ix (t := .l) ?_)⟩) (by omega)).eq (by rw [List.map_map]; rfl)) ea_nil))) ea_nil)) (rv_catL (by show 8 + 1 ≤ 100000; decide))).eq (by rw [List.map_append]; rfl)) ea_nil) (Cr.rc_dictS (fun z => nomatch z))).eq ?_)
  · obtain ⟨h1, h2⟩ := hb i hi
    obtain ⟨j, rfl⟩ := Int.eq_ofNat_of_zero_le h1
    have hj : j < b.wt.length := by omega
    refine atI_map (f := encW) (x := b.wtAt (j : Int)) ?_
    unfold Bk.wtAt
    rw [Int.toNat_natCast, List.getD_eq_getElem?_getD, List.getElem?_eq_getElem hj]
    rfl
  · rw [mergeG_snoc, show mergeG [] (partsD kll b) = partsD kll b from mergeG_nd (partK_nd kll b), wants_part]
    rfl
def n__law_wanted : List Str := ["_law_book_here", "_law_near", "_law_found", "_law_row", "_law_less", "_law_spot"]
def p__law_wanted : List Str := ["_law_book_here"]
theorem sc__law_wanted : FnScope n__law_wanted p__law_wanted (defScope s__law_wanted) := ⟨rfl, rfl, rfl, by decide +kernel, rfl, by decide +kernel, by decide +kernel⟩
def R__law_wanted : List Dt → Dt → Prop := fun ds d => ∃ b : Bk, ds = [lawD b] ∧ b.Ok ∧ d = .lst (b.least.map tupI)
theorem c__law_wanted (T : Tx K mg) : C8.Cal P w K mg base 8 "_law_wanted" (SpD (R__law_wanted)) [] := by
  obtain ⟨fd, F⟩ := T.f__law_wanted
  have c__law_reached := c__law_reached (P := P) (w := w) (base := base) T
  have c__law_all_sets := c__law_all_sets (P := P) (w := w) (base := base) T
  have c__law_with_wants := c__law_with_wants (P := P) (w := w) (base := base) T
  refine cal F T.g__law_wanted sc__law_wanted (fun _ _ _ _ _ _ us hl => match us, hl with | [_], _ => rfl) (spD_len (n := 1) (by first | (rintro _ _ ⟨_, rfl, _⟩; rfl))) fun cdv A outer s H E hr => ⟨_, (pss_cons (ps_par (i := 1) (j := 2) (by rfl) sc__law_wanted.nd rfl rfl (by decide) rfl rfl (pa_cons (pe_c c__law_reached hr (by decide) (by rfl) (pa_cons (pv 0) pa_nil)) (pa_cons (pe_lst pa_nil) pa_nil)) (by rfl)) (pss_cons (ps_for PassesOwn.never rfl (Kr.seq (K := K) rfl (pe_c c__law_all_sets hr (by decide) (by rfl) (pa_cons (pe_callB (Kr.len (K := K) rfl) (by rfl) T.n_len (by decide +kernel) (pa_cons (pe_dget (hu_of hr) (pv 0) pe_str (fun _ _ => rfl)) pa_nil)) pa_nil))) (pg_name (i := 3) sc__law_wanted.nd rfl (by first | exact Or.inl rfl | exact Or.inr rfl)) (pss_one (ps_if (pt_cmpR (Kr.eqP (K := K) rfl hr.units) (pe_lc (own := [("_law_less", 4)]) rfl sc__law_wanted.nd (Kr.seq (K := K) rfl (pv 2)) (blkOk_by (own := [("_law_less", 4)]) (N := n__law_wanted) (sc := defScope s__law_wanted) (by decide +kernel)) (fun _ _ _ _ _ => (pg_name (i := 4) sc__law_wanted.nd rfl (by first | exact Or.inl rfl | exact Or.inr rfl))) (fun _ _ _ _ _ => pts_one (pt_cmpR (Kr.eqP (K := K) rfl hr.units) (pe_lc (own := [("_law_spot", 5)]) rfl sc__law_wanted.nd (Kr.seq (K := K) rfl (pv 4)) (blkOk_by (own := [("_law_spot", 5)]) (N := n__law_wanted) (by kernel_rfl)) (fun _ _ _ _ _ => (pg_name (i := 5) sc__law_wanted.nd rfl (by first | exact Or.inl rfl | exact Or.inr rfl))) (fun _ _ _ _ _ => pts_one (pt_cmpR (Kr.onin (K := K) rfl) (pv 5) (pv 3) (by rfl))) (fun _ _ _ _ _ => (pv 5))) (pe_lst pa_nil) (nomark _))) (fun _ _ _ _ _ => (pv 4))) (pe_lst pa_nil) (nomark _)) (pss_one (ps_if (pt_cmpR (Kr.eqP (K := K) rfl hr.units) (pe_c c__law_reached hr (by decide) (by rfl) (pa_cons (pe_c c__law_with_wants hr (by decide) (by rfl) (pa_cons (pv 0) (pa_cons (pv 3) pa_nil))) pa_nil)) (pv 1) (nomark _)) (pss_one (ps_expr (Kr.bm (K := K) rfl PySem.F.plainAttrs_list PySem.F.slot_list_append PySem.F.type_list_append mt_append (pv 2) (pa_cons (pv 3) pa_nil)))) pss_nil)) pss_nil))) (pss_one (ps_ret (pv 2))))), ?_⟩
  intro vs Q h
  refine spD_of (N := n__law_wanted) (fun ds d hR => ?_) h
  obtain ⟨b, rfl, ok, rfl⟩ := hR
  have hw := ok.wl
  have hal := all_len (n := b.wt.length) ok.wl
  refine run_seq (run_parO (P := fun d => d = .lst (b.reachedL.map tupS)) (ez_of (ev_call (ds := [lawD b]) (ea_cons (ev_var rfl) ea_nil) ⟨b, rfl, ok, rfl⟩)) fun d a e _ => ?_)
  subst e
  refine run_seq (run_forL (vs := [3]) (allSets b.wt.length) tupI (fun pre δ M => ∃ o3 o4 o5, δ = [some (lawD b), some (.lst (b.reachedL.map tupS)), some (.adr a), o3, o4, o5] ∧ M = updM noM a (.lst ((pre.foldl b.addSet []).map tupI))) (iz_of (ei_lst (ev_call (ds := [natD b.wt.length]) (ea_cons ((ev_cb (xs := [seqD .l (b.wt.map encW)]) (ea_cons (ev_dget (ev_var rfl) ev_str (get_part 3 rfl rfl)) ea_nil) rc_len).eq (by rw [List.length_map]; rfl)) ea_nil) ⟨_, rfl, hw, rfl⟩))) ⟨_, _, _, rfl, rfl⟩ ?_ ?_)
  · rintro pre row post δ1 M1 hs ⟨o3, o4, o5, rfl, rfl⟩
    have hrow : row ∈ allSets b.wt.length := by rw [hs]; simp
    have hfl : (pre.foldl b.addSet []).length ≤ 16 := by
      have h1 := b.addSet_len pre []
      have h2 := congrArg List.length hs
      rw [List.length_append] at h2
      rw [List.length_nil] at h1
      omega
    have hbd : ∀ less ∈ pre.foldl b.addSet [], less.length ≤ 4 := fun less h => by
      rcases b.addSet_mem pre [] less h with q | q
      · cases q
      · exact (rows_bd ⟨b.wt.length, by omega⟩ less (by show less ∈ allSets b.wt.length; rw [hs]; exact List.mem_append_left _ q)).1
    obtain ⟨hr1, hr2⟩ := rows_bd ⟨b.wt.length, by omega⟩ row hrow
    refine ⟨_, bind_name, ?_⟩
    have hno : (!isMore (pre.foldl b.addSet []) row && decide ((b.cut row).goal = b.goal)) = false → ∃ p3 p4 p5, [some (lawD b), some (.lst (b.reachedL.map tupS)), some (.adr a), some (tupI row), o4, o5] = [some (lawD b), some (.lst (b.reachedL.map tupS)), some (.adr a), p3, p4, p5] ∧ updM noM a (.lst ((pre.foldl b.addSet []).map tupI)) = updM noM a (.lst (((pre ++ [row]).foldl b.addSet []).map tupI)) := fun e => by
      refine ⟨_, _, _, rfl, ?_⟩
      rw [List.foldl_append]
      show _ = updM noM a (.lst ((b.addSet (pre.foldl b.addSet []) row).map tupI))
      rw [Bk.addSet_neg e.symm]
    refine run_if (B := fun c => c = !isMore (pre.foldl b.addSet []) row) (tz_fz (Fz.refl.set (i := 2) rfl updM_same) ?_) (fun e1 => ?_) (fun e1 => run_next (?_))
    · refine EvTD.eq (et_test (ev_op (ev_lc (pre.foldl b.addSet []) tupI (fun less => (less.filter fun i => !decide (i ∈ row)).isEmpty) tupI (ei_lst (ev_var rfl)) (fun less hless => ⟨_, bind_name, ?_, fun _ => ev_var rfl⟩) (by omega)) (ev_lst ea_nil) (rv_eqNil (plain_rows _)))) ?_
      · exact EvTD.eq (et_test (ev_op (ev_lc less Dt.int (fun i => !decide (i ∈ row)) Dt.int (ei_tup (ev_var rfl)) (fun i hi => ⟨_, bind_name, et_test (ev_op (x := .int i) (y := tupI row) (ev_var rfl) (ev_var rfl) (rv_ninI (t := .t))), fun _ => ev_var rfl⟩) (by have := hbd less hless; omega)) (ev_lst ea_nil) (rv_eqNil (plain_ints _)))) (by rw [List.isEmpty_map])
      · rw [List.isEmpty_map, is_more]
    · refine run_if (B := fun c => c = decide ((b.cut row).goal = b.goal)) (tz_of ?_) (fun e2 => ?_) (fun e2 => run_next (hno (by rw [← e2, Bool.and_false])))
      · refine EvTD.eq (et_test (ev_op (x := .lst ((b.withW row).reachedL.map tupS)) (y := .lst (b.reachedL.map tupS)) (ev_call (ds := [lawD (b.withW row)]) (ea_cons (ev_call (ds := [lawD b, tupI row]) (ea_cons (ev_var rfl) (ea_cons (ev_var rfl) ea_nil)) ⟨b, row, rfl, hr1, hr2, rfl⟩) ea_nil) ⟨_, rfl, Bk.withW_ok ok hrow, rfl⟩) (ev_var rfl) rv_eqLTS)) ?_
        rw [Bk.cut_with ok hrow]
        exact decide_eq_decide.mpr (Bk.reached_iff (Bk.withW_ok ok hrow) ok rfl)
      · refine run_append (a := a) (P := fun d => d = tupI row) rfl updM_same (by rw [List.length_map]; omega) (ez_of (ev_var rfl)) fun d e => ⟨_, _, _, rfl, ?_⟩
        rw [updM_updM, e, List.foldl_append]
        show _ = updM noM a (.lst ((b.addSet (pre.foldl b.addSet []) row).map tupI))
        rw [Bk.addSet_pos (by rw [← e1, ← e2]; rfl), List.map_append]
        rfl
    · exact hno (by rw [← e1, Bool.false_and])
  · rintro δ1 M1 ⟨o3, o4, o5, rfl, rfl⟩
    exact run_retO (i := 2) rfl updM_same (fun z => z) rfl
end
end Rt
end

section
set_option Elab.async false
set_option linter.all false
set_option maxRecDepth 100000
set_option maxHeartbeats 4000000
/-! Draws. -/
namespace Ab
open PySem PySem.Spec PyProof.Rows L2 C8 Cr
section
variable {F : Addr → Prop} {p : Option Addr} {A0 B0 : Hp} {M : Led} {δ : Dst} {Hk H : Hp} {σ : L2.St} {K : PySem.W.Frag} {te ta tb ty tv tk : TE} {t : TA} {i j l : Nat} {a d : Addr} {N : Dst → Led → Prop} {R : Dt → Led → Prop} {P : Dt → Prop} {E : XK}
/-- some whole number with A -/
def In (A : Int → Prop) : Dt → Prop := fun d => ∃ x, A x ∧ d = .int x
theorem ev_in {x : Int} {A : Int → Prop} (h : EvD p te δ (.int x)) (ha : A x) : EvP p te δ (In A) := EvP.imp h fun d e => ⟨x, ha, e⟩
theorem evp_in {A B : Int → Prop} (h : EvP p te δ (In A)) (k : ∀ x, A x → B x) : EvP p te δ (In B) := h.imp fun d ⟨x, hx, e⟩ => ⟨x, k x hx, e⟩
theorem evp_opC {A B G : Int → Prop} {C : Int → Int → Prop} {g : Int → Int → Int} (ha : EvP p ta δ (In A)) (hb : EvP p tb δ (In B)) (hc : ∀ x y, A x → B y → C x y) (hg : ∀ x y, A x → B y → G (g x y)) : EvP p (tOp (rI C fun i j => .int (g i j)) ta tb) δ (In G) :=
  evp_op ha (fun _ _ => hb) fun u v ⟨x, hx, e⟩ ⟨y, hy, e2⟩ => by
    subst e e2
    exact fun u v Hk H r1 r2 k o Q q => rv_Ii (hc x y hx hy) u v Hk H r1 r2 k o Q fun w d Hk' H' g' o' e => q w d Hk' H' g' o' ⟨_, hg x y hx hy, e⟩
theorem evp_opZ {A B G : Int → Prop} {g : Int → Int → Int} (ha : EvP p ta δ (In A)) (hb : EvP p tb δ (In B)) (hg : ∀ x y, A x → B y → G (g x y)) : EvP p (tOp (rI0 fun i j => .int (g i j)) ta tb) δ (In G) :=
  evp_op ha (fun _ _ => hb) fun u v ⟨x, hx, e⟩ ⟨y, hy, e2⟩ => by
    subst e e2
    exact fun u v Hk H r1 r2 k o Q q => rv_I0i u v Hk H r1 r2 k o Q fun w d Hk' H' g' o' e => q w d Hk' H' g' o' ⟨_, hg x y hx hy, e⟩
theorem evp_opB {A B : Int → Prop} {G : Bool → Prop} {g : Int → Int → Bool} (ha : EvP p ta δ (In A)) (hb : EvP p tb δ (In B)) (hg : ∀ x y, A x → B y → G (g x y)) : EvP p (tOp (rI0 fun i j => .bl (g i j)) ta tb) δ (fun d => ∃ b, G b ∧ d = .bl b) :=
  evp_op ha (fun _ _ => hb) fun u v ⟨x, hx, e⟩ ⟨y, hy, e2⟩ => by
    subst e e2
    exact fun u v Hk H r1 r2 k o Q q => rv_I0b u v Hk H r1 r2 k o Q fun w d Hk' H' g' o' e => q w d Hk' H' g' o' ⟨_, hg x y hx hy, e⟩
/-- int(e) -/
theorem evp_intc {A : Int → Prop} (h : EvP p te δ (In A)) : EvP p (tCB (fun xs H Q => (∃ i, xs = [.int i] ∧ Q (.int i) H) ∨ ∃ k, xs = [.bl k] ∧ Q (.int (if k then 1 else 0)) H) (tCons te tNil)) δ (In A) :=
  evp_cb (R := fun xs => ∃ x, A x ∧ xs = [.int x]) (eap_cons h (fun _ _ => ea_nil) fun u vs ⟨x, hx, e⟩ e2 => ⟨x, hx, by rw [e, e2]⟩) fun xs ⟨x, hx, e⟩ => by
    subst e
    exact fun us Hk H r k o Q q => rc_int us Hk H r k o Q fun w d Hk' H' g' o' e => q w d Hk' H' g' o' ⟨_, hx, e⟩
/-- pool[0] -/
theorem ev_pool0 (hi : δ[i]? = some (some (.adr a))) : EvP (some a) (tOp (rIx K) (tVar i) (tC (.int 0))) δ (In fun x => 0 ≤ x) := fun σ Hk H s k o Q q => by
  obtain ⟨v, e1, r1⟩ := s.2 i _ hi
  cases r1
  obtain ⟨h0, x, y, h1, h2, h3, h4⟩ := o a rfl
  exact ⟨.ref a, e1, .inl ⟨a, _, 0, .int x, rfl, rfl, SqL.of h1, rfl, q (.int x) (.int x) Hk H (.refl k) o ⟨x, h2, rfl⟩ (.int x)⟩⟩
theorem ev_pool1 (hi : δ[i]? = some (some (.adr a))) : EvP (some a) (tOp (rIx K) (tVar i) (tC (.int 1))) δ (In fun x => 0 ≤ x ∧ x < 2147483647) := fun σ Hk H s k o Q q => by
  obtain ⟨v, e1, r1⟩ := s.2 i _ hi
  cases r1
  obtain ⟨h0, x, y, h1, h2, h3, h4⟩ := o a rfl
  exact ⟨.ref a, e1, .inl ⟨a, _, 1, .int y, rfl, rfl, SqL.of h1, rfl, q (.int y) (.int y) Hk H (.refl k) o ⟨y, ⟨h3, h4⟩, rfl⟩ (.int y)⟩⟩
theorem Hst.pool (s : Hst F (some a) A0 B0 M δ Hk σ H) (hF : F a) {x y : Int} (h1 : 0 ≤ x) (h2 : 0 ≤ y) (h3 : y < 2147483647) : Hst F (some a) A0 B0 M δ Hk σ (upd H a (.lst [.int x, .int y])) := by
  obtain ⟨h0, x0, y0, e1, _⟩ := s.po a rfl
  refine s.step (Hk' := Hk) ⟨fun b o e => e, fun b u hb e => ?_, fun b e => ?_, fun b u e => ?_, fun b e => .inl e⟩ (fun b e => ?_) fun b e => by cases e; exact hF
  · have ne : b ≠ a := fun z => hb (by rw [z]; rfl)
    rw [upd_ne ne]; exact e
  · by_cases z : b = a
    · rw [z, upd_same]; exact fun z => nomatch z
    · rw [upd_ne z]; exact e
  · have ne : b ≠ a := fun z => by rw [z, h0] at e; cases e
    rw [upd_ne ne]; exact s.gr.kh b u e
  · cases e
    exact ⟨h0, x, y, upd_same, h1, h2, h3⟩
/-- pool[0] = e -/
theorem run_pool0 (hi : δ[i]? = some (some (.adr a))) (hv : EvP (some a) tv δ (In fun x => 0 ≤ x)) (k : N δ M) : Run F (some a) (tAsg tv (gSub (tVar i) (tC (.int 0)) rSetL)) δ M N R := fun hF A0 B0 Hk σ H D s nx rt =>
  ez_of hv hF A0 B0 Hk σ H _ s fun w x' Hk' H' ⟨x, hx, ex⟩ s' k' r => by
    subst ex
    cases r
    obtain ⟨u, e2, r2⟩ := s'.st.2 i _ hi
    cases r2
    obtain ⟨h0, x0, y0, e1, b1, b2, b3⟩ := s'.po a rfl
    exact ⟨.ref a, e2, a, _, 0, 0, rfl, rfl, e1, rfl, nx δ M Hk' σ _ k (s'.pool (hF a rfl) hx b2 b3) k'⟩
/-- pool[1] = e -/
theorem run_pool1 (hi : δ[i]? = some (some (.adr a))) (hv : EvP (some a) tv δ (In fun x => 0 ≤ x ∧ x < 2147483647)) (k : N δ M) : Run F (some a) (tAsg tv (gSub (tVar i) (tC (.int 1)) rSetL)) δ M N R := fun hF A0 B0 Hk σ H D s nx rt =>
  ez_of hv hF A0 B0 Hk σ H _ s fun w x' Hk' H' ⟨x, hx, ex⟩ s' k' r => by
    subst ex
    cases r
    obtain ⟨u, e2, r2⟩ := s'.st.2 i _ hi
    cases r2
    obtain ⟨h0, x0, y0, e1, b1, b2, b3⟩ := s'.po a rfl
    exact ⟨.ref a, e2, a, _, 1, 1, rfl, rfl, e1, rfl, nx δ M Hk' σ _ k (s'.pool (hF a rfl) b1 hx.1 hx.2) k'⟩
/-- a draw -/
theorem evp_draw {R' : List Dt → (Dt → Prop) → Prop} {ds : List Dt} (h : EvAD (some a) t δ (.adr a :: ds)) (hr : R' ds P) : EvP (some a) (tCall (SpP R') [] E t) δ P :=
  evp_callP (T := fun xs => xs = ds) (fun σ Hk H s k o Q q => h σ Hk H s k o Q fun vs es Hk' H' g o' e => q vs es Hk' H' g o' ⟨ds, rfl, e⟩) fun xs e => by rw [e]; exact hr
/-- what is owned is no pool -/
theorem run_fact {ts : TS} {q : Addr} {d : Dt} (hm : M q = some d) (k : p ≠ some q → Run F p ts δ M N R) : Run F p ts δ M N R := fun hF A0 B0 Hk σ H D s nx rt =>
  k (s.ow q d hm).2.1 hF A0 B0 Hk σ H D s nx rt
theorem not_fr {q : Addr} (h : p ≠ some q) : ¬ fr p q := h
/-- left, found = list(xs), [] -/
theorem run_parLL {ds : List Dt} {q0 : Sq} (hq : q0 ≠ .f) (h : EvD p te δ (seqD q0 ds)) (kk : ∀ q b, M q = none → M b = none → b ≠ q → N ((δ.set i (some (.adr q))).set j (some (.adr b))) (updM (updM M q (.lst ds)) b (.lst []))) :
    Run F p (tPar i j (tCons (tCB (fun xs H Q => ∃ p ys, xs = [.ref p] ∧ (SqL K H p ys ∨ SqT K H p ys) ∧ ∀ l, H l = none → Q (.ref l) (upd H l (.lst ys))) (tCons te tNil)) (tCons (tLst tNil) tNil))) δ M N R := fun hF A0 B0 Hk σ H D s nx rt =>
  h σ Hk H s.st s.gr.kh s.po _ fun v1 d1 H1k H1 g1 o1 e1 r1 => by
    subst e1
    have s1 := s.step g1 o1 hF
    obtain ⟨c, vs, e, r, hs⟩ := seq_any (K := K) s1.gr.kh r1
    subst e
    refine ⟨c, vs, rfl, hs, fun q hq => ?_⟩
    obtain ⟨hm1, s2⟩ := s1.own hq (o := .lst vs) (d := .lst ds) ⟨vs, upd_same, r⟩
    refine ⟨by show 0 ≤ sizeLine; exact Nat.zero_le _, fun b hb => ?_⟩
    obtain ⟨hm2, s3⟩ := s2.own hb (o := .lst []) (d := .lst []) ⟨[], upd_same, .nil⟩
    have nbq : b ≠ q := fun z => by rw [z, updM_same] at hm2; cases hm2
    have hmb : M b = none := by rw [updM_ne nbq] at hm2; exact hm2
    exact ⟨.ref q, .ref b, rfl, nx _ _ H1k _ _ (kk q b hm1 hmb nbq) ((s3.set i (.adr q)).set j (.adr b)) g1.kk⟩
end
end Ab
end

section
set_option Elab.async false
set_option linter.all false
set_option maxRecDepth 100000
set_option maxHeartbeats 4000000

namespace Rt
open PySem PySem.Spec PyProof.Rows L2 Ab C8
local macro_rules | `(tactic| walk_at "rv") => `(tactic| first
  | exact rv_I0i | exact rv_I0b | exact rv_eqI | exact rv_eqS | exact rv_neI | exact rv_neS | exact rv_eqB | exact rv_inS (t := .t) | exact rv_inS (t := .l) | exact rv_inI (t := .t) | exact rv_inI (t := .l) | exact rv_ninS (t := .t) | exact rv_ninS (t := .l) | exact rv_ninI (t := .t) | exact rv_ninI (t := .l) | exact rv_isN rfl | exact rv_notN rfl | exact rv_eqTI | exact rv_neTI | exact rv_eqLI | exact rv_neTS | exact rv_eqLTS | exact rv_neLTI | exact rv_sign)
local macro_rules | `(tactic| walk_at "ev") => `(tactic| first
  | exact ev_var rfl | exact ev_int | exact ev_str | exact ev_bl | exact ev_non | exact ev_ty | exact ea_nil | exact et_yes
  | ((with_reducible refine ev_op ?_ ?_ ?_) <;> walk_at "ev")
  | ((with_reducible refine ea_cons ?_ ?_) <;> walk_at "ev")
  | ((with_reducible refine ev_and ?_ ?_) <;> walk_at "ev")
  | ((with_reducible refine ev_or ?_ ?_) <;> walk_at "ev")
  | (with_reducible refine ev_not ?_; walk_at "ev")
  | (with_reducible refine ev_tup ?_; walk_at "ev")
  | (with_reducible refine ev_lst ?_; walk_at "ev")
  | (with_reducible refine et_not ?_; walk_at "ev")
  | ((with_reducible refine et_and ?_ ?_) <;> walk_at "ev")
  | ((with_reducible refine et_or ?_ ?_) <;> walk_at "ev")
  | (with_reducible refine et_test ?_; walk_at "ev")
  | (with_reducible refine et_B ?_; walk_at "ev")
  | (with_reducible refine fun (_ : _ = _) => ?_; walk_at "ev")
  | walk_at "rv"
  | skip)


def below (n : Nat) : Dt → Prop := In fun x => ∃ i : Nat, i < n ∧ x = (i : Int)
theorem below_of {n : Nat} {d : Dt} (h : below n d) : ∃ i : Nat, i < n ∧ d = natD i := by
  obtain ⟨x, ⟨i, hi, e⟩, e2⟩ := h
  exact ⟨i, hi, by rw [e2, e]; rfl⟩
theorem emod_below {n : Nat} (h : 1 ≤ n) (x : Int) : ∃ i : Nat, i < n ∧ x % ((n : Nat) : Int) = (i : Int) := by
  have h1 := Int.emod_nonneg x (show ((n : Nat) : Int) ≠ 0 by omega)
  have h2 := Int.emod_lt_of_pos x (show (0 : Int) < ((n : Nat) : Int) by omega)
  exact ⟨(x % ((n : Nat) : Int)).toNat, by omega, by omega⟩
theorem erase_perm {α : Type} : ∀ (l : List α) (n : Nat) (h : n < l.length), (l[n] :: l.eraseIdx n).Perm l
  | x :: l, 0, _ => .refl _
  | x :: l, n + 1, h => by
    have ih := erase_perm l n (Nat.lt_of_succ_lt_succ h)
    exact (List.Perm.swap x _ _).trans (ih.cons x)
theorem erase_map {α β : Type} (f : α → β) : ∀ (l : List α) (n : Nat), (l.map f).eraseIdx n = (l.eraseIdx n).map f
  | [], _ => rfl
  | x :: l, 0 => rfl
  | x :: l, n + 1 => congrArg (f x :: ·) (erase_map f l n)
def R_draw : List Dt → (Dt → Prop) → Prop := fun ds P => ∃ n : Nat, ds = [natD n] ∧ 1 ≤ n ∧ n ≤ 1000 ∧ P = below n

section
variable {P : Program} {w : World} {K : PySem.W.Frag} {mg : Str → Option Value} {base : Heap}

def n__law_take : List Str := ["_law_pool_here", "_law_bound", "_law_result"]
def p__law_take : List Str := ["_law_pool_here", "_law_bound"]
theorem sc__law_take : FnScope n__law_take p__law_take (defScope s__law_take) := ⟨rfl, rfl, rfl, by decide +kernel, rfl, by decide +kernel, by decide +kernel⟩
def R__law_take : List Dt → (Dt → Prop) → Prop := R_draw
theorem c__law_take (T : Tx K mg) : C8.Cal P w K mg base 1 "_law_take" (SpP (R__law_take)) [] := by
  obtain ⟨fd, F⟩ := T.f__law_take
  refine cal F T.g__law_take sc__law_take (fun _ _ _ _ _ _ us hl => match us, hl with | [_, _], _ => rfl) (spP_len (n := 2) (by rintro _ _ ⟨_, rfl, _⟩; rfl)) fun cdv A outer s H E hr => ⟨_, (pss_cons (ps_if (pt_cmpR op_gt (pe_ix (Kr.ix (K := K) rfl) (pv 0) pe_int (fun _ _ => rfl)) pe_int (nomark _)) (pss_cons (ps_set (i := 2) sc__law_take.nd rfl (Or.inl rfl) (pe_op op_mod (pe_callTy call_int1 (by rfl) T.n_int (by decide +kernel) (pa_cons (pe_ix (Kr.ix (K := K) rfl) (pv 0) pe_int (fun _ _ => rfl)) pa_nil)) (pv 1))) (pss_cons (ps_asg (pe_op op_fdiv (pe_ix (Kr.ix (K := K) rfl) (pv 0) pe_int (fun _ _ => rfl)) (pv 1)) (pg_sub (pv 0) pe_int set_list)) (pss_one (ps_ret (pv 2))))) pss_nil) (pss_cons (ps_asg (pe_op op_mod (pe_callTy call_int1 (by rfl) T.n_int (by decide +kernel) (pa_cons (pe_op op_add (pe_op op_mul (pe_ix (Kr.ix (K := K) rfl) (pv 0) pe_int (fun _ _ => rfl)) pe_int) pe_int) pa_nil)) pe_int) (pg_sub (pv 0) pe_int set_list)) (pss_one (ps_ret (pe_op op_mod (pe_callTy call_int1 (by rfl) T.n_int (by decide +kernel) (pa_cons (pe_op op_fdiv (pe_op op_mod (pe_callTy call_int1 (by rfl) T.n_int (by decide +kernel) (pa_cons (pe_op op_mul (pe_ix (Kr.ix (K := K) rfl) (pv 0) pe_int (fun _ _ => rfl)) (pe_ix (Kr.ix (K := K) rfl) (pv 0) pe_int (fun _ _ => rfl))) pa_nil)) pe_int) pe_int) pa_nil)) (pv 1)))))), ?_⟩
  intro vs Q h
  refine spP_of (N := n__law_take) (fun a ds P hR => ?_) h
  obtain ⟨n, rfl, h1, hn, rfl⟩ := hR
  have hbd : ∀ {δ : Dst}, δ[1]? = some (some (natD n)) → EvP (some a) (tVar 1) δ (In fun x => x = (n : Int)) := fun h => ev_in (ev_var h) rfl
  refine run_seq (run_if (B := fun _ => True) (tz_of (etp_test ((evp_opB (A := fun x => 0 ≤ x) (B := fun _ => True) (G := fun _ => True) (ev_pool0 rfl) (ev_in ev_int trivial) fun _ _ _ _ => trivial).imp fun d h => h))) (fun _ => ?_) (fun _ => run_next ?_))
  · refine run_seq (run_set (P := below n) (ez_of (evp_opC (A := fun x => 0 ≤ x) (B := fun x => x = (n : Int)) (evp_intc (ev_pool0 rfl)) (hbd rfl) (fun x y _ hy => by rw [hy]; show (0 : Int) < _; omega) (fun x y _ hy => by rw [hy]; exact emod_below h1 x))) fun d hd => ?_)
    obtain ⟨i, hi, rfl⟩ := below_of hd
    refine run_seq (run_pool0 (i := 0) rfl (evp_opC (A := fun x => 0 ≤ x) (B := fun x => x = (n : Int)) (ev_pool0 rfl) (hbd rfl) (fun x y _ hy => by rw [hy]; exact ⟨by omega, by omega⟩) (fun x y hx hy => by rw [hy]; exact Int.ediv_nonneg hx (by omega))) ?_)
    exact run_ret (P := below n) (ez_of ((ev_var rfl).imp fun d e => by rw [e]; exact hd)) fun d e => e
  · refine run_seq (run_pool1 (i := 0) rfl (evp_opC (A := fun _ => True) (B := fun y => y = 2147483647) (evp_intc (evp_opZ (A := fun _ => True) (B := fun _ => True) (G := fun _ => True) (evp_opC (A := fun x => 0 ≤ x ∧ x < 2147483647) (B := fun y => y = 39373) (G := fun _ => True) (ev_pool1 rfl) (ev_in ev_int rfl) (fun x y hx _ => .inl ⟨by omega, by omega⟩) (fun _ _ _ _ => trivial)) (ev_in ev_int trivial) fun _ _ _ _ => trivial)) (ev_in ev_int rfl) (fun x y _ hy => by rw [hy]; show (0 : Int) < 2147483647; decide) (fun x y _ hy => by rw [hy]; exact ⟨Int.emod_nonneg _ (by decide), Int.emod_lt_of_pos _ (by decide)⟩)) ?_)
    refine run_ret (P := below n) (ez_of (evp_opC (A := fun _ => True) (B := fun x => x = (n : Int)) (evp_intc (evp_opC (A := fun _ => True) (B := fun y => y = 32) (G := fun _ => True) (evp_opC (A := fun _ => True) (B := fun y => y = 2147483629) (G := fun _ => True) (evp_intc (evp_opC (A := fun x => 0 ≤ x ∧ x < 2147483647) (B := fun x => 0 ≤ x ∧ x < 2147483647) (G := fun _ => True) (ev_pool1 rfl) (ev_pool1 rfl) (fun x y hx _ => .inl ⟨by omega, by omega⟩) (fun _ _ _ _ => trivial))) (ev_in ev_int rfl) (fun x y _ hy => by rw [hy]; show (0 : Int) < 2147483629; decide) (fun _ _ _ _ => trivial)) (ev_in ev_int rfl) (fun x y _ hy => by rw [hy]; show (0 : Int) < 32 ∧ (32 : Int) < 1073741824; decide) (fun _ _ _ _ => trivial))) (hbd rfl) (fun x y _ hy => by rw [hy]; show (0 : Int) < _; omega) (fun x y _ hy => by rw [hy]; exact emod_below h1 x))) fun d e => e
def n__law_one : List Str := ["_law_pool_here", "_law_things"]
def p__law_one : List Str := ["_law_pool_here", "_law_things"]
theorem sc__law_one : FnScope n__law_one p__law_one (defScope s__law_one) := ⟨rfl, rfl, rfl, by decide +kernel, rfl, by decide +kernel, by decide +kernel⟩
def R__law_one : List Dt → (Dt → Prop) → Prop := fun ds P => ∃ t : Sq, ∃ xs : List Dt, ds = [seqD t xs] ∧ t ≠ .f ∧ xs ≠ [] ∧ xs.length ≤ 1000 ∧ P = fun d => d ∈ xs
theorem c__law_one (T : Tx K mg) : C8.Cal P w K mg base 2 "_law_one" (SpP (R__law_one)) [] := by
  obtain ⟨fd, F⟩ := T.f__law_one
  have c__law_take := c__law_take (P := P) (w := w) (base := base) T
  refine cal F T.g__law_one sc__law_one (fun _ _ _ _ _ _ us hl => match us, hl with | [_, _], _ => rfl) (spP_len (n := 2) (by rintro _ _ ⟨_, _, rfl, _⟩; rfl)) fun cdv A outer s H E hr => ⟨_, (pss_one (ps_ret (pe_ix (Kr.ix (K := K) rfl) (pv 1) (pe_c c__law_take hr (by decide) (by rfl) (pa_cons (pv 0) (pa_cons (pe_callB (Kr.len (K := K) rfl) (by rfl) T.n_len (by decide +kernel) (pa_cons (pv 1) pa_nil)) pa_nil))) (fun _ _ => rfl)))), ?_⟩
  intro vs Q h
  refine spP_of (N := n__law_one) (fun a ds P hR => ?_) h
  obtain ⟨t, xs, rfl, ht, hne, hl, rfl⟩ := hR
  have hpos : 1 ≤ xs.length := List.length_pos_iff.mpr hne
  refine run_ret (P := fun d => d ∈ xs) (ez_of (evp_op (P := fun d => d = seqD t xs) (ev_var rfl) (fun _ _ => evp_draw (R' := R__law_take) (ds := [natD xs.length]) (ea_cons (ev_var rfl) (ea_cons (ev_cb (xs := [seqD t xs]) (ea_cons (ev_var rfl) ea_nil) rc_len) ea_nil)) ⟨_, rfl, hpos, hl, rfl⟩) fun u v e hv => ?_)) fun d e => e
  subst e
  obtain ⟨i, hi, rfl⟩ := below_of hv
  exact fun u v Hk H r1 r2 k o Q q => rv_ix (t := t) (atI_nat (List.getElem?_eq_getElem hi)) u v Hk H r1 r2 k o Q fun w d Hk' H' g' o' e => q w d Hk' H' g' o' (by rw [e]; exact List.getElem_mem hi)
def n__law_turned : List Str := ["_law_pool_here", "_law_things", "_law_left", "_law_found"]
def p__law_turned : List Str := ["_law_pool_here", "_law_things"]
theorem sc__law_turned : FnScope n__law_turned p__law_turned (defScope s__law_turned) := ⟨rfl, rfl, rfl, by decide +kernel, rfl, by decide +kernel, by decide +kernel⟩
def R__law_turned : List Dt → (Dt → Prop) → Prop := fun ds P => ∃ xs : List Str, ds = [lstS xs] ∧ xs.length ≤ 100 ∧ P = fun d => ∃ ys : List Str, ys.Perm xs ∧ d = lstS ys
theorem c__law_turned (T : Tx K mg) : C8.Cal P w K mg base 2 "_law_turned" (SpP (R__law_turned)) [] := by
  obtain ⟨fd, F⟩ := T.f__law_turned
  have c__law_take := c__law_take (P := P) (w := w) (base := base) T
  refine cal F T.g__law_turned sc__law_turned (fun _ _ _ _ _ _ us hl => match us, hl with | [_, _], _ => rfl) (spP_len (n := 2) (by rintro _ _ ⟨_, rfl, _⟩; rfl)) fun cdv A outer s H E hr => ⟨_, (pss_cons (ps_par (i := 2) (j := 3) (by rfl) sc__law_turned.nd rfl rfl (by decide) rfl rfl (pa_cons (pe_callTy (Kr.list (K := K) rfl) (by rfl) T.n_list (by decide +kernel) (pa_cons (pv 1) pa_nil)) (pa_cons (pe_lst pa_nil) pa_nil)) (by rfl)) (pss_cons (ps_while PassesOwn.never (pt_cmpR (Kr.neP (K := K) rfl hr.units) (pv 2) (pe_lst pa_nil) (nomark _)) (pss_one (ps_expr (Kr.bm (K := K) rfl PySem.F.plainAttrs_list PySem.F.slot_list_append PySem.F.type_list_append mt_append (pv 3) (pa_cons (Kr.bm (K := K) rfl PySem.F.plainAttrs_list PySem.F.slot_list_pop PySem.F.type_list_pop mt_popAt (pv 2) (pa_cons (pe_c c__law_take hr (by decide) (by rfl) (pa_cons (pv 0) (pa_cons (pe_callB (Kr.len (K := K) rfl) (by rfl) T.n_len (by decide +kernel) (pa_cons (pv 2) pa_nil)) pa_nil))) pa_nil)) pa_nil))))) (pss_one (ps_ret (pv 3))))), ?_⟩
  intro vs Q h
  refine spP_of (N := n__law_turned) (fun a ds P hR => ?_) h
  obtain ⟨xs, rfl, hl, rfl⟩ := hR
  refine run_seq (run_parLL (ds := xs.map Dt.str) (q0 := .l) (fun z => nomatch z) (ev_var rfl) fun q b hq hb ne => ?_)
  refine run_seq (run_while (fun k δ M => ∃ left found : List Str, δ = [some (.adr a), some (lstS xs), some (.adr q), some (.adr b)] ∧ M q = some (.lst (left.map Dt.str)) ∧ M b = some (.lst (found.map Dt.str)) ∧ (found ++ left).Perm xs ∧ k = left.length) (m0 := xs.length) ⟨xs, [], rfl, by rw [updM_ne ne.symm, updM_same], by rw [updM_same]; rfl, .refl _, rfl⟩ ?_)
  rintro k δ M ⟨left, found, rfl, hm1, hm2, hp, rfl⟩
  have hlen := hp.length_eq
  rw [List.length_append] at hlen
  refine ⟨fun c => c = !(left.map Dt.str).isEmpty, tz_fz (Fz.refl.set (i := 2) rfl hm1) (et_test (ev_op (ev_var rfl) (ev_lst ea_nil) (rv_neNil (plain_strs _)))), fun hc => ?_, fun hc => ?_⟩
  · have hpos : 1 ≤ left.length := by
      cases left with
      | nil => cases hc
      | cons x l => exact Nat.succ_le_succ (Nat.zero_le _)
    refine run_appPop (i := 2) (j := 3) (B := fun _ => True) rfl hm1 rfl hm2 ne.symm (by rw [List.length_map]; omega) (by rw [List.length_map]; omega) (ez_fz (P := fun x => ∃ n : Nat, n < (left.map Dt.str).length ∧ x = .int (n : Int)) (Fz.refl.set (i := 2) rfl hm1) ((evp_draw (R' := R__law_take) (ds := [natD left.length]) (ea_cons (ev_var rfl) (ea_cons ((ev_cb (xs := [seqD .l (left.map Dt.str)]) (ea_cons (ev_var rfl) ea_nil) rc_len).eq (by rw [List.length_map]; rfl)) ea_nil)) ⟨_, rfl, hpos, by omega, rfl⟩).imp fun d hd => ?_) fun d ⟨n, _, e⟩ => Sep.flat (.inl (by rw [e]; exact fun z => nomatch z))) fun n x hx => ?_
    · obtain ⟨i, hi, e⟩ := below_of hd
      exact ⟨i, by rw [List.length_map]; exact hi, e⟩
    · rw [List.getElem?_map] at hx
      obtain ⟨s, hs, rfl⟩ := Option.map_eq_some_iff.mp hx
      have hn : n < left.length := (List.getElem?_eq_some_iff.mp hs).1
      have hs2 : left[n] = s := (List.getElem?_eq_some_iff.mp hs).2
      refine ⟨(left.eraseIdx n).length, by rw [List.length_eraseIdx_of_lt hn]; omega, left.eraseIdx n, found ++ [s], rfl, ?_, ?_, ?_, rfl⟩
      · rw [updM_ne ne.symm, updM_same, erase_map]
      · rw [updM_same, List.map_append]
        rfl
      · refine List.Perm.trans ?_ hp
        rw [List.append_assoc]
        refine List.Perm.append_left found ?_
        rw [← hs2]
        exact erase_perm left n hn
  · have hnil : left = [] := by
      cases left with
      | nil => rfl
      | cons x l => cases hc
    subst hnil
    rw [List.append_nil] at hp
    exact run_fact hm2 fun nf => run_retO (i := 3) rfl hm2 (not_fr nf) ⟨found, hp, rfl⟩
end
end Rt
end

section
set_option Elab.async false
set_option linter.all false
set_option maxRecDepth 100000
set_option maxHeartbeats 4000000
/-! The script; loops over what is drawn. -/
namespace Ab
open PySem PySem.Spec PyProof.Rows L2 C8 Cr
section
variable {F : Addr → Prop} {p : Option Addr} {M : Led} {δ : Dst} {K : PySem.W.Frag} {te ta tb ty tv tk : TE} {t : TA} {i j l : Nat} {a : Addr} {N : Dst → Led → Prop} {R : Dt → Led → Prop} {P : Dt → Prop} {wi : TI} {g : TG} {tt : TS} {vs : List Nat}
/-- the script: a list of whole numbers, tracked, frozen or of the module -/
def ScD (K : PySem.W.Frag) (ns : List Int) (d : Dt) : Prop := d = .lst (ns.map Dt.int) ∨ d = .fl (ns.map Dt.int) ∨ ∃ a, d = .adr a ∧ ∀ H, SqL K H a (ns.map V.int)
theorem ScD.sq {Hk H : Hp} {v : V} {ns : List Int} {d : Dt} (h : ScD K ns d) (r : Rp Hk v d) (k : Kn Hk H) : ∃ a, v = .ref a ∧ SqL K H a (ns.map V.int) := by
  rcases h with rfl | rfl | ⟨a, rfl, h⟩
  · cases r with
    | lst e q => exact ⟨_, rfl, .inl (.inl (by rw [← q.ints]; exact k _ _ e))⟩
  · cases r with
    | fl e q => exact ⟨_, rfl, .inl (.inr ⟨_, by rw [← q.ints]; exact k _ _ e⟩)⟩
  · cases r
    exact ⟨a, rfl, h H⟩
theorem ScD.of {H : Hp} {a : Addr} {ns : List Int} (h : SqL K H a (ns.map V.int)) : ∃ d, Rp H (.ref a) d ∧ ScD K ns d := by
  rcases h with (h | ⟨o, h⟩) | h
  · exact ⟨_, .lst h (.of_ints ns), .inl rfl⟩
  · exact ⟨_, .fl h (.of_ints ns), .inr (.inl rfl)⟩
  · exact ⟨_, .adr a, .inr (.inr ⟨a, rfl, fun H' => .inr h⟩)⟩
theorem ev_sclen {ns : List Int} {d : Dt} (hs : ScD K ns d) (h : EvD p te δ d) : EvD p (tCB (fun xs H Q => ∃ p ys, xs = [.ref p] ∧ (SqL K H p ys ∨ SqT K H p ys) ∧ Q (.int ys.length) H) (tCons te tNil)) δ (.int (ns.length : Nat)) :=
  ev_cb (ea_cons h ea_nil) (rcd fun us Hk H r k Q q => by
    obtain ⟨v, rfl, h⟩ := rps1 r
    obtain ⟨a, e, hq⟩ := hs.sq h k
    exact ⟨a, _, by rw [e], .inl hq, q _ (by rw [List.length_map]; exact .int _)⟩)
theorem ev_scix {ns : List Int} {d : Dt} {k : Nat} {x : Int} (hs : ScD K ns d) (h : EvD p te δ d) (h2 : EvD p ty δ (.int (k : Int))) (hx : ns[k]? = some x) : EvD p (tOp (rIx K) te ty) δ (.int x) :=
  ev_op h h2 (rvd fun u v Hk H r1 r2 kk Q q => by
    cases r2
    obtain ⟨a, e, hq⟩ := hs.sq r1 kk
    have hlt := (List.getElem?_eq_some_iff.mp hx).1
    refine .inl ⟨a, _, _, .int x, e, rfl, hq, ?_, q _ (.int _)⟩
    unfold atI ixN
    rw [if_pos (by omega), List.length_map, if_pos (by omega)]
    show (ns.map V.int)[(k : Int).toNat]? = _
    rw [Int.toNat_natCast, List.getElem?_map, hx]
    rfl)
/-- for x in xs, xs drawn -/
theorem run_forX {α : Type} (X : List α → Prop) (enc : α → Dt) (hinj : ∀ x y, enc x = enc y → x = y) (Inv : List α → List α → Dst → Led → Prop) (hi : Iz F p M δ wi fun ds => ∃ xs, X xs ∧ ds = xs.map enc) (h0 : ∀ xs, X xs → Inv xs [] δ M)
    (hs : ∀ xs pre x post δ1 M1, X xs → xs = pre ++ x :: post → Inv xs pre δ1 M1 → ∃ δ2, BindD g (enc x) δ1 δ2 vs ∧ Run F p tt δ2 M1 (Inv xs (pre ++ [x])) R) (hd : ∀ xs δ1 M1, X xs → Inv xs xs δ1 M1 → N δ1 M1) : Run F p (tFor wi g tt) δ M N R := by
  refine run_for (vs := vs) hi (fun ds i δ1 M1 => ∀ xs, X xs → ds = xs.map enc → Inv xs (xs.take i) δ1 M1) (fun ds ⟨xs, hx, e⟩ ys hy e2 => h0 ys hy) ?_ ?_
  · rintro ds i d δ1 M1 ⟨xs, hx, rfl⟩ hd' hI
    have hI := hI xs hx rfl
    rw [List.getElem?_map] at hd'
    obtain ⟨x, e1, e2⟩ := Option.map_eq_some_iff.mp hd'
    subst e2
    obtain ⟨hi', e3⟩ := List.getElem?_eq_some_iff.mp e1
    have e4 : xs = xs.take i ++ x :: xs.drop (i + 1) := by
      rw [← e3, List.getElem_cons_drop, List.take_append_drop]
    have e5 : xs.take (i + 1) = xs.take i ++ [x] := by rw [List.take_add_one, e1]; rfl
    obtain ⟨δ2, h1, h2⟩ := hs xs (xs.take i) x (xs.drop (i + 1)) δ1 M1 hx e4 hI
    refine ⟨δ2, h1, h2.imp (fun d m q ys hy e => ?_) fun _ _ q => q⟩
    rw [← (List.map_inj_right hinj).mp e, e5]
    exact q
  · rintro ds δ1 M1 ⟨xs, hx, rfl⟩ hI
    have hI := hI xs hx rfl
    rw [List.length_map, List.take_length] at hI
    exact hd xs δ1 M1 hx hI
/-- min(4, e) -/
theorem evp_min {A G : Int → Prop} {c : Int} (h : EvP p te δ (In A)) (hg : ∀ x, A x → G (if x < c then x else c)) : EvP p (tCB (fun xs H Q => ∃ i j, xs = [.int i, .int j] ∧ Q (.int (if j < i then j else i)) H) (tCons (tC (.int c)) (tCons te tNil))) δ (In G) :=
  evp_cb (R := fun xs => ∃ x, A x ∧ xs = [.int c, .int x]) (eap_cons (ev_int (i := c)) (fun _ _ => eap_cons h (fun _ _ => ea_nil) (R := fun xs => ∃ x, A x ∧ xs = [.int x]) fun u vs ⟨x, hx, e⟩ e2 => ⟨x, hx, by rw [e, e2]⟩) fun u vs e ⟨x, hx, e2⟩ => ⟨x, hx, by rw [e, e2]⟩) fun xs ⟨x, hx, e⟩ => by
    subst e
    exact fun us Hk H r k o Q q => rc_min us Hk H r k o Q fun w d Hk' H' g' o' e => q w d Hk' H' g' o' ⟨_, hg x hx, e⟩
end
end Ab
end

section
set_option Elab.async false
set_option linter.all false
set_option maxRecDepth 100000
set_option maxHeartbeats 4000000

namespace Rt
open PySem PySem.Spec PyProof.Rows L2 Ab C8
local macro_rules | `(tactic| walk_at "rv") => `(tactic| first
  | exact rv_I0i | exact rv_I0b | exact rv_eqI | exact rv_eqS | exact rv_neI | exact rv_neS | exact rv_eqB | exact rv_inS (t := .t) | exact rv_inS (t := .l) | exact rv_inI (t := .t) | exact rv_inI (t := .l) | exact rv_ninS (t := .t) | exact rv_ninS (t := .l) | exact rv_ninI (t := .t) | exact rv_ninI (t := .l) | exact rv_isN rfl | exact rv_notN rfl | exact rv_eqTI | exact rv_neTI | exact rv_eqLI | exact rv_neTS | exact rv_eqLTS | exact rv_neLTI | exact rv_sign)
local macro_rules | `(tactic| walk_at "ev") => `(tactic| first
  | exact ev_var rfl | exact ev_int | exact ev_str | exact ev_bl | exact ev_non | exact ev_ty | exact ea_nil | exact et_yes
  | ((with_reducible refine ev_op ?_ ?_ ?_) <;> walk_at "ev")
  | ((with_reducible refine ea_cons ?_ ?_) <;> walk_at "ev")
  | ((with_reducible refine ev_and ?_ ?_) <;> walk_at "ev")
  | ((with_reducible refine ev_or ?_ ?_) <;> walk_at "ev")
  | (with_reducible refine ev_not ?_; walk_at "ev")
  | (with_reducible refine ev_tup ?_; walk_at "ev")
  | (with_reducible refine ev_lst ?_; walk_at "ev")
  | (with_reducible refine et_not ?_; walk_at "ev")
  | ((with_reducible refine et_and ?_ ?_) <;> walk_at "ev")
  | ((with_reducible refine et_or ?_ ?_) <;> walk_at "ev")
  | (with_reducible refine et_test ?_; walk_at "ev")
  | (with_reducible refine et_B ?_; walk_at "ev")
  | (with_reducible refine fun (_ : _ = _) => ?_; walk_at "ev")
  | walk_at "rv"
  | skip)

section
variable {P : Program} {w : World} {K : PySem.W.Frag} {mg : Str → Option Value} {base : Heap}

def n__law_pool : List Str := ["_law_script", "_law_k", "_law_cell", "_law_big", "_law_mixed"]
def p__law_pool : List Str := ["_law_script", "_law_k"]
theorem sc__law_pool : FnScope n__law_pool p__law_pool (defScope s__law_pool) := ⟨rfl, rfl, rfl, by decide +kernel, rfl, by decide +kernel, by decide +kernel⟩
def R__law_pool (K : PySem.W.Frag) : List Dt → (Dt → Prop) → Prop := fun ds P => ∃ ns : List Int, ∃ k : Nat, ∃ d : Dt, ds = [d, natD k] ∧ k ≤ 100 ∧ ScD K ns d ∧ P = PoolD
theorem c__law_pool (T : Tx K mg) : C8.Cal P w K mg base 1 "_law_pool" (SpO (R__law_pool K)) [] := by
  obtain ⟨fd, F⟩ := T.f__law_pool
  refine cal F T.g__law_pool sc__law_pool (fun _ _ _ _ _ _ us hl => match us, hl with | [_, _], _ => rfl) (spO_len (n := 2) (by rintro _ _ ⟨_, _, _, rfl, _⟩; rfl)) fun cdv A outer s H E hr => ⟨_, (pss_cons (ps_set (i := 2) sc__law_pool.nd rfl (Or.inl rfl) pe_int) (pss_cons (ps_if (pt_cmpR op_lt (pv 1) (pe_callB (Kr.len (K := K) rfl) (by rfl) T.n_len (by decide +kernel) (pa_cons (pv 0) pa_nil)) (nomark _)) (pss_one (ps_set (i := 2) sc__law_pool.nd rfl (Or.inl rfl) (pe_ix (Kr.ix (K := K) rfl) (pv 0) (pv 1) (fun _ _ => rfl)))) pss_nil) (pss_cons (ps_set (i := 3) sc__law_pool.nd rfl (Or.inl rfl) (pe_callB (call_max2 rfl) (by rfl) T.n_max (by decide +kernel) (pa_cons (pe_callTy call_int1 (by rfl) T.n_int (by decide +kernel) (pa_cons (pv 2) pa_nil)) (pa_cons (pe_callTy call_int1 (by rfl) T.n_int (by decide +kernel) (pa_cons (pe_op op_sub (pe_un un_neg pe_int) (pv 2)) pa_nil)) pa_nil)))) (pss_cons (ps_set (i := 4) sc__law_pool.nd rfl (Or.inl rfl) (pe_op op_mod (pe_callTy call_int1 (by rfl) T.n_int (by decide +kernel) (pa_cons (pe_op op_mul (pe_op op_add (pe_op op_add (pe_op op_add (pe_op op_mod (pe_callTy call_int1 (by rfl) T.n_int (by decide +kernel) (pa_cons (pv 3) pa_nil)) pe_int) (pe_op op_mul (pe_op op_mul pe_int (pv 1)) (pv 1))) (pe_op op_mul pe_int (pv 1))) pe_int) pe_int) pa_nil)) pe_int)) (pss_one (ps_ret (pe_lst (pa_cons (pe_op op_mul (pv 3) (pe_callTy call_int1 (by rfl) T.n_int (by decide +kernel) (pa_cons (pe_cmpR op_ge (pv 3) (pe_op op_pow pe_int pe_int) (nomark _)) pa_nil))) (pa_cons (pv 4) pa_nil))))))))), ?_⟩
  intro vs Q h
  refine spO_of (N := n__law_pool) (fun ds P hR => ?_) h
  obtain ⟨ns, k, d, rfl, hk4, hs, rfl⟩ := hR
  refine run_setD (d := .int 0) ev_int ?_
  refine run_seq (Run.imp (N := fun δ M => ∃ c : Int, δ = [some d, some (natD k), some (.int c), none, none] ∧ M = noM) (run_if (tz_of (et_test (ev_op (x := natD k) (y := .int (ns.length : Nat)) (ev_var rfl) (ev_sclen hs (ev_var rfl)) rv_I0b))) (fun hc => ?_) (fun _ => run_next ⟨0, rfl, rfl⟩)) ?_ fun _ _ h => h)
  · have hk : k < ns.length := by
      have := of_decide_eq_true hc.symm
      omega
    exact run_set (P := fun e => e = .int ns[k]) (ez_of (ev_scix hs (ev_var rfl) (ev_var rfl) (List.getElem?_eq_getElem hk))) fun e he => ⟨ns[k], by rw [he]; rfl, rfl⟩
  rintro δ M ⟨c, rfl, rfl⟩
  refine run_seq (run_set (P := In fun x => 0 ≤ x) (ez_of ((ev_cb (xs := [.int c, .int (-1 - c)]) (ea_cons (ev_cb (ea_cons (ev_var rfl) ea_nil) rc_int) (ea_cons (ev_cb (ea_cons (ev_op (x := .int (-1)) (y := .int c) (ev_un (x := .int 1) ev_int (fun u Hk H r k o Q q => by cases r; exact ⟨1, rfl, q (.int (-1)) Hk H (.refl k) o (.int _)⟩)) (ev_var rfl) rv_I0i) ea_nil) rc_int) ea_nil)) rc_max).imp fun e he => ⟨_, ?_, he⟩)) fun e he => ?_)
  · split <;> omega
  obtain ⟨big, hb, rfl⟩ := he
  refine run_seq (run_set (P := In fun x => 0 ≤ x ∧ x < 2147483647) (ez_of (evp_opC (A := fun _ => True) (B := fun y => y = 2147483647) (evp_intc (evp_opC (A := fun _ => True) (B := fun y => y = 48271) (G := fun _ => True) (evp_opZ (A := fun _ => True) (B := fun _ => True) (G := fun _ => True) (evp_opZ (A := fun _ => True) (B := fun _ => True) (G := fun _ => True) (evp_opZ (A := fun _ => True) (B := fun _ => True) (G := fun _ => True) (evp_opC (A := fun _ => True) (B := fun y => y = 2147483629) (G := fun _ => True) (evp_intc (ev_in (ev_var rfl) trivial)) (ev_in ev_int rfl) (fun x y _ hy => by rw [hy]; show (0 : Int) < 2147483629; decide) (fun _ _ _ _ => trivial)) (evp_opC (A := fun _ => True) (B := fun y => y = (k : Int)) (G := fun _ => True) (evp_opC (A := fun x => x = 7919) (B := fun _ => True) (G := fun _ => True) (ev_in ev_int rfl) (ev_in (x := (k : Int)) (ev_var rfl) trivial) (fun x y hx _ => .inl ⟨by omega, by omega⟩) (fun _ _ _ _ => trivial)) (ev_in (x := (k : Int)) (ev_var rfl) rfl) (fun x y _ hy => ?_) (fun _ _ _ _ => trivial)) (fun _ _ _ _ => trivial)) (evp_opC (A := fun x => x = 31) (B := fun _ => True) (G := fun _ => True) (ev_in ev_int rfl) (ev_in (x := (k : Int)) (ev_var rfl) trivial) (fun x y hx _ => .inl ⟨by omega, by omega⟩) (fun _ _ _ _ => trivial)) (fun _ _ _ _ => trivial)) (ev_in ev_int trivial) (fun _ _ _ _ => trivial)) (ev_in ev_int rfl) (fun x y _ hy => .inr ⟨by omega, by omega⟩) (fun _ _ _ _ => trivial))) (ev_in ev_int rfl) (fun x y _ hy => by rw [hy]; show (0 : Int) < 2147483647; decide) (fun x y _ hy => by rw [hy]; exact ⟨Int.emod_nonneg _ (by decide), Int.emod_lt_of_pos _ (by decide)⟩))) fun e he => ?_)
  · exact .inr ⟨by omega, by omega⟩
  obtain ⟨mix, hm, rfl⟩ := he
  refine run_retNew (ds := [.int (big * (if decide (big ≥ 10 ^ (18 : Int).toNat) then 1 else 0)), .int mix]) (ea_cons (ev_op (x := .int big) (y := .int (if decide (big ≥ 10 ^ (18 : Int).toNat) then 1 else 0)) (ev_var rfl) (ev_cb (ea_cons (ev_op (x := .int big) (y := .int (10 ^ (18 : Int).toNat)) (ev_var rfl) (ev_op (x := .int 10) (y := .int 18) ev_int ev_int (rv_Ii (g := fun i j => i ^ j.toNat) ⟨by decide, by decide, by decide⟩)) rv_ge) ea_nil) rc_intB) (rv_Ii (.inr (by split <;> decide)))) (ea_cons (ev_var rfl) ea_nil)) (by show 2 ≤ 1000; decide) fun q _ => ⟨q, _, rfl, updM_same, _, mix, rfl, ?_, hm.1, hm.2⟩
  split
  · omega
  · omega
end
end Rt
end

section
set_option Elab.async false
set_option linter.all false
set_option maxRecDepth 100000
set_option maxHeartbeats 4000000

namespace Rt
open PySem PySem.Spec PyProof.Rows L2 Ab C8
local macro_rules | `(tactic| walk_at "rv") => `(tactic| first
  | exact rv_I0i | exact rv_I0b | exact rv_eqI | exact rv_eqS | exact rv_neI | exact rv_neS | exact rv_eqB | exact rv_inS (t := .t) | exact rv_inS (t := .l) | exact rv_inI (t := .t) | exact rv_inI (t := .l) | exact rv_ninS (t := .t) | exact rv_ninS (t := .l) | exact rv_ninI (t := .t) | exact rv_ninI (t := .l) | exact rv_isN rfl | exact rv_notN rfl | exact rv_eqTI | exact rv_neTI | exact rv_eqLI | exact rv_neTS | exact rv_eqLTS | exact rv_neLTI | exact rv_sign)
local macro_rules | `(tactic| walk_at "ev") => `(tactic| first
  | exact ev_var rfl | exact ev_int | exact ev_str | exact ev_bl | exact ev_non | exact ev_ty | exact ea_nil | exact et_yes
  | ((with_reducible refine ev_op ?_ ?_ ?_) <;> walk_at "ev")
  | ((with_reducible refine ea_cons ?_ ?_) <;> walk_at "ev")
  | ((with_reducible refine ev_and ?_ ?_) <;> walk_at "ev")
  | ((with_reducible refine ev_or ?_ ?_) <;> walk_at "ev")
  | (with_reducible refine ev_not ?_; walk_at "ev")
  | (with_reducible refine ev_tup ?_; walk_at "ev")
  | (with_reducible refine ev_lst ?_; walk_at "ev")
  | (with_reducible refine et_not ?_; walk_at "ev")
  | ((with_reducible refine et_and ?_ ?_) <;> walk_at "ev")
  | ((with_reducible refine et_or ?_ ?_) <;> walk_at "ev")
  | (with_reducible refine et_test ?_; walk_at "ev")
  | (with_reducible refine et_B ?_; walk_at "ev")
  | (with_reducible refine fun (_ : _ = _) => ?_; walk_at "ev")
  | walk_at "rv"
  | skip)


def nmL1 : List Str := ["a", "b", "c", "d", "e", "f", "g"]
def nmL2 : List Str := ["z", "ab", "abcdefgh", "a", "need", "skill", "all"]
instance (s : Str) : Decidable (Word s) := by unfold Word; infer_instance
def NmOk (ns : List Str) : Prop := ns = nmL1 ∨ ns = nmL2
theorem NmOk.wrd {ns : List Str} (h : NmOk ns) : ∀ s ∈ ns, Word s := by
  rcases h with rfl | rfl
  · decide +kernel
  · decide +kernel
theorem NmOk.nod {ns : List Str} (h : NmOk ns) : ns.Nodup := by
  rcases h with rfl | rfl
  · decide +kernel
  · decide +kernel
theorem NmOk.len {ns : List Str} (h : NmOk ns) : ns.length = 7 := by
  rcases h with rfl | rfl <;> rfl
structure TreeOk (top : Nat) (sk : List (Str × Int)) (nd : List (Int × Int)) : Prop where
  ne : sk ≠ []
  len : sk.length ≤ top
  wrd : ∀ x ∈ sk, Word x.1 ∧ 1 ≤ x.2 ∧ x.2 ≤ 4
  nod : (sk.map (·.1)).Nodup
  srt : (sk.map (·.2)).Pairwise (· ≤ ·)
  nl : nd.length ≤ 3
  no : ∀ x ∈ nd, 2 ≤ x.1 ∧ x.1 ≤ 4 ∧ 0 ≤ x.2 ∧ x.2 ≤ 12
  nn : (nd.map (·.1)).Nodup
  ns : (nd.map (·.1)).Pairwise (· ≤ ·)
theorem cutTo {α : Type} (xs : List α) (f : α → Dt) (k : Nat) : Ab.cutD (xs.map f) none (some (k : Int)) = (xs.take k).map f := by
  unfold Ab.cutD
  have e : HT.sIx (xs.map f).length (xs.map f).length (some (k : Int)) = min k (xs.map f).length := HT.sIx_nat _ _ k
  rw [e, HT.sIx_none, List.drop_zero, List.length_map, Nat.sub_zero, ← List.map_take]
  congr 1
  rw [List.take_eq_take_iff]
  omega
theorem evp_eqZ {p : Option Addr} {δ : Dst} {ta tb : TE} {A B : Int → Prop} (ha : EvP p ta δ (In A)) (hb : EvP p tb δ (In B)) : EvP p (tOp rEq ta tb) δ (fun d => ∃ x y, A x ∧ B y ∧ d = .bl (decide (x = y))) :=
  evp_op ha (fun _ _ => hb) fun u v ⟨x, hx, e⟩ ⟨y, hy, e2⟩ => by
    subst e e2
    exact fun u v Hk H r1 r2 k o Q q => rv_eqI u v Hk H r1 r2 k o Q fun w d Hk' H' g' o' e => q w d Hk' H' g' o' ⟨x, y, hx, hy, e⟩
theorem evp_intB {p : Option Addr} {δ : Dst} {te : TE} {B : Bool → Prop} {G : Int → Prop} (h : EvP p te δ (fun d => ∃ b, B b ∧ d = .bl b)) (hg : ∀ b, B b → G (if b then 1 else 0)) : EvP p (tCB (fun xs H Q => (∃ i, xs = [.int i] ∧ Q (.int i) H) ∨ ∃ k, xs = [.bl k] ∧ Q (.int (if k then 1 else 0)) H) (tCons te tNil)) δ (In G) :=
  evp_cb (R := fun xs => ∃ b, B b ∧ xs = [.bl b]) (eap_cons h (fun _ _ => ea_nil) fun u vs ⟨x, hx, e⟩ e2 => ⟨x, hx, by rw [e, e2]⟩) fun xs ⟨x, hx, e⟩ => by
    subst e
    exact fun us Hk H r k o Q q => rc_intB us Hk H r k o Q fun w d Hk' H' g' o' e => q w d Hk' H' g' o' ⟨_, hg x hx, e⟩

section
variable {P : Program} {w : World} {K : PySem.W.Frag} {mg : Str → Option Value} {base : Heap}

def n__law_tree : List Str := ["_law_pool_here", "_law_top", "_law_names_here", "_law_tier_here", "_law_rows_here", "_law_name", "_law_asked"]
def p__law_tree : List Str := ["_law_pool_here", "_law_top"]
theorem sc__law_tree : FnScope n__law_tree p__law_tree (defScope s__law_tree) := ⟨rfl, rfl, rfl, by decide +kernel, rfl, by decide +kernel, by decide +kernel⟩
def R__law_tree : List Dt → (Dt → Prop) → Prop := fun ds P => ∃ top : Nat, ds = [natD top] ∧ 1 ≤ top ∧ top ≤ 5 ∧ P = fun d => ∃ sk nd, TreeOk top sk nd ∧ d = .lst [.lst (sk.map encSI), .lst (nd.map encII)]
theorem c__law_tree (T : Tx K mg) : C8.Cal P w K mg base 3 "_law_tree" (SpP (R__law_tree)) [] := by
  obtain ⟨fd, F⟩ := T.f__law_tree
  have c__law_one := c__law_one (P := P) (w := w) (base := base) T
  have c__law_take := c__law_take (P := P) (w := w) (base := base) T
  refine cal F T.g__law_tree sc__law_tree (fun _ _ _ _ _ _ us hl => match us, hl with | [_, _], _ => rfl) (spP_len (n := 2) (by rintro _ _ ⟨_, rfl, _⟩; rfl)) fun cdv A outer s H E hr => ⟨_, (pss_cons (ps_set (i := 2) sc__law_tree.nd rfl (Or.inl rfl) (pe_c c__law_one hr (by decide) (by rfl) (pa_cons (pv 0) (pa_cons (pe_lst (pa_cons (pe_lst (pa_cons pe_str (pa_cons pe_str (pa_cons pe_str (pa_cons pe_str (pa_cons pe_str (pa_cons pe_str (pa_cons pe_str pa_nil)))))))) (pa_cons (pe_lst (pa_cons pe_str (pa_cons pe_str (pa_cons pe_str (pa_cons pe_str (pa_cons pe_str (pa_cons pe_str (pa_cons pe_str pa_nil)))))))) pa_nil))) pa_nil)))) (pss_cons (ps_par (i := 3) (j := 4) (by rfl) sc__law_tree.nd rfl rfl (by decide) rfl rfl (pa_cons (pe_op op_add pe_int (pe_callTy call_int1 (by rfl) T.n_int (by decide +kernel) (pa_cons (pe_cmpR op_eq (pe_c c__law_take hr (by decide) (by rfl) (pa_cons (pv 0) (pa_cons pe_int pa_nil))) pe_int (nomark _)) pa_nil))) (pa_cons (pe_lst pa_nil) pa_nil)) (by rfl)) (pss_cons (ps_for PassesOwn.never rfl (Kr.seq (K := K) rfl (pe_slice (Kr.sl (K := K) rfl) (pv 2) po_none (po_some (pe_op op_add pe_int (pe_c c__law_take hr (by decide) (by rfl) (pa_cons (pv 0) (pa_cons (pv 1) pa_nil))))))) (pg_name (i := 5) sc__law_tree.nd rfl (by first | exact Or.inl rfl | exact Or.inr rfl)) (pss_cons (ps_expr (Kr.bm (K := K) rfl PySem.F.plainAttrs_list PySem.F.slot_list_append PySem.F.type_list_append mt_append (pv 4) (pa_cons (pe_tup (pa_cons (pv 5) (pa_cons (pv 3) pa_nil))) pa_nil))) (pss_one (ps_set (i := 3) sc__law_tree.nd rfl (Or.inl rfl) (pe_callB (call_min2 rfl) (by rfl) T.n_min (by decide +kernel) (pa_cons pe_int (pa_cons (pe_op op_add (pe_callTy call_int1 (by rfl) T.n_int (by decide +kernel) (pa_cons (pv 3) pa_nil)) (pe_c c__law_one hr (by decide) (by rfl) (pa_cons (pv 0) (pa_cons (pe_lst (pa_cons pe_int (pa_cons pe_int (pa_cons pe_int (pa_cons pe_int (pa_cons pe_int pa_nil)))))) pa_nil)))) pa_nil))))))) (pss_cons (ps_set (i := 6) sc__law_tree.nd rfl (Or.inl rfl) (pe_lst pa_nil)) (pss_cons (ps_for PassesOwn.never rfl (Kr.seq (K := K) rfl (pe_lst (pa_cons pe_int (pa_cons pe_int (pa_cons pe_int pa_nil))))) (pg_name (i := 3) sc__law_tree.nd rfl (by first | exact Or.inl rfl | exact Or.inr rfl)) (pss_one (ps_if (pt_cmpR op_gt (pe_c c__law_take hr (by decide) (by rfl) (pa_cons (pv 0) (pa_cons pe_int pa_nil))) pe_int (nomark _)) (pss_one (ps_expr (Kr.bm (K := K) rfl PySem.F.plainAttrs_list PySem.F.slot_list_append PySem.F.type_list_append mt_append (pv 6) (pa_cons (pe_tup (pa_cons (pv 3) (pa_cons (pe_c c__law_one hr (by decide) (by rfl) (pa_cons (pv 0) (pa_cons (pe_lst (pa_cons pe_int (pa_cons pe_int (pa_cons pe_int (pa_cons pe_int (pa_cons pe_int (pa_cons pe_int (pa_cons pe_int pa_nil)))))))) pa_nil))) pa_nil))) pa_nil)))) pss_nil))) (pss_one (ps_ret (pe_lst (pa_cons (pv 4) (pa_cons (pv 6) pa_nil)))))))))), ?_⟩
  intro vs Q h
  refine spP_of (N := n__law_tree) (fun a ds P hR => ?_) h
  obtain ⟨top, rfl, ht1, ht5, rfl⟩ := hR
  have take : ∀ {δ : Dst} {E : XK} {tn : TE} (n : Nat), δ[0]? = some (some (.adr a)) → EvD (some a) tn δ (natD n) → 1 ≤ n → n ≤ 1000 → EvP (some a) (tCall (SpP R__law_take) [] E (tCons (tVar 0) (tCons tn tNil))) δ (below n) := fun n h h2 h3 h4 => evp_draw (ds := [natD n]) (ea_cons (ev_var h) (ea_cons h2 ea_nil)) ⟨n, rfl, h3, h4, rfl⟩
  refine run_seq (run_set (P := fun d => ∃ ns, NmOk ns ∧ d = lstS ns) (ez_of ((evp_draw (R' := R__law_one) (ds := [.lst [lstS nmL1, lstS nmL2]]) (ea_cons (ev_var rfl) (ea_cons (ev_lst (ea_cons (ev_lst (ea_cons ev_str (ea_cons ev_str (ea_cons ev_str (ea_cons ev_str (ea_cons ev_str (ea_cons ev_str (ea_cons ev_str ea_nil)))))))) (ea_cons (ev_lst (ea_cons ev_str (ea_cons ev_str (ea_cons ev_str (ea_cons ev_str (ea_cons ev_str (ea_cons ev_str (ea_cons ev_str ea_nil)))))))) ea_nil))) ea_nil)) ⟨.l, _, rfl, (fun z => nomatch z), (fun z => nomatch z), by show 2 ≤ 1000; decide, rfl⟩).imp fun d hd => ?_)) fun d hd => ?_)
  · rcases List.mem_cons.mp hd with rfl | hd
    · exact ⟨_, .inl rfl, rfl⟩
    · rw [List.mem_singleton.mp hd]
      exact ⟨_, .inr rfl, rfl⟩
  obtain ⟨ns, hns, rfl⟩ := hd
  have hl7 := hns.len
  refine run_seq (run_parO (P := In fun x => 1 ≤ x ∧ x ≤ 4) (ez_of (evp_opZ (A := fun x => x = 1) (B := fun x => 0 ≤ x ∧ x ≤ 1) (ev_in ev_int rfl) (evp_intB (B := fun _ => True) ((evp_eqZ (A := fun _ => True) (B := fun _ => True) (evp_in (take 6 rfl ev_int (by decide) (by decide)) fun _ _ => trivial) (ev_in ev_int trivial)).imp fun d ⟨x, y, _, _, e⟩ => ⟨_, trivial, e⟩) (fun b _ => by cases b <;> decide)) (fun x y hx hy => by rw [hx]; omega))) fun d q hd hq => ?_)
  obtain ⟨t0, ht0, rfl⟩ := hd
  refine run_seq (run_forX (vs := [5]) (fun xs => ∃ m, 1 ≤ m ∧ m ≤ top ∧ xs = ns.take m) Dt.str (fun x y e => by cases e; rfl) (fun xs pre δ M => ∃ (sk : List (Str × Int)) (t : Int) (o5 : Option Dt), δ = [some (.adr a), some (natD top), some (lstS ns), some (.int t), some (.adr q), o5, none] ∧ M = updM noM q (.lst (sk.map encSI)) ∧ sk.map (·.1) = pre ∧ 1 ≤ t ∧ t ≤ 4 ∧ (∀ x ∈ sk, 1 ≤ x.2 ∧ x.2 ≤ t) ∧ (sk.map (·.2)).Pairwise (· ≤ ·)) (iz_seq (ez_of ((evp_slice (X := fun xs => xs = ns.map Dt.str) (A := fun i => i = none) (B := fun o => ∃ i : Int, (∃ m : Nat, 1 ≤ m ∧ m ≤ top ∧ i = (m : Int)) ∧ o = some i) ((ev_var rfl).imp fun d e => ⟨_, rfl, e⟩) eo_none (eop_some (evp_opZ (A := fun x => x = 1) (B := fun x => ∃ i : Nat, i < top ∧ x = (i : Int)) (ev_in ev_int rfl) (take top rfl (ev_var rfl) ht1 (by omega)) (fun x y hx ⟨i, hi, hy⟩ => ⟨i + 1, by omega, by omega, by omega⟩)))).imp fun d ⟨xs, lo, hi, h1, h2, ⟨i, ⟨m, h3, h4, h5⟩, h6⟩, h7⟩ => ⟨.l, _, ⟨ns.take m, ⟨m, h3, h4, rfl⟩, rfl⟩, by rw [h7, h1, h2, h6, h5, cutTo]; rfl⟩))) (fun xs hx => ⟨[], t0, none, rfl, rfl, rfl, ht0.1, ht0.2, (fun x hx => nomatch hx), .nil⟩) ?_ ?_)
  · rintro xs pre x post δ1 M1 ⟨m, hm1, hm2, rfl⟩ hs ⟨sk, t, o5, rfl, rfl, hsk, h1, h4, hb, hsr⟩
    have hskl : sk.length ≤ 7 := by
      have h := congrArg List.length hs
      rw [List.length_append, List.length_take, List.length_cons] at h
      have h2 := congrArg List.length hsk
      rw [List.length_map] at h2
      omega
    refine ⟨_, bind_name, ?_⟩
    refine run_seq (run_append (a := q) (P := fun d => d = encSI (x, t)) rfl updM_same (by rw [List.length_map]; omega) (ez_of (ev_tup (ea_cons (ev_var rfl) (ea_cons (ev_var rfl) ea_nil)))) fun d e => ?_)
    subst e
    rw [updM_updM]
    refine run_set (P := In fun x => t ≤ x ∧ x ≤ 4) (ez_of (evp_min (A := fun x => t ≤ x) (evp_opZ (A := fun x => x = t) (B := fun x => 0 ≤ x) (evp_intc (ev_in (ev_var rfl) rfl)) ((evp_draw (R' := R__law_one) (ds := [.lst [.int 0, .int 0, .int 1, .int 1, .int 2]]) (ea_cons (ev_var rfl) (ea_cons (ev_lst (ea_cons ev_int (ea_cons ev_int (ea_cons ev_int (ea_cons ev_int (ea_cons ev_int ea_nil)))))) ea_nil)) ⟨.l, _, rfl, (fun z => nomatch z), (fun z => nomatch z), by show 5 ≤ 1000; decide, rfl⟩).imp fun d hd => ?_) (fun x y hx hy => by omega)) (fun x hx => by split <;> omega))) fun d hd => ?_
    · simp only [List.mem_cons, List.not_mem_nil, or_false] at hd
      rcases hd with rfl | rfl | rfl | rfl | rfl <;> exact ⟨_, by decide, rfl⟩
    · obtain ⟨t', ht', rfl⟩ := hd
      refine ⟨sk ++ [(x, t)], t', _, rfl, ?_, ?_, by omega, ht'.2, ?_, ?_⟩
      · rw [List.map_append]; rfl
      · rw [List.map_append, hsk]; rfl
      · intro y hy
        rcases List.mem_append.mp hy with h | h
        · have := hb y h
          omega
        · rw [List.mem_singleton.mp h]
          exact ⟨h1, ht'.1⟩
      · rw [List.map_append, List.pairwise_append]
        refine ⟨hsr, List.pairwise_singleton _ _, fun y hy z hz => ?_⟩
        obtain ⟨y', hy', rfl⟩ := List.mem_map.mp hy
        have hz' : z = t := List.mem_singleton.mp hz
        rw [hz']
        exact (hb y' hy').2
  rintro xs δ1 M1 ⟨m, hm1, hm2, rfl⟩ ⟨sk, t, o5, rfl, rfl, hsk, h1, h4, hb, hsr⟩
  refine run_seq (run_own (i := 6) fun q2 hq2 => ?_)
  have nq : q2 ≠ q := fun z => by rw [z, updM_same] at hq2; cases hq2
  refine run_seq (run_forL (vs := [3]) [(2 : Int), 3, 4] Dt.int (fun pre δ M => ∃ (nd : List (Int × Int)) (o3 : Option Dt), δ = [some (.adr a), some (natD top), some (lstS ns), o3, some (.adr q), o5, some (.adr q2)] ∧ M = updM (updM noM q (.lst (sk.map encSI))) q2 (.lst (nd.map encII)) ∧ (nd.map (·.1)).Sublist pre ∧ ∀ x ∈ nd, 0 ≤ x.2 ∧ x.2 ≤ 12) (iz_of (ei_lst (ev_lst (ea_cons ev_int (ea_cons ev_int (ea_cons ev_int ea_nil)))))) ⟨[], _, rfl, rfl, List.Sublist.refl _, (fun x hx => nomatch hx)⟩ ?_ ?_)
  · rintro pre x post δ2 M2 hs ⟨nd, o3, rfl, rfl, hsub, hnv⟩
    have hpl : pre.length ≤ 3 := by
      have h := congrArg List.length hs
      rw [List.length_append] at h
      have : [(2 : Int), 3, 4].length = 3 := rfl
      omega
    have hndl : nd.length ≤ 3 := by
      have := hsub.length_le
      rw [List.length_map] at this
      omega
    refine ⟨_, bind_name, ?_⟩
    refine run_if (B := fun _ => True) (tz_of (etp_test ((evp_opB (A := fun _ => True) (B := fun _ => True) (G := fun _ => True) (evp_in (take 3 rfl ev_int (by decide) (by decide)) fun _ _ => trivial) (ev_in ev_int trivial) fun _ _ _ _ => trivial).imp fun d h => h))) (fun _ => ?_) (fun _ => run_next ⟨nd, _, rfl, rfl, hsub.trans (List.sublist_append_left _ _), hnv⟩)
    refine run_append (a := q2) (P := fun d => ∃ v : Int, 0 ≤ v ∧ v ≤ 12 ∧ d = encII (x, v)) rfl updM_same (by rw [List.length_map]; omega) (ez_of ((evp_tup (R := fun xs => ∃ v : Int, 0 ≤ v ∧ v ≤ 12 ∧ xs = [.int x, .int v]) (eap_cons (P := fun d => d = .int x) (Pr := fun _ xs => ∃ v : Int, 0 ≤ v ∧ v ≤ 12 ∧ xs = [.int v]) (ev_var rfl) (fun _ _ => eap_cons (P := In fun x => 0 ≤ x ∧ x ≤ 12) (Pr := fun _ xs => xs = []) ((evp_draw (R' := R__law_one) (ds := [.lst [.int 0, .int 1, .int 1, .int 2, .int 2, .int 3, .int 5]]) (ea_cons (ev_var rfl) (ea_cons (ev_lst (ea_cons ev_int (ea_cons ev_int (ea_cons ev_int (ea_cons ev_int (ea_cons ev_int (ea_cons ev_int (ea_cons ev_int ea_nil)))))))) ea_nil)) ⟨.l, _, rfl, (fun z => nomatch z), (fun z => nomatch z), by show 7 ≤ 1000; decide, rfl⟩).imp fun d hd => ?_) (fun _ _ => ea_nil) fun u vs ⟨v, hv, e⟩ e2 => ⟨v, hv.1, hv.2, by rw [e, e2]⟩) fun u vs e ⟨v, hv1, hv2, e2⟩ => ⟨v, hv1, hv2, by rw [e, e2]⟩) (fun xs ⟨v, _, _, e⟩ => by rw [e]; show 2 ≤ 100000; decide)).imp fun d ⟨xs, ⟨v, h1, h2, e1⟩, e2⟩ => ⟨v, h1, h2, by rw [e2, e1]; rfl⟩)) fun d ⟨v, hv1, hv2, e⟩ => ?_
    · simp only [List.mem_cons, List.not_mem_nil, or_false] at hd
      rcases hd with rfl | rfl | rfl | rfl | rfl | rfl | rfl <;> exact ⟨_, by decide, rfl⟩
    · refine ⟨nd ++ [(x, v)], _, rfl, ?_, ?_, ?_⟩
      · rw [updM_updM, e, List.map_append]; rfl
      · rw [List.map_append]
        exact hsub.append (List.Sublist.refl _)
      · intro y hy
        rcases List.mem_append.mp hy with h | h
        · exact hnv y h
        · rw [List.mem_singleton.mp h]
          exact ⟨hv1, hv2⟩
  rintro δ2 M2 ⟨nd, o3, rfl, rfl, hsub, hnv⟩
  have hmq : updM (updM noM q (.lst (sk.map encSI))) q2 (.lst (nd.map encII)) q = some (.lst (sk.map encSI)) := by rw [updM_ne nq.symm, updM_same]
  have hmq2 : delM (updM (updM noM q (.lst (sk.map encSI))) q2 (.lst (nd.map encII))) q q2 = some (.lst (nd.map encII)) := by
    unfold delM
    rw [if_neg nq, updM_same]
  refine run_fact hmq fun nf => run_pub (i := 4) rfl hmq (not_fr nf) ?_
  refine run_fact hmq2 fun nf2 => run_pub (i := 6) rfl hmq2 (not_fr nf2) ?_
  have hskl : sk.length = min m 7 := by
    have h2 := congrArg List.length hsk
    rw [List.length_map, List.length_take, hl7] at h2
    exact h2
  have hsub24 : ∀ y ∈ nd, y.1 ∈ [(2 : Int), 3, 4] := fun y hy => hsub.subset (List.mem_map.mpr ⟨y, hy, rfl⟩)
  refine run_ret (P := fun d => d = .lst [.lst (sk.map encSI), .lst (nd.map encII)]) (ez_of (ev_lst (ea_cons (ev_var rfl) (ea_cons (ev_var rfl) ea_nil)))) fun d e => ⟨sk, nd, ⟨?_, ?_, ?_, ?_, hsr, ?_, ?_, ?_, ?_⟩, e⟩
  · intro z
    rw [z, List.length_nil] at hskl
    omega
  · omega
  · intro y hy
    have h5 : y.1 ∈ ns.take m := by rw [← hsk]; exact List.mem_map.mpr ⟨y, hy, rfl⟩
    have h6 := hb y hy
    exact ⟨hns.wrd _ (List.mem_of_mem_take h5), h6.1, by omega⟩
  · rw [hsk]
    exact (List.take_sublist _ _).nodup hns.nod
  · have := hsub.length_le
    rw [List.length_map] at this
    exact this
  · intro y hy
    have h5 := hsub24 y hy
    simp only [List.mem_cons, List.not_mem_nil, or_false] at h5
    have h6 := hnv y hy
    refine ⟨?_, ?_, h6.1, h6.2⟩ <;> omega
  · exact hsub.nodup (by decide)
  · exact List.Pairwise.sublist hsub (by decide)
end
end Rt
end

section
set_option Elab.async false
set_option linter.all false
set_option maxRecDepth 100000
set_option maxHeartbeats 4000000

namespace Rt
open PySem PySem.Spec PyProof.Rows L2 Ab C8
local macro_rules | `(tactic| walk_at "rv") => `(tactic| first
  | exact rv_I0i | exact rv_I0b | exact rv_eqI | exact rv_eqS | exact rv_neI | exact rv_neS | exact rv_eqB | exact rv_inS (t := .t) | exact rv_inS (t := .l) | exact rv_inI (t := .t) | exact rv_inI (t := .l) | exact rv_ninS (t := .t) | exact rv_ninS (t := .l) | exact rv_ninI (t := .t) | exact rv_ninI (t := .l) | exact rv_isN rfl | exact rv_notN rfl | exact rv_eqTI | exact rv_neTI | exact rv_eqLI | exact rv_neTS | exact rv_eqLTS | exact rv_neLTI | exact rv_sign)
local macro_rules | `(tactic| walk_at "ev") => `(tactic| first
  | exact ev_var rfl | exact ev_int | exact ev_str | exact ev_bl | exact ev_non | exact ev_ty | exact ea_nil | exact et_yes
  | ((with_reducible refine ev_op ?_ ?_ ?_) <;> walk_at "ev")
  | ((with_reducible refine ea_cons ?_ ?_) <;> walk_at "ev")
  | ((with_reducible refine ev_and ?_ ?_) <;> walk_at "ev")
  | ((with_reducible refine ev_or ?_ ?_) <;> walk_at "ev")
  | (with_reducible refine ev_not ?_; walk_at "ev")
  | (with_reducible refine ev_tup ?_; walk_at "ev")
  | (with_reducible refine ev_lst ?_; walk_at "ev")
  | (with_reducible refine et_not ?_; walk_at "ev")
  | ((with_reducible refine et_and ?_ ?_) <;> walk_at "ev")
  | ((with_reducible refine et_or ?_ ?_) <;> walk_at "ev")
  | (with_reducible refine et_test ?_; walk_at "ev")
  | (with_reducible refine et_B ?_; walk_at "ev")
  | (with_reducible refine fun (_ : _ = _) => ?_; walk_at "ev")
  | walk_at "rv"
  | skip)


theorem others_ok {names : List Str} (hn : names.Nodup) {i : Nat} (hi : i < names.length) (down : Bool) :
    (if down then names.take i else names.take i ++ names.drop (i + 1)).Nodup ∧ ∀ x ∈ (if down then names.take i else names.take i ++ names.drop (i + 1)), x ∈ names ∧ x ≠ names[i] := by
  have e : names = names.take i ++ names[i] :: names.drop (i + 1) := by rw [List.getElem_cons_drop, List.take_append_drop]
  have h : (names.take i ++ names[i] :: names.drop (i + 1)).Nodup := e ▸ hn
  rw [List.nodup_append] at h
  obtain ⟨h1, h2, h3⟩ := h
  obtain ⟨h4, h5⟩ := List.nodup_cons.mp h2
  have a1 : ∀ x ∈ names.take i, x ∈ names ∧ x ≠ names[i] := fun x hx => ⟨List.mem_of_mem_take hx, h3 x hx _ List.mem_cons_self⟩
  have a2 : ∀ x ∈ names.drop (i + 1), x ∈ names ∧ x ≠ names[i] := fun x hx => ⟨List.mem_of_mem_drop hx, fun z => h4 (z ▸ hx)⟩
  cases down with
  | true => exact ⟨h1, a1⟩
  | false =>
    refine ⟨List.nodup_append.mpr ⟨h1, h5, fun x hx y hy => h3 x hx y (List.mem_cons_of_mem _ hy)⟩, fun x hx => ?_⟩
    rcases List.mem_append.mp hx with q | q
    · exact a1 x q
    · exact a2 x q
theorem isE {s : List Str} : (s.map Dt.str).isEmpty = s.isEmpty := List.isEmpty_map ..

section
variable {P : Program} {w : World} {K : PySem.W.Frag} {mg : Str → Option Value} {base : Heap}

def n__law_rows : List Str := ["_law_pool_here", "_law_names_here", "_law_top", "_law_words", "_law_is_down", "_law_found", "_law_turn", "_law_spot", "_law_others", "_law_some", "_law_word"]
def p__law_rows : List Str := ["_law_pool_here", "_law_names_here", "_law_top", "_law_words", "_law_is_down"]
theorem sc__law_rows : FnScope n__law_rows p__law_rows (defScope s__law_rows) := ⟨rfl, rfl, rfl, by decide +kernel, rfl, by decide +kernel, by decide +kernel⟩
def R__law_rows : List Dt → (Dt → Prop) → Prop := fun ds P => ∃ names words : List Str, ∃ top : Nat, ∃ down : Bool, ds = [lstS names, natD top, lstS words, .bl down] ∧ names.Nodup ∧ 1 ≤ names.length ∧ names.length ≤ 5 ∧ top ≤ 100 ∧ words ≠ [] ∧ words.length ≤ 100 ∧ (∀ x ∈ words, x = ("all" : Str) ∨ x = ("any" : Str) ∨ x = ("count" : Str)) ∧ P = fun d => ∃ ws : List Wt, d = .lst (ws.map encW) ∧ ws.length ≤ top ∧ ∀ x ∈ ws, WtOk names x
theorem c__law_rows (T : Tx K mg) : C8.Cal P w K mg base 3 "_law_rows" (SpP (R__law_rows)) [] := by
  obtain ⟨fd, F⟩ := T.f__law_rows
  have c__law_one := c__law_one (P := P) (w := w) (base := base) T
  have c__law_take := c__law_take (P := P) (w := w) (base := base) T
  have c__law_turned := c__law_turned (P := P) (w := w) (base := base) T
  refine cal F T.g__law_rows sc__law_rows (fun _ _ _ _ _ _ us hl => match us, hl with | [_, _, _, _, _], _ => rfl) (spP_len (n := 5) (by rintro _ _ ⟨_, _, _, _, rfl, _⟩; rfl)) fun cdv A outer s H E hr => ⟨_, (pss_cons (ps_set (i := 5) sc__law_rows.nd rfl (Or.inl rfl) (pe_lst pa_nil)) (pss_cons (ps_for PassesOwn.never rfl (pi_range1 (by rfl) T.n_range (pa_cons (pe_c c__law_take hr (by decide) (by rfl) (pa_cons (pv 0) (pa_cons (pe_op op_add (pv 2) pe_int) pa_nil))) pa_nil)) (pg_name (i := 6) sc__law_rows.nd rfl (by first | exact Or.inl rfl | exact Or.inr rfl)) (pss_cons (ps_set (i := 7) sc__law_rows.nd rfl (Or.inl rfl) (pe_c c__law_take hr (by decide) (by rfl) (pa_cons (pv 0) (pa_cons (pe_callB (Kr.len (K := K) rfl) (by rfl) T.n_len (by decide +kernel) (pa_cons (pv 1) pa_nil)) pa_nil)))) (pss_cons (ps_set (i := 8) sc__law_rows.nd rfl (Or.inl rfl) (pe_ifExp (pt_val (pv 4)) (pe_slice (Kr.sl (K := K) rfl) (pv 1) po_none (po_some (pv 7))) (pe_op op_cat (pe_slice (Kr.sl (K := K) rfl) (pv 1) po_none (po_some (pv 7))) (pe_slice (Kr.sl (K := K) rfl) (pv 1) (po_some (pe_op op_add (pv 7) pe_int)) po_none)))) (pss_cons (ps_set (i := 9) sc__law_rows.nd rfl (Or.inl rfl) (pe_slice (Kr.sl (K := K) rfl) (pe_c c__law_turned hr (by decide) (by rfl) (pa_cons (pv 0) (pa_cons (pv 8) pa_nil))) po_none (po_some (pe_op op_add pe_int (pe_c c__law_take hr (by decide) (by rfl) (pa_cons (pv 0) (pa_cons pe_int pa_nil))))))) (pss_cons (ps_set (i := 10) sc__law_rows.nd rfl (Or.inl rfl) (pe_c c__law_one hr (by decide) (by rfl) (pa_cons (pv 0) (pa_cons (pv 3) pa_nil)))) (pss_one (ps_if (PW.pt (pw_and (pt_cmpR (Kr.neP (K := K) rfl hr.units) (pv 9) (pe_lst pa_nil) (nomark _)) (pw_and1 (pt_cmpR op_eq (pv 10) pe_str (nomark _))))) (pss_one (ps_expr (Kr.bm (K := K) rfl PySem.F.plainAttrs_list PySem.F.slot_list_append PySem.F.type_list_append mt_append (pv 5) (pa_cons (pe_tup (pa_cons (pv 10) (pa_cons (pe_ix (Kr.ix (K := K) rfl) (pv 1) (pv 7) (fun _ _ => rfl)) (pa_cons (pe_callTy (Kr.tuple (K := K) rfl) (by rfl) T.n_tuple (by decide +kernel) (pa_cons (pv 9) pa_nil)) (pa_cons (pe_op op_add pe_int (pe_c c__law_take hr (by decide) (by rfl) (pa_cons (pv 0) (pa_cons (pe_callB (Kr.len (K := K) rfl) (by rfl) T.n_len (by decide +kernel) (pa_cons (pv 9) pa_nil)) pa_nil)))) pa_nil))))) pa_nil)))) (pss_one (ps_if (pt_cmpR (Kr.neP (K := K) rfl hr.units) (pv 9) (pe_lst pa_nil) (nomark _)) (pss_one (ps_expr (Kr.bm (K := K) rfl PySem.F.plainAttrs_list PySem.F.slot_list_append PySem.F.type_list_append mt_append (pv 5) (pa_cons (pe_tup (pa_cons (pv 10) (pa_cons (pe_ix (Kr.ix (K := K) rfl) (pv 1) (pv 7) (fun _ _ => rfl)) (pa_cons (pe_callTy (Kr.tuple (K := K) rfl) (by rfl) T.n_tuple (by decide +kernel) (pa_cons (pv 9) pa_nil)) pa_nil)))) pa_nil)))) pss_nil))))))))) (pss_one (ps_ret (pv 5))))), ?_⟩
  intro vs Q h
  refine spP_of (N := n__law_rows) (fun a ds P hR => ?_) h
  obtain ⟨names, words, top, down, rfl, hnd, hn1, hn5, htop, hwne, hwl, hw, rfl⟩ := hR
  have take : ∀ {δ : Dst} {E : XK} {tn : TE} (n : Nat), δ[0]? = some (some (.adr a)) → EvD (some a) tn δ (natD n) → 1 ≤ n → n ≤ 1000 → EvP (some a) (tCall (SpP R__law_take) [] E (tCons (tVar 0) (tCons tn tNil))) δ (below n) := fun n h h2 h3 h4 => evp_draw (ds := [natD n]) (ea_cons (ev_var h) (ea_cons h2 ea_nil)) ⟨n, rfl, h3, h4, rfl⟩
  refine run_seq (run_own (i := 5) fun q hq => ?_)
  refine run_seq (run_forX (vs := [6]) (fun xs => ∃ m, m ≤ top ∧ xs = List.range m) natD (fun x y e => by have := Dt.int.inj e; omega) (fun xs pre δ M => ∃ (ws : List Wt) (o6 o7 o8 o9 o10 : Option Dt), δ = [some (.adr a), some (lstS names), some (natD top), some (lstS words), some (.bl down), some (.adr q), o6, o7, o8, o9, o10] ∧ M = updM noM q (.lst (ws.map encW)) ∧ ws.length ≤ pre.length ∧ ∀ x ∈ ws, WtOk names x) (iz_of (fun σ Hk H s k o R q => eip_rng1 (P := fun j => ∃ i : Nat, i < top + 1 ∧ j = (i : Int)) (eap_cons (take (top + 1) rfl (ev_op (x := natD top) (y := .int 1) (ev_var rfl) ev_int rv_I0i) (by omega) (by omega)) (fun _ _ => ea_nil) fun u vs ⟨x, hx, e⟩ e2 => ⟨x, hx, by rw [e, e2]⟩) (fun j ⟨i, hi, e⟩ => by rw [e]; exact ⟨by omega, by omega⟩) σ Hk H s k o R fun J ds Hk' H' g o' ⟨j, ⟨i, hi, e⟩, e2⟩ w => q J ds Hk' H' g o' ⟨List.range i, ⟨i, by omega, rfl⟩, by rw [e2, e, Int.toNat_natCast]; exact rng_nat _⟩ w)) (fun xs hx => ⟨[], _, _, _, _, _, rfl, rfl, Nat.le_refl _, (fun x hx => nomatch hx)⟩) ?_ ?_)
  · rintro xs pre x post δ1 M1 ⟨m, hm, rfl⟩ hs ⟨ws, o6, o7, o8, o9, o10, rfl, rfl, hwsl, hwok⟩
    have hpl : pre.length < top := by
      have h := congrArg List.length hs
      rw [List.length_range, List.length_append, List.length_cons] at h
      omega
    have hpl1 : (pre ++ [x]).length = pre.length + 1 := by rw [List.length_append]; rfl
    refine ⟨_, bind_name, ?_⟩
    refine run_seq (run_set (P := below names.length) (ez_of (take names.length rfl ((ev_cb (xs := [seqD .l (names.map Dt.str)]) (ea_cons (ev_var rfl) ea_nil) rc_len).eq (by rw [List.length_map]; rfl)) hn1 (by omega))) fun d hd => ?_)
    obtain ⟨i, hi, rfl⟩ := below_of hd
    obtain ⟨hon, hom⟩ := others_ok hnd hi down
    generalize hoth : (if down then names.take i else names.take i ++ names.drop (i + 1)) = others at hon hom
    have hol : others.length ≤ 5 := by
      have h1 : (names.take i).length + (names.drop (i + 1)).length ≤ 5 := by rw [List.length_take, List.length_drop]; omega
      rw [← hoth]
      split
      · omega
      · rw [List.length_append]; omega
    have sl1 : ∀ {δ : Dst}, δ[1]? = some (some (lstS names)) → δ[7]? = some (some (natD i)) → EvD (some a) (tSl (rSlL K) (tVar 1) tNoPart (tPart (tVar 7))) δ (lstS (names.take i)) := fun h h2 => (ev_slice (ev_var h) eo_none (eo_some (ev_var h2))).eq (by rw [cutTo]; rfl)
    refine run_seq (run_set (P := fun d => d = lstS others) (ez_of ((ev_if (b := down) (x := lstS (names.take i)) (y := lstS (names.take i ++ names.drop (i + 1))) (et_B (ev_var rfl)) (fun _ => sl1 rfl rfl) (fun _ => (ev_op (sl1 rfl rfl) ((ev_slice (ev_var rfl) (eo_some (i := ((i + 1 : Nat) : Int)) (ev_op (x := natD i) (y := .int 1) (ev_var rfl) ev_int rv_I0i)) eo_none).eq (by rw [cutFrom _ _ (by omega)])) (rv_catL (by rw [List.length_map, List.length_map, List.length_take, List.length_drop]; omega))).eq (by unfold lstS; rw [List.map_append]))).eq (by rw [← hoth]; cases down <;> rfl))) fun d e => ?_)
    subst e
    refine run_seq (run_set (P := fun d => ∃ so : List Str, d = lstS so ∧ so.Nodup ∧ so.length ≤ 5 ∧ ∀ y ∈ so, y ∈ names ∧ y ≠ names[i]) (ez_of ((evp_slice (X := fun xs => ∃ ys : List Str, ys.Perm others ∧ xs = ys.map Dt.str) (A := fun i => i = none) (B := fun o => ∃ i : Int, (∃ m : Nat, i = (m : Int)) ∧ o = some i) ((evp_draw (R' := R__law_turned) (ds := [lstS others]) (ea_cons (ev_var rfl) (ea_cons (ev_var rfl) ea_nil)) ⟨_, rfl, by omega, rfl⟩).imp fun d ⟨ys, h, e⟩ => ⟨_, ⟨ys, h, rfl⟩, e⟩) eo_none (eop_some (evp_opZ (A := fun x => x = 1) (B := fun x => ∃ i : Nat, i < 3 ∧ x = (i : Int)) (ev_in ev_int rfl) (take 3 rfl ev_int (by decide) (by decide)) (fun x y hx ⟨i, hi, hy⟩ => ⟨i + 1, by omega⟩)))).imp fun d ⟨xs, lo, hi', ⟨ys, hp, h1⟩, h2, ⟨i', ⟨m', h5⟩, h6⟩, h7⟩ => ⟨ys.take m', by rw [h7, h1, h2, h6, h5, cutTo]; rfl, (List.take_sublist _ _).nodup (hp.nodup_iff.mpr hon), by rw [List.length_take, hp.length_eq]; omega, fun y hy => hom y (hp.mem_iff.mp (List.mem_of_mem_take hy))⟩)) fun d ⟨so, e, hs1, hs2, hs3⟩ => ?_)
    subst e
    refine run_seq (run_set (P := fun d => ∃ wd : Str, wd ∈ words ∧ d = .str wd) (ez_of ((evp_draw (R' := R__law_one) (ds := [lstS words]) (ea_cons (ev_var rfl) (ea_cons (ev_var rfl) ea_nil)) ⟨.l, words.map Dt.str, rfl, (fun z => nomatch z), (fun z => hwne (List.map_eq_nil_iff.mp z)), by rw [List.length_map]; omega, rfl⟩).imp fun d hd => ?_)) fun d ⟨wd, hwd, e⟩ => ?_)
    · obtain ⟨y, hy, e⟩ := List.mem_map.mp hd
      exact ⟨y, hy, e.symm⟩
    subst e
    have hgi : names[i]? = some names[i] := List.getElem?_eq_getElem hi
    have hname : ∀ {δ : Dst}, δ[1]? = some (some (lstS names)) → δ[7]? = some (some (natD i)) → EvD (some a) (tOp (rIx K) (tVar 1) (tVar 7)) δ (.str names[i]) := fun h h2 => ev_op (x := lstS names) (ev_var h) (ev_var h2) (rv_ix (t := .l) (atI_map hgi))
    have fin : ∀ (x : Wt), WtOk names x → (∀ y ∈ ws ++ [x], WtOk names y) ∧ (ws ++ [x]).length ≤ pre.length + 1 := fun x hx => ⟨fun y hy => by
      rcases List.mem_append.mp hy with h | h
      · exact hwok y h
      · rw [List.mem_singleton.mp h]; exact hx, by rw [List.length_append, List.length_singleton]; omega⟩
    have wok : ∀ k : Wk, so ≠ [] → (∀ n, k = .count n → 1 ≤ n ∧ n ≤ (so.length : Int)) → WtOk names ⟨k, names[i], so⟩ := fun k h1 h2 => ⟨List.getElem_mem hi, h1, hs3, hs1, h2⟩
    refine run_if (B := fun c => c = (!so.isEmpty && decide (wd = "count"))) (tz_of ?_) (fun hc => ?_) (fun hc => ?_)
    · refine EvTD.eq (et_and (a := !so.isEmpty) (b := decide (wd = "count")) ?_ fun _ => ?_) rfl
      · exact EvTD.eq (et_test (ev_op (ev_var rfl) (ev_lst ea_nil) (rv_neNil (plain_strs so)))) (by rw [isE])
      · exact et_test (ev_op (x := .str wd) (y := .str "count") (ev_var rfl) ev_str rv_eqS)
    · have h1 := (Bool.and_eq_true _ _).mp hc.symm
      have hne : so ≠ [] := fun z => by rw [z] at h1; exact absurd h1.1 (by decide)
      have hwc : wd = "count" := of_decide_eq_true h1.2
      subst hwc
      have hpos : 1 ≤ so.length := List.length_pos_iff.mpr hne
      refine run_append (a := q) (P := fun d => ∃ v : Int, 1 ≤ v ∧ v ≤ (so.length : Int) ∧ d = encW ⟨.count v, names[i], so⟩) rfl updM_same (by rw [List.length_map]; omega) (ez_of ((evp_tup (R := fun xs => ∃ v : Int, 1 ≤ v ∧ v ≤ (so.length : Int) ∧ xs = [.str "count", .str names[i], tupS so, .int v]) (eap_cons (P := fun d => d = .str "count") (Pr := fun _ xs => ∃ v : Int, 1 ≤ v ∧ v ≤ (so.length : Int) ∧ xs = [.str names[i], tupS so, .int v]) (ev_var rfl) (fun _ _ => eap_cons (P := fun d => d = .str names[i]) (Pr := fun _ xs => ∃ v : Int, 1 ≤ v ∧ v ≤ (so.length : Int) ∧ xs = [tupS so, .int v]) (hname rfl rfl) (fun _ _ => eap_cons (P := fun d => d = tupS so) (Pr := fun _ xs => ∃ v : Int, 1 ≤ v ∧ v ≤ (so.length : Int) ∧ xs = [.int v]) (ev_cb (xs := [lstS so]) (ea_cons (ev_var rfl) ea_nil) rc_tuple) (fun _ _ => eap_cons (P := In fun v => 1 ≤ v ∧ v ≤ (so.length : Int)) (Pr := fun _ xs => xs = []) (evp_opZ (A := fun x => x = 1) (B := fun x => ∃ i : Nat, i < so.length ∧ x = (i : Int)) (ev_in ev_int rfl) (take so.length rfl ((ev_cb (xs := [seqD .l (so.map Dt.str)]) (ea_cons (ev_var rfl) ea_nil) rc_len).eq (by rw [List.length_map]; rfl)) hpos (by omega)) (fun x y hx ⟨i, hi, hy⟩ => ⟨by omega, by omega⟩)) (fun _ _ => ea_nil) fun u vs ⟨v, hv, e⟩ e2 => ⟨v, hv.1, hv.2, by rw [e, e2]⟩) fun u vs e ⟨v, h1, h2, e2⟩ => ⟨v, h1, h2, by rw [e, e2]⟩) fun u vs e ⟨v, h1, h2, e2⟩ => ⟨v, h1, h2, by rw [e, e2]⟩) fun u vs e ⟨v, h1, h2, e2⟩ => ⟨v, h1, h2, by rw [e, e2]⟩) (fun xs ⟨v, _, _, e⟩ => by rw [e]; show 4 ≤ 100000; decide)).imp fun d ⟨xs, ⟨v, h1, h2, e1⟩, e2⟩ => ⟨v, h1, h2, by rw [e2, e1]; rfl⟩)) fun d ⟨v, hv1, hv2, e⟩ => ?_
      have hx := fin ⟨.count v, names[i], so⟩ (wok _ hne fun n hn => by cases hn; exact ⟨hv1, hv2⟩)
      exact ⟨ws ++ [⟨.count v, names[i], so⟩], _, _, _, _, _, rfl, by rw [updM_updM, e, List.map_append]; rfl, by rw [hpl1]; exact hx.2, hx.1⟩
    · refine run_if (B := fun c => c = !so.isEmpty) (tz_of (EvTD.eq (et_test (ev_op (ev_var rfl) (ev_lst ea_nil) (rv_neNil (plain_strs so)))) (by rw [isE]))) (fun hc2 => ?_) (fun _ => run_next ⟨ws, _, _, _, _, _, rfl, rfl, by rw [hpl1]; omega, hwok⟩)
      have hne : so ≠ [] := fun z => by rw [z] at hc2; cases hc2
      rw [← hc2, Bool.true_and] at hc
      have hwc : wd ≠ "count" := of_decide_eq_false hc.symm
      have hk : ∃ k : Wk, (∀ n, k ≠ .count n) ∧ Dt.tup [.str wd, .str names[i], tupS so] = encW ⟨k, names[i], so⟩ := by
        rcases hw wd hwd with rfl | rfl | rfl
        · exact ⟨.all, (fun n z => nomatch z), rfl⟩
        · exact ⟨.any, (fun n z => nomatch z), rfl⟩
        · exact absurd rfl hwc
      obtain ⟨k, hk1, hk2⟩ := hk
      have hx := fin ⟨k, names[i], so⟩ (wok _ hne fun n hn => absurd hn (hk1 n))
      refine run_append (a := q) (P := fun d => d = encW ⟨k, names[i], so⟩) rfl updM_same (by rw [List.length_map]; omega) (ez_of ((ev_tup (ea_cons (ev_var rfl) (ea_cons (hname rfl rfl) (ea_cons (ev_cb (xs := [lstS so]) (ea_cons (ev_var rfl) ea_nil) rc_tuple) ea_nil)))).eq hk2)) fun d e => ?_
      exact ⟨ws ++ [⟨k, names[i], so⟩], _, _, _, _, _, rfl, by rw [updM_updM, e, List.map_append]; rfl, by rw [hpl1]; exact hx.2, hx.1⟩
  rintro xs δ1 M1 ⟨m, hm, rfl⟩ ⟨ws, o6, o7, o8, o9, o10, rfl, rfl, hwsl, hwok⟩
  rw [List.length_range] at hwsl
  exact run_fact updM_same fun nf => run_retO (i := 5) rfl updM_same (not_fr nf) ⟨ws, rfl, by omega, hwok⟩
end
end Rt
end

section
set_option Elab.async false
set_option linter.all false
set_option maxRecDepth 100000
set_option maxHeartbeats 4000000
/-! A dict display with draws; pair[::-1]; rows drawn by a comprehension. -/
namespace Ab
open PySem PySem.Spec PyProof.Rows L2 C8 Cr
section
variable {F : Addr → Prop} {p : Option Addr} {M : Led} {δ : Dst} {K : PySem.W.Frag} {te ta tb ty tv tk : TE} {t : TA} {i j l : Nat} {a : Addr} {N : Dst → Led → Prop} {R : Dt → Led → Prop} {wi : TI} {g : TG} {tt : TS} {vs : List Nat}
theorem run_disp3 {x1 x2 x3 : Str} {t1 t2 t3 : TE} {P1 P2 P3 : Dt → Prop} (h1 : EvP p t1 δ P1) (h2 : EvP p t2 δ P2) (h3 : EvP p t3 δ P3)
    (kk : ∀ q d1 d2 d3, M q = none → P1 d1 → P2 d2 → P3 d3 → N (δ.set i (some (.adr q))) (updM M q (.dk (mergeG [] [((Sum.inr x1 : Key), d1), (Sum.inr x2, d2), (Sum.inr x3, d3)])))) :
    Run F p (tAsg (tDisp [(tC (.str x1), t1), (tC (.str x2), t2), (tC (.str x3), t3)]) (gName i)) δ M N R := fun hF A0 B0 Hk σ H D s nx rt => by
  intro q hq
  obtain ⟨hmq, s1⟩ := s.own hq (o := .dK []) (d := .dk []) ⟨[], upd_same, .nil⟩
  refine h1 σ Hk _ s1.st s1.gr.kh s1.po _ fun v1 d1 H1k H1 g1 o1 pd1 r1 => ?_
  have s2 := s1.step g1 o1 hF
  refine h2 σ H1k H1 s2.st s2.gr.kh s2.po _ fun v2 d2 H2k H2 g2 o2 pd2 r2 => ?_
  have s3 := s2.step g2 o2 hF
  refine h3 σ H2k H2 s3.st s3.gr.kh s3.po _ fun v3 d3 H3k H3 g3 o3 pd3 r3 => ?_
  have s4 := s3.step g3 o3 hF
  obtain ⟨_, _, _, kv0, e0, r0⟩ := s4.ow q _ updM_same
  cases r0
  refine ⟨e0, [((Sum.inr x1 : Key), v1), (Sum.inr x2, v2), (Sum.inr x3, v3)], rfl, by show 3 ≤ 15; decide, ?_⟩
  have s5 := s4.put updM_same (o := .dK (mergeK [] [((Sum.inr x1 : Key), v1), (Sum.inr x2, v2), (Sum.inr x3, v3)])) (d := .dk (mergeG [] [((Sum.inr x1 : Key), d1), (Sum.inr x2, d2), (Sum.inr x3, d3)])) ⟨_, upd_same, merge_krp (.cons ((r1.mono g2.kk).mono g3.kk) (.cons (r2.mono g3.kk) (.cons r3 .nil))) .nil⟩
  rw [updM_updM] at s5
  exact nx _ _ H3k _ _ (kk q d1 d2 d3 hmq pd1 pd2 pd3) (s5.set i (.adr q)) (g1.kk.trans (g2.kk.trans g3.kk))
theorem ev_rev2 {x y : Dt} (h : EvD p te δ (.tup [x, y])) : EvD p (Cr.tRev2 K te) δ (.tup [y, x]) := fun σ Hk H s k o Q q =>
  h σ Hk H s k o _ fun w d H1k H1 g1 o1 e r => by
    subst e
    obtain ⟨b, us, e, e5, r5⟩ := r.tup_inv
    obtain ⟨u, v, eu, r6, r7⟩ := rps2 r5
    subst e eu
    refine ⟨b, u, v, rfl, SqT.of (g1.kh _ _ e5), fun l hl => ?_⟩
    obtain ⟨g, o', r'⟩ := newT (p := p) g1.kh o1 hl (.cons r7 (.cons r6 .nil))
    exact q _ _ _ _ (g1.trans g) o' rfl r'
/-- what a comprehension of pairs gives -/
theorem mk_pairs {α β : Type} {B : α → Bool → Prop} {F : α → Dt → Prop} {G : β → Prop} {enc : α × β → Dt} (hF : ∀ x y, F x y → ∃ v, G v ∧ y = enc (x, v)) {xs : List α} {ys : List Dt} (m : Mk B F xs ys) : ∃ gv : List (α × β), ys = gv.map enc ∧ (gv.map (·.1)).Sublist xs ∧ ∀ x ∈ gv, G x.2 := by
  induction m with
  | nil => exact ⟨[], rfl, .slnil, fun x hx => nomatch hx⟩
  | skip m b ih =>
    obtain ⟨gv, h1, h2, h3⟩ := ih
    exact ⟨gv, h1, h2.trans (List.sublist_append_left _ _), h3⟩
  | take m b f ih =>
    obtain ⟨gv, h1, h2, h3⟩ := ih
    obtain ⟨v, hv, e⟩ := hF _ _ f
    refine ⟨gv ++ [(_, v)], by rw [List.map_append, h1, e]; rfl, by rw [List.map_append]; exact h2.append (List.Sublist.refl _), fun x hx => ?_⟩
    rcases List.mem_append.mp hx with h | h
    · exact h3 x h
    · rw [List.mem_singleton.mp h]; exact hv
end
end Ab
end

section
set_option Elab.async false
set_option linter.all false
set_option maxRecDepth 100000
set_option maxHeartbeats 4000000

namespace Rt
open PySem PySem.Spec PyProof.Rows L2 Ab C8
local macro_rules | `(tactic| walk_at "rv") => `(tactic| first
  | exact rv_I0i | exact rv_I0b | exact rv_eqI | exact rv_eqS | exact rv_neI | exact rv_neS | exact rv_eqB | exact rv_inS (t := .t) | exact rv_inS (t := .l) | exact rv_inI (t := .t) | exact rv_inI (t := .l) | exact rv_ninS (t := .t) | exact rv_ninS (t := .l) | exact rv_ninI (t := .t) | exact rv_ninI (t := .l) | exact rv_isN rfl | exact rv_notN rfl | exact rv_eqTI | exact rv_neTI | exact rv_eqLI | exact rv_neTS | exact rv_eqLTS | exact rv_neLTI | exact rv_sign)
local macro_rules | `(tactic| walk_at "ev") => `(tactic| first
  | exact ev_var rfl | exact ev_int | exact ev_str | exact ev_bl | exact ev_non | exact ev_ty | exact ea_nil | exact et_yes
  | ((with_reducible refine ev_op ?_ ?_ ?_) <;> walk_at "ev")
  | ((with_reducible refine ea_cons ?_ ?_) <;> walk_at "ev")
  | ((with_reducible refine ev_and ?_ ?_) <;> walk_at "ev")
  | ((with_reducible refine ev_or ?_ ?_) <;> walk_at "ev")
  | (with_reducible refine ev_not ?_; walk_at "ev")
  | (with_reducible refine ev_tup ?_; walk_at "ev")
  | (with_reducible refine ev_lst ?_; walk_at "ev")
  | (with_reducible refine et_not ?_; walk_at "ev")
  | ((with_reducible refine et_and ?_ ?_) <;> walk_at "ev")
  | ((with_reducible refine et_or ?_ ?_) <;> walk_at "ev")
  | (with_reducible refine et_test ?_; walk_at "ev")
  | (with_reducible refine et_B ?_; walk_at "ev")
  | (with_reducible refine fun (_ : _ = _) => ?_; walk_at "ev")
  | walk_at "rv"
  | skip)


theorem put_first (a b c : Dt) : mergeG [] [((Sum.inr "skills" : Key), a), (Sum.inr "points", b), (Sum.inr "needs", c)] = partK.zip [a, b, c] := by kernel_rfl
theorem put_wants (a b c z : Dt) : putG (partK.zip [a, b, c]) (Sum.inr "wants") z = partK.zip [a, b, c, z] := by kernel_rfl
theorem put_two (a b c d z w : Dt) : putG (putG (partK.zip [a, b, c, d]) (Sum.inr "bars") z) (Sum.inr "gives") w = partK.zip [a, b, c, d, z, w] := by kernel_rfl
theorem put_bars (a b c d e f z : Dt) : putG (partK.zip [a, b, c, d, e, f]) (Sum.inr "bars") z = partK.zip [a, b, c, d, z, f] := by kernel_rfl
theorem put_gives (a b c d e f z : Dt) : putG (partK.zip [a, b, c, d, e, f]) (Sum.inr "gives") z = partK.zip [a, b, c, d, e, z] := by kernel_rfl
theorem put_prices (a b c d e f z : Dt) : putG (partK.zip [a, b, c, d, e, f]) (Sum.inr "prices") z = partK.zip [a, b, c, d, e, f, z] := by kernel_rfl
theorem put_reset (a b c d e f g z : Dt) : putG (partK.zip [a, b, c, d, e, f, g]) (Sum.inr "reset") z = partK.zip [a, b, c, d, e, f, g, z] := by kernel_rfl
def p2 (x : Str × Str) : List Str := [x.1, x.2]
theorem p2_inj {x y : Str × Str} (h : p2 x = p2 y) : x = y := by
  unfold p2 at h
  have h1 := List.cons.inj h
  have h2 := List.cons.inj h1.2
  exact Prod.ext h1.1 h2.1
theorem p2_enc (br : List (Str × Str)) : (br.map p2).map tupS = br.map encSS := by rw [List.map_map]; rfl
theorem only_dk {q : Addr} {ks : List (Key × Dt)} : ∀ b e, updM noM q (.dk ks) b = some e → ∃ ks, e = .dk ks := fun b e h => by
  by_cases z : b = q
  · rw [z, updM_same] at h; cases h; exact ⟨_, rfl⟩
  · rw [updM_ne z] at h; cases h
structure BrOk (names : List Str) (br : List (Str × Str)) : Prop where
  bo : ∀ x ∈ br, x.1 ∈ names ∧ x.2 ∈ names ∧ x.1 ≠ x.2
  bu : br.Pairwise fun x y => ¬ (x = y) ∧ ¬ (x = (y.2, y.1))

section
variable {P : Program} {w : World} {K : PySem.W.Frag} {mg : Str → Option Value} {base : Heap}

def n__law_book : List Str := ["_law_pool_here", "_law_top", "_law_sort", "_law_rows_here", "_law_asked", "_law_names_here", "_law_words", "_law_book_here", "_law_turn", "_law_pair", "_law_row", "_law_name"]
def p__law_book : List Str := ["_law_pool_here", "_law_top", "_law_sort"]
theorem sc__law_book : FnScope n__law_book p__law_book (defScope s__law_book) := ⟨rfl, rfl, rfl, by decide +kernel, rfl, by decide +kernel, by decide +kernel⟩
def R__law_book : List Dt → (Dt → Prop) → Prop := fun ds P => ∃ top sort : Nat, ds = [natD top, natD sort] ∧ 1 ≤ top ∧ top ≤ 5 ∧ 1 ≤ sort ∧ P = fun d => ∃ b : Bk, b.Ok ∧ d = lawD b
theorem c__law_book (T : Tx K mg) : C8.Cal P w K mg base 4 "_law_book" (SpPO (R__law_book)) [] := by
  obtain ⟨fd, F⟩ := T.f__law_book
  have c__law_one := c__law_one (P := P) (w := w) (base := base) T
  have c__law_take := c__law_take (P := P) (w := w) (base := base) T
  have c__law_turned := c__law_turned (P := P) (w := w) (base := base) T
  have c__law_tree := c__law_tree (P := P) (w := w) (base := base) T
  have c__law_rows := c__law_rows (P := P) (w := w) (base := base) T
  refine cal F T.g__law_book sc__law_book (fun _ _ _ _ _ _ us hl => match us, hl with | [_, _, _], _ => rfl) (spPO_len (n := 3) (by rintro _ _ ⟨_, _, rfl, _⟩; rfl)) fun cdv A outer s H E hr => ⟨_, (pss_cons (ps_asg (pe_c c__law_tree hr (by decide) (by rfl) (pa_cons (pv 0) (pa_cons (pv 1) pa_nil))) (Kr.unl (K := K) (n := 2) rfl rfl (pgs_cons (pg_name (i := 3) sc__law_book.nd rfl (by first | exact Or.inl rfl | exact Or.inr rfl)) (pgs_cons (pg_name (i := 4) sc__law_book.nd rfl (by first | exact Or.inl rfl | exact Or.inr rfl)) pgs_nil)))) (pss_cons (ps_setLc (i := 5) (own := [("_law_row", 10)]) rfl sc__law_book.nd rfl rfl (sw_true rfl rfl rfl (by decide +kernel)) (Kr.seq (K := K) rfl (pv 3)) (blkOk_by (own := [("_law_row", 10)]) (N := n__law_book) (sc := defScope s__law_book) (by decide +kernel)) (fun _ _ _ _ _ => (pg_name (i := 10) sc__law_book.nd rfl (by first | exact Or.inl rfl | exact Or.inr rfl))) (fun _ _ _ _ _ => pts_nil) (fun _ _ _ _ _ => (pe_ix (Kr.ix (K := K) rfl) (pv 10) pe_int (fun _ _ => rfl)))) (pss_cons (ps_set (i := 6) sc__law_book.nd rfl (Or.inl rfl) (pe_ifExp (pt_cmpR op_eq (pv 2) pe_int (nomark _)) (pe_lst (pa_cons pe_str pa_nil)) (pe_lst (pa_cons pe_str (pa_cons pe_str (pa_cons pe_str (pa_cons pe_str pa_nil))))))) (pss_cons (ps_set (i := 7) sc__law_book.nd rfl (Or.inl rfl) (pe_disp (pps_cons pe_str (pv 3) (pps_cons pe_str (pe_c c__law_one hr (by decide) (by rfl) (pa_cons (pv 0) (pa_cons (pe_lst (pa_cons pe_int (pa_cons pe_int (pa_cons pe_int (pa_cons pe_int (pa_cons pe_int (pa_cons pe_int (pa_cons pe_int (pa_cons pe_int (pa_cons pe_int (pa_cons pe_int pa_nil))))))))))) pa_nil))) (pps_cons pe_str (pv 4) pps_nil))) (by rfl) (by rfl) (fun z => by cases z) (by decide))) (pss_cons (ps_dput (hu_of hr) (pv 7) pe_str (pe_ifExp (pt_cmpR op_eq (pv 2) pe_int (nomark _)) (pe_lst pa_nil) (pe_c c__law_rows hr (by decide) (by rfl) (pa_cons (pv 0) (pa_cons (pv 5) (pa_cons pe_int (pa_cons (pv 6) (pa_cons (pe_cmpR op_lt (pv 2) pe_int (nomark _)) pa_nil))))))) rfl) (pss_cons (ps_asg (pe_tup (pa_cons (pe_lst pa_nil) (pa_cons (pe_lst pa_nil) pa_nil))) (Kr.tup (K := K) (n := 2) rfl rfl (pgs_cons (pg_sub (pv 7) pe_str (Cr.set_dict (hu_of hr))) (pgs_cons (pg_sub (pv 7) pe_str (Cr.set_dict (hu_of hr))) pgs_nil)))) (pss_cons (ps_for PassesOwn.never rfl (pi_range1 (by rfl) T.n_range (pa_cons (pe_ifExp (PW.pt (pw_and (pt_cmpR op_gt (pv 2) pe_int (nomark _)) (pw_and1 (pt_cmpR op_gt (pe_callB (Kr.len (K := K) rfl) (by rfl) T.n_len (by decide +kernel) (pa_cons (pv 5) pa_nil)) pe_int (nomark _))))) (pe_c c__law_take hr (by decide) (by rfl) (pa_cons (pv 0) (pa_cons pe_int pa_nil))) pe_int) pa_nil)) (pg_name (i := 8) sc__law_book.nd rfl (by first | exact Or.inl rfl | exact Or.inr rfl)) (pss_cons (ps_set (i := 9) sc__law_book.nd rfl (Or.inl rfl) (pe_callTy (Kr.tuple (K := K) rfl) (by rfl) T.n_tuple (by decide +kernel) (pa_cons (pe_slice (Kr.sl (K := K) rfl) (pe_c c__law_turned hr (by decide) (by rfl) (pa_cons (pv 0) (pa_cons (pv 5) pa_nil))) po_none (po_some pe_int)) pa_nil))) (pss_one (ps_if (PW.pt (pw_and (pt_cmpR (Kr.ninP (K := K) rfl hr.units) (pv 9) (pe_dget (hu_of hr) (pv 7) pe_str (fun _ _ => rfl)) (by rfl)) (pw_and1 (pt_cmpR (Kr.ninP (K := K) rfl hr.units) (Cr.pe_rev2 (K := K) rfl (pv 9) (po_some (pe_un un_neg pe_int))) (pe_dget (hu_of hr) (pv 7) pe_str (fun _ _ => rfl)) (by rfl))))) (pss_one (ps_dput (hu_of hr) (pv 7) pe_str (pe_op op_cat (pe_dget (hu_of hr) (pv 7) pe_str (fun _ _ => rfl)) (pe_lst (pa_cons (pv 9) pa_nil))) rfl)) pss_nil)))) (pss_cons (ps_if (pt_cmpR op_eq (pv 2) pe_int (nomark _)) (pss_one (ps_dput (hu_of hr) (pv 7) pe_str (pe_lc (own := [("_law_name", 11)]) rfl sc__law_book.nd (Kr.seq (K := K) rfl (pe_slice (Kr.sl (K := K) rfl) (pe_c c__law_turned hr (by decide) (by rfl) (pa_cons (pv 0) (pa_cons (pv 5) pa_nil))) po_none (po_some (pe_op op_add pe_int (pe_c c__law_take hr (by decide) (by rfl) (pa_cons (pv 0) (pa_cons pe_int pa_nil))))))) (blkOk_by (own := [("_law_name", 11)]) (N := n__law_book) (sc := defScope s__law_book) (by decide +kernel)) (fun _ _ _ _ _ => (pg_name (i := 11) sc__law_book.nd rfl (by first | exact Or.inl rfl | exact Or.inr rfl))) (fun _ _ _ _ _ => pts_nil) (fun _ _ _ _ _ => (pe_tup (pa_cons (pv 11) (pa_cons (pe_op op_add pe_int (pe_c c__law_take hr (by decide) (by rfl) (pa_cons (pv 0) (pa_cons pe_int pa_nil)))) pa_nil))))) rfl)) pss_nil) (pss_cons (ps_dput (hu_of hr) (pv 7) pe_str (pe_lc (own := [("_law_name", 11)]) rfl sc__law_book.nd (Kr.seq (K := K) rfl (pv 5)) (blkOk_by (own := [("_law_name", 11)]) (N := n__law_book) (sc := defScope s__law_book) (by decide +kernel)) (fun _ _ _ _ _ => (pg_name (i := 11) sc__law_book.nd rfl (by first | exact Or.inl rfl | exact Or.inr rfl))) (fun _ _ _ _ _ => pts_one (pt_cmpR op_eq (pe_c c__law_take hr (by decide) (by rfl) (pa_cons (pv 0) (pa_cons pe_int pa_nil))) pe_int (nomark _))) (fun _ _ _ _ _ => (pe_tup (pa_cons (pv 11) (pa_cons (pe_c c__law_one hr (by decide) (by rfl) (pa_cons (pv 0) (pa_cons (pe_lst (pa_cons pe_int (pa_cons pe_int (pa_cons pe_int (pa_cons pe_int (pa_cons pe_int (pa_cons pe_int pa_nil))))))) pa_nil))) pa_nil))))) rfl) (pss_cons (ps_dput (hu_of hr) (pv 7) pe_str (pe_c c__law_one hr (by decide) (by rfl) (pa_cons (pv 0) (pa_cons (pe_lst (pa_cons pe_non (pa_cons pe_non (pa_cons pe_int (pa_cons pe_int (pa_cons pe_int (pa_cons pe_int (pa_cons pe_int (pa_cons pe_int pa_nil))))))))) pa_nil))) rfl) (pss_one (ps_ret (pv 7))))))))))))), ?_⟩
  intro vs Q h
  refine spPO_of (N := n__law_book) (fun a ds P hR => ?_) h
  obtain ⟨top, sort, rfl, ht1, ht5, hso, rfl⟩ := hR
  have take : ∀ {δ : Dst} {E : XK} {tn : TE} (n : Nat), δ[0]? = some (some (.adr a)) → EvD (some a) tn δ (natD n) → 1 ≤ n → n ≤ 1000 → EvP (some a) (tCall (SpP R__law_take) [] E (tCons (tVar 0) (tCons tn tNil))) δ (below n) := fun n h h2 h3 h4 => evp_draw (ds := [natD n]) (ea_cons (ev_var h) (ea_cons h2 ea_nil)) ⟨n, rfl, h3, h4, rfl⟩
  refine run_seq (run_asg (vs := [3, 4]) (P := fun d => ∃ sk nd, TreeOk top sk nd ∧ d = .lst [.lst (sk.map encSI), .lst (nd.map encII)]) (ez_of (evp_draw (R' := R__law_tree) (ds := [natD top]) (ea_cons (ev_var rfl) (ea_cons (ev_var rfl) ea_nil)) ⟨top, rfl, ht1, ht5, rfl⟩)) fun d hd => ?_)
  obtain ⟨sk, nd, tok, rfl⟩ := hd
  refine ⟨_, bind_unl (ds := [.lst (sk.map encSI), .lst (nd.map encII)]) (bind_cons bind_name (bind_cons bind_name bind_nil)), ?_⟩
  have hl5 : sk.length ≤ 5 := Nat.le_trans tok.len ht5
  have hl1 : 1 ≤ sk.length := List.length_pos_iff.mpr tok.ne
  refine run_setD (d := lstS (sk.map (·.1))) ((ev_lc0 sk encSI (fun x => .str x.1) (ei_lst (ev_var rfl)) (fun x hx => ⟨_, bind_name, ev_op (x := encSI x) (y := .int 0) (ev_var rfl) ev_int (rv_ix (t := .t) (atI_nat (j := 0) rfl))⟩) (by omega)).eq (by unfold lstS; rw [List.map_map]; rfl)) ?_
  have hnd := tok.nod
  have hnl : (sk.map (·.1)).length = sk.length := List.length_map ..
  generalize hnm : sk.map (·.1) = names at hnd hnl
  refine run_seq (run_set (P := fun d => ∃ ws : List Str, d = lstS ws ∧ ws ≠ [] ∧ ws.length ≤ 100 ∧ ∀ x ∈ ws, x = ("all" : Str) ∨ x = ("any" : Str) ∨ x = ("count" : Str)) (ez_of (evp_if (B := fun c => c = decide (sort = 1)) (EvTD.eq (et_test (ev_op (x := natD sort) (y := .int 1) (ev_var rfl) ev_int rv_eqI)) (by apply decide_eq_decide.mpr; omega)) (fun _ => (ev_lst (ea_cons ev_str ea_nil)).imp fun d e => ⟨["all"], e, (fun z => nomatch z), by decide, fun x hx => .inl (List.mem_singleton.mp hx)⟩) (fun _ => (ev_lst (ea_cons ev_str (ea_cons ev_str (ea_cons ev_str (ea_cons ev_str ea_nil))))).imp fun d e => ⟨["all", "any", "any", "count"], e, (fun z => nomatch z), by decide, fun x hx => ?_⟩))) fun d ⟨words, e, hw1, hw2, hw3⟩ => ?_)
  · simp only [List.mem_cons, List.not_mem_nil, or_false] at hx
    rcases hx with h | h | h | h
    · exact .inl h
    · exact .inr (.inl h)
    · exact .inr (.inl h)
    · exact .inr (.inr h)
  subst e
  refine run_seq (run_disp3 (P1 := fun d => d = .lst (sk.map encSI)) (P2 := In fun x => 0 ≤ x ∧ x ≤ 12) (P3 := fun d => d = .lst (nd.map encII)) (ev_var rfl) ((evp_draw (R' := R__law_one) (ds := [.lst [.int 0, .int 1, .int 2, .int 2, .int 3, .int 3, .int 4, .int 5, .int 7, .int 12]]) (ea_cons (ev_var rfl) (ea_cons (ev_lst (ea_cons ev_int (ea_cons ev_int (ea_cons ev_int (ea_cons ev_int (ea_cons ev_int (ea_cons ev_int (ea_cons ev_int (ea_cons ev_int (ea_cons ev_int (ea_cons ev_int ea_nil))))))))))) ea_nil)) ⟨.l, _, rfl, (fun z => nomatch z), (fun z => nomatch z), by show 10 ≤ 1000; decide, rfl⟩).imp fun d hd => ?_) (ev_var rfl) fun q d1 d2 d3 hq e1 ⟨pts, hpts, e2⟩ e3 => ?_)
  · simp only [List.mem_cons, List.not_mem_nil, or_false] at hd
    rcases hd with rfl | rfl | rfl | rfl | rfl | rfl | rfl | rfl | rfl | rfl <;> exact ⟨_, by decide, rfl⟩
  subst e1 e2 e3
  rw [put_first]
  refine run_seq (run_dput (key := Sum.inr "wants") (kd := .str "wants") (P := fun d => ∃ ws : List Wt, d = .lst (ws.map encW) ∧ ws.length ≤ 4 ∧ ∀ x ∈ ws, WtOk names x) rfl updM_same (by show 3 < 100000; decide) (ez_of (evp_if (B := fun c => c = false) (EvTD.eq (et_test (ev_op (x := natD sort) (y := .int 0) (ev_var rfl) ev_int rv_eqI)) (decide_eq_false (by omega))) (fun z => nomatch z) (fun _ => evp_draw (R' := R__law_rows) (ds := [lstS names, natD 4, lstS words, .bl (decide ((sort : Int) < 3))]) (ea_cons (ev_var rfl) (ea_cons (ev_var rfl) (ea_cons ev_int (ea_cons (ev_var rfl) (ea_cons (ev_op (x := natD sort) (y := .int 3) (ev_var rfl) ev_int rv_I0b) ea_nil))))) ⟨names, words, 4, _, rfl, hnd, by omega, by omega, by omega, hw1, hw2, hw3, rfl⟩))) ev_str rfl fun d ⟨ws, e, hws1, hws2⟩ => ?_)
  subst e
  rw [updM_updM, put_wants]
  refine run_seq (run_two (i := 7) (a := q) rfl updM_same (by show 4 < 1000; decide) ?_)
  rw [updM_updM, put_two]
  have e0 : ([] : List Dt) = (([] : List (Str × Str)).map p2).map tupS := rfl
  refine run_seq (run_forX (vs := [8]) (fun xs => ∃ m, m ≤ 2 ∧ (m = 0 ∨ 2 ≤ names.length) ∧ xs = List.range m) natD (fun x y e => by have := Dt.int.inj e; omega) (fun xs pre δ M => ∃ (br : List (Str × Str)) (o8 o9 : Option Dt), δ = [some (.adr a), some (natD top), some (natD sort), some (.lst (sk.map encSI)), some (.lst (nd.map encII)), some (lstS names), some (lstS words), some (.adr q), o8, o9, none, none] ∧ M = updM noM q (.dk (partK.zip [.lst (sk.map encSI), .int pts, .lst (nd.map encII), .lst (ws.map encW), .lst ((br.map p2).map tupS), .lst []])) ∧ br.length ≤ pre.length ∧ BrOk names br) (iz_of (fun σ Hk H s k o R Q => eip_rng1 (P := fun j => ∃ i : Nat, i ≤ 2 ∧ (i = 0 ∨ 2 ≤ names.length) ∧ j = (i : Int)) (eap_cons (P := In fun x => ∃ i : Nat, i ≤ 2 ∧ (i = 0 ∨ 2 ≤ names.length) ∧ x = (i : Int)) (evp_if (B := fun c => c = (decide (1 < (sort : Int)) && decide (1 < ((names.length : Nat) : Int)))) (et_and (et_test (ev_op (x := natD sort) (y := .int 1) (ev_var rfl) ev_int rv_I0b)) (fun _ => et_test (ev_op (y := .int 1) ((ev_cb (xs := [seqD .l (names.map Dt.str)]) (ea_cons (ev_var rfl) ea_nil) rc_len).eq (y := natD names.length) (by rw [List.length_map]; rfl)) ev_int rv_I0b))) (fun hc => evp_in (take 3 rfl ev_int (by decide) (by decide)) fun x ⟨i, hi, e⟩ => ⟨i, by omega, .inr (by have := of_decide_eq_true ((Bool.and_eq_true _ _).mp hc.symm).2; omega), e⟩) (fun _ => ev_in ev_int ⟨0, by decide, .inl rfl, rfl⟩)) (fun _ _ => ea_nil) fun u vs ⟨x, hx, e⟩ e2 => ⟨x, hx, by rw [e, e2]⟩) (fun j ⟨i, hi, _, e⟩ => by rw [e]; exact ⟨by omega, by omega⟩) σ Hk H s k o R fun J ds Hk' H' g o' ⟨j, ⟨i, hi, hi2, e⟩, e2⟩ w => Q J ds Hk' H' g o' ⟨List.range i, ⟨i, hi, hi2, rfl⟩, by rw [e2, e, Int.toNat_natCast]; exact rng_nat _⟩ w)) (fun xs hx => ⟨[], _, _, rfl, rfl, Nat.le_refl _, (fun x hx => nomatch hx), .nil⟩) ?_ ?_)
  · rintro xs pre x post δ1 M1 ⟨m, hm, hm2, rfl⟩ hs ⟨br, o8, o9, rfl, rfl, hbl, hbo⟩
    have hpl := congrArg List.length hs
    rw [List.length_range, List.length_append, List.length_cons] at hpl
    have hn2 : 2 ≤ names.length := by omega
    have hpl1 : (pre ++ [x]).length = pre.length + 1 := by rw [List.length_append]; rfl
    refine ⟨_, bind_name, ?_⟩
    refine run_seq (run_set (P := fun d => ∃ z : Str × Str, d = tupS (p2 z) ∧ z.1 ∈ names ∧ z.2 ∈ names ∧ z.1 ≠ z.2) (ez_of (evp_cb (R := fun xs => ∃ z : Str × Str, xs = [lstS (p2 z)] ∧ z.1 ∈ names ∧ z.2 ∈ names ∧ z.1 ≠ z.2) (eap_cons (P := fun d => ∃ z : Str × Str, d = lstS (p2 z) ∧ z.1 ∈ names ∧ z.2 ∈ names ∧ z.1 ≠ z.2) ((evp_slice (X := fun xs => ∃ ys : List Str, ys.Perm names ∧ xs = ys.map Dt.str) (A := fun i => i = none) (B := fun o => o = some 2) ((evp_draw (R' := R__law_turned) (ds := [lstS names]) (ea_cons (ev_var rfl) (ea_cons (ev_var rfl) ea_nil)) ⟨_, rfl, by omega, rfl⟩).imp fun d ⟨ys, h, e⟩ => ⟨_, ⟨ys, h, rfl⟩, e⟩) eo_none (eo_some ev_int)).imp fun d ⟨xs, lo, hi, ⟨ys, hp, h1⟩, h2, h3, h4⟩ => ?_) (fun _ _ => ea_nil) fun u vs ⟨z, h1, h2⟩ e => ⟨z, by rw [h1, e], h2⟩) fun xs ⟨z, e, hz⟩ => by
      subst e
      exact fun us Hk H r k o Q q => rc_tuple (ds := (p2 z).map Dt.str) us Hk H r k o Q fun w d Hk' H' g' o' e => q w d Hk' H' g' o' ⟨z, e, hz⟩)) fun d ⟨z, e, hz1, hz2, hz3⟩ => ?_)
    · subst h1 h2 h3 h4
      have hyl := hp.length_eq
      have hyn := hp.nodup_iff.mpr hnd
      match ys, hp, hyl, hyn with
      | [], _, h, _ => exact absurd h (by rw [List.length_nil]; omega)
      | [y], _, h, _ => exact absurd h (by rw [List.length_singleton]; omega)
      | y :: z :: r, hp, _, hyn =>
        refine ⟨(y, z), ?_, hp.mem_iff.mp (by simp), hp.mem_iff.mp (by simp), fun e => ?_⟩
        · have := cutTo (y :: z :: r) Dt.str 2
          exact congrArg Dt.lst this
        · exact (List.nodup_cons.mp hyn).1 (by rw [show y = z from e]; exact List.mem_cons_self)
    subst e
    refine run_if (B := fun c => c = (!decide (p2 z ∈ br.map p2) && !decide (p2 (z.2, z.1) ∈ br.map p2))) (tz_fz (Fz.refl.set (i := 7) rfl updM_same) ?_) (fun hc => ?_) (fun hc => run_next ⟨br, _, _, rfl, rfl, by rw [hpl1]; omega, hbo⟩)
    · refine et_and ?_ fun _ => ?_
      · exact et_test (ev_op (x := tupS (p2 z)) (y := .lst ((br.map p2).map tupS)) (ev_var rfl) (ev_dget (ev_var rfl) ev_str (get_part 4 rfl rfl)) rv_ninTS)
      · exact et_test (ev_op (x := tupS (p2 (z.2, z.1))) (y := .lst ((br.map p2).map tupS)) (ev_rev2 (ev_var rfl)) (ev_dget (ev_var rfl) ev_str (get_part 4 rfl rfl)) rv_ninTS)
    · have h1 := (Bool.and_eq_true _ _).mp hc.symm
      have n1 : p2 z ∉ br.map p2 := of_decide_eq_false (by have := h1.1; revert this; cases decide (p2 z ∈ br.map p2) <;> simp)
      have n2 : p2 (z.2, z.1) ∉ br.map p2 := of_decide_eq_false (by have := h1.2; revert this; cases decide (p2 (z.2, z.1) ∈ br.map p2) <;> simp)
      refine run_dput (key := Sum.inr "bars") (kd := .str "bars") (P := fun d => d = .lst (((br ++ [z]).map p2).map tupS)) rfl updM_same (by show 6 < 100000; decide) (ez_fz (Fz.refl.set (i := 7) rfl updM_same) ((ev_op (x := .lst ((br.map p2).map tupS)) (y := .lst [tupS (p2 z)]) (ev_dget (ev_var rfl) ev_str (get_part 4 rfl rfl)) (ev_lst (ea_cons (ev_var rfl) ea_nil)) (rv_catL (by rw [List.length_map, List.length_map, List.length_singleton]; omega))).eq (by rw [List.map_append, List.map_append]; rfl)) fun d e => ?_) ev_str rfl fun d e => ?_
      · rw [e]
        exact Sep.lt (.lst (.map (fun s => .tup (.map (fun s => .str s) s)) _)) only_dk
      · subst e
        rw [updM_updM, put_bars]
        refine ⟨br ++ [z], _, _, rfl, rfl, by rw [List.length_append, hpl1, List.length_singleton]; omega, fun y hy => ?_, ?_⟩
        · rcases List.mem_append.mp hy with h | h
          · exact hbo.bo y h
          · rw [List.mem_singleton.mp h]; exact ⟨hz1, hz2, hz3⟩
        · rw [List.pairwise_append]
          refine ⟨hbo.bu, List.pairwise_singleton _ _, fun y hy w hw => ?_⟩
          rw [List.mem_singleton.mp hw]
          exact ⟨fun e => n1 (List.mem_map.mpr ⟨y, hy, by rw [e]⟩), fun e => n2 (List.mem_map.mpr ⟨y, hy, by rw [e]⟩)⟩
  rintro xs δ1 M1 ⟨m, hm, hm2, rfl⟩ ⟨br, o8, o9, rfl, rfl, hbl, hbo⟩
  rw [List.length_range] at hbl
  rw [p2_enc]
  refine run_seq (Run.imp (N := fun δ M => δ = [some (.adr a), some (natD top), some (natD sort), some (.lst (sk.map encSI)), some (.lst (nd.map encII)), some (lstS names), some (lstS words), some (.adr q), o8, o9, none, none] ∧ ∃ gv : List (Str × Int), M = updM noM q (.dk (partK.zip [.lst (sk.map encSI), .int pts, .lst (nd.map encII), .lst (ws.map encW), .lst (br.map encSS), .lst (gv.map encSI)])) ∧ gv.length ≤ 5 ∧ (gv.map (·.1)).Nodup ∧ ∀ x ∈ gv, x.1 ∈ names ∧ 1 ≤ x.2 ∧ x.2 ≤ 3) (run_if (B := fun _ => True) (tz_of ((et_test (ev_op (x := natD sort) (y := .int 4) (ev_var rfl) ev_int rv_eqI)).imp fun _ _ => trivial)) (fun _ => ?_) (fun _ => run_next ⟨rfl, [], rfl, Nat.zero_le _, .nil, fun x hx => nomatch hx⟩)) ?_ fun _ _ h => h)
  · refine run_dput (key := Sum.inr "gives") (kd := .str "gives") (P := fun d => ∃ gv : List (Str × Int), d = .lst (gv.map encSI) ∧ gv.length ≤ 5 ∧ (gv.map (·.1)).Nodup ∧ ∀ x ∈ gv, x.1 ∈ names ∧ 1 ≤ x.2 ∧ x.2 ≤ 3) rfl updM_same (by show 6 < 100000; decide) (ez_of ((evp_lc (vs := [11]) (enc := Dt.str) (X := fun xs : List Str => xs.Nodup ∧ xs.length ≤ 5 ∧ ∀ n ∈ xs, n ∈ names) (B := fun _ c => c = true) (F := fun n d => ∃ v : Int, (1 ≤ v ∧ v ≤ 3) ∧ d = encSI (n, v)) (eip_seq ((evp_slice (X := fun xs => ∃ ys : List Str, ys.Perm names ∧ xs = ys.map Dt.str) (A := fun i => i = none) (B := fun o => ∃ i : Int, (∃ m : Nat, i = (m : Int)) ∧ o = some i) ((evp_draw (R' := R__law_turned) (ds := [lstS names]) (ea_cons (ev_var rfl) (ea_cons (ev_var rfl) ea_nil)) ⟨_, rfl, by omega, rfl⟩).imp fun d ⟨ys, h, e⟩ => ⟨_, ⟨ys, h, rfl⟩, e⟩) eo_none (eop_some (evp_opZ (A := fun x => x = 1) (B := fun x => ∃ i : Nat, i < 2 ∧ x = (i : Int)) (ev_in ev_int rfl) (take 2 rfl ev_int (by decide) (by decide)) (fun x y hx ⟨i, hi, hy⟩ => ⟨i + 1, by omega⟩)))).imp fun d ⟨xs, lo, hi', ⟨ys, hp, h1⟩, h2, ⟨i', ⟨m', h5⟩, h6⟩, h7⟩ => ⟨.l, _, ⟨ys.take m', ⟨(List.take_sublist _ _).nodup (hp.nodup_iff.mpr hnd), by rw [List.length_take, hp.length_eq]; omega, fun y hy => hp.mem_iff.mp (List.mem_of_mem_take hy)⟩, rfl⟩, by rw [h7, h1, h2, h6, h5, cutTo]; rfl⟩)) (fun xs hx n hn => ⟨_, bind_name, et_yes, fun _ => ?_⟩) (fun xs hx => by have := hx.2.1; omega)).imp fun d ⟨xs, ys, hx, hmk, e⟩ => ?_)) ev_str rfl fun d ⟨gv, e, hg⟩ => ?_
    · refine (evp_tup (R := fun xs => ∃ v : Int, (1 ≤ v ∧ v ≤ 3) ∧ xs = [.str n, .int v]) (eap_cons (P := fun d => d = .str n) (Pr := fun _ xs => ∃ v : Int, (1 ≤ v ∧ v ≤ 3) ∧ xs = [.int v]) (ev_var rfl) (fun _ _ => eap_cons (P := In fun v => 1 ≤ v ∧ v ≤ 3) (Pr := fun _ xs => xs = []) (evp_opZ (A := fun x => x = 1) (B := fun x => ∃ i : Nat, i < 3 ∧ x = (i : Int)) (ev_in ev_int rfl) (take 3 rfl ev_int (by decide) (by decide)) (fun x y hx ⟨i, hi, hy⟩ => ⟨by omega, by omega⟩)) (fun _ _ => ea_nil) fun u vs ⟨v, hv, e⟩ e2 => ⟨v, hv, by rw [e, e2]⟩) fun u vs e ⟨v, hv, e2⟩ => ⟨v, hv, by rw [e, e2]⟩) (fun xs ⟨v, _, e⟩ => by rw [e]; show 2 ≤ 100000; decide)).imp fun d ⟨xs, ⟨v, hv, e1⟩, e2⟩ => ⟨v, hv, by rw [e2, e1]; rfl⟩
    · obtain ⟨gv, h1, h2, h3⟩ := mk_pairs (enc := encSI) (G := fun v : Int => 1 ≤ v ∧ v ≤ 3) (fun x y h => h) hmk
      have h4 := h2.length_le
      rw [List.length_map] at h4
      exact ⟨gv, by rw [e, h1], Nat.le_trans h4 hx.2.1, h2.nodup hx.1, fun x hx' => ⟨hx.2.2 _ (h2.subset (List.mem_map.mpr ⟨x, hx', rfl⟩)), h3 x hx'⟩⟩
    · subst e
      rw [updM_updM, put_gives]
      exact ⟨rfl, gv, rfl, hg⟩
  rintro δ M ⟨rfl, gv, rfl, hg1, hg2, hg3⟩
  refine run_seq (run_dput (key := Sum.inr "prices") (kd := .str "prices") (P := fun d => ∃ pr : List (Str × Int), d = .lst (pr.map encSI) ∧ pr.length ≤ 5 ∧ (pr.map (·.1)).Nodup ∧ ∀ x ∈ pr, x.1 ∈ names ∧ 0 ≤ x.2 ∧ x.2 ≤ 99) rfl updM_same (by show 6 < 100000; decide) (ez_of ((evp_lc (vs := [11]) (enc := Dt.str) (X := fun xs : List Str => xs = names) (B := fun _ _ => True) (F := fun n d => ∃ v : Int, (0 ≤ v ∧ v ≤ 99) ∧ d = encSI (n, v)) (eip_seq ((ev_var (d := lstS names) rfl).imp fun d e => ⟨.l, _, ⟨names, rfl, rfl⟩, e⟩)) (fun xs hx n hn => ⟨_, bind_name, etp_test ((evp_eqZ (A := fun _ => True) (B := fun _ => True) (evp_in (take 2 rfl ev_int (by decide) (by decide)) fun _ _ => trivial) (ev_in ev_int trivial)).imp fun d ⟨x, y, _, _, e⟩ => ⟨_, trivial, e⟩), fun _ => ?_⟩) (fun xs hx => by rw [hx]; omega)).imp fun d ⟨xs, ys, hx, hmk, e⟩ => ?_)) ev_str rfl fun d ⟨pr, e, hp1, hp2, hp3⟩ => ?_)
  · refine (evp_tup (R := fun xs => ∃ v : Int, (0 ≤ v ∧ v ≤ 99) ∧ xs = [.str n, .int v]) (eap_cons (P := fun d => d = .str n) (Pr := fun _ xs => ∃ v : Int, (0 ≤ v ∧ v ≤ 99) ∧ xs = [.int v]) (ev_var rfl) (fun _ _ => eap_cons (P := In fun v => 0 ≤ v ∧ v ≤ 99) (Pr := fun _ xs => xs = []) ((evp_draw (R' := R__law_one) (ds := [.lst [.int 0, .int 1, .int 2, .int 3, .int 7, .int 99]]) (ea_cons (ev_var rfl) (ea_cons (ev_lst (ea_cons ev_int (ea_cons ev_int (ea_cons ev_int (ea_cons ev_int (ea_cons ev_int (ea_cons ev_int ea_nil))))))) ea_nil)) ⟨.l, _, rfl, (fun z => nomatch z), (fun z => nomatch z), by show 6 ≤ 1000; decide, rfl⟩).imp fun d hd => ?_) (fun _ _ => ea_nil) fun u vs ⟨v, hv, e⟩ e2 => ⟨v, hv, by rw [e, e2]⟩) fun u vs e ⟨v, hv, e2⟩ => ⟨v, hv, by rw [e, e2]⟩) (fun xs ⟨v, _, e⟩ => by rw [e]; show 2 ≤ 100000; decide)).imp fun d ⟨xs, ⟨v, hv, e1⟩, e2⟩ => ⟨v, hv, by rw [e2, e1]; rfl⟩
    simp only [List.mem_cons, List.not_mem_nil, or_false] at hd
    rcases hd with rfl | rfl | rfl | rfl | rfl | rfl <;> exact ⟨_, by decide, rfl⟩
  · subst hx
    obtain ⟨pr, h1, h2, h3⟩ := mk_pairs (enc := encSI) (G := fun v : Int => 0 ≤ v ∧ v ≤ 99) (fun x y h => h) hmk
    have h4 := h2.length_le
    rw [List.length_map] at h4
    exact ⟨pr, by rw [e, h1], by omega, h2.nodup hnd, fun x hx' => ⟨h2.subset (List.mem_map.mpr ⟨x, hx', rfl⟩), h3 x hx'⟩⟩
  subst e
  rw [updM_updM, put_prices]
  refine run_seq (run_dput (key := Sum.inr "reset") (kd := .str "reset") (P := fun d => ∃ rs : Option Int, d = encO rs ∧ ∀ r, rs = some r → 0 ≤ r ∧ r ≤ 99) rfl updM_same (by show 7 < 100000; decide) (ez_of ((evp_draw (R' := R__law_one) (ds := [.lst [.non, .non, .int 0, .int 1, .int 2, .int 4, .int 9, .int 99]]) (ea_cons (ev_var rfl) (ea_cons (ev_lst (ea_cons ev_non (ea_cons ev_non (ea_cons ev_int (ea_cons ev_int (ea_cons ev_int (ea_cons ev_int (ea_cons ev_int (ea_cons ev_int ea_nil))))))))) ea_nil)) ⟨.l, _, rfl, (fun z => nomatch z), (fun z => nomatch z), by show 8 ≤ 1000; decide, rfl⟩).imp fun d hd => ?_)) ev_str rfl fun d ⟨rs, e, hrs⟩ => ?_)
  · simp only [List.mem_cons, List.not_mem_nil, or_false] at hd
    rcases hd with rfl | rfl | rfl | rfl | rfl | rfl | rfl | rfl
    · exact ⟨none, rfl, fun r z => nomatch z⟩
    · exact ⟨none, rfl, fun r z => nomatch z⟩
    all_goals exact ⟨some _, rfl, fun r z => by cases z; decide⟩
  subst e
  rw [updM_updM, put_reset]
  refine run_ret (P := fun d => d = .adr q) (ez_of (ev_var rfl)) fun d e => ⟨q, _, e, updM_same, ⟨sk, pts, nd, ws, br, gv, pr, rs⟩, ?_, rfl⟩
  have hnames : (⟨sk, pts, nd, ws, br, gv, pr, rs⟩ : Bk).names = names := hnm
  exact { ne := tok.ne, len := hl5, wrd := tok.wrd, nod := by rw [hnames]; exact hnd, srt := tok.srt, p0 := hpts.1, p1 := hpts.2, nl := tok.nl, no := tok.no, nn := tok.nn, ns := tok.ns, wl := hws1, wo := by rw [hnames]; exact hws2, bl := by show br.length ≤ 6; omega, bo := by rw [hnames]; exact hbo.bo, bu := hbo.bu, gl := hg1, go := by rw [hnames]; exact hg3, gn := hg2, pl := hp1, po := by rw [hnames]; exact hp3, pn := hp2, ro := hrs }
end
end Rt
end

section
set_option Elab.async false
set_option linter.all false
set_option maxRecDepth 100000
set_option maxHeartbeats 4000000

namespace Rt
open PySem PySem.Spec PyProof.Rows L2 Ab C8
local macro_rules | `(tactic| walk_at "rv") => `(tactic| first
  | exact rv_I0i | exact rv_I0b | exact rv_eqI | exact rv_eqS | exact rv_neI | exact rv_neS | exact rv_eqB | exact rv_inS (t := .t) | exact rv_inS (t := .l) | exact rv_inI (t := .t) | exact rv_inI (t := .l) | exact rv_ninS (t := .t) | exact rv_ninS (t := .l) | exact rv_ninI (t := .t) | exact rv_ninI (t := .l) | exact rv_isN rfl | exact rv_notN rfl | exact rv_eqTI | exact rv_neTI | exact rv_eqLI | exact rv_neTS | exact rv_eqLTS | exact rv_neLTI | exact rv_sign)
local macro_rules | `(tactic| walk_at "ev") => `(tactic| first
  | exact ev_var rfl | exact ev_int | exact ev_str | exact ev_bl | exact ev_non | exact ev_ty | exact ea_nil | exact et_yes
  | ((with_reducible refine ev_op ?_ ?_ ?_) <;> walk_at "ev")
  | ((with_reducible refine ea_cons ?_ ?_) <;> walk_at "ev")
  | ((with_reducible refine ev_and ?_ ?_) <;> walk_at "ev")
  | ((with_reducible refine ev_or ?_ ?_) <;> walk_at "ev")
  | (with_reducible refine ev_not ?_; walk_at "ev")
  | (with_reducible refine ev_tup ?_; walk_at "ev")
  | (with_reducible refine ev_lst ?_; walk_at "ev")
  | (with_reducible refine et_not ?_; walk_at "ev")
  | ((with_reducible refine et_and ?_ ?_) <;> walk_at "ev")
  | ((with_reducible refine et_or ?_ ?_) <;> walk_at "ev")
  | (with_reducible refine et_test ?_; walk_at "ev")
  | (with_reducible refine et_B ?_; walk_at "ev")
  | (with_reducible refine fun (_ : _ = _) => ?_; walk_at "ev")
  | walk_at "rv"
  | skip)


theorem put_w (b : Bk) (ws : List Wt) : putG (partsD kll b) (Sum.inr "wants") (.lst (ws.map encW)) = partsD kll { b with wt := ws } := by kernel_rfl
theorem lt_encW (w : Wt) : LT (encW w) := by
  have h : LT (tupS w.ns) := .tup (.map (fun s => .str s) _)
  unfold encW
  cases w.k with
  | all => exact .tup (.cons (.str _) (.cons (.str _) (.cons h .nil)))
  | any => exact .tup (.cons (.str _) (.cons (.str _) (.cons h .nil)))
  | count n => exact .tup (.cons (.str _) (.cons (.str _) (.cons h (.cons (.int _) .nil))))

section
variable {P : Program} {w : World} {K : PySem.W.Frag} {mg : Str → Option Value} {base : Heap}

def n__law_made : List Str := ["_law_book_here"]
def p__law_made : List Str := ["_law_book_here"]
theorem sc__law_made : FnScope n__law_made p__law_made (defScope s__law_made) := ⟨rfl, rfl, rfl, by decide +kernel, rfl, by decide +kernel, by decide +kernel⟩
def R__law_made (K : PySem.W.Frag) : List Dt → Dt → Prop := fun ds d => ∃ b : Bk, ds = [lawD b] ∧ b.Ok ∧ d = bkD (BC K) b
theorem c__law_made (T : Tx K mg) : C8.Cal P w K mg base 7 "_law_made" (SpD (R__law_made K)) [] := by
  obtain ⟨fd, F⟩ := T.f__law_made
  obtain ⟨fdB, FB, KB⟩ := c_Book (P := P) (w := w) (base := base) T
  refine cal F T.g__law_made sc__law_made (fun _ _ _ _ _ _ us hl => match us, hl with | [_], _ => rfl) (spD_len (n := 1) (by first | (rintro _ _ ⟨_, rfl, _⟩; rfl))) fun cdv A outer s H E hr => ⟨_, (pss_one (ps_ret (pe_makeK T.mk_Book FB (hr.mono (by decide)) (by rfl) T.g_Book KB (C8.pass0 (E := C8.E0)) (pa_cons (pe_dget (hu_of hr) (pv 0) pe_str (fun _ _ => rfl)) (pa_cons (pe_dget (hu_of hr) (pv 0) pe_str (fun _ _ => rfl)) pa_nil)) (pk_cons (pe_dget (hu_of hr) (pv 0) pe_str (fun _ _ => rfl)) (pk_cons (pe_dget (hu_of hr) (pv 0) pe_str (fun _ _ => rfl)) (pk_cons (pe_dget (hu_of hr) (pv 0) pe_str (fun _ _ => rfl)) (pk_cons (pe_dget (hu_of hr) (pv 0) pe_str (fun _ _ => rfl)) (pk_cons (pe_dget (hu_of hr) (pv 0) pe_str (fun _ _ => rfl)) (pk_cons (pe_dget (hu_of hr) (pv 0) pe_str (fun _ _ => rfl)) pk_nil))))))))), ?_⟩
  intro vs Q h
  refine spD_of (N := n__law_made) (fun ds d hR => ?_) h
  obtain ⟨b, rfl, ok, rfl⟩ := hR
  refine run_retD ((evp_makeK (G := fun gs => gs = bkF b) (ds := (partL kll b).take 2) (es := (partL kll b).drop 2) (fs := partL kll b) (ea_cons (ev_dget (ev_var rfl) ev_str (get_part 0 rfl rfl)) (ea_cons (ev_dget (ev_var rfl) ev_str (get_part 1 rfl rfl)) ea_nil)) (ea_cons (ev_dget (ev_var rfl) ev_str (get_part 2 rfl rfl)) (ea_cons (ev_dget (ev_var rfl) ev_str (get_part 3 rfl rfl)) (ea_cons (ev_dget (ev_var rfl) ev_str (get_part 4 rfl rfl)) (ea_cons (ev_dget (ev_var rfl) ev_str (get_part 5 rfl rfl)) (ea_cons (ev_dget (ev_var rfl) ev_str (get_part 6 rfl rfl)) (ea_cons (ev_dget (ev_var rfl) ev_str (get_part 7 rfl rfl)) ea_nil)))))) rfl rfl (fun x vs zs Hk r1 r2 => ⟨vs ++ zs, rfl, r1.append r2⟩) ⟨kll, b, rfl, ok, kll_ok, rfl⟩).imp fun d ⟨gs, e1, e2⟩ => by rw [e2, e1]; rfl)
def n__law_small_book : List Str := ["_law_pool_here", "_law_top", "_law_many", "_law_book_here"]
def p__law_small_book : List Str := ["_law_pool_here", "_law_top", "_law_many"]
theorem sc__law_small_book : FnScope n__law_small_book p__law_small_book (defScope s__law_small_book) := ⟨rfl, rfl, rfl, by decide +kernel, rfl, by decide +kernel, by decide +kernel⟩
def R__law_small_book : List Dt → (Dt → Prop) → Prop := fun ds P => ∃ top : Nat, ds = [natD top, natD 4] ∧ 1 ≤ top ∧ top ≤ 5 ∧ P = fun d => ∃ b : Bk, b.Ok ∧ d = lawD b
theorem c__law_small_book (T : Tx K mg) : C8.Cal P w K mg base 5 "_law_small_book" (SpP (R__law_small_book)) [] := by
  obtain ⟨fd, F⟩ := T.f__law_small_book
  have c__law_book := c__law_book (P := P) (w := w) (base := base) T
  have c__law_take := c__law_take (P := P) (w := w) (base := base) T
  refine cal F T.g__law_small_book sc__law_small_book (fun _ _ _ _ _ _ us hl => match us, hl with | [_, _, _], _ => rfl) (spP_len (n := 3) (by first | (rintro _ _ ⟨_, rfl, _⟩; rfl))) fun cdv A outer s H E hr => ⟨_, (pss_cons (ps_set (i := 3) sc__law_small_book.nd rfl (Or.inl rfl) (pe_c c__law_book hr (by decide) (by rfl) (pa_cons (pv 0) (pa_cons (pv 1) (pa_cons (pe_op op_add pe_int (pe_c c__law_take hr (by decide) (by rfl) (pa_cons (pv 0) (pa_cons pe_int pa_nil)))) pa_nil))))) (pss_cons (ps_dput (hu_of hr) (pv 3) pe_str (pe_slice (Kr.sl (K := K) rfl) (pe_dget (hu_of hr) (pv 3) pe_str (fun _ _ => rfl)) po_none (po_some (pv 2))) rfl) (pss_one (ps_ret (pv 3))))), ?_⟩
  intro vs Q h
  refine spP_of (N := n__law_small_book) (fun a ds P hR => ?_) h
  obtain ⟨top, rfl, ht1, ht5, rfl⟩ := hR
  refine run_seq (run_setPO (R' := R__law_book) (T := fun ds => ∃ sort : Nat, 1 ≤ sort ∧ ds = [natD top, natD sort]) (eap_cons (P := fun d => d = .adr a) (Pr := fun _ xs => ∃ sort : Nat, 1 ≤ sort ∧ xs = [natD top, natD sort]) (ev_var rfl) (fun _ _ => eap_cons (P := fun d => d = natD top) (Pr := fun _ xs => ∃ sort : Nat, 1 ≤ sort ∧ xs = [natD sort]) (ev_var rfl) (fun _ _ => eap_cons (P := In fun x => ∃ sort : Nat, 1 ≤ sort ∧ x = (sort : Int)) (Pr := fun _ xs => xs = []) (evp_opZ (A := fun x => x = 1) (B := fun x => ∃ i : Nat, i < 4 ∧ x = (i : Int)) (ev_in ev_int rfl) (evp_draw (R' := R__law_take) (ds := [natD 4]) (ea_cons (ev_var rfl) (ea_cons ev_int ea_nil)) ⟨4, rfl, by decide, by decide, rfl⟩) (fun x y hx ⟨i, hi, hy⟩ => ⟨i + 1, by omega, by omega⟩)) (fun _ _ => ea_nil) fun u vs ⟨x, ⟨s, h1, h2⟩, e⟩ e2 => ⟨s, h1, by rw [e, e2, h2]; rfl⟩) fun u vs e ⟨s, h1, e2⟩ => ⟨s, h1, by rw [e, e2]⟩) fun u vs e ⟨s, h1, e2⟩ => ⟨vs, ⟨s, h1, e2⟩, by rw [e]⟩) (P := fun d => ∃ b : Bk, b.Ok ∧ d = lawD b) (fun ds ⟨sort, hs, e⟩ => ⟨top, sort, e, ht1, ht5, hs, rfl⟩) fun q d hq ⟨b, ok, e⟩ => ?_)
  subst e
  have e4 : b.wt.take 4 = b.wt := List.take_of_length_le ok.wl
  refine run_seq (run_dput (key := Sum.inr "wants") (kd := .str "wants") (P := fun d => d = .lst (b.wt.map encW)) rfl updM_same (by show 8 < 100000; decide) (ez_fz (Fz.refl.set (i := 3) rfl updM_same) ((ev_slice (xs := b.wt.map encW) (ev_dget (ev_var rfl) ev_str (get_part 3 rfl rfl)) eo_none (eo_some (i := ((4 : Nat) : Int)) (ev_var rfl))).eq (by rw [cutTo, e4])) fun d e => by rw [e]; exact Sep.lt (.lst (.map lt_encW _)) only_dk) ev_str rfl fun d e => ?_)
  subst e
  rw [updM_updM, put_w]
  exact run_fact updM_same fun nf => run_retO (i := 3) rfl updM_same (not_fr nf) ⟨b, ok, rfl⟩
end
end Rt
end

section
set_option Elab.async false
set_option linter.all false
set_option maxRecDepth 100000
set_option maxHeartbeats 4000000
namespace Rt
open PySem PySem.Spec PyProof.Rows L2 Ab C8
namespace Bk
variable {b : Bk}
theorem fold_mono (b : Bk) : ∀ (ys found : List (List Int)) (x : List Int), x ∈ found → x ∈ ys.foldl b.addSet found
  | [], _, _, h => h
  | y :: ys, found, x, h => fold_mono b ys _ x (by
    unfold addSet
    split
    · exact List.mem_append_left _ h
    · exact h)
theorem fold_at (b : Bk) : ∀ (ys found : List (List Int)) (row : List Int), row ∈ ys.foldl b.addSet found → row ∈ found ∨ ∃ pre post, ys = pre ++ row :: post ∧ isMore (pre.foldl b.addSet found) row = false ∧ (b.cut row).goal = b.goal
  | [], _, _, h => .inl h
  | y :: ys, found, row, h => by
    rcases fold_at b ys (b.addSet found y) row h with q | ⟨pre, post, e, h1, h2⟩
    · unfold addSet at q
      split at q
      case isTrue c =>
        rcases List.mem_append.mp q with w | w
        · exact .inl w
        · rw [List.mem_singleton.mp w]
          have c := (Bool.and_eq_true _ _).mp c
          exact .inr ⟨[], ys, rfl, by simpa using c.1, of_decide_eq_true c.2⟩
      case isFalse => exact .inl q
    · exact .inr ⟨y :: pre, post, by rw [e]; rfl, h1, h2⟩
theorem isMore_of {found : List (List Int)} {less row : List Int} (h : less ∈ found) (hs : ∀ i ∈ less, i ∈ row) : isMore found row = true := by
  unfold isMore
  exact List.any_eq_true.mpr ⟨less, h, List.all_eq_true.mpr fun i hi => decide_eq_true (hs i hi)⟩
theorem isMore_iff {found : List (List Int)} {row : List Int} (h : isMore found row = true) : ∃ less ∈ found, ∀ i ∈ less, i ∈ row := by
  unfold isMore at h
  obtain ⟨less, h1, h2⟩ := List.any_eq_true.mp h
  exact ⟨less, h1, fun i hi => of_decide_eq_true (List.all_eq_true.mp h2 i hi)⟩
theorem sets_nd : ∀ n : Fin 5, (allSets n.1).Nodup := by decide +kernel
theorem sets_less : ∀ n : Fin 5, ∀ row ∈ allSets n.1, ∀ spot ∈ row, (row.filter fun o => !decide (o = spot)) ∈ (allSets n.1).takeWhile (fun x => !decide (x = row)) := by decide +kernel
theorem sets_full : ∀ n : Fin 5, (List.range n.1).map (fun i => ((i : Nat) : Int)) ∈ allSets n.1 := by decide +kernel
theorem take_pre {pre post : List (List Int)} {row : List Int} (h : (pre ++ row :: post).Nodup) : (pre ++ row :: post).takeWhile (fun x => !decide (x = row)) = pre := by
  induction pre with
  | nil => rw [List.nil_append, List.takeWhile_cons, decide_eq_true rfl]; rfl
  | cons y pre ih =>
    rw [List.cons_append] at h ⊢
    obtain ⟨h1, h2⟩ := List.nodup_cons.mp h
    have ne : y ≠ row := fun e => h1 (by rw [e]; simp)
    rw [List.takeWhile_cons, decide_eq_false ne]
    exact congrArg _ (ih h2)
theorem least_in (ok : b.Ok) {row : List Int} (h : row ∈ b.least) : row ∈ allSets b.wt.length ∧ (b.cut row).goal = b.goal ∧ ∀ spot ∈ row, (b.cut (row.filter fun o => !decide (o = spot))).goal ≠ b.goal := by
  have hw := ok.wl
  rcases fold_at b _ _ row h with q | ⟨pre, post, e, h1, h2⟩
  · cases q
  have hrow : row ∈ allSets b.wt.length := by rw [e]; simp
  refine ⟨hrow, h2, fun spot hs hg => ?_⟩
  have hnd := sets_nd ⟨b.wt.length, by omega⟩
  have ht := sets_less ⟨b.wt.length, by omega⟩ row hrow spot hs
  have hnd' : (allSets b.wt.length).Nodup := hnd
  have ht' : (row.filter fun o => !decide (o = spot)) ∈ (allSets b.wt.length).takeWhile (fun x => !decide (x = row)) := ht
  rw [e] at hnd' ht'
  rw [take_pre hnd'] at ht'
  obtain ⟨p1, p3, e2⟩ := List.append_of_mem ht'
  have hsub : ∀ i ∈ (row.filter fun o => !decide (o = spot)), i ∈ row := fun i hi => (List.mem_filter.mp hi).1
  have hfin : ∀ less, less ∈ (p1 ++ [row.filter fun o => !decide (o = spot)]).foldl b.addSet [] → (∀ i ∈ less, i ∈ row) → False := fun less hl hs => by
    have h3 : less ∈ pre.foldl b.addSet [] := by
      rw [e2, List.append_cons, List.foldl_append]
      exact fold_mono b _ _ _ hl
    rw [isMore_of h3 hs] at h1
    cases h1
  cases q : isMore (p1.foldl b.addSet []) (row.filter fun o => !decide (o = spot)) with
  | true =>
    obtain ⟨less, h4, h5⟩ := isMore_iff q
    refine hfin less ?_ fun i hi => hsub i (h5 i hi)
    rw [List.foldl_append]
    exact fold_mono b [_] _ _ h4
  | false =>
    refine hfin (row.filter fun o => !decide (o = spot)) ?_ hsub
    rw [List.foldl_append]
    show _ ∈ b.addSet _ _
    rw [addSet_pos (by rw [q, decide_eq_true hg]; rfl)]
    simp
theorem cut_full (ok : b.Ok) : b.cut ((List.range b.wt.length).map fun i => ((i : Nat) : Int)) = b := by
  have hw := ok.wl
  rw [cut_with ok (sets_full ⟨b.wt.length, by omega⟩)]
  unfold withW
  rw [List.map_map]
  have e : (List.range b.wt.length).map (b.wtAt ∘ fun i => ((i : Nat) : Int)) = b.wt := by
    apply List.ext_getElem
    · simp
    · intro i h1 h2
      simp [wtAt, List.getElem?_eq_getElem h2]
  rw [e]
theorem least_ne (ok : b.Ok) : b.least ≠ [] := by
  have hw := ok.wl
  intro z
  obtain ⟨p1, p2, e⟩ := List.append_of_mem (sets_full ⟨b.wt.length, by omega⟩)
  have e' : allSets b.wt.length = p1 ++ ((List.range b.wt.length).map fun i => ((i : Nat) : Int)) :: p2 := e
  have hl : b.least = (p2.foldl b.addSet ((p1 ++ [(List.range b.wt.length).map fun i => ((i : Nat) : Int)]).foldl b.addSet [])) := by
    show (allSets b.wt.length).foldl b.addSet [] = _
    rw [e', List.append_cons, List.foldl_append]
  have hx : ∃ x, x ∈ (p1 ++ [(List.range b.wt.length).map fun i => ((i : Nat) : Int)]).foldl b.addSet [] := by
    rw [List.foldl_append]
    show ∃ x, x ∈ b.addSet _ _
    cases q : isMore (p1.foldl b.addSet []) ((List.range b.wt.length).map fun i => ((i : Nat) : Int)) with
    | true =>
      obtain ⟨less, h4, _⟩ := isMore_iff q
      exact ⟨less, fold_mono b [_] _ _ h4⟩
    | false =>
      refine ⟨(List.range b.wt.length).map fun i => ((i : Nat) : Int), ?_⟩
      rw [addSet_pos (by rw [q, cut_full ok, decide_eq_true rfl]; rfl)]
      simp
  obtain ⟨x, hx⟩ := hx
  have := fold_mono b p2 _ x hx
  rw [← hl, z] at this
  cases this
theorem rows_drop : ∀ n : Fin 5, ∀ row ∈ allSets n.1, ∀ i : Fin row.length, (((List.range row.length).map fun i => ((i : Nat) : Int)).filter (fun o => !decide (o = ((i.1 : Nat) : Int)))).map (fun j => row.getD j.toNat 0) = row.filter fun o => !decide (o = row[i.1]) := by decide +kernel
theorem range_less : ∀ k : Fin 5, ∀ i : Fin k.1, (((List.range k.1).map fun i => ((i : Nat) : Int)).filter (fun o => !decide (o = ((i.1 : Nat) : Int)))) ∈ allSets k.1 := by decide +kernel
theorem rangeI0 (n : Nat) : rangeI 0 n = (List.range n).map fun i => ((i : Nat) : Int) := by
  unfold rangeI
  apply List.map_congr_left
  intro i _
  omega
theorem idle_least (ok : b.Ok) {row : List Int} (h : row ∈ b.least) : (b.withW row).idle = [] := by
  have hw := ok.wl
  obtain ⟨hrow, hg, hno⟩ := least_in ok h
  have hrl : row.length ≤ 4 := (rows_bd ⟨b.wt.length, by omega⟩ row hrow).1
  have okc := withW_ok ok hrow
  have hcl : (b.withW row).wt.length = row.length := List.length_map ..
  have hcg : (b.withW row).goal = b.goal := by rw [← cut_with ok hrow]; exact hg
  unfold idle
  rw [hcl, rangeI0, List.filter_eq_nil_iff]
  intro i hi hc
  obtain ⟨k, hk, rfl⟩ := List.mem_map.mp hi
  have hk := List.mem_range.mp hk
  have hc := of_decide_eq_true hc
  have hS := range_less ⟨row.length, by omega⟩ ⟨k, hk⟩
  have e1 := rows_drop ⟨b.wt.length, by omega⟩ row hrow ⟨k, hk⟩
  have e2 := cut_with okc (row := ((List.range row.length).map fun i => ((i : Nat) : Int)).filter fun o => !decide (o = ((k : Nat) : Int))) (by rw [hcl]; exact hS)
  have hsub : (row.filter fun o => !decide (o = row[k])) ∈ allSets b.wt.length := (List.takeWhile_sublist _).subset (sets_less ⟨b.wt.length, by omega⟩ row hrow row[k] (List.getElem_mem hk))
  have e3 : (b.withW row).withW (((List.range row.length).map fun i => ((i : Nat) : Int)).filter fun o => !decide (o = ((k : Nat) : Int))) = b.withW (row.filter fun o => !decide (o = row[k])) := by
    have e4 : (((List.range row.length).map fun i => ((i : Nat) : Int)).filter fun o => !decide (o = ((k : Nat) : Int))).map (b.withW row).wtAt = (row.filter fun o => !decide (o = row[k])).map b.wtAt := by
      have e1' : (((List.range row.length).map fun i => ((i : Nat) : Int)).filter fun o => !decide (o = ((k : Nat) : Int))).map (fun j => row.getD j.toNat 0) = row.filter fun o => !decide (o = row[k]) := e1
      rw [← e1', List.map_map]
      apply List.map_congr_left
      intro j hj
      obtain ⟨m, hm, rfl⟩ := List.mem_map.mp (List.mem_filter.mp hj).1
      have hm := List.mem_range.mp hm
      show (row.map b.wtAt).getD ((m : Nat) : Int).toNat d0 = b.wtAt (row.getD ((m : Nat) : Int).toNat 0)
      rw [Int.toNat_natCast, List.getD_eq_getElem?_getD, List.getD_eq_getElem?_getD, List.getElem?_map, List.getElem?_eq_getElem hm]
      rfl
    show ({ b with wt := _ } : Bk) = { b with wt := _ }
    rw [e4]
  rw [e2, e3, ← cut_with ok hsub, hcg] at hc
  exact hno row[k] (List.getElem_mem hk) hc
end Bk
end Rt
end

section
set_option Elab.async false
set_option linter.all false
set_option maxRecDepth 100000
set_option maxHeartbeats 4000000

namespace Rt
open PySem PySem.Spec PyProof.Rows L2 Ab C8
local macro_rules | `(tactic| walk_at "rv") => `(tactic| first
  | exact rv_I0i | exact rv_I0b | exact rv_eqI | exact rv_eqS | exact rv_neI | exact rv_neS | exact rv_eqB | exact rv_inS (t := .t) | exact rv_inS (t := .l) | exact rv_inI (t := .t) | exact rv_inI (t := .l) | exact rv_ninS (t := .t) | exact rv_ninS (t := .l) | exact rv_ninI (t := .t) | exact rv_ninI (t := .l) | exact rv_isN rfl | exact rv_notN rfl | exact rv_eqTI | exact rv_neTI | exact rv_eqLI | exact rv_neTS | exact rv_eqLTS | exact rv_neLTI | exact rv_sign)
local macro_rules | `(tactic| walk_at "ev") => `(tactic| first
  | exact ev_var rfl | exact ev_int | exact ev_str | exact ev_bl | exact ev_non | exact ev_ty | exact ea_nil | exact et_yes
  | ((with_reducible refine ev_op ?_ ?_ ?_) <;> walk_at "ev")
  | ((with_reducible refine ea_cons ?_ ?_) <;> walk_at "ev")
  | ((with_reducible refine ev_and ?_ ?_) <;> walk_at "ev")
  | ((with_reducible refine ev_or ?_ ?_) <;> walk_at "ev")
  | (with_reducible refine ev_not ?_; walk_at "ev")
  | (with_reducible refine ev_tup ?_; walk_at "ev")
  | (with_reducible refine ev_lst ?_; walk_at "ev")
  | (with_reducible refine et_not ?_; walk_at "ev")
  | ((with_reducible refine et_and ?_ ?_) <;> walk_at "ev")
  | ((with_reducible refine et_or ?_ ?_) <;> walk_at "ev")
  | (with_reducible refine et_test ?_; walk_at "ev")
  | (with_reducible refine et_B ?_; walk_at "ev")
  | (with_reducible refine fun (_ : _ = _) => ?_; walk_at "ev")
  | walk_at "rv"
  | skip)

theorem rows_nd : ∀ n : Fin 5, ∀ row ∈ allSets n.1, row.Nodup := by decide +kernel
section
variable {P : Program} {w : World} {K : PySem.W.Frag} {mg : Str → Option Value} {base : Heap}

theorem calF {sp : Sp} {x : Str} {params : Arguments} {body : List Stmt} {scope : Scope} {f : Addr} {fd : FuncData} {N ps : List Str} {k : Nat} (F : FunD K x x params body scope [] [] f fd) (S : FnScope N ps scope)
    (len : ∀ vs H Q E, sp vs H Q E → vs.length = ps.length)
    (hbody : ∀ (cdv : Value) (A : Around) (outer : List Env) (s : Shared) (H : Hp) (E : XK), Room k (A.deeper (envOfC x scope s.heap.objs.size f cdv)) →
      ∃ t, PSs (cxOf L2.CX0 P w K mg base N x scope f cdv A outer s H E).nox body t ∧ ∀ vs Q, sp vs H Q E → t { nx := fun _ H' => Q .non H', rt := Q } (L2.start N vs) H) : FnOk P w K mg base L2.CX0 (k + 1) f fd ps sp :=
  F.ok S len fun cdv A outer s H vs Q E hr h => by
    obtain ⟨t, h1, h2⟩ := hbody cdv A outer s H E hr
    exact ⟨t, PSs.nox h1, h2 vs Q h⟩
def n_law : List Str := ["_law_script", "_law_k", "_law_pool_here", "_law_book_here", "_law_made_here", "_law_wanted_here", "_law_told", "_law_row", "_law_spot", "_law_some", "_law_less", "_law_other"]
def p_law : List Str := ["_law_script"]
theorem sc_law : FnScope n_law p_law (defScope s_law) := ⟨rfl, rfl, rfl, by decide +kernel, rfl, by decide +kernel, by decide +kernel⟩
def R_law (K : PySem.W.Frag) : List Dt → Dt → Prop := fun ds d => ∃ ns : List Int, ∃ s : Dt, ds = [s] ∧ ScD K ns s ∧ ns.length ≤ 100 ∧ d = .bl true
theorem ok_law (T : Tx K mg) {fd : FuncData} (F : FunD K "law" "law" (defArgs s_law) (defBody s_law) (defScope s_law) [] [] (He.ga K "law") fd) : FnOk P w K mg base L2.CX0 13 (He.ga K "law") fd p_law (SpD (R_law K)) := by
  have c__law_pool := c__law_pool (P := P) (w := w) (base := base) T
  have c__law_small_book := c__law_small_book (P := P) (w := w) (base := base) T
  have c__law_made := c__law_made (P := P) (w := w) (base := base) T
  have c__law_wanted := c__law_wanted (P := P) (w := w) (base := base) T
  have c_least_wants := c_least_wants (P := P) (w := w) (base := base) T
  have c_is_enough := c_is_enough (P := P) (w := w) (base := base) T
  have c__law_one := c__law_one (P := P) (w := w) (base := base) T
  have c_changed := c_changed (P := P) (w := w) (base := base) T
  have c__law_with_wants := c__law_with_wants (P := P) (w := w) (base := base) T
  have c_alike := c_alike (P := P) (w := w) (base := base) T
  have c_idle_wants := c_idle_wants (P := P) (w := w) (base := base) T
  refine calF F sc_law (spD_len (n := 1) (by rintro _ _ ⟨_, _, rfl, _⟩; rfl)) fun cdv A outer s H E hr => ⟨_, (pss_cons (ps_for PassesOwn.never rfl (pi_range1 (by rfl) T.n_range (pa_cons (pe_callB (call_max2 rfl) (by rfl) T.n_max (by decide +kernel) (pa_cons pe_int (pa_cons (pe_callB (call_min2 rfl) (by rfl) T.n_min (by decide +kernel) (pa_cons pe_int (pa_cons (pe_callB (Kr.len (K := K) rfl) (by rfl) T.n_len (by decide +kernel) (pa_cons (pv 0) pa_nil)) pa_nil))) pa_nil))) pa_nil)) (pg_name (i := 1) sc_law.nd rfl (by first | exact Or.inl rfl | exact Or.inr rfl)) (pss_cons (ps_set (i := 2) sc_law.nd rfl (Or.inl rfl) (pe_c c__law_pool hr (by decide) (by rfl) (pa_cons (pv 0) (pa_cons (pv 1) pa_nil)))) (pss_cons (ps_set (i := 3) sc_law.nd rfl (Or.inl rfl) (pe_c c__law_small_book hr (by decide) (by rfl) (pa_cons (pv 2) (pa_cons pe_int (pa_cons pe_int pa_nil))))) (pss_cons (ps_par (i := 4) (j := 5) (by rfl) sc_law.nd rfl rfl (by decide) rfl rfl (pa_cons (pe_c c__law_made hr (by decide) (by rfl) (pa_cons (pv 3) pa_nil)) (pa_cons (pe_c c__law_wanted hr (by decide) (by rfl) (pa_cons (pv 3) pa_nil)) pa_nil)) (by rfl)) (pss_cons (ps_set (i := 6) sc_law.nd rfl (Or.inl rfl) (pe_c c_least_wants hr (by decide) (by rfl) (pa_cons (pv 4) pa_nil))) (pss_cons (ps_if (PW.pt (pw_or (pt_cmpR (Kr.neP (K := K) rfl hr.units) (pv 6) (pv 5) (nomark _)) (pw_or1 (pt_cmpR (Kr.eqP (K := K) rfl hr.units) (pv 6) (pe_lst pa_nil) (nomark _))))) (pss_one (ps_ret pe_bl)) pss_nil) (pss_cons (ps_for PassesOwn.never rfl (Kr.seq (K := K) rfl (pv 6)) (pg_name (i := 7) sc_law.nd rfl (by first | exact Or.inl rfl | exact Or.inr rfl)) (pss_cons (ps_if (pt_not (pt_val (pe_c c_is_enough hr (by decide) (by rfl) (pa_cons (pv 4) (pa_cons (pv 7) pa_nil))))) (pss_one (ps_ret pe_bl)) pss_nil) (pss_one (ps_for PassesOwn.never rfl (Kr.seq (K := K) rfl (pv 7)) (pg_name (i := 8) sc_law.nd rfl (by first | exact Or.inl rfl | exact Or.inr rfl)) (pss_one (ps_if (pt_val (pe_c c_is_enough hr (by decide) (by rfl) (pa_cons (pv 4) (pa_cons (pe_lc (own := [("_law_other", 11)]) rfl sc_law.nd (Kr.seq (K := K) rfl (pv 7)) (blkOk_by (own := [("_law_other", 11)]) (N := n_law) (sc := defScope s_law) (by decide +kernel)) (fun _ _ _ _ _ => (pg_name (i := 11) sc_law.nd rfl (by first | exact Or.inl rfl | exact Or.inr rfl))) (fun _ _ _ _ _ => pts_one (pt_cmpR op_ne (pv 11) (pv 8) (nomark _))) (fun _ _ _ _ _ => (pv 11))) pa_nil)))) (pss_one (ps_ret pe_bl)) pss_nil)))))) (pss_cons (ps_expr (pe_bm0 PySem.F.plainAttrs_list PySem.F.slot_list_clear PySem.F.type_list_clear mt_clear (pv 6))) (pss_cons (ps_if (pt_cmpR (Kr.neP (K := K) rfl hr.units) (pe_c c_least_wants hr (by decide) (by rfl) (pa_cons (pv 4) pa_nil)) (pv 5) (nomark _)) (pss_one (ps_ret pe_bl)) pss_nil) (pss_cons (ps_set (i := 9) sc_law.nd rfl (Or.inl rfl) (pe_c c__law_one hr (by decide) (by rfl) (pa_cons (pv 2) (pa_cons (pv 5) pa_nil)))) (pss_cons (ps_set (i := 10) sc_law.nd rfl (Or.inl rfl) (Cr.pe_methK (pv 4) T.c_Book T.m_b_changed c_changed (hr.mono (by decide)) (C8.pass0 (E := C8.E0)) (pk_cons (pe_dget (hu_of hr) (pe_c c__law_with_wants hr (by decide) (by rfl) (pa_cons (pv 3) (pa_cons (pv 9) pa_nil))) pe_str (fun _ _ => rfl)) pk_nil))) (pss_one (ps_if (PW.pt (pw_or (pt_not (pt_val (pe_c c_alike hr (by decide) (by rfl) (pa_cons (pv 4) (pa_cons (pv 10) pa_nil))))) (pw_or1 (pt_cmpR (Kr.neP (K := K) rfl hr.units) (pe_c c_idle_wants hr (by decide) (by rfl) (pa_cons (pv 10) pa_nil)) (pe_lst pa_nil) (nomark _))))) (pss_one (ps_ret pe_bl)) pss_nil))))))))))))) (pss_one (ps_ret pe_bl))), ?_⟩
  intro vs Q h
  refine spD_of (N := n_law) (fun ds d hR => ?_) h
  obtain ⟨ns, s, rfl, hsc, hnl, rfl⟩ := hR
  obtain ⟨m, hm1, hm2, hm3⟩ : ∃ m : Nat, m ≤ 4 ∧ ((m : Nat) : Int) = (if (if ((ns.length : Nat) : Int) < 4 then ((ns.length : Nat) : Int) else 4) > 1 then (if ((ns.length : Nat) : Int) < 4 then ((ns.length : Nat) : Int) else 4) else 1) ∧ True := by
    refine ⟨(if (if ((ns.length : Nat) : Int) < 4 then ((ns.length : Nat) : Int) else 4) > 1 then (if ((ns.length : Nat) : Int) < 4 then ((ns.length : Nat) : Int) else 4) else 1 : Int).toNat, ?_, ?_, trivial⟩
    · split <;> split <;> omega
    · split <;> split <;> omega
  refine run_seq (run_forL (vs := [1]) (List.range m) natD (fun pre δ M => ∃ o1 o2 o3 o4 o5 o6 o7 o8 o9 o10 o11, δ = [some s, o1, o2, o3, o4, o5, o6, o7, o8, o9, o10, o11]) (iz_of (fun σ Hk H s k o' R q => ei_rng1 (j := ((m : Nat) : Int)) (ea_cons ((ev_cb (xs := [.int 1, .int (if ((ns.length : Nat) : Int) < 4 then ((ns.length : Nat) : Int) else 4)]) (ea_cons ev_int (ea_cons (ev_cb (xs := [.int 4, .int ((ns.length : Nat) : Int)]) (ea_cons ev_int (ea_cons (ev_sclen hsc (ev_var rfl)) ea_nil)) rc_min) ea_nil)) rc_max).eq (by rw [hm2])) ea_nil) (by omega) (by omega) σ Hk H s k o' R fun J ds Hk' H' g o2 e2 w => q J ds Hk' H' g o2 (by rw [e2, Int.toNat_natCast]; exact rng_nat _) w)) ⟨_, _, _, _, _, _, _, _, _, _, _, rfl⟩ ?_ ?_)
  · rintro pre x post δ1 M0 hs ⟨o1, o2, o3, o4, o5, o6, o7, o8, o9, o10, o11, rfl⟩
    have hxm : x < m := List.mem_range.mp (by rw [hs]; simp)
    refine ⟨_, bind_name, ?_⟩
    refine run_seq (run_setO (R' := R__law_pool K) (ds := [s, natD x]) (P := PoolD) (ea_cons (ev_var rfl) (ea_cons (ev_var rfl) ea_nil)) ⟨ns, x, s, rfl, by omega, hsc, rfl⟩ fun q dq hq hpd => ?_)
    refine run_seq (run_setP (R' := R__law_small_book) (j := 2) (a := q) (ds := [natD 5, natD 4]) (P := fun d => ∃ b : Bk, b.Ok ∧ d = lawD b) rfl updM_same hpd (ea_cons ev_int (ea_cons ev_int ea_nil)) ⟨5, rfl, by decide, by decide, rfl⟩ fun db dq2 hpd2 ⟨b, ok, e⟩ => ?_)
    subst e
    rw [updM_updM]
    have hw := ok.wl
    refine run_seq (run_par (T := fun d e => d = bkD (BC K) b ∧ e = .lst (b.least.map tupI)) (show EvA none _ _ _ from fun σ Hk H s k o' Q q => (ea_cons (ev_call (R := R__law_made K) (ds := [lawD b]) (ea_cons (ev_var rfl) ea_nil) ⟨b, rfl, ok, rfl⟩) (ea_cons (ev_call (R := R__law_wanted) (ds := [lawD b]) (ea_cons (ev_var rfl) ea_nil) ⟨b, rfl, ok, rfl⟩) ea_nil)) σ Hk H s k o' Q fun vs xs Hk' H' g o2 e2 r => q vs xs Hk' H' g o2 ⟨_, _, ⟨rfl, rfl⟩, e2⟩ r) fun d e ⟨e1, e2⟩ => ?_)
    subst e1 e2
    refine run_seq (run_setO (R' := R_least_wants K) (ds := [bkD (BC K) b]) (P := fun d => d = .lst (b.least.map tupI)) (ea_cons (ev_var rfl) ea_nil) ⟨b, rfl, ok, rfl⟩ fun t dt ht e => ?_)
    subst e
    have ntq : t ≠ q := fun z => by rw [z, updM_same] at ht; cases ht
    have hne := Bk.least_ne ok
    have hle : (b.least.map tupI).isEmpty = false := by
      rw [List.isEmpty_map]
      cases q : b.least with
      | nil => exact absurd q hne
      | cons y r => rfl
    refine run_seq (run_if (B := fun c => c = false) (tz_fz (Fz.refl.set (i := 6) rfl updM_same) ?_) (fun z => nomatch z) (fun _ => run_next ?_))
    · refine EvTD.eq (et_or (a := false) (b := false) ?_ fun _ => ?_) rfl
      · exact EvTD.eq (et_test (ev_op (x := .lst (b.least.map tupI)) (y := .lst (b.least.map tupI)) (ev_var rfl) (ev_var rfl) rv_neLTI)) (by rw [decide_eq_true rfl]; rfl)
      · exact EvTD.eq (et_test (ev_op (x := .lst (b.least.map tupI)) (y := .lst []) (ev_var rfl) (ev_lst ea_nil) (rv_eqNil (plain_rows _)))) hle
    refine run_seq (run_forO (vs := [7]) (a := t) b.least tupI (fun pre2 δ M => ∃ o7 o8 o9 o10 o11, δ = [some s, some (natD x), some (.adr q), some (lawD b), some (bkD (BC K) b), some (.lst (b.least.map tupI)), some (.adr t), o7, o8, o9, o10, o11] ∧ M = updM (updM M0 q dq2) t (.lst (b.least.map tupI))) rfl (fun pre2 δ M ⟨_, _, _, _, _, _, e⟩ => by rw [e, updM_same]) ⟨_, _, _, _, _, rfl, rfl⟩ ?_ ?_)
    · rintro pre2 row post2 δ2 M2 hs2 ⟨o7, o8, o9, o10, o11, rfl, rfl⟩
      have hrow : row ∈ b.least := by rw [hs2]; simp
      obtain ⟨hin, hg, hno⟩ := Bk.least_in ok hrow
      obtain ⟨hr1, hr2⟩ := rows_bd ⟨b.wt.length, by omega⟩ row hin
      have hrn := rows_nd ⟨b.wt.length, by omega⟩ row hin
      refine ⟨_, bind_name, ?_⟩
      refine run_seq (run_if (B := fun c => c = false) (tz_of (EvTD.eq (et_not (et_B (ev_call (R := R_is_enough K) (ds := [bkD (BC K) b, tupI row]) (ea_cons (ev_var rfl) (ea_cons (ev_var rfl) ea_nil)) ⟨.t, b, row, rfl, ok, hrn, hr1, hr2, rfl⟩))) (by rw [decide_eq_true hg]; rfl))) (fun z => nomatch z) (fun _ => run_next ?_))
      refine run_forL (vs := [8]) row Dt.int (fun pre3 δ M => ∃ o8 o9 o10 o11, δ = [some s, some (natD x), some (.adr q), some (lawD b), some (bkD (BC K) b), some (.lst (b.least.map tupI)), some (.adr t), some (tupI row), o8, o9, o10, o11] ∧ M = updM (updM M0 q dq2) t (.lst (b.least.map tupI))) (iz_of (ei_tup (ev_var rfl))) ⟨_, _, _, _, rfl, rfl⟩ ?_ ?_
      · rintro pre3 spot post3 δ3 M3 hs3 ⟨o8, o9, o10, o11, rfl, rfl⟩
        have hspot : spot ∈ row := by rw [hs3]; simp
        refine ⟨_, bind_name, ?_⟩
        refine run_if (B := fun c => c = false) (tz_of (EvTD.eq (et_B (ev_call (R := R_is_enough K) (ds := [bkD (BC K) b, lstI (row.filter fun o => !decide (o = spot))]) (ea_cons (ev_var rfl) (ea_cons (ev_lc row Dt.int (fun o => !decide (o = spot)) Dt.int (ei_tup (ev_var rfl)) (fun o ho => ⟨_, bind_name, et_test (ev_op (x := .int o) (y := .int spot) (ev_var rfl) (ev_var rfl) rv_neI), fun _ => ev_var rfl⟩) (by omega)) ea_nil)) ⟨.l, b, row.filter fun o => !decide (o = spot), rfl, ok, hrn.filter _, Nat.le_trans (List.length_filter_le _ _) hr1, fun i hi => hr2 i (List.mem_filter.mp hi).1, rfl⟩)) (decide_eq_false (hno spot hspot)))) (fun z => nomatch z) (fun _ => run_next ⟨_, _, _, _, rfl, rfl⟩)
      · rintro δ3 M3 ⟨o8, o9, o10, o11, rfl, rfl⟩
        exact ⟨_, _, _, _, _, rfl, rfl⟩
    rintro δ2 M2 ⟨o7, o8, o9, o10, o11, rfl, rfl⟩
    refine run_seq (run_clear (i := 6) (a := t) rfl updM_same ?_)
    rw [updM_updM]
    have evl : ∀ {δ : Dst} {E : XK}, δ[4]? = some (some (bkD (BC K) b)) → EvD none (tCall (SpO (R_least_wants K)) [] E (tCons (tVar 4) tNil)) δ (.lst (b.least.map tupI)) := fun h => evp_callO (R' := R_least_wants K) (ds := [bkD (BC K) b]) (ea_cons (ev_var h) ea_nil) ⟨b, rfl, ok, rfl⟩
    refine run_seq (run_if (B := fun c => c = false) (tz_of (EvTD.eq (et_test (ev_op (x := .lst (b.least.map tupI)) (y := .lst (b.least.map tupI)) (evl rfl) (ev_var rfl) rv_neLTI)) (by rw [decide_eq_true rfl]; rfl))) (fun z => nomatch z) (fun _ => run_next ?_))
    have hls : (b.least.map tupI).length ≤ 1000 := by
      rw [List.length_map]
      have h1 := b.addSet_len (allSets b.wt.length) []
      have h2 := all_len (n := b.wt.length) hw
      have h3 : b.least.length ≤ ([] : List (List Int)).length + (allSets b.wt.length).length := h1
      rw [List.length_nil] at h3
      omega
    refine run_seq (run_setP (R' := R__law_one) (j := 2) (a := q) (ds := [.lst (b.least.map tupI)]) (P := fun d => d ∈ b.least.map tupI) rfl (by rw [updM_ne ntq.symm, updM_same]) hpd2 (ea_cons (ev_var rfl) ea_nil) ⟨.l, _, rfl, (fun z => nomatch z), (fun z => hne (List.map_eq_nil_iff.mp z)), hls, rfl⟩ fun ds dq3 hpd3 hd => ?_)
    obtain ⟨row, hrow, rfl⟩ := List.mem_map.mp hd
    obtain ⟨hin, hg, hno⟩ := Bk.least_in ok hrow
    obtain ⟨hr1, hr2⟩ := rows_bd ⟨b.wt.length, by omega⟩ row hin
    have okc := Bk.withW_ok ok hin
    refine run_setD (d := bkD (BC K) (b.withW row)) (ev_methK (R := R_changed K) (gs := bkF b) (ds := [.lst ((b.withW row).wt.map encW)]) (ev_var rfl) (by rfl) (ea_cons (ev_dget (d := lawD (b.withW row)) (ev_call (R := R__law_with_wants) (ds := [lawD b, tupI row]) (ea_cons (ev_var rfl) (ea_cons (ev_var rfl) ea_nil)) ⟨b, row, rfl, hr1, hr2, rfl⟩) ev_str (get_part 3 rfl rfl)) ea_nil) rfl ⟨b, (b.withW row).wt, rfl, okc, rfl⟩) ?_
    have hcg : b.goal = (b.withW row).goal := by rw [← Bk.cut_with ok hin]; exact hg.symm
    refine run_if (B := fun c => c = false) (tz_of ?_) (fun z => nomatch z) (fun _ => run_next ⟨_, _, _, _, _, _, _, _, _, _, _, rfl⟩)
    refine EvTD.eq (et_or (a := false) (b := false) ?_ fun _ => ?_) rfl
    · exact EvTD.eq (et_not (et_B (ev_call (R := R_alike K) (ds := [bkD (BC K) b, bkD (BC K) (b.withW row)]) (ea_cons (ev_var rfl) (ea_cons (ev_var rfl) ea_nil)) ⟨b, b.withW row, rfl, ok, okc, rfl, hcg, rfl⟩))) rfl
    · exact EvTD.eq (et_test (ev_op (x := lstI (b.withW row).idle) (y := .lst []) (ev_call (R := R_idle_wants K) (ds := [bkD (BC K) (b.withW row)]) (ea_cons (ev_var rfl) ea_nil) ⟨_, rfl, okc, rfl⟩) (ev_lst ea_nil) (rv_neNil (plain_ints _)))) (by rw [Bk.idle_least ok hrow]; rfl)
  rintro δ1 M1 ⟨o1, o2, o3, o4, o5, o6, o7, o8, o9, o10, o11, rfl⟩
  exact run_retD ev_bl
end
end Rt
end

section
set_option Elab.async false
set_option linter.all false
set_option maxRecDepth 100000
set_option maxHeartbeats 0
namespace RtH
open PySem PySem.Spec PyProof.Rows L2 Rt

def d0 : He.DefD := ⟨("is_whole", none), "is_whole", "is_whole", defArgs (top 9), defBody (top 9), defScope (top 9), [], []⟩
def d1 : He.DefD := ⟨("is_number", none), "is_number", "is_number", defArgs (top 10), defBody (top 10), defScope (top 10), [], []⟩
def d2 : He.DefD := ⟨("is_word", none), "is_word", "is_word", defArgs (top 11), defBody (top 11), defScope (top 11), [], []⟩
def d3 : He.DefD := ⟨("is_row", none), "is_row", "is_row", defArgs (top 12), defBody (top 12), defScope (top 12), [], []⟩
def d4 : He.DefD := ⟨("are_unlike", none), "are_unlike", "are_unlike", defArgs (top 13), defBody (top 13), defScope (top 13), [], []⟩
def d5 : He.DefD := ⟨("are_tuples", none), "are_tuples", "are_tuples", defArgs (top 14), defBody (top 14), defScope (top 14), [], []⟩
def d6 : He.DefD := ⟨("build_by", none), "build_by", "build_by", defArgs (top 16), defBody (top 16), defScope (top 16), [], []⟩
def d7 : He.DefD := ⟨("size_of", none), "size_of", "size_of", defArgs (top 17), defBody (top 17), defScope (top 17), [], []⟩
def d8 : He.DefD := ⟨("is_let", none), "is_let", "is_let", defArgs (top 18), defBody (top 18), defScope (top 18), [], []⟩
def d9 : He.DefD := ⟨("points_let", none), "points_let", "points_let", defArgs (top 19), defBody (top 19), defScope (top 19), [], []⟩
def d10 : He.DefD := ⟨("does_hold", none), "does_hold", "does_hold", defArgs (top 20), defBody (top 20), defScope (top 20), [], []⟩
def d11 : He.DefD := ⟨("are_skills", none), "are_skills", "are_skills", defArgs (top 30), defBody (top 30), defScope (top 30), [], []⟩
def d12 : He.DefD := ⟨("are_needs", none), "are_needs", "are_needs", defArgs (top 31), defBody (top 31), defScope (top 31), [], []⟩
def d13 : He.DefD := ⟨("is_want", none), "is_want", "is_want", defArgs (top 32), defBody (top 32), defScope (top 32), [], []⟩
def d14 : He.DefD := ⟨("are_bars", none), "are_bars", "are_bars", defArgs (top 33), defBody (top 33), defScope (top 33), [], []⟩
def d15 : He.DefD := ⟨("are_numbered", none), "are_numbered", "are_numbered", defArgs (top 34), defBody (top 34), defScope (top 34), [], []⟩
def d16 : He.DefD := ⟨("look_at_parts", none), "look_at_parts", "look_at_parts", defArgs (top 35), defBody (top 35), defScope (top 35), [], []⟩
def d17 : He.DefD := ⟨("Book", some "__init__"), "__init__", "Book.__init__", defArgs (inClass (top 36) 0), defBody (inClass (top 36) 0), defScope (inClass (top 36) 0), [], [("reset", .non)]⟩
def d18 : He.DefD := ⟨("Book", some "asked_by"), "asked_by", "Book.asked_by", defArgs (inClass (top 36) 1), defBody (inClass (top 36) 1), defScope (inClass (top 36) 1), [], []⟩
def d19 : He.DefD := ⟨("Book", some "wants"), "wants", "Book.wants", defArgs (inClass (top 36) 6), defBody (inClass (top 36) 6), defScope (inClass (top 36) 6), [], []⟩
def d20 : He.DefD := ⟨("Book", some "names"), "names", "Book.names", defArgs (inClass (top 36) 10), defBody (inClass (top 36) 10), defScope (inClass (top 36) 10), [], []⟩
def d21 : He.DefD := ⟨("Book", some "changed"), "changed", "Book.changed", defArgs (inClass (top 36) 22), defBody (inClass (top 36) 22), defScope (inClass (top 36) 22), [], []⟩
def d22 : He.DefD := ⟨("book_by", none), "book_by", "book_by", defArgs (top 37), defBody (top 37), defScope (top 37), [], []⟩
def d23 : He.DefD := ⟨("neighbours_of", none), "neighbours_of", "neighbours_of", defArgs (top 39), defBody (top 39), defScope (top 39), [], []⟩
def d24 : He.DefD := ⟨("Part", some "__init__"), "__init__", "Part.__init__", defArgs (inClass (top 40) 0), defBody (inClass (top 40) 0), defScope (inClass (top 40) 0), [], []⟩
def d25 : He.DefD := ⟨("reached_masks", none), "reached_masks", "reached_masks", defArgs (top 41), defBody (top 41), defScope (top 41), [], []⟩
def d26 : He.DefD := ⟨("masks_with", none), "masks_with", "masks_with", defArgs (top 44), defBody (top 44), defScope (top 44), [], []⟩
def d27 : He.DefD := ⟨("is_so", none), "is_so", "is_so", defArgs (top 45), defBody (top 45), defScope (top 45), [], []⟩
def d28 : He.DefD := ⟨("idle_wants", none), "idle_wants", "idle_wants", defArgs (top 46), defBody (top 46), defScope (top 46), [], []⟩
def d29 : He.DefD := ⟨("are_indexes", none), "are_indexes", "are_indexes", defArgs (top 47), defBody (top 47), defScope (top 47), [], []⟩
def d30 : He.DefD := ⟨("is_enough", none), "is_enough", "is_enough", defArgs (top 48), defBody (top 48), defScope (top 48), [], []⟩
def d31 : He.DefD := ⟨("sets_of", none), "sets_of", "sets_of", defArgs (top 49), defBody (top 49), defScope (top 49), [], []⟩
def d32 : He.DefD := ⟨("least_wants", none), "least_wants", "least_wants", defArgs (top 50), defBody (top 50), defScope (top 50), [], []⟩
def d33 : He.DefD := ⟨("skill_sets", none), "skill_sets", "skill_sets", defArgs (top 51), defBody (top 51), defScope (top 51), [], []⟩
def d34 : He.DefD := ⟨("are_of_like_skills", none), "are_of_like_skills", "are_of_like_skills", defArgs (top 52), defBody (top 52), defScope (top 52), [], []⟩
def d35 : He.DefD := ⟨("alike", none), "alike", "alike", defArgs (top 53), defBody (top 53), defScope (top 53), [], []⟩
def d36 : He.DefD := ⟨("_law_pool", none), "_law_pool", "_law_pool", defArgs (top 55), defBody (top 55), defScope (top 55), [], []⟩
def d37 : He.DefD := ⟨("_law_take", none), "_law_take", "_law_take", defArgs (top 56), defBody (top 56), defScope (top 56), [], []⟩
def d38 : He.DefD := ⟨("_law_one", none), "_law_one", "_law_one", defArgs (top 57), defBody (top 57), defScope (top 57), [], []⟩
def d39 : He.DefD := ⟨("_law_turned", none), "_law_turned", "_law_turned", defArgs (top 58), defBody (top 58), defScope (top 58), [], []⟩
def d40 : He.DefD := ⟨("_law_tree", none), "_law_tree", "_law_tree", defArgs (top 59), defBody (top 59), defScope (top 59), [], []⟩
def d41 : He.DefD := ⟨("_law_rows", none), "_law_rows", "_law_rows", defArgs (top 60), defBody (top 60), defScope (top 60), [], []⟩
def d42 : He.DefD := ⟨("_law_book", none), "_law_book", "_law_book", defArgs (top 61), defBody (top 61), defScope (top 61), [], []⟩
def d43 : He.DefD := ⟨("_law_made", none), "_law_made", "_law_made", defArgs (top 62), defBody (top 62), defScope (top 62), [], []⟩
def d44 : He.DefD := ⟨("_law_names", none), "_law_names", "_law_names", defArgs (top 63), defBody (top 63), defScope (top 63), [], []⟩
def d45 : He.DefD := ⟨("_law_tier", none), "_law_tier", "_law_tier", defArgs (top 64), defBody (top 64), defScope (top 64), [], []⟩
def d46 : He.DefD := ⟨("_law_need", none), "_law_need", "_law_need", defArgs (top 65), defBody (top 65), defScope (top 65), [], []⟩
def d47 : He.DefD := ⟨("_law_order", none), "_law_order", "_law_order", defArgs (top 66), defBody (top 66), defScope (top 66), [], []⟩
def d48 : He.DefD := ⟨("_law_is_row_met", none), "_law_is_row_met", "_law_is_row_met", defArgs (top 67), defBody (top 67), defScope (top 67), [], []⟩
def d49 : He.DefD := ⟨("_law_below", none), "_law_below", "_law_below", defArgs (top 68), defBody (top 68), defScope (top 68), [], []⟩
def d50 : He.DefD := ⟨("_law_is_met", none), "_law_is_met", "_law_is_met", defArgs (top 69), defBody (top 69), defScope (top 69), [], []⟩
def d51 : He.DefD := ⟨("_law_size_let", none), "_law_size_let", "_law_size_let", defArgs (top 70), defBody (top 70), defScope (top 70), [], []⟩
def d52 : He.DefD := ⟨("_law_holds", none), "_law_holds", "_law_holds", defArgs (top 71), defBody (top 71), defScope (top 71), [], []⟩
def d53 : He.DefD := ⟨("_law_subsets", none), "_law_subsets", "_law_subsets", defArgs (top 72), defBody (top 72), defScope (top 72), [], []⟩
def d54 : He.DefD := ⟨("_law_behind", none), "_law_behind", "_law_behind", defArgs (top 73), defBody (top 73), defScope (top 73), [], []⟩
def d55 : He.DefD := ⟨("_law_steps", none), "_law_steps", "_law_steps", defArgs (top 74), defBody (top 74), defScope (top 74), [], []⟩
def d56 : He.DefD := ⟨("_law_web", none), "_law_web", "_law_web", defArgs (top 75), defBody (top 75), defScope (top 75), [], []⟩
def d57 : He.DefD := ⟨("_law_reached", none), "_law_reached", "_law_reached", defArgs (top 76), defBody (top 76), defScope (top 76), [], []⟩
def d58 : He.DefD := ⟨("_law_with_wants", none), "_law_with_wants", "_law_with_wants", defArgs (top 77), defBody (top 77), defScope (top 77), [], []⟩
def d59 : He.DefD := ⟨("_law_all_sets", none), "_law_all_sets", "_law_all_sets", defArgs (top 78), defBody (top 78), defScope (top 78), [], []⟩
def d60 : He.DefD := ⟨("_law_small_book", none), "_law_small_book", "_law_small_book", defArgs (top 79), defBody (top 79), defScope (top 79), [], []⟩
def d61 : He.DefD := ⟨("_law_wanted", none), "_law_wanted", "_law_wanted", defArgs (top 80), defBody (top 80), defScope (top 80), [], []⟩
def d62 : He.DefD := ⟨("law", none), "law", "law", defArgs (top 81), defBody (top 81), defScope (top 81), [], []⟩
def fn : List He.DefD := [d0, d1, d2, d3, d4, d5, d6, d7, d8, d9, d10, d11, d12, d13, d14, d15, d16, d17, d18, d19, d20, d21, d22, d23, d24, d25, d26, d27, d28, d29, d30, d31, d32, d33, d34, d35, d36, d37, d38, d39, d40, d41, d42, d43, d44, d45, d46, d47, d48, d49, d50, d51, d52, d53, d54, d55, d56, d57, d58, d59, d60, d61, d62]
def fa : List He.Fa := [.glo "is_whole", .glo "is_number", .glo "is_word", .glo "is_row", .glo "are_unlike", .glo "are_tuples", .glo "build_by", .glo "size_of", .glo "is_let", .glo "points_let", .glo "does_hold", .glo "are_skills", .glo "are_needs", .glo "is_want", .glo "are_bars", .glo "are_numbered", .glo "look_at_parts", .glo "book_by", .glo "neighbours_of", .glo "reached_masks", .glo "masks_with", .glo "is_so", .glo "idle_wants", .glo "are_indexes", .glo "is_enough", .glo "sets_of", .glo "least_wants", .glo "skill_sets", .glo "are_of_like_skills", .glo "alike", .glo "_law_pool", .glo "_law_take", .glo "_law_one", .glo "_law_turned", .glo "_law_tree", .glo "_law_rows", .glo "_law_book", .glo "_law_made", .glo "_law_names", .glo "_law_tier", .glo "_law_need", .glo "_law_order", .glo "_law_is_row_met", .glo "_law_below", .glo "_law_is_met", .glo "_law_size_let", .glo "_law_holds", .glo "_law_subsets", .glo "_law_behind", .glo "_law_steps", .glo "_law_web", .glo "_law_reached", .glo "_law_with_wants", .glo "_law_all_sets", .glo "_law_small_book", .glo "_law_wanted", .glo "law", .glo "Book", .cls "Book", .mkr "Book", .glo "Part", .cls "Part", .mkr "Part", .meth "Book" "asked_by", .meth "Book" "wants", .meth "Book" "names", .meth "Book" "changed", .noat "Book" "record", .noat "Book" "own_points", .noat "Book" "own_reset", .noat "Book" "own_names", .noat "Book" "own_tiers", .noat "Book" "tier_by", .noat "Book" "spots", .noat "Book" "bits", .noat "Book" "own_needs", .noat "Book" "own_prices", .noat "Book" "own_given", .noat "Book" "barred", .noat "Book" "asked", .noat "Part" "book", .noat "Part" "came", .free "len", .free "all", .free "any", .free "sum", .free "sorted", .free "range", .free "enumerate", .free "zip", .free "isinstance", .free "int", .free "str", .free "bool", .free "list", .free "tuple", .free "dict", .free "max", .free "min", .str "LETTERS" "abcdefghijklmnopqrstuvwxyz", .int "MOST_LETTERS" 8, .int "MOST_SKILLS" 12, .int "MOST_TIERS" 4, .int "MOST_POINTS" 12, .int "MOST_WANTS_books" 12, .int "MOST_BARS" 6, .int "MOST_GIVEN" 3, .int "MOST_PRICE" 99, .int "MOST_WANTS_idling" 8, .glo "PARTS"]
def nm0 : List PySem.Str := ["_wall", "__name__", "TreeError", "NoBook", "NoSkill", "NoNumber", "LETTERS", "MOST_LETTERS", "is_whole", "is_number", "is_word", "is_row", "are_unlike", "are_tuples", "build_by", "size_of", "is_let", "points_let", "does_hold", "PARTS"]
def nm1 : List PySem.Str := ["MOST_SKILLS", "MOST_TIERS", "MOST_POINTS", "MOST_WANTS_books", "MOST_BARS", "MOST_GIVEN", "MOST_PRICE", "are_skills", "are_needs", "is_want", "are_bars", "are_numbered", "look_at_parts", "Book", "book_by", "neighbours_of", "Part", "reached_masks", "MOST_WANTS_idling", "masks_with"]
def nm2 : List PySem.Str := ["is_so", "idle_wants", "are_indexes", "is_enough", "sets_of", "least_wants", "skill_sets", "are_of_like_skills", "alike", "_law_pool", "_law_take", "_law_one", "_law_turned", "_law_tree", "_law_rows", "_law_book", "_law_made", "_law_names", "_law_tier", "_law_need"]
def nm3 : List PySem.Str := ["_law_order", "_law_is_row_met", "_law_below", "_law_is_met", "_law_size_let", "_law_holds", "_law_subsets", "_law_behind", "_law_steps", "_law_web", "_law_reached", "_law_with_wants", "_law_all_sets", "_law_small_book", "_law_wanted"]
def names : List PySem.Str := nm0 ++ nm1 ++ nm2 ++ nm3
abbrev R : PySem.W.OpenRow := PySem.W.OpenLaw.row PySem.Challenge.rw_refundtrees_k67_whole_least_wants
def dParts : List He.Dv := [.str "skills", .str "points", .str "needs", .str "wants", .str "bars", .str "gives", .str "prices", .str "reset"]
abbrev AlE : Type := He.AlD × Bool
def obsE (K : PySem.W.Frag) : AlE := (He.obsD fa fn K, He.tupB K "PARTS" dParts)
def obsEG (n : Nat) (g : Addr → Option Obj) : AlE := obsE (He.frG g (He.asD g n))
def valE : AlE := (He.valD fn, true)
def hk : PySem.W.Hook where
  α := AlE
  obs := fun s => obsEG 4 s.heap.get?
  val := fun _ => valE
  says := fun _ h => ∃ K : PySem.W.Frag, K.In h ∧ obsE K = valE
  of := fun _ _ e => ⟨_, He.frG_in, e⟩
  keeps := fun _ _ _ ⟨K, hK, c⟩ k => ⟨K, PySem.W.Frag.In.keeps hK k, c⟩
def ob (s : PySem.W.SharedT) : AlE := obsEG 4 (HandSHeadRun.getT s)
theorem ob_eq (s : PySem.W.SharedT) : ob s = hk.obs s.abs := by
  have e : HandSHeadRun.getT s = s.abs.heap.get? := funext (HandSHeadRun.getT_eq s)
  unfold ob
  rw [e] <;> rfl
theorem run (w : World) : HandSHeadRun.RunEq R (PySem.W.view R.prog [81]) hk ob 20000 names w := by
  intro os
  kernel_rfl
end RtH
end

section
set_option Elab.async false
set_option linter.all false
set_option maxRecDepth 100000
set_option maxHeartbeats 0
namespace RtH
open PySem PySem.Spec PyProof.Rows L2 Rt
theorem tx_of {K : PySem.W.Frag} {h : Heap} {mg : Str → Option Value} (X : K.In h) (G : h.Ns mainGlobals mg) (c : He.SaysD fa fn K) (t : He.tupB K "PARTS" dParts = true) : Tx K mg where
  g_is_whole := He.glo_ok X G (c.fact 0 (f := .glo "is_whole") rfl)
  f_is_whole := c.def_ 0 (d := d0) rfl
  g_is_number := He.glo_ok X G (c.fact 1 (f := .glo "is_number") rfl)
  f_is_number := c.def_ 1 (d := d1) rfl
  g_is_word := He.glo_ok X G (c.fact 2 (f := .glo "is_word") rfl)
  f_is_word := c.def_ 2 (d := d2) rfl
  g_is_row := He.glo_ok X G (c.fact 3 (f := .glo "is_row") rfl)
  f_is_row := c.def_ 3 (d := d3) rfl
  g_are_unlike := He.glo_ok X G (c.fact 4 (f := .glo "are_unlike") rfl)
  f_are_unlike := c.def_ 4 (d := d4) rfl
  g_are_tuples := He.glo_ok X G (c.fact 5 (f := .glo "are_tuples") rfl)
  f_are_tuples := c.def_ 5 (d := d5) rfl
  g_build_by := He.glo_ok X G (c.fact 6 (f := .glo "build_by") rfl)
  f_build_by := c.def_ 6 (d := d6) rfl
  g_size_of := He.glo_ok X G (c.fact 7 (f := .glo "size_of") rfl)
  f_size_of := c.def_ 7 (d := d7) rfl
  g_is_let := He.glo_ok X G (c.fact 8 (f := .glo "is_let") rfl)
  f_is_let := c.def_ 8 (d := d8) rfl
  g_points_let := He.glo_ok X G (c.fact 9 (f := .glo "points_let") rfl)
  f_points_let := c.def_ 9 (d := d9) rfl
  g_does_hold := He.glo_ok X G (c.fact 10 (f := .glo "does_hold") rfl)
  f_does_hold := c.def_ 10 (d := d10) rfl
  g_are_skills := He.glo_ok X G (c.fact 11 (f := .glo "are_skills") rfl)
  f_are_skills := c.def_ 11 (d := d11) rfl
  g_are_needs := He.glo_ok X G (c.fact 12 (f := .glo "are_needs") rfl)
  f_are_needs := c.def_ 12 (d := d12) rfl
  g_is_want := He.glo_ok X G (c.fact 13 (f := .glo "is_want") rfl)
  f_is_want := c.def_ 13 (d := d13) rfl
  g_are_bars := He.glo_ok X G (c.fact 14 (f := .glo "are_bars") rfl)
  f_are_bars := c.def_ 14 (d := d14) rfl
  g_are_numbered := He.glo_ok X G (c.fact 15 (f := .glo "are_numbered") rfl)
  f_are_numbered := c.def_ 15 (d := d15) rfl
  g_look_at_parts := He.glo_ok X G (c.fact 16 (f := .glo "look_at_parts") rfl)
  f_look_at_parts := c.def_ 16 (d := d16) rfl
  g_book_by := He.glo_ok X G (c.fact 17 (f := .glo "book_by") rfl)
  f_book_by := c.def_ 22 (d := d22) rfl
  g_neighbours_of := He.glo_ok X G (c.fact 18 (f := .glo "neighbours_of") rfl)
  f_neighbours_of := c.def_ 23 (d := d23) rfl
  g_reached_masks := He.glo_ok X G (c.fact 19 (f := .glo "reached_masks") rfl)
  f_reached_masks := c.def_ 25 (d := d25) rfl
  g_masks_with := He.glo_ok X G (c.fact 20 (f := .glo "masks_with") rfl)
  f_masks_with := c.def_ 26 (d := d26) rfl
  g_is_so := He.glo_ok X G (c.fact 21 (f := .glo "is_so") rfl)
  f_is_so := c.def_ 27 (d := d27) rfl
  g_idle_wants := He.glo_ok X G (c.fact 22 (f := .glo "idle_wants") rfl)
  f_idle_wants := c.def_ 28 (d := d28) rfl
  g_are_indexes := He.glo_ok X G (c.fact 23 (f := .glo "are_indexes") rfl)
  f_are_indexes := c.def_ 29 (d := d29) rfl
  g_is_enough := He.glo_ok X G (c.fact 24 (f := .glo "is_enough") rfl)
  f_is_enough := c.def_ 30 (d := d30) rfl
  g_sets_of := He.glo_ok X G (c.fact 25 (f := .glo "sets_of") rfl)
  f_sets_of := c.def_ 31 (d := d31) rfl
  g_least_wants := He.glo_ok X G (c.fact 26 (f := .glo "least_wants") rfl)
  f_least_wants := c.def_ 32 (d := d32) rfl
  g_skill_sets := He.glo_ok X G (c.fact 27 (f := .glo "skill_sets") rfl)
  f_skill_sets := c.def_ 33 (d := d33) rfl
  g_are_of_like_skills := He.glo_ok X G (c.fact 28 (f := .glo "are_of_like_skills") rfl)
  f_are_of_like_skills := c.def_ 34 (d := d34) rfl
  g_alike := He.glo_ok X G (c.fact 29 (f := .glo "alike") rfl)
  f_alike := c.def_ 35 (d := d35) rfl
  g__law_pool := He.glo_ok X G (c.fact 30 (f := .glo "_law_pool") rfl)
  f__law_pool := c.def_ 36 (d := d36) rfl
  g__law_take := He.glo_ok X G (c.fact 31 (f := .glo "_law_take") rfl)
  f__law_take := c.def_ 37 (d := d37) rfl
  g__law_one := He.glo_ok X G (c.fact 32 (f := .glo "_law_one") rfl)
  f__law_one := c.def_ 38 (d := d38) rfl
  g__law_turned := He.glo_ok X G (c.fact 33 (f := .glo "_law_turned") rfl)
  f__law_turned := c.def_ 39 (d := d39) rfl
  g__law_tree := He.glo_ok X G (c.fact 34 (f := .glo "_law_tree") rfl)
  f__law_tree := c.def_ 40 (d := d40) rfl
  g__law_rows := He.glo_ok X G (c.fact 35 (f := .glo "_law_rows") rfl)
  f__law_rows := c.def_ 41 (d := d41) rfl
  g__law_book := He.glo_ok X G (c.fact 36 (f := .glo "_law_book") rfl)
  f__law_book := c.def_ 42 (d := d42) rfl
  g__law_made := He.glo_ok X G (c.fact 37 (f := .glo "_law_made") rfl)
  f__law_made := c.def_ 43 (d := d43) rfl
  g__law_names := He.glo_ok X G (c.fact 38 (f := .glo "_law_names") rfl)
  f__law_names := c.def_ 44 (d := d44) rfl
  g__law_tier := He.glo_ok X G (c.fact 39 (f := .glo "_law_tier") rfl)
  f__law_tier := c.def_ 45 (d := d45) rfl
  g__law_need := He.glo_ok X G (c.fact 40 (f := .glo "_law_need") rfl)
  f__law_need := c.def_ 46 (d := d46) rfl
  g__law_order := He.glo_ok X G (c.fact 41 (f := .glo "_law_order") rfl)
  f__law_order := c.def_ 47 (d := d47) rfl
  g__law_is_row_met := He.glo_ok X G (c.fact 42 (f := .glo "_law_is_row_met") rfl)
  f__law_is_row_met := c.def_ 48 (d := d48) rfl
  g__law_below := He.glo_ok X G (c.fact 43 (f := .glo "_law_below") rfl)
  f__law_below := c.def_ 49 (d := d49) rfl
  g__law_is_met := He.glo_ok X G (c.fact 44 (f := .glo "_law_is_met") rfl)
  f__law_is_met := c.def_ 50 (d := d50) rfl
  g__law_size_let := He.glo_ok X G (c.fact 45 (f := .glo "_law_size_let") rfl)
  f__law_size_let := c.def_ 51 (d := d51) rfl
  g__law_holds := He.glo_ok X G (c.fact 46 (f := .glo "_law_holds") rfl)
  f__law_holds := c.def_ 52 (d := d52) rfl
  g__law_subsets := He.glo_ok X G (c.fact 47 (f := .glo "_law_subsets") rfl)
  f__law_subsets := c.def_ 53 (d := d53) rfl
  g__law_behind := He.glo_ok X G (c.fact 48 (f := .glo "_law_behind") rfl)
  f__law_behind := c.def_ 54 (d := d54) rfl
  g__law_steps := He.glo_ok X G (c.fact 49 (f := .glo "_law_steps") rfl)
  f__law_steps := c.def_ 55 (d := d55) rfl
  g__law_web := He.glo_ok X G (c.fact 50 (f := .glo "_law_web") rfl)
  f__law_web := c.def_ 56 (d := d56) rfl
  g__law_reached := He.glo_ok X G (c.fact 51 (f := .glo "_law_reached") rfl)
  f__law_reached := c.def_ 57 (d := d57) rfl
  g__law_with_wants := He.glo_ok X G (c.fact 52 (f := .glo "_law_with_wants") rfl)
  f__law_with_wants := c.def_ 58 (d := d58) rfl
  g__law_all_sets := He.glo_ok X G (c.fact 53 (f := .glo "_law_all_sets") rfl)
  f__law_all_sets := c.def_ 59 (d := d59) rfl
  g__law_small_book := He.glo_ok X G (c.fact 54 (f := .glo "_law_small_book") rfl)
  f__law_small_book := c.def_ 60 (d := d60) rfl
  g__law_wanted := He.glo_ok X G (c.fact 55 (f := .glo "_law_wanted") rfl)
  f__law_wanted := c.def_ 61 (d := d61) rfl
  g_law := He.glo_ok X G (c.fact 56 (f := .glo "law") rfl)
  f_law := c.def_ 62 (d := d62) rfl
  f_b_init := c.def_ 17 (d := d17) rfl
  f_b_asked_by := c.def_ 18 (d := d18) rfl
  m_b_asked_by := He.meth_ok (c.fact 63 (f := .meth "Book" "asked_by") rfl)
  f_b_wants := c.def_ 19 (d := d19) rfl
  m_b_wants := He.meth_ok (c.fact 64 (f := .meth "Book" "wants") rfl)
  f_b_names := c.def_ 20 (d := d20) rfl
  m_b_names := He.meth_ok (c.fact 65 (f := .meth "Book" "names") rfl)
  f_b_changed := c.def_ 21 (d := d21) rfl
  m_b_changed := He.meth_ok (c.fact 66 (f := .meth "Book" "changed") rfl)
  f_p_init := c.def_ 24 (d := d24) rfl
  g_Book := He.glo_ok X G (c.fact 57 (f := .glo "Book") rfl)
  c_Book := He.cls_ok (c.fact 58 (f := .cls "Book") rfl)
  mk_Book := He.mkr_ok (c.fact 59 (f := .mkr "Book") rfl)
  g_Part := He.glo_ok X G (c.fact 60 (f := .glo "Part") rfl)
  c_Part := He.cls_ok (c.fact 61 (f := .cls "Part") rfl)
  mk_Part := He.mkr_ok (c.fact 62 (f := .mkr "Part") rfl)
  a_record := He.noat_ok (c.fact 67 (f := .noat "Book" "record") rfl)
  a_own_points := He.noat_ok (c.fact 68 (f := .noat "Book" "own_points") rfl)
  a_own_reset := He.noat_ok (c.fact 69 (f := .noat "Book" "own_reset") rfl)
  a_own_names := He.noat_ok (c.fact 70 (f := .noat "Book" "own_names") rfl)
  a_own_tiers := He.noat_ok (c.fact 71 (f := .noat "Book" "own_tiers") rfl)
  a_tier_by := He.noat_ok (c.fact 72 (f := .noat "Book" "tier_by") rfl)
  a_spots := He.noat_ok (c.fact 73 (f := .noat "Book" "spots") rfl)
  a_bits := He.noat_ok (c.fact 74 (f := .noat "Book" "bits") rfl)
  a_own_needs := He.noat_ok (c.fact 75 (f := .noat "Book" "own_needs") rfl)
  a_own_prices := He.noat_ok (c.fact 76 (f := .noat "Book" "own_prices") rfl)
  a_own_given := He.noat_ok (c.fact 77 (f := .noat "Book" "own_given") rfl)
  a_barred := He.noat_ok (c.fact 78 (f := .noat "Book" "barred") rfl)
  a_asked := He.noat_ok (c.fact 79 (f := .noat "Book" "asked") rfl)
  a_book := He.noat_ok (c.fact 80 (f := .noat "Part" "book") rfl)
  a_came := He.noat_ok (c.fact 81 (f := .noat "Part" "came") rfl)
  n_len := He.free_ok X G (c.fact 82 (f := .free "len") rfl)
  n_all := He.free_ok X G (c.fact 83 (f := .free "all") rfl)
  n_any := He.free_ok X G (c.fact 84 (f := .free "any") rfl)
  n_sum := He.free_ok X G (c.fact 85 (f := .free "sum") rfl)
  n_sorted := He.free_ok X G (c.fact 86 (f := .free "sorted") rfl)
  n_range := He.free_ok X G (c.fact 87 (f := .free "range") rfl)
  n_enumerate := He.free_ok X G (c.fact 88 (f := .free "enumerate") rfl)
  n_zip := He.free_ok X G (c.fact 89 (f := .free "zip") rfl)
  n_isinstance := He.free_ok X G (c.fact 90 (f := .free "isinstance") rfl)
  n_int := He.free_ok X G (c.fact 91 (f := .free "int") rfl)
  n_str := He.free_ok X G (c.fact 92 (f := .free "str") rfl)
  n_bool := He.free_ok X G (c.fact 93 (f := .free "bool") rfl)
  n_list := He.free_ok X G (c.fact 94 (f := .free "list") rfl)
  n_tuple := He.free_ok X G (c.fact 95 (f := .free "tuple") rfl)
  n_dict := He.free_ok X G (c.fact 96 (f := .free "dict") rfl)
  n_max := He.free_ok X G (c.fact 97 (f := .free "max") rfl)
  n_min := He.free_ok X G (c.fact 98 (f := .free "min") rfl)
  k_MOST_LETTERS := let ⟨t, e⟩ := He.int_ok X G (c.fact 100 (f := .int "MOST_LETTERS" 8) rfl); ⟨_, e, t, rfl⟩
  k_MOST_SKILLS := let ⟨t, e⟩ := He.int_ok X G (c.fact 101 (f := .int "MOST_SKILLS" 12) rfl); ⟨_, e, t, rfl⟩
  k_MOST_TIERS := let ⟨t, e⟩ := He.int_ok X G (c.fact 102 (f := .int "MOST_TIERS" 4) rfl); ⟨_, e, t, rfl⟩
  k_MOST_POINTS := let ⟨t, e⟩ := He.int_ok X G (c.fact 103 (f := .int "MOST_POINTS" 12) rfl); ⟨_, e, t, rfl⟩
  k_MOST_WANTS_books := let ⟨t, e⟩ := He.int_ok X G (c.fact 104 (f := .int "MOST_WANTS_books" 12) rfl); ⟨_, e, t, rfl⟩
  k_MOST_BARS := let ⟨t, e⟩ := He.int_ok X G (c.fact 105 (f := .int "MOST_BARS" 6) rfl); ⟨_, e, t, rfl⟩
  k_MOST_GIVEN := let ⟨t, e⟩ := He.int_ok X G (c.fact 106 (f := .int "MOST_GIVEN" 3) rfl); ⟨_, e, t, rfl⟩
  k_MOST_PRICE := let ⟨t, e⟩ := He.int_ok X G (c.fact 107 (f := .int "MOST_PRICE" 99) rfl); ⟨_, e, t, rfl⟩
  k_MOST_WANTS_idling := let ⟨t, e⟩ := He.int_ok X G (c.fact 108 (f := .int "MOST_WANTS_idling" 8) rfl); ⟨_, e, t, rfl⟩
  k_LETTERS := let ⟨t, e⟩ := He.str_ok X G (c.fact 99 (f := .str "LETTERS" "abcdefghijklmnopqrstuvwxyz") rfl); ⟨_, e, t, rfl⟩
  k_PARTS := ⟨_, He.glo_ok X G (c.fact 109 (f := .glo "PARTS") rfl), rfl⟩
  t_PARTS := fun H => He.tupB_ok t H
theorem facts {P : Program} {w : World} {K : PySem.W.Frag} {h : Heap} {mg : Str → Option Value} {f : Addr} (X : K.In h) (G : h.Ns mainGlobals mg) (hfa : mg ("law" : Str) = some (.ref f)) (c : He.SaysD fa fn K) (t : He.tupB K "PARTS" dParts = true) :
    ∃ fd : FuncData, (∀ (s : Shared) (v : Value), BindsTo s fd ⟨[v], []⟩ [("_law_script", v)]) ∧ ∀ base : Heap, K.In base → base.Ns mainGlobals mg → FnOk P w K mg base CX0 13 f fd ["_law_script"] (Ab.SpD (R_law K)) := by
  obtain ⟨fd, F⟩ := c.def_ 62 (d := d62) rfl
  have T := tx_of X G c t
  have e := hfa.symm.trans T.g_law
  cases e
  have b := FunD.bindsA (ps := ["_law_script"]) F fun _ _ _ _ _ _ us hl => match us, hl with | [_], _ => rfl
  exact ⟨fd, fun s v => b s [v] rfl, fun base _ _ => ok_law T F⟩
end RtH
open PySem PySem.W PySem.Calls PyProof.Rows
theorem PySem.Challenge.cw_refundtrees_k67_whole_least_wants_holds : PySem.Challenge.rw_refundtrees_k67_whole_least_wants.Holds := by
  w_on; o_law
  refine HandSHeadRun.head_any (r := OpenLaw.row PySem.Challenge.rw_refundtrees_k67_whole_least_wants) (q := view (OpenLaw.row PySem.Challenge.rw_refundtrees_k67_whole_least_wants).prog [81]) (H := RtH.hk) (ob := RtH.ob) (M := 20000) (loose := RtH.names) (d := HandSHeadRun.topDef (OpenLaw.row PySem.Challenge.rw_refundtrees_k67_whole_least_wants).prog 81) (kwd := []) RtH.ob_eq
    (by kernel_rfl) (fun s => by kernel_rfl) RtH.run (by kernel_rfl) (by kernel_rfl) (by kernel_rfl) (by rfl) (by first | assumption | decide +kernel) (by decide +kernel) ⟨rfl, rfl, rfl, rfl, rfl, by decide +kernel⟩ ?hw ?hc
  case hw => w_witness2
  case hc =>
    refine L2.walk_ofE (l := PySem.Challenge.rw_refundtrees_k67_whole_least_wants) (n := 63) (k := 13) (x := "_law_script") (CX := L2.CX0) rfl (by decide) (by kernel_rfl) ⟨rfl, by decide, by decide⟩ ?F (fun _ _ _ _ z => z)
    intro w mg fa h Y G hmg0
    obtain ⟨K, KX, c⟩ := Y
    have hmg : mg ("law" : PySem.Str) = some (.ref fa) := by
      have e : (HandSHeadRun.topDef (OpenLaw.row PySem.Challenge.rw_refundtrees_k67_whole_least_wants).prog 81).name = ("law" : PySem.Str) := by kernel_rfl
      rw [← e]
      exact hmg0
    have c1 : He.SaysD RtH.fa RtH.fn K := congrArg Prod.fst c
    have c2 : He.tupB K "PARTS" RtH.dParts = true := congrArg Prod.snd c
    obtain ⟨fd, hb, hF⟩ := RtH.facts (P := (PySem.Challenge.rw_refundtrees_k67_whole_least_wants).prog) (w := w) KX G hmg c1 c2
    refine ⟨K, fd, Ab.SpD (Rt.R_law K), KX, hb, fun H a ns hl _ hS => ?_, hF⟩
    obtain ⟨d, r, hsc⟩ := Ab.ScD.of hS
    exact ⟨H, [d], .bl true, fun _ _ e => e, .cons r .nil, ⟨ns, d, rfl, hsc, by omega, rfl⟩, fun v Hk' H' _ r => by cases r; rfl⟩
end
