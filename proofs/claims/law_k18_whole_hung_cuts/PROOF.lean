import PyProof.Rows.All
import Wide.All
import OpenK.AllK
import Wide.FinOn
import HandS.ForMost
import HandS.Exc
import HandS.ExcOwn
import HandS.TryOnly
import HandS.WordsExc
import HandS.Evl
import HandS.Deep
import HandS.Wide
import HandS.Flow
import HandS.TupAny
import HandS.TupLe
import HandS.IsInst
import HandS.SetFor
import HandS.TupSets
import HandS.Style
import HandS.Conv
import KE.SortData
import KE.DataCmp
import KE.LtData
import KE.SortKeyHeap
import HandS.Strs
import PySem.Challenge.RW_farcuts_k18_whole_hung_cuts
set_option Elab.async false
set_option linter.all false
set_option autoImplicit false
set_option maxRecDepth 100000
set_option maxHeartbeats 1000000
/-! MD: data in place of heaps. A def of the program is mirrored by a plain function over cells (data with a mark of who owns it); the walk is the same for each construct. -/
namespace MD
open PySem PySem.Spec PyProof.Rows L2
open Evl (Ex Ex.refl Ex.trans Ex.new ex_l ex_t ex_rd)

abbrev D := PyData
/-- what a name holds: shared data, a list of one's own, a list of lists of one's own, a list lent by the caller -/
inductive Cel where
  | sh (d : D) | o1 (ds : List D) | o2 (dss : List (List D)) | x1 (ds : List D)
abbrev Rho := List (Option Cel)
inductive Rs (α : Type) where
  | ok (a : α) | ex (c : Str)
abbrev M (α : Type) := Rho → Option (Rs α × Rho)
inductive Out where
  | nx | bk | ct | rt (c : Cel) | ex (c : Str)
abbrev S := Rho → Option (Out × Rho)
abbrev FM := List Cel → Option (Rs Cel × List Cel)

end MD

namespace L2
open PySem PySem.Spec PyProof.Rows
open Evl (Ex Ex.refl Ex.trans Ex.new ex_l ex_t ex_rd)
theorem DpAll.len {K : PySem.W.Frag} {H : Hp} : ∀ {vs : List V} {ds : List PyData}, DpAll K H vs ds → vs.length = ds.length
  | _, _, .nil => rfl
  | _, _, .cons _ t => by rw [List.length_cons, List.length_cons, DpAll.len t]
theorem DpAll.get {K : PySem.W.Frag} {H : Hp} : ∀ {vs : List V} {ds : List PyData} {i : Nat} {d : PyData}, DpAll K H vs ds → ds[i]? = some d → ∃ v, vs[i]? = some v ∧ Dp K H v d
  | _, _, _, _, .nil, e => by simp at e
  | _, _, 0, _, .cons h _, e => by simp at e; subst e; exact ⟨_, rfl, h⟩
  | _, _, i + 1, d, .cons _ t, e => by
    obtain ⟨v, h1, h2⟩ := DpAll.get (i := i) (d := d) t (by simpa using e)
    exact ⟨v, by simpa using h1, h2⟩
theorem DpAll.getV {K : PySem.W.Frag} {H : Hp} {vs : List V} {ds : List PyData} {i : Nat} {d : PyData} {v : V} (h : DpAll K H vs ds) (e : ds[i]? = some d) (e2 : vs[i]? = some v) : Dp K H v d := by
  obtain ⟨v', h1, h2⟩ := h.get e
  rw [h1] at e2
  cases e2
  exact h2
theorem DpAll.getD' {K : PySem.W.Frag} {H : Hp} : ∀ {vs : List V} {ds : List PyData} {i : Nat} {v : V}, DpAll K H vs ds → vs[i]? = some v → ∃ d, ds[i]? = some d ∧ Dp K H v d
  | _, _, _, _, .nil, e => by simp at e
  | _, _, 0, _, .cons h _, e => by simp at e; subst e; exact ⟨_, rfl, h⟩
  | _, _, i + 1, v, .cons _ t, e => by
    obtain ⟨d, h1, h2⟩ := DpAll.getD' (i := i) (v := v) t (by simpa using e)
    exact ⟨d, by simpa using h1, h2⟩
theorem DpAll.append {K : PySem.W.Frag} {H : Hp} : ∀ {vs ws : List V} {ds es : List PyData}, DpAll K H vs ds → DpAll K H ws es → DpAll K H (vs ++ ws) (ds ++ es)
  | _, _, _, _, .nil, s => s
  | _, _, _, _, .cons r t, s => .cons r (DpAll.append t s)
theorem DpAll.take {K : PySem.W.Frag} {H : Hp} : ∀ {vs : List V} {ds : List PyData} (n : Nat), DpAll K H vs ds → DpAll K H (vs.take n) (ds.take n)
  | _, _, 0, _ => .nil
  | _, _, _ + 1, .nil => .nil
  | _, _, n + 1, .cons r t => .cons r (DpAll.take n t)
theorem DpAll.drop {K : PySem.W.Frag} {H : Hp} : ∀ {vs : List V} {ds : List PyData} (n : Nat), DpAll K H vs ds → DpAll K H (vs.drop n) (ds.drop n)
  | _, _, 0, r => r
  | _, _, _ + 1, .nil => .nil
  | _, _, n + 1, .cons _ t => DpAll.drop n t
theorem DpAll.set {K : PySem.W.Frag} {H : Hp} {v : V} {d : PyData} (r : Dp K H v d) : ∀ {vs : List V} {ds : List PyData} (i : Nat), DpAll K H vs ds → DpAll K H (vs.set i v) (ds.set i d)
  | _, _, _, .nil => .nil
  | _, _, 0, .cons _ t => .cons r t
  | _, _, i + 1, .cons q t => .cons q (DpAll.set r i t)
theorem DpAll.eraseIdx {K : PySem.W.Frag} {H : Hp} : ∀ {vs : List V} {ds : List PyData} (i : Nat), DpAll K H vs ds → DpAll K H (vs.eraseIdx i) (ds.eraseIdx i)
  | _, _, _, .nil => .nil
  | _, _, 0, .cons _ t => t
  | _, _, i + 1, .cons q t => .cons q (DpAll.eraseIdx i t)
theorem DpAll.dropLast {K : PySem.W.Frag} {H : Hp} {vs : List V} {ds : List PyData} (h : DpAll K H vs ds) : DpAll K H vs.dropLast ds.dropLast := by
  rw [List.dropLast_eq_take, List.dropLast_eq_take, h.len]
  exact h.take _
theorem DpAll.rev {K : PySem.W.Frag} {H : Hp} : ∀ {vs : List V} {ds : List PyData}, DpAll K H vs ds → DpAll K H vs.reverse ds.reverse
  | _, _, .nil => .nil
  | _, _, .cons r t => by
    rw [List.reverse_cons, List.reverse_cons]
    exact (DpAll.rev t).append (.cons r .nil)
theorem DpAll.rep {K : PySem.W.Frag} {H : Hp} {vs : List V} {ds : List PyData} (h : DpAll K H vs ds) : ∀ k : Nat, DpAll K H (List.replicate k vs).flatten (List.replicate k ds).flatten
  | 0 => .nil
  | k + 1 => by
    rw [List.replicate_succ, List.replicate_succ, List.flatten_cons, List.flatten_cons]
    exact h.append (DpAll.rep h k)
end L2

namespace MD
open PySem PySem.Spec PyProof.Rows L2
open Evl (Ex Ex.refl Ex.trans Ex.new ex_l ex_t ex_rd)
/-! ### data in a heap -/
theorem ex_dp {K : PySem.W.Frag} {H H' : Hp} (e : Ex H H') : ∀ {v : V} {d : D}, Dp K H v d → Dp K H' v d := by
  intro v d h
  exact Dp.rec (motive_1 := fun v d _ => Dp K H' v d) (motive_2 := fun vs ds _ => DpAll K H' vs ds)
    .non (fun b => .bl b) (fun i => .int i) (fun x => .str x) (fun hs _ ih => .lst (ex_l e hs) ih) (fun hs _ ih => .tup (ex_t e hs) ih) .nil (fun _ _ h1 h2 => .cons h1 h2) h
theorem ex_dpa {K : PySem.W.Frag} {H H' : Hp} (e : Ex H H') : ∀ {vs : List V} {ds : List D}, DpAll K H vs ds → DpAll K H' vs ds
  | _, _, .nil => .nil
  | _, _, .cons h t => .cons (ex_dp e h) (ex_dpa e t)
theorem dpa_ints {K : PySem.W.Frag} {H : Hp} : ∀ ns : List Int, DpAll K H (ns.map V.int) (ns.map PyData.int)
  | [] => .nil
  | n :: r => .cons (.int n) (dpa_ints r)

/-! ### cells in a heap: B is what is shared -/
def Own1 (K : PySem.W.Frag) (B H : Hp) (p : Addr) (ds : List D) : Prop := ∃ xs, B p = none ∧ H p = some (.lst xs) ∧ DpAll K B xs ds
inductive Rows (K : PySem.W.Frag) (B H : Hp) : List Addr → List (List D) → Prop
  | nil : Rows K B H [] []
  | cons {p : Addr} {ps : List Addr} {ds : List D} {dss : List (List D)} : Own1 K B H p ds → Rows K B H ps dss → Rows K B H (p :: ps) (ds :: dss)
def RC (K : PySem.W.Frag) (B H : Hp) (v : V) (c : Cel) (fp : List Addr) : Prop := match c with
  | .sh d => fp = [] ∧ Dp K B v d
  | .o1 ds => ∃ p, v = .ref p ∧ fp = [p] ∧ Own1 K B H p ds
  | .x1 ds => ∃ p, v = .ref p ∧ fp = [p] ∧ Own1 K B H p ds
  | .o2 dss => ∃ p ps, v = .ref p ∧ fp = p :: ps ∧ B p = none ∧ H p = some (.lst (ps.map V.ref)) ∧ Rows K B H ps dss
/-- the names' cells: W is the frame, what stands by itself beside B -/
structure Slots (K : PySem.W.Frag) (pa : Nat → Addr) (W B H : Hp) (ρ : Rho) (σ : L2.St) (φ : Nat → List Addr) : Prop where
  len : σ.length = ρ.length
  sub : Ex B H
  frm : ∀ a o, W a = some o → H a = some o ∧ B a = none
  at_ : ∀ (i : Nat) (c : Cel), ρ[i]? = some (some c) → ∃ v, σ[i]? = some (some v) ∧ RC K B H v c (φ i)
  pin : ∀ (i : Nat) (ds : List D), ρ[i]? = some (some (Cel.x1 ds)) → σ[i]? = some (some (V.ref (pa i)))
  nd : ∀ i, (φ i).Nodup
  dis : ∀ (i j : Nat) (a : Addr), i ≠ j → a ∈ φ i → a ∉ φ j
  off : ∀ (i : Nat) (a : Addr), a ∈ φ i → W a = none ∧ H a ≠ none ∧ B a = none
def ER (K : PySem.W.Frag) (pa : Nat → Addr) (W B H : Hp) (ρ : Rho) (σ : L2.St) : Prop := ∃ φ, Slots K pa W B H ρ σ φ
/-- .. and a value's cell -/
def EV (K : PySem.W.Frag) (pa : Nat → Addr) (W B H : Hp) (ρ : Rho) (σ : L2.St) (v : V) (c : Cel) : Prop :=
  ∃ φ ψ, Slots K pa W B H ρ σ φ ∧ RC K B H v c ψ ∧ ψ.Nodup ∧ (∀ i a, a ∈ ψ → a ∉ φ i) ∧ ∀ a, a ∈ ψ → W a = none ∧ H a ≠ none ∧ B a = none

/-- objects are laid, nothing else happens: those of them that are shared are B2's -/
structure Grow (B H B2 H2 : Hp) : Prop where
  eb : Ex B B2
  eh : Ex H H2
  sub : Ex B2 H2
  new : ∀ a, B2 a ≠ none → B a = none → H a = none

section
variable {K : PySem.W.Frag} {pa : Nat → Addr} {W B H B2 H2 B3 H3 : Hp} {ρ : Rho} {σ : L2.St} {φ : Nat → List Addr} {v : V} {c : Cel} {fp : List Addr}
theorem Grow.refl (h : Ex B H) : Grow B H B H := ⟨Ex.refl _, Ex.refl _, h, fun _ h1 h2 => absurd h2 h1⟩
theorem ne_some {H : Hp} {a : Addr} (h : H a ≠ none) : ∃ o, H a = some o := by
  cases e : H a with
  | none => exact absurd e h
  | some o => exact ⟨o, rfl⟩
theorem Grow.keepN (g : Grow B H B2 H2) {a : Addr} (hb : B a = none) (hh : H a ≠ none) : B2 a = none := by
  cases e : B2 a with
  | none => rfl
  | some o => exact absurd (g.new a (by rw [e]; simp) hb) hh
theorem Grow.trans (g : Grow B H B2 H2) (g' : Grow B2 H2 B3 H3) : Grow B H B3 H3 := ⟨g.eb.trans g'.eb, g.eh.trans g'.eh, g'.sub, fun a h1 h2 => by
  by_cases q : B2 a = none
  · have := g'.new a h1 q
    cases e : H a with
    | none => rfl
    | some o => rw [g.eh a o e] at this; cases this
  · exact g.new a q h2⟩
theorem Own1.grow {p : Addr} {ds : List D} (g : Grow B H B2 H2) (h : Own1 K B H p ds) : Own1 K B2 H2 p ds := by
  obtain ⟨xs, h1, h2, h3⟩ := h
  exact ⟨xs, g.keepN h1 (by rw [h2]; simp), g.eh _ _ h2, ex_dpa g.eb h3⟩
theorem Rows.grow (g : Grow B H B2 H2) : ∀ {ps : List Addr} {dss : List (List D)}, Rows K B H ps dss → Rows K B2 H2 ps dss
  | _, _, .nil => .nil
  | _, _, .cons h t => .cons (h.grow g) (Rows.grow g t)
theorem RC.grow (g : Grow B H B2 H2) (h : RC K B H v c fp) : RC K B2 H2 v c fp := by
  cases c with
  | sh d => exact ⟨h.1, ex_dp g.eb h.2⟩
  | o1 ds => obtain ⟨p, h1, h2, h3⟩ := h; exact ⟨p, h1, h2, h3.grow g⟩
  | x1 ds => obtain ⟨p, h1, h2, h3⟩ := h; exact ⟨p, h1, h2, h3.grow g⟩
  | o2 dss => obtain ⟨p, ps, h1, h2, h3, h4, h5⟩ := h; exact ⟨p, ps, h1, h2, g.keepN h3 (by rw [h4]; simp), g.eh _ _ h4, h5.grow g⟩
theorem Slots.grow (s : Slots K pa W B H ρ σ φ) (g : Grow B H B2 H2) : Slots K pa W B2 H2 ρ σ φ where
  len := s.len
  sub := g.sub
  frm := fun a o e => by
    obtain ⟨h1, h2⟩ := s.frm a o e
    exact ⟨g.eh _ _ h1, g.keepN h2 (by rw [h1]; simp)⟩
  at_ := fun i c e => by
    obtain ⟨v, h1, h2⟩ := s.at_ i c e
    exact ⟨v, h1, h2.grow g⟩
  pin := s.pin
  nd := s.nd
  dis := s.dis
  off := fun i a ha => by
    obtain ⟨h1, h2, h3⟩ := s.off i a ha
    obtain ⟨o, ho⟩ := ne_some h2
    exact ⟨h1, by rw [g.eh _ _ ho]; simp, g.keepN h3 h2⟩
theorem ER.grow (h : ER K pa W B H ρ σ) (g : Grow B H B2 H2) : ER K pa W B2 H2 ρ σ := let ⟨φ, s⟩ := h; ⟨φ, s.grow g⟩
theorem ER.sub (h : ER K pa W B H ρ σ) : Ex B H := let ⟨_, s⟩ := h; s.sub
theorem ER.len (h : ER K pa W B H ρ σ) : σ.length = ρ.length := let ⟨_, s⟩ := h; s.len
/-- a new object that is shared -/
theorem grow_sh {p : Addr} {o : HO} (sub : Ex B H) (hp : H p = none) : Grow B H (upd B p o) (upd H p o) := by
  have hb : B p = none := by
    cases e : B p with
    | none => rfl
    | some u => rw [sub _ _ e] at hp; cases hp
  refine ⟨Ex.new hb, Ex.new hp, fun a u e => ?_, fun a h1 h2 => ?_⟩
  · by_cases ha : a = p
    · subst ha; rw [upd_same] at e ⊢; exact e
    · rw [upd_ne ha] at e ⊢; exact sub _ _ e
  · by_cases ha : a = p
    · subst ha; exact hp
    · rw [upd_ne ha] at h1; exact absurd h2 h1
/-- a new object that is not shared -/
theorem grow_ow {p : Addr} {o : HO} (sub : Ex B H) (hp : H p = none) : Grow B H B (upd H p o) :=
  ⟨Ex.refl _, Ex.new hp, sub.trans (Ex.new hp), fun _ h1 h2 => absurd h2 h1⟩

/-! ### what was one's own becomes shared -/
def Cel.fz : Cel → Option D
  | .sh d => some d
  | .o1 ds => some (.list ds)
  | .o2 dss => some (.list (dss.map PyData.list))
  | .x1 _ => none
def upds (B : Hp) (H : Hp) (ps : List Addr) : Hp := fun a => if a ∈ ps then H a else B a
theorem upds_in {ps : List Addr} {a : Addr} (h : a ∈ ps) : upds B H ps a = H a := if_pos h
theorem upds_out {ps : List Addr} {a : Addr} (h : a ∉ ps) : upds B H ps a = B a := if_neg h
theorem ex_upds {ps : List Addr} (sub : Ex B H) : Ex B (upds B H ps) := fun a o e => by
  by_cases h : a ∈ ps
  · rw [upds_in h]; exact sub _ _ e
  · rw [upds_out h]; exact e
theorem upds_sub {ps : List Addr} (sub : Ex B H) : Ex (upds B H ps) H := fun a o e => by
  by_cases h : a ∈ ps
  · rw [upds_in h] at e; exact e
  · rw [upds_out h] at e; exact sub _ _ e
/-- of the frame and the names that don't hold it nothing is lost -/
theorem RC.share {ps : List Addr} (sub : Ex B H) (h : RC K B H v c fp) (hd : ∀ a, a ∈ fp → a ∉ ps) : RC K (upds B H ps) H v c fp := by
  have ow : ∀ {p : Addr} {ds : List D}, p ∉ ps → Own1 K B H p ds → Own1 K (upds B H ps) H p ds := fun hp ⟨xs, h1, h2, h3⟩ => ⟨xs, by rw [upds_out hp]; exact h1, h2, ex_dpa (ex_upds sub) h3⟩
  cases c with
  | sh d => exact ⟨h.1, ex_dp (ex_upds sub) h.2⟩
  | o1 ds => obtain ⟨p, h1, h2, h3⟩ := h; exact ⟨p, h1, h2, ow (hd p (by rw [h2]; simp)) h3⟩
  | x1 ds => obtain ⟨p, h1, h2, h3⟩ := h; exact ⟨p, h1, h2, ow (hd p (by rw [h2]; simp)) h3⟩
  | o2 dss =>
    obtain ⟨p, qs, h1, h2, h3, h4, h5⟩ := h
    have hq : ∀ q, q ∈ qs → q ∉ ps := fun q hq => hd q (by rw [h2]; exact List.mem_cons_of_mem _ hq)
    refine ⟨p, qs, h1, h2, by rw [upds_out (hd p (by rw [h2]; simp))]; exact h3, h4, ?_⟩
    clear h2 h4
    induction h5 with
    | nil => exact .nil
    | cons a t ih => exact .cons (ow (hq _ (by simp)) a) (ih fun q hm => hq q (List.mem_cons_of_mem _ hm))
theorem Slots.share {ps : List Addr} (s : Slots K pa W B H ρ σ φ) (h1 : ∀ i a, a ∈ ps → a ∉ φ i) (h2 : ∀ a, a ∈ ps → W a = none) : Slots K pa W (upds B H ps) H ρ σ φ where
  len := s.len
  sub := upds_sub s.sub
  frm := fun a o e => ⟨(s.frm a o e).1, by
    have : a ∉ ps := fun z => by rw [h2 a z] at e; cases e
    rw [upds_out this]; exact (s.frm a o e).2⟩
  at_ := fun i c e => by
    obtain ⟨v, e1, e2⟩ := s.at_ i c e
    exact ⟨v, e1, e2.share s.sub fun a ha hp => h1 i a hp ha⟩
  pin := s.pin
  nd := s.nd
  dis := s.dis
  off := fun i a ha => by
    obtain ⟨e1, e2, e3⟩ := s.off i a ha
    exact ⟨e1, e2, by rw [upds_out fun z => h1 i a z ha]; exact e3⟩
theorem rows_dp {ps qs : List Addr} {dss : List (List D)} (sub : Ex B H) (h : Rows K B H qs dss) (hq : ∀ q, q ∈ qs → q ∈ ps) : DpAll K (upds B H ps) (qs.map V.ref) (dss.map PyData.list) := by
  induction h with
  | nil => exact .nil
  | cons a t ih =>
    obtain ⟨xs, a1, a2, a3⟩ := a
    refine .cons (.lst (.of ?_) (ex_dpa (ex_upds sub) a3)) (ih fun q hm => hq q (List.mem_cons_of_mem _ hm))
    rw [upds_in (hq _ (by simp))]
    exact a2
theorem RC.dp {d : D} (sub : Ex B H) (h : RC K B H v c fp) (e : c.fz = some d) : Dp K (upds B H fp) v d := by
  cases c with
  | sh d' => cases e; exact ex_dp (ex_upds sub) h.2
  | o1 ds =>
    cases e
    obtain ⟨p, h1, h2, xs, h3, h4, h5⟩ := h
    subst h1
    exact .lst (.of (by rw [upds_in (by rw [h2]; simp)]; exact h4)) (ex_dpa (ex_upds sub) h5)
  | x1 ds => cases e
  | o2 dss =>
    cases e
    obtain ⟨p, ps, h1, h2, h3, h4, h5⟩ := h
    subst h1
    exact .lst (.of (by rw [upds_in (by rw [h2]; simp)]; exact h4)) (rows_dp sub h5 fun q hq => by rw [h2]; exact List.mem_cons_of_mem _ hq)
theorem EV.freeze {d : D} (h : EV K pa W B H ρ σ v c) (e : c.fz = some d) : ∃ B2, Ex B B2 ∧ ER K pa W B2 H ρ σ ∧ Dp K B2 v d := by
  obtain ⟨φ, ψ, s, r, nd, dis, off⟩ := h
  exact ⟨upds B H ψ, ex_upds s.sub, ⟨φ, s.share (fun i a ha => dis i a ha) fun a ha => (off a ha).1⟩, r.dp s.sub e⟩
theorem EV.er (h : EV K pa W B H ρ σ v c) : ER K pa W B H ρ σ := let ⟨φ, _, s, _⟩ := h; ⟨φ, s⟩
theorem EV.of_dp {d : D} (h : ER K pa W B H ρ σ) (q : Dp K B v d) : EV K pa W B H ρ σ v (.sh d) := by
  obtain ⟨φ, s⟩ := h
  exact ⟨φ, [], s, ⟨rfl, q⟩, List.nodup_nil, (fun _ _ h => absurd h (by simp)), (fun _ h => absurd h (by simp))⟩
end
end MD


set_option Elab.async false
set_option linter.all false
set_option autoImplicit false
set_option maxRecDepth 100000
set_option maxHeartbeats 1000000
namespace MD
open PySem PySem.Spec PyProof.Rows L2
open Evl (Ex Ex.refl Ex.trans Ex.new ex_l ex_t ex_rd)

/-- what is wanted of an exception, and what a body must have -/
structure Cxt (X : Cx) (Wx : WX) : Prop where
  takes : Takes X Wx
  owns : PassesOwn (model X.prog X.w) X.A X.env X.xe
  calm : X.calm = true
  nd : X.N.Nodup

/-! ### judgements -/
section
variable (X : Cx) (Wx : WX) (pa : Nat → Addr)
def ExP (W B : Hp) (σ : L2.St) (c : Str) (ρ' : Rho) : Prop := ∀ (C : Addr) (B' H' : Hp), X.mg c = some (.ref C) → Ex B B' → ER X.K pa W B' H' ρ' σ → Wx (.ref C) none σ H'
/-- a value, shared; ε: the names' own lists may change -/
def FinV (ε : Bool) (W B H : Hp) (σ : L2.St) (Q : VK) : Option (Rs D × Rho) → Prop
  | none => False
  | some (.ok d, ρ') => ∀ (v : V) (B' H' : Hp), Ex B B' → (ε = false → Ex H H') → ER X.K pa W B' H' ρ' σ → Dp X.K B' v d → Q v H'
  | some (.ex c, ρ') => ExP X Wx pa W B σ c ρ'
structure DV (ε : Bool) (e : Expr) (f : M D) : Prop where
  ex : ∃ t, PE X e t ∧ ∀ (W B H : Hp) (ρ : Rho) (σ : L2.St) (Q : VK), ER X.K pa W B H ρ σ → FinV X Wx pa ε W B H σ Q (f ρ) → t σ H Q
/-- a value's cell -/
def FinC (ε : Bool) (W B H : Hp) (σ : L2.St) (Q : VK) : Option (Rs Cel × Rho) → Prop
  | none => False
  | some (.ok c, ρ') => ∀ (v : V) (B' H' : Hp), Ex B B' → (ε = false → Ex H H') → EV X.K pa W B' H' ρ' σ v c → Q v H'
  | some (.ex c, ρ') => ExP X Wx pa W B σ c ρ'
structure DE (ε : Bool) (e : Expr) (f : M Cel) : Prop where
  ex : ∃ t, PE X e t ∧ ∀ (W B H : Hp) (ρ : Rho) (σ : L2.St) (Q : VK), ER X.K pa W B H ρ σ → FinC X Wx pa ε W B H σ Q (f ρ) → t σ H Q
/-- a test -/
def FinT (ε : Bool) (W B H : Hp) (σ : L2.St) (Q : Bool → Hp → Prop) : Option (Rs Bool × Rho) → Prop
  | none => False
  | some (.ok b, ρ') => ∀ (B' H' : Hp), Ex B B' → (ε = false → Ex H H') → ER X.K pa W B' H' ρ' σ → Q b H'
  | some (.ex c, ρ') => ExP X Wx pa W B σ c ρ'
structure DT (ε : Bool) (e : Expr) (f : M Bool) : Prop where
  ex : ∃ t, PT X e t ∧ ∀ (W B H : Hp) (ρ : Rho) (σ : L2.St) (Q : Bool → Hp → Prop), ER X.K pa W B H ρ σ → FinT X Wx pa ε W B H σ Q (f ρ) → t σ H Q
structure DW (ε : Bool) (e : Expr) (f : M Bool) : Prop where
  ex : ∃ t, PW X e t ∧ ∀ (W B H : Hp) (ρ : Rho) (σ : L2.St) (Q : Bool → Hp → Prop), ER X.K pa W B H ρ σ → FinT X Wx pa ε W B H σ Q (f ρ) → t σ H Q
/-- an argument list -/
def FinA (ε : Bool) (W B H : Hp) (σ : L2.St) (Q : List V → Hp → Prop) : Option (Rs (List D) × Rho) → Prop
  | none => False
  | some (.ok ds, ρ') => ∀ (vs : List V) (B' H' : Hp), Ex B B' → (ε = false → Ex H H') → ER X.K pa W B' H' ρ' σ → DpAll X.K B' vs ds → Q vs H'
  | some (.ex c, ρ') => ExP X Wx pa W B σ c ρ'
structure DA (ε : Bool) (es : List Expr) (f : M (List D)) : Prop where
  len : ∀ (ρ : Rho) (ds : List D) (ρ' : Rho), f ρ = some (.ok ds, ρ') → ds.length = es.length
  ex : ∃ t, PA X es t ∧ ∀ (W B H : Hp) (ρ : Rho) (σ : L2.St) (Q : List V → Hp → Prop), ER X.K pa W B H ρ σ → FinA X Wx pa ε W B H σ Q (f ρ) → t σ H Q
/-- a list that is read where it stands, its items shared -/
structure DL (e : Expr) (f : Rho → Option (List D)) : Prop where
  ex : ∃ t, PE X e t ∧ ∀ (W B H : Hp) (ρ : Rho) (σ : L2.St) (Q : VK), ER X.K pa W B H ρ σ → ∀ ds, f ρ = some ds → (∀ a xs, SqL X.K H a xs → DpAll X.K B xs ds → Q (.ref a) H) → t σ H Q
/-- anything that is read where it stands -/
structure DB (e : Expr) (f : Rho → Option D) : Prop where
  ex : ∃ t, PE X e t ∧ ∀ (W B H : Hp) (ρ : Rho) (σ : L2.St) (Q : VK), ER X.K pa W B H ρ σ → ∀ d, f ρ = some d → (∀ v, Dp X.K H v d → Q v H) → t σ H Q
/-- statements -/
def FinS (W B : Hp) (D : Ends) : Option (Out × Rho) → Prop
  | none => False
  | some (.nx, ρ') => ∀ (σ' : L2.St) (B' H' : Hp), Ex B B' → ER X.K pa W B' H' ρ' σ' → D.nx σ' H'
  | some (.bk, ρ') => ∀ (σ' : L2.St) (B' H' : Hp), Ex B B' → ER X.K pa W B' H' ρ' σ' → D.bk σ' H'
  | some (.ct, ρ') => ∀ (σ' : L2.St) (B' H' : Hp), Ex B B' → ER X.K pa W B' H' ρ' σ' → D.ct σ' H'
  | some (.rt c, ρ') => ∀ (v : V) (σ' : L2.St) (B' H' : Hp), Ex B B' → EV X.K pa W B' H' ρ' σ' v c → D.rt v H'
  | some (.ex c, ρ') => ∀ (C : Addr) (σ' : L2.St) (B' H' : Hp), X.mg c = some (.ref C) → Ex B B' → ER X.K pa W B' H' ρ' σ' → Wx (.ref C) none σ' H'
structure DS (st : Stmt) (f : S) : Prop where
  ex : ∃ t, PS X st t ∧ ∀ (W B H : Hp) (ρ : Rho) (σ : L2.St) (D : Ends), ER X.K pa W B H ρ σ → FinS X Wx pa W B D (f ρ) → t D σ H
structure DSs (sts : List Stmt) (f : S) : Prop where
  ex : ∃ t, PSs X sts t ∧ ∀ (W B H : Hp) (ρ : Rho) (σ : L2.St) (D : Ends), ER X.K pa W B H ρ σ → FinS X Wx pa W B D (f ρ) → t D σ H
end

/-! ### the mirror's words -/
def pureM {α : Type} (a : α) : M α := fun ρ => some (.ok a, ρ)
def bindM {α β : Type} (m : M α) (k : α → M β) : M β := fun ρ => match m ρ with
  | none => none
  | some (.ok a, ρ') => k a ρ'
  | some (.ex c, ρ') => some (.ex c, ρ')
def optM {α : Type} (o : Option α) : M α := fun ρ => o.map fun a => (.ok a, ρ)
/-- a word of data alone -/
def op1 (f : D → Option D) (m : M D) : M D := bindM m fun d => optM (f d)
def op2 (f : D → D → Option D) (m k : M D) : M D := bindM m fun d => bindM k fun e => optM (f d e)
def opA {α : Type} (f : List D → Option α) (m : M (List D)) : M α := bindM m fun ds => optM (f ds)
def mVal (m : M Cel) : M D := bindM m fun c => optM c.fz
def mCel (m : M D) : M Cel := bindM m fun d => pureM (.sh d)
def mNil : M (List D) := pureM []
def mCons (m : M D) (k : M (List D)) : M (List D) := bindM m fun d => bindM k fun ds => pureM (d :: ds)
/-- a name's value; what was its own is shared from now on -/
def mVar (i : Nat) : M D := fun ρ => match ρ[i]? with
  | some (some c) => (c.fz).map fun d => (.ok d, ρ.set i (some (.sh d)))
  | _ => none
def Cel.lst : Cel → Option (List D)
  | .sh (.list ds) => some ds
  | .o1 ds => some ds
  | .x1 ds => some ds
  | _ => none
def Cel.rd : Cel → D
  | .sh d => d
  | .o1 ds => .list ds
  | .x1 ds => .list ds
  | .o2 dss => .list (dss.map PyData.list)
def lVar (i : Nat) : Rho → Option (List D) := fun ρ => match ρ[i]? with
  | some (some c) => c.lst
  | _ => none
def rVar (i : Nat) : Rho → Option D := fun ρ => match ρ[i]? with
  | some (some c) => some c.rd
  | _ => none
def mOr (m k : M Bool) : M Bool := bindM m fun b => if b then pureM true else k
def mAnd (m k : M Bool) : M Bool := bindM m fun b => if b then k else pureM false
def mNot (m : M Bool) : M Bool := bindM m fun b => pureM (!b)
def asB : D → Option Bool
  | .bool b => some b
  | _ => none
def asI : D → Option Int
  | .int i => some i
  | _ => none
def mTest (m : M D) : M Bool := bindM m fun d => optM (asB d)
def mBl (m : M Bool) : M D := bindM m fun b => pureM (.bool b)

section
variable {X : Cx} {Wx : WX} {pa : Nat → Addr} {ε ε' : Bool} {W B B1 H H1 : Hp} {σ : L2.St} {ρ : Rho} {Q : VK}
theorem FinV.pull {o : Option (Rs D × Rho)} (h : FinV X Wx pa ε W B H σ Q o) (eb : Ex B B1) (eh : ε = false → Ex H H1) : FinV X Wx pa ε W B1 H1 σ Q o := by
  cases o with
  | none => exact h
  | some p =>
    obtain ⟨r, ρ'⟩ := p
    cases r with
    | ok d => exact fun v B' H' e1 e2 => h v B' H' (eb.trans e1) (fun z => (eh z).trans (e2 z))
    | ex c => exact fun C B' H' e1 e2 => h C B' H' e1 (eb.trans e2)
theorem FinC.pull {o : Option (Rs Cel × Rho)} (h : FinC X Wx pa ε W B H σ Q o) (eb : Ex B B1) (eh : ε = false → Ex H H1) : FinC X Wx pa ε W B1 H1 σ Q o := by
  cases o with
  | none => exact h
  | some p =>
    obtain ⟨r, ρ'⟩ := p
    cases r with
    | ok d => exact fun v B' H' e1 e2 => h v B' H' (eb.trans e1) (fun z => (eh z).trans (e2 z))
    | ex c => exact fun C B' H' e1 e2 => h C B' H' e1 (eb.trans e2)
theorem FinT.pull {Q : Bool → Hp → Prop} {o : Option (Rs Bool × Rho)} (h : FinT X Wx pa ε W B H σ Q o) (eb : Ex B B1) (eh : ε = false → Ex H H1) : FinT X Wx pa ε W B1 H1 σ Q o := by
  cases o with
  | none => exact h
  | some p =>
    obtain ⟨r, ρ'⟩ := p
    cases r with
    | ok d => exact fun B' H' e1 e2 => h B' H' (eb.trans e1) (fun z => (eh z).trans (e2 z))
    | ex c => exact fun C B' H' e1 e2 => h C B' H' e1 (eb.trans e2)
theorem FinA.pull {Q : List V → Hp → Prop} {o : Option (Rs (List D) × Rho)} (h : FinA X Wx pa ε W B H σ Q o) (eb : Ex B B1) (eh : ε = false → Ex H H1) : FinA X Wx pa ε W B1 H1 σ Q o := by
  cases o with
  | none => exact h
  | some p =>
    obtain ⟨r, ρ'⟩ := p
    cases r with
    | ok d => exact fun v B' H' e1 e2 => h v B' H' (eb.trans e1) (fun z => (eh z).trans (e2 z))
    | ex c => exact fun C B' H' e1 e2 => h C B' H' e1 (eb.trans e2)
theorem FinS.pull {E : Ends} {o : Option (Out × Rho)} (h : FinS X Wx pa W B E o) (eb : Ex B B1) : FinS X Wx pa W B1 E o := by
  cases o with
  | none => exact h
  | some p =>
    obtain ⟨r, ρ'⟩ := p
    cases r with
    | nx => exact fun a B' H' e => h a B' H' (eb.trans e)
    | bk => exact fun a B' H' e => h a B' H' (eb.trans e)
    | ct => exact fun a B' H' e => h a B' H' (eb.trans e)
    | rt c => exact fun a b B' H' e => h a b B' H' (eb.trans e)
    | ex c => exact fun C a B' H' e1 e2 => h C a B' H' e1 (eb.trans e2)
theorem ExP.pull {c : Str} (h : ExP X Wx pa W B σ c ρ) (eb : Ex B B1) : ExP X Wx pa W B1 σ c ρ := fun C B' H' e1 e2 => h C B' H' e1 (eb.trans e2)
theorem ef {ε ε' : Bool} (h : (ε || ε') = false) : ε = false ∧ ε' = false := by
  cases ε <;> cases ε' <;> simp at h ⊢

def exPart (X : Cx) (Wx : WX) (pa : Nat → Addr) (W B : Hp) (σ : L2.St) {α : Type} : Option (Rs α × Rho) → Prop
  | none => False
  | some (.ok _, _) => True
  | some (.ex c, ρ') => ExP X Wx pa W B σ c ρ'
theorem FinV.exP {o : Option (Rs D × Rho)} (h : FinV X Wx pa ε W B H σ Q o) : exPart X Wx pa W B σ o := by
  cases o with
  | none => exact h
  | some p =>
    obtain ⟨r, ρ'⟩ := p
    cases r with
    | ok d => trivial
    | ex c => exact h
theorem FinC.exP {o : Option (Rs Cel × Rho)} (h : FinC X Wx pa ε W B H σ Q o) : exPart X Wx pa W B σ o := by
  cases o with
  | none => exact h
  | some p =>
    obtain ⟨r, ρ'⟩ := p
    cases r with
    | ok d => trivial
    | ex c => exact h
theorem FinT.exP {Q : Bool → Hp → Prop} {o : Option (Rs Bool × Rho)} (h : FinT X Wx pa ε W B H σ Q o) : exPart X Wx pa W B σ o := by
  cases o with
  | none => exact h
  | some p =>
    obtain ⟨r, ρ'⟩ := p
    cases r with
    | ok d => trivial
    | ex c => exact h
theorem FinA.exP {Q : List V → Hp → Prop} {o : Option (Rs (List D) × Rho)} (h : FinA X Wx pa ε W B H σ Q o) : exPart X Wx pa W B σ o := by
  cases o with
  | none => exact h
  | some p =>
    obtain ⟨r, ρ'⟩ := p
    cases r with
    | ok d => trivial
    | ex c => exact h
theorem exPart.bind {α β : Type} {m : M α} {k : α → M β} (h : exPart X Wx pa W B σ (bindM m k ρ)) : exPart X Wx pa W B σ (m ρ) := by
  unfold bindM at h
  cases e : m ρ with
  | none => rw [e] at h; exact h
  | some p =>
    obtain ⟨r, ρ'⟩ := p
    rw [e] at h
    cases r with
    | ok d => trivial
    | ex c => exact h
theorem bindM_ok {α β : Type} {m : M α} {k : α → M β} {a : α} {ρ' : Rho} (e : m ρ = some (.ok a, ρ')) : bindM m k ρ = k a ρ' := by
  unfold bindM
  rw [e]
theorem FinV.mk {o : Option (Rs D × Rho)} (he : exPart X Wx pa W B σ o) (hk : ∀ d ρ', o = some (.ok d, ρ') → ∀ (v : V) (B' H' : Hp), Ex B B' → (ε = false → Ex H H') → ER X.K pa W B' H' ρ' σ → Dp X.K B' v d → Q v H') : FinV X Wx pa ε W B H σ Q o := by
  cases o with
  | none => exact he
  | some p =>
    obtain ⟨r, ρ'⟩ := p
    cases r with
    | ok d => exact hk d ρ' rfl
    | ex c => exact he
theorem FinC.mk {o : Option (Rs Cel × Rho)} (he : exPart X Wx pa W B σ o) (hk : ∀ c ρ', o = some (.ok c, ρ') → ∀ (v : V) (B' H' : Hp), Ex B B' → (ε = false → Ex H H') → EV X.K pa W B' H' ρ' σ v c → Q v H') : FinC X Wx pa ε W B H σ Q o := by
  cases o with
  | none => exact he
  | some p =>
    obtain ⟨r, ρ'⟩ := p
    cases r with
    | ok d => exact hk d ρ' rfl
    | ex c => exact he
theorem FinT.mk {Q : Bool → Hp → Prop} {o : Option (Rs Bool × Rho)} (he : exPart X Wx pa W B σ o) (hk : ∀ b ρ', o = some (.ok b, ρ') → ∀ (B' H' : Hp), Ex B B' → (ε = false → Ex H H') → ER X.K pa W B' H' ρ' σ → Q b H') : FinT X Wx pa ε W B H σ Q o := by
  cases o with
  | none => exact he
  | some p =>
    obtain ⟨r, ρ'⟩ := p
    cases r with
    | ok d => exact hk d ρ' rfl
    | ex c => exact he
theorem FinA.mk {Q : List V → Hp → Prop} {o : Option (Rs (List D) × Rho)} (he : exPart X Wx pa W B σ o) (hk : ∀ ds ρ', o = some (.ok ds, ρ') → ∀ (vs : List V) (B' H' : Hp), Ex B B' → (ε = false → Ex H H') → ER X.K pa W B' H' ρ' σ → DpAll X.K B' vs ds → Q vs H') : FinA X Wx pa ε W B H σ Q o := by
  cases o with
  | none => exact he
  | some p =>
    obtain ⟨r, ρ'⟩ := p
    cases r with
    | ok d => exact hk d ρ' rfl
    | ex c => exact he
theorem optM_some {α : Type} {o : Option α} {a : α} (e : o = some a) : optM o ρ = some (.ok a, ρ) := by
  unfold optM
  rw [e]
  rfl
/-- the last step: a word of data; its value is there -/
theorem FinV.opt {o : Option D} (h : FinV X Wx pa ε W B H σ Q (optM o ρ)) : ∃ d, o = some d ∧ ∀ (v : V) (B' H' : Hp), Ex B B' → (ε = false → Ex H H') → ER X.K pa W B' H' ρ σ → Dp X.K B' v d → Q v H' := by
  cases o with
  | none => exact h.elim
  | some d => exact ⟨d, rfl, h⟩
theorem FinT.opt {Q : Bool → Hp → Prop} {o : Option Bool} (h : FinT X Wx pa ε W B H σ Q (optM o ρ)) : ∃ d, o = some d ∧ ∀ (B' H' : Hp), Ex B B' → (ε = false → Ex H H') → ER X.K pa W B' H' ρ σ → Q d H' := by
  cases o with
  | none => exact h.elim
  | some d => exact ⟨d, rfl, h⟩
theorem FinC.opt {o : Option Cel} (h : FinC X Wx pa ε W B H σ Q (optM o ρ)) : ∃ c, o = some c ∧ ∀ (v : V) (B' H' : Hp), Ex B B' → (ε = false → Ex H H') → EV X.K pa W B' H' ρ σ v c → Q v H' := by
  cases o with
  | none => exact h.elim
  | some d => exact ⟨d, rfl, h⟩

/-! ### names, constants, from one kind to another -/
theorem Slots.set {K : PySem.W.Frag} {φ : Nat → List Addr} {i : Nat} {v : V} {c : Cel} {ψ : List Addr} (s : Slots K pa W B H ρ σ φ) (r : RC K B H v c ψ) (nd : ψ.Nodup) (dis : ∀ j a, a ∈ ψ → j ≠ i → a ∉ φ j) (off : ∀ a, a ∈ ψ → W a = none ∧ H a ≠ none ∧ B a = none)
    (hx : ∀ ds, c = .x1 ds → v = .ref (pa i)) : Slots K pa W B H (ρ.set i (some c)) (σ.set i (some v)) (fun j => if j = i then ψ else φ j) where
  len := by rw [List.length_set, List.length_set]; exact s.len
  sub := s.sub
  frm := s.frm
  at_ := fun j c' e => by
    by_cases hj : j = i
    · subst hj
      by_cases hl : j < ρ.length
      · rw [List.getElem?_set_self hl] at e
        cases e
        refine ⟨v, List.getElem?_set_self (by rw [s.len]; exact hl), ?_⟩
        simp only [if_true]
        exact r
      · rw [List.getElem?_eq_none (by rw [List.length_set]; omega)] at e
        cases e
    · rw [List.getElem?_set_ne (Ne.symm hj)] at e
      obtain ⟨u, h1, h2⟩ := s.at_ j c' e
      refine ⟨u, by rw [List.getElem?_set_ne (Ne.symm hj)]; exact h1, ?_⟩
      simp only [hj, if_false]
      exact h2
  pin := fun j ds e => by
    by_cases hj : j = i
    · subst hj
      by_cases hl : j < ρ.length
      · rw [List.getElem?_set_self hl] at e
        cases e
        rw [List.getElem?_set_self (by rw [s.len]; exact hl), hx _ rfl]
      · rw [List.getElem?_eq_none (by rw [List.length_set]; omega)] at e
        cases e
    · rw [List.getElem?_set_ne (Ne.symm hj)] at e ⊢
      exact s.pin j ds e
  nd := fun j => by
    by_cases hj : j = i
    · simp only [hj, if_true]; exact nd
    · simp only [hj, if_false]; exact s.nd j
  dis := fun j k a hjk ha hb => by
    by_cases hj : j = i
    · by_cases hk : k = i
      · exact hjk (hj.trans hk.symm)
      · simp only [hj, hk, if_true, if_false] at ha hb
        exact dis k a ha hk hb
    · by_cases hk : k = i
      · simp only [hj, hk, if_true, if_false] at ha hb
        exact dis j a hb hj ha
      · simp only [hj, hk, if_false] at ha hb
        exact s.dis j k a hjk ha hb
  off := fun j a ha => by
    by_cases hj : j = i
    · simp only [hj, if_true] at ha; exact off a ha
    · simp only [hj, if_false] at ha; exact s.off j a ha
theorem set_same {α : Type} : ∀ {l : List α} {i : Nat} {a : α}, l[i]? = some a → l.set i a = l
  | [], i, a, h => by simp at h
  | x :: r, 0, a, h => by simp at h; subst h; rfl
  | x :: r, i + 1, a, h => by rw [List.set_cons_succ, set_same (l := r) (i := i) (a := a) (by simpa using h)]
/-- a name's own list becomes shared -/
theorem ER.fzVar {K : PySem.W.Frag} {i : Nat} {c : Cel} {d : D} (h : ER K pa W B H ρ σ) (hi : ρ[i]? = some (some c)) (e : c.fz = some d) : ∃ v B', σ[i]? = some (some v) ∧ Ex B B' ∧ ER K pa W B' H (ρ.set i (some (.sh d))) σ ∧ Dp K B' v d := by
  obtain ⟨φ, s⟩ := h
  obtain ⟨v, hv, r⟩ := s.at_ i c hi
  refine ⟨v, upds B H (φ i), hv, ex_upds s.sub, ?_, r.dp s.sub e⟩
  have s2 : Slots K pa W B H (ρ.set i none) σ (fun j => if j = i then [] else φ j) := by
    refine ⟨by rw [List.length_set]; exact s.len, s.sub, s.frm, fun j c' e' => ?_, fun j ds e' => ?_, fun j => ?_, fun j k a hjk ha hb => ?_, fun j a ha => ?_⟩
    · by_cases hj : j = i
      · subst hj
        by_cases hl : j < ρ.length
        · rw [List.getElem?_set_self hl] at e'; cases e'
        · rw [List.getElem?_eq_none (by rw [List.length_set]; omega)] at e'; cases e'
      · rw [List.getElem?_set_ne (Ne.symm hj)] at e'
        simp only [hj, if_false]
        exact s.at_ j c' e'
    · by_cases hj : j = i
      · subst hj
        by_cases hl : j < ρ.length
        · rw [List.getElem?_set_self hl] at e'; cases e'
        · rw [List.getElem?_eq_none (by rw [List.length_set]; omega)] at e'; cases e'
      · rw [List.getElem?_set_ne (Ne.symm hj)] at e'
        exact s.pin j ds e'
    · by_cases hj : j = i
      · simp only [hj, if_true]; exact List.nodup_nil
      · simp only [hj, if_false]; exact s.nd j
    · by_cases hj : j = i
      · simp only [hj, if_true] at ha; exact absurd ha (by simp)
      · by_cases hk : k = i
        · simp only [hk, if_true] at hb; exact absurd hb (by simp)
        · simp only [hj, hk, if_false] at ha hb; exact s.dis j k a hjk ha hb
    · by_cases hj : j = i
      · simp only [hj, if_true] at ha; exact absurd ha (by simp)
      · simp only [hj, if_false] at ha; exact s.off j a ha
  have s3 := s2.share (ps := φ i) (fun j a ha hb => by
    by_cases hj : j = i
    · simp only [hj, if_true] at hb; exact absurd hb (by simp)
    · simp only [hj, if_false] at hb; exact s.dis i j a (Ne.symm hj) ha hb) fun a ha => (s.off i a ha).1
  have s4 := s3.set (i := i) (v := v) (c := .sh d) (ψ := []) ⟨rfl, r.dp s.sub e⟩ List.nodup_nil (fun _ _ z => absurd z (by simp)) (fun _ z => absurd z (by simp)) (fun _ z => by cases z)
  rw [List.set_set, set_same hv] at s4
  exact ⟨_, s4⟩
theorem ER.look {K : PySem.W.Frag} {i : Nat} {c : Cel} (h : ER K pa W B H ρ σ) (hi : ρ[i]? = some (some c)) : ∃ v fp, σ[i]? = some (some v) ∧ RC K B H v c fp := by
  obtain ⟨φ, s⟩ := h
  obtain ⟨v, hv, r⟩ := s.at_ i c hi
  exact ⟨v, _, hv, r⟩
theorem RC.list {K : PySem.W.Frag} {v : V} {c : Cel} {fp : List Addr} {ds : List D} (sub : Ex B H) (r : RC K B H v c fp) (e : c.lst = some ds) : ∃ a xs, v = .ref a ∧ SqL K H a xs ∧ DpAll K B xs ds := by
  cases c with
  | sh d =>
    obtain ⟨_, q⟩ := r
    cases q with
    | lst hs ha => cases e; exact ⟨_, _, rfl, ex_l sub hs, ha⟩
    | non => cases e
    | bl => cases e
    | int => cases e
    | str => cases e
    | tup => cases e
  | o1 ds' => cases e; obtain ⟨p, h1, h2, xs, h3, h4, h5⟩ := r; exact ⟨p, xs, h1, .of h4, h5⟩
  | x1 ds' => cases e; obtain ⟨p, h1, h2, xs, h3, h4, h5⟩ := r; exact ⟨p, xs, h1, .of h4, h5⟩
  | o2 dss => cases e
theorem RC.read {K : PySem.W.Frag} {v : V} {c : Cel} {fp : List Addr} (sub : Ex B H) (r : RC K B H v c fp) : Dp K H v c.rd := by
  cases c with
  | sh d => exact ex_dp sub r.2
  | o1 ds => obtain ⟨p, h1, h2, xs, h3, h4, h5⟩ := r; subst h1; exact .lst (.of h4) (ex_dpa sub h5)
  | x1 ds => obtain ⟨p, h1, h2, xs, h3, h4, h5⟩ := r; subst h1; exact .lst (.of h4) (ex_dpa sub h5)
  | o2 dss =>
    obtain ⟨p, ps, h1, h2, h3, h4, h5⟩ := r
    subst h1
    refine .lst (.of h4) ?_
    clear h2 h4
    induction h5 with
    | nil => exact .nil
    | cons a t ih => obtain ⟨xs, a1, a2, a3⟩ := a; exact .cons (.lst (.of a2) (ex_dpa sub a3)) ih
theorem dv_var (i : Nat) {x : Str} {pos : Pos} (hN : X.N[i]? = some x := by rfl) (hv : Vis X.env.scope x := by first | exact Or.inl rfl | exact Or.inr (Or.inl rfl) | exact Or.inr (Or.inr rfl)) (hd : (x == ("__debug__" : Str)) = false := by decide)
    (hcd : (x == ("__classdict__" : Str)) = false := by decide) : DV X Wx pa false (.Name x pos) (mVar i) := by
  refine ⟨_, pe_var hN hv hd hcd, fun W B H ρ σ Q I h => ?_⟩
  unfold mVar at h
  split at h
  · rename_i c hc
    cases e : c.fz with
    | none => rw [e] at h; exact h.elim
    | some d =>
      rw [e] at h
      obtain ⟨v, B', hv, eb, I', dp⟩ := I.fzVar hc e
      exact ⟨v, hv, h v B' H eb (fun _ => Ex.refl _) I' dp⟩
  · exact h.elim
theorem dl_var (i : Nat) {x : Str} {pos : Pos} (hN : X.N[i]? = some x := by rfl) (hv : Vis X.env.scope x := by first | exact Or.inl rfl | exact Or.inr (Or.inl rfl) | exact Or.inr (Or.inr rfl)) (hd : (x == ("__debug__" : Str)) = false := by decide)
    (hcd : (x == ("__classdict__" : Str)) = false := by decide) : DL X pa (.Name x pos) (lVar i) := by
  refine ⟨_, pe_var hN hv hd hcd, fun W B H ρ σ Q I ds h k => ?_⟩
  unfold lVar at h
  split at h
  · rename_i c hc
    obtain ⟨v, fp, hv, r⟩ := I.look hc
    obtain ⟨a, xs, e, h1, h2⟩ := r.list I.sub h
    subst e
    exact ⟨_, hv, k a xs h1 h2⟩
  · cases h
theorem db_var (i : Nat) {x : Str} {pos : Pos} (hN : X.N[i]? = some x := by rfl) (hv : Vis X.env.scope x := by first | exact Or.inl rfl | exact Or.inr (Or.inl rfl) | exact Or.inr (Or.inr rfl)) (hd : (x == ("__debug__" : Str)) = false := by decide)
    (hcd : (x == ("__classdict__" : Str)) = false := by decide) : DB X pa (.Name x pos) (rVar i) := by
  refine ⟨_, pe_var hN hv hd hcd, fun W B H ρ σ Q I d h k => ?_⟩
  unfold rVar at h
  split at h
  · rename_i c hc
    obtain ⟨v, fp, hv, r⟩ := I.look hc
    cases h
    exact ⟨_, hv, k v (r.read I.sub)⟩
  · cases h
theorem dv_c {e : Expr} {v : V} {d : D} (he : PE X e (tC v)) (hd : ∀ B, Dp X.K B v d) : DV X Wx pa false e (pureM d) :=
  ⟨_, he, fun W B H ρ σ Q I h => h v B H (Ex.refl _) (fun _ => Ex.refl _) I (hd B)⟩
theorem dv_int {i : Int} {j : Nat} {pos : Pos} : DV X Wx pa false (.Constant (.int i) j pos) (pureM (.int i)) := dv_c pe_int fun _ => .int i
theorem dv_bl {b : Bool} {j : Nat} {pos : Pos} : DV X Wx pa false (.Constant (.bool b) j pos) (pureM (.bool b)) := dv_c pe_bl fun _ => .bl b
theorem dv_non {j : Nat} {pos : Pos} : DV X Wx pa false (.Constant .none j pos) (pureM .none) := dv_c pe_non fun _ => .non
theorem dv_str {x : Str} {j : Nat} {pos : Pos} : DV X Wx pa false (.Constant (.str x) j pos) (pureM (.str x)) := dv_c pe_str fun _ => .str x
/-- a constant of the module -/
theorem dv_glob {x : Str} {v : V} {u : Value} {d : D} {pos : Pos} (hg : Gl X x) (hm : X.mg x = some u) (r : RelV v u) (hd : ∀ B, Dp X.K B v d) (hdb : (x == ("__debug__" : Str)) = false := by decide) : DV X Wx pa false (.Name x pos) (pureM d) := dv_c (pe_glob hg hm r hdb) hd
theorem DE.val {e : Expr} {f : M Cel} (h : DE X Wx pa ε e f) : DV X Wx pa ε e (mVal f) := by
  obtain ⟨t, pe, he⟩ := h
  refine ⟨t, pe, fun W B H ρ σ Q I h => he W B H ρ σ Q I (FinC.mk h.exP.bind fun c ρ' e1 v B' H' eb eh I' => ?_)⟩
  have h2 : FinV X Wx pa ε W B H σ Q (optM c.fz ρ') := by rw [← bindM_ok (k := fun c => optM c.fz) e1]; exact h
  obtain ⟨d, ed, k⟩ := h2.opt
  obtain ⟨B2, eb2, I2, dp⟩ := I'.freeze ed
  exact k v B2 H' (eb.trans eb2) eh I2 dp
theorem DV.cel {e : Expr} {f : M D} (h : DV X Wx pa ε e f) : DE X Wx pa ε e (mCel f) := by
  obtain ⟨t, pe, he⟩ := h
  refine ⟨t, pe, fun W B H ρ σ Q I h => he W B H ρ σ Q I (FinV.mk h.exP.bind fun d ρ' e1 v B' H' eb eh I' dp => ?_)⟩
  have h2 : FinC X Wx pa ε W B H σ Q (pureM (Cel.sh d) ρ') := by rw [← bindM_ok (k := fun d => pureM (Cel.sh d)) e1]; exact h
  exact h2 v B' H' eb eh (EV.of_dp I' dp)
/-- more effects may be said -/
theorem DV.loose {e : Expr} {f : M D} (h : DV X Wx pa ε e f) : DV X Wx pa true e f := by
  obtain ⟨t, pe, he⟩ := h
  exact ⟨t, pe, fun W B H ρ σ Q I h => he W B H ρ σ Q I (FinV.mk h.exP fun d ρ' e1 v B' H' eb eh I' dp => by rw [e1] at h; exact h v B' H' eb (fun z => by cases z) I' dp)⟩

/-! ### argument lists, operators -/
theorem da_nil : DA X Wx pa false [] mNil := ⟨fun _ _ _ e => by cases e; rfl, _, pa_nil, fun W B H ρ σ Q I h => h [] B H (Ex.refl _) (fun _ => Ex.refl _) I .nil⟩
theorem da_cons {e : Expr} {es : List Expr} {f : M D} {g : M (List D)} (ha : DV X Wx pa ε e f) (hr : DA X Wx pa ε' es g) (hs : starEach (e :: es) X.env = (false, eval e X.env) :: starEach es X.env := by rfl) : DA X Wx pa (ε || ε') (e :: es) (mCons f g) := by
  obtain ⟨ta, pe, ha⟩ := ha
  obtain ⟨hl, tr, pr, hr⟩ := hr
  refine ⟨fun ρ ds ρ' e => ?_, _, pa_cons pe pr hs, fun W B H ρ σ Q I h => ?_⟩
  · unfold mCons bindM at e
    split at e
    · cases e
    · rename_i d ρ1 q1
      dsimp only at e
      split at e
      · cases e
      · rename_i es' ρ2 q2
        cases e
        rw [List.length_cons, List.length_cons, hl _ _ _ q2]
      · cases e
    · cases e
  refine ha W B H ρ σ _ I (FinV.mk h.exP.bind fun d ρ1 e1 v B1 H1 eb eh I1 dp => ?_)
  replace h : FinA X Wx pa (ε || ε') W B H σ Q (bindM g (fun ds => pureM (d :: ds)) ρ1) := by rw [← bindM_ok (k := fun d => bindM g fun ds => pureM (d :: ds)) e1]; exact h
  have h1 : exPart X Wx pa W B1 σ (bindM g (fun ds => pureM (d :: ds)) ρ1) := (h.pull (H1 := H) eb fun _ => Ex.refl _).exP
  refine hr W B1 H1 ρ1 σ _ I1 (FinA.mk h1.bind fun ds ρ2 e2 vs B2 H2 eb2 eh2 I2 dps => ?_)
  replace h : FinA X Wx pa (ε || ε') W B H σ Q (pureM (d :: ds) ρ2) := by rw [← bindM_ok (k := fun ds => pureM (d :: ds)) e2]; exact h
  exact h (v :: vs) B2 H2 (eb.trans eb2) (fun z => (eh (ef z).1).trans (eh2 (ef z).2)) I2 (.cons (ex_dp eb2 dp) dps)
/-- an operator's rule, by data: f tells the answer -/
def OpD (X : Cx) (r : R2) (f : D → D → Option D) : Prop := ∀ (B H : Hp) (x y : V) (d e z : D) (Q : VK), Ex B H → Dp X.K B x d → Dp X.K B y e → f d e = some z → (∀ (v : V) (B' H' : Hp), Grow B H B' H' → Dp X.K B' v z → Q v H') → r x y H Q
theorem fin2 {te tf : TE} {r : R2} {a b : M D} {g : D → D → Option D} {Q : VK} (ho : OpD X r g)
    (ha : ∀ (W B H : Hp) (ρ : Rho) (σ : L2.St) (Q : VK), ER X.K pa W B H ρ σ → FinV X Wx pa ε W B H σ Q (a ρ) → te σ H Q)
    (hb : ∀ (W B H : Hp) (ρ : Rho) (σ : L2.St) (Q : VK), ER X.K pa W B H ρ σ → FinV X Wx pa ε' W B H σ Q (b ρ) → tf σ H Q)
    (I : ER X.K pa W B H ρ σ) (h : FinV X Wx pa (ε || ε') W B H σ Q (op2 g a b ρ)) : tOp r te tf σ H Q := by
  refine ha W B H ρ σ _ I (FinV.mk h.exP.bind fun d ρ1 e1 v B1 H1 eb eh I1 dp => ?_)
  replace h : FinV X Wx pa (ε || ε') W B H σ Q (bindM b (fun e => optM (g d e)) ρ1) := by rw [← bindM_ok (k := fun d => bindM b fun e => optM (g d e)) e1]; exact h
  have h1 : exPart X Wx pa W B1 σ (bindM b (fun e => optM (g d e)) ρ1) := (h.pull (H1 := H) eb fun _ => Ex.refl _).exP
  refine hb W B1 H1 ρ1 σ _ I1 (FinV.mk h1.bind fun e ρ2 e2 y B2 H2 eb2 eh2 I2 dq => ?_)
  replace h : FinV X Wx pa (ε || ε') W B H σ Q (optM (g d e) ρ2) := by rw [← bindM_ok (k := fun e => optM (g d e)) e2]; exact h
  obtain ⟨z, ez, k⟩ := h.opt
  exact ho B2 H2 v y d e z Q I2.sub (ex_dp eb2 dp) dq ez fun u B3 H3 gr du => k u B3 H3 ((eb.trans eb2).trans gr.eb) (fun q => ((eh (ef q).1).trans (eh2 (ef q).2)).trans gr.eh) (I2.grow gr) du
theorem dv_op {a b : Expr} {op : Operator} {pos : Pos} {r : R2} {f g : M D} {w : D → D → Option D} (hr : OpR X (binaryOp op) r) (ho : OpD X r w) (ha : DV X Wx pa ε a f) (hb : DV X Wx pa ε' b g) : DV X Wx pa (ε || ε') (.BinOp a op b pos) (op2 w f g) := by
  obtain ⟨ta, pe, ha⟩ := ha
  obtain ⟨tb, pf, hb⟩ := hb
  exact ⟨_, pe_op hr pe pf, fun W B H ρ σ Q I h => fin2 ho ha hb I h⟩
theorem dv_cmp {a b : Expr} {op : CmpOp} {pos : Pos} {r : R2} {f g : M D} {w : D → D → Option D} (hr : OpR X (compareOp op) r) (ho : OpD X r w) (ha : DV X Wx pa ε a f) (hb : DV X Wx pa ε' b g) (hm : behindInMarks op b = false := by first | exact nomark _ | rfl) : DV X Wx pa (ε || ε') (.Compare a [op] [b] pos) (op2 w f g) := by
  obtain ⟨ta, pe, ha⟩ := ha
  obtain ⟨tb, pf, hb⟩ := hb
  exact ⟨_, pe_cmpR hr pe pf hm, fun W B H ρ σ Q I h => fin2 ho ha hb I h⟩
theorem dv_ix {a b : Expr} {pos : Pos} {r : R2} {f g : M D} {w : D → D → Option D} (hr : IxR X r) (ho : OpD X r w) (ha : DV X Wx pa ε a f) (hb : DV X Wx pa ε' b g) (hs : PlainIx b := by exact fun _ _ => rfl) : DV X Wx pa (ε || ε') (.Subscript a b pos) (op2 w f g) := by
  obtain ⟨ta, pe, ha⟩ := ha
  obtain ⟨tb, pf, hb⟩ := hb
  exact ⟨_, pe_ix hr pe pf hs, fun W B H ρ σ Q I h => fin2 ho ha hb I h⟩
/-- a comparison as a test -/
theorem dt_cmp {a b : Expr} {op : CmpOp} {pos : Pos} {r : R2} {f g : M D} {w : D → D → Option D} (hr : OpR X (compareOp op) r) (ho : OpD X r w) (ha : DV X Wx pa ε a f) (hb : DV X Wx pa ε' b g) (hm : behindInMarks op b = false := by first | exact nomark _ | rfl) : DT X Wx pa (ε || ε') (.Compare a [op] [b] pos) (mTest (op2 w f g)) := by
  obtain ⟨ta, pe, ha⟩ := ha
  obtain ⟨tb, pf, hb⟩ := hb
  refine ⟨_, pt_cmpR hr pe pf hm, fun W B H ρ σ Q I h => ?_⟩
  refine fin2 ho ha hb I (FinV.mk h.exP.bind fun d ρ1 e1 v B1 H1 eb eh I1 dp => ?_)
  replace h : FinT X Wx pa (ε || ε') W B H σ Q (optM (asB d) ρ1) := by rw [← bindM_ok (k := fun d => optM (asB d)) e1]; exact h
  obtain ⟨k, ek, q⟩ := h.opt
  have : d = .bool k := by cases d <;> cases ek; rfl
  subst this
  cases dp
  exact ⟨k, rfl, q B1 H1 eb eh I1⟩
end
end MD


set_option Elab.async false
set_option linter.all false
set_option autoImplicit false
set_option maxRecDepth 100000
set_option maxHeartbeats 1000000
namespace MD
open PySem PySem.Spec PyProof.Rows L2
open Evl (Ex Ex.refl Ex.trans Ex.new ex_l ex_t ex_rd)

/-- the longest list, text that is spoken of -/
abbrev lim : Nat := 100000
theorem lim_le {n : Nat} (h : n ≤ lim) : n ≤ sizeLine := Nat.le_trans h (by decide)
theorem lim_lt {n : Nat} (h : n < lim) : n < sizeLine := Nat.lt_of_lt_of_le h (by decide)

section
variable {X : Cx}
/-! ### whole numbers -/
def fI (C : Int → Int → Bool) (g : Int → Int → D) : D → D → Option D
  | .int i, .int j => if C i j then some (g i j) else none
  | _, _ => none
theorem opD_I {C : Int → Int → Prop} {Cb : Int → Int → Bool} {g : Int → Int → V} {gd : Int → Int → D} (hc : ∀ i j, Cb i j = true → C i j) (hg : ∀ B i j, Dp X.K B (g i j) (gd i j)) : OpD X (rI C g) (fI Cb gd) := by
  intro B H x y d e z Q sub hx hy ez k
  unfold fI at ez
  split at ez
  · rename_i i j
    cases hx
    cases hy
    by_cases hh : Cb i j = true
    · rw [if_pos hh] at ez
      cases ez
      exact ⟨i, j, rfl, rfl, hc i j hh, k _ B H (Grow.refl sub) (hg B i j)⟩
    · rw [if_neg hh] at ez
      cases ez
  · cases ez
def fI0 (g : Int → Int → D) : D → D → Option D
  | .int i, .int j => some (g i j)
  | _, _ => none
theorem opD_I0 {g : Int → Int → V} {gd : Int → Int → D} (hg : ∀ B i j, Dp X.K B (g i j) (gd i j)) : OpD X (rI0 g) (fI0 gd) := by
  intro B H x y d e z Q sub hx hy ez k
  cases hx <;> cases hy <;> cases ez
  rename_i i j
  exact ⟨i, j, rfl, rfl, k _ B H (Grow.refl sub) (hg B i j)⟩
def CFdiv (i j : Int) : Prop := j ≠ 0 ∧ j.natAbs.log2 < 9000
theorem op_fdivA : OpR X (binaryOp .FloorDiv) (rI CFdiv fun i j => .int (i.fdiv j)) := opI fun _ _ _ _ _ _ _ hc q => floordiv_int hc.1 q (.inl (PyProof.noPylong_of_log2 hc.2))
def pSub : D → D → Option D := fI0 fun i j => .int (i - j)
def pMulI : D → D → Option D := fI (fun i j => decide (i.natAbs.log2 + j.natAbs.log2 < 1000000)) fun i j => .int (i * j)
def pFdiv : D → D → Option D := fI (fun i j => decide (j ≠ 0 ∧ j.natAbs.log2 < 9000)) fun i j => .int (i.fdiv j)
def pMod : D → D → Option D := fI (fun _ j => decide (j ≠ 0)) fun i j => .int (i.fmod j)
def pPow : D → D → Option D := fI (fun i j => decide (0 ≤ j ∧ j ≤ 1000000 ∧ i.natAbs < 2 ^ 64)) fun i j => .int (i ^ j.toNat)
theorem od_sub : OpD X (rI0 fun i j => .int (i - j)) pSub := opD_I0 fun _ _ _ => .int _
theorem od_mulI : OpD X (rI CMulW fun i j => .int (i * j)) pMulI := opD_I (fun i j h => (of_decide_eq_true h : i.natAbs.log2 + j.natAbs.log2 < 1000000)) fun _ _ _ => .int _
theorem od_fdiv : OpD X (rI CFdiv fun i j => .int (i.fdiv j)) pFdiv := opD_I (fun i j h => (of_decide_eq_true h : j ≠ 0 ∧ j.natAbs.log2 < 9000)) fun _ _ _ => .int _
theorem od_mod : OpD X (rI (fun _ j => j ≠ 0) fun i j => .int (i.fmod j)) pMod := opD_I (fun _ _ h => of_decide_eq_true h) fun _ _ _ => .int _
theorem od_pow : OpD X (rI CPow fun i j => .int (i ^ j.toNat)) pPow := opD_I (fun i j h => (of_decide_eq_true h : 0 ≤ j ∧ j ≤ 1000000 ∧ i.natAbs < 2 ^ 64)) fun _ _ _ => .int _
/-! ### order -/
def pLt : D → D → Option D := fI0 fun i j => .bool (decide (i < j))
def pLe : D → D → Option D := fI0 fun i j => .bool (decide (i ≤ j))
def pGt : D → D → Option D := fI0 fun i j => .bool (decide (j < i))
def pGe : D → D → Option D := fI0 fun i j => .bool (decide (j ≤ i))
theorem od_lt : OpD X (rI0 fun i j => .bl (decide (i < j))) pLt := opD_I0 fun _ _ _ => .bl _
theorem od_le : OpD X (rI0 fun i j => .bl (decide (i ≤ j))) pLe := opD_I0 fun _ _ _ => .bl _
theorem od_gt : OpD X (rI0 fun i j => .bl (decide (j < i))) pGt := opD_I0 fun _ _ _ => .bl _
theorem od_ge : OpD X (rI0 fun i j => .bl (decide (j ≤ i))) pGe := opD_I0 fun _ _ _ => .bl _
/-! ### likeness -/
def eqD (d e : D) : Option Bool := match d, e with
  | .int i, .int j => some (decide (i = j))
  | d, e => if SeqAt.shaped d && SeqAt.shaped e then some (PyData.eqv d e) else none
theorem eqD_ok {d e : D} {b : Bool} (h : eqD d e = some b) : SeqAt.shaped d = true ∧ SeqAt.shaped e = true ∧ PyData.eqv d e = b := by
  unfold eqD at h
  split at h
  · rename_i i j
    cases h
    refine ⟨by simp [SeqAt.shaped, PyData.canLay0, PyData.depth], by simp [SeqAt.shaped, PyData.canLay0, PyData.depth], ?_⟩
    simp only [PyData.eqv]
    by_cases q : i = j
    · rw [q]; simp
    · rw [decide_eq_false q]; exact beq_eq_false_iff_ne.mpr q
  · split at h
    · rename_i hh
      rw [Bool.and_eq_true] at hh
      cases h
      exact ⟨hh.1, hh.2, rfl⟩
    · cases h
def pEq (d e : D) : Option D := (eqD d e).map PyData.bool
def pNe (d e : D) : Option D := (eqD d e).map fun b => .bool (!b)
theorem od_eq : OpD X (rEqD X.K) pEq := by
  intro B H x y d e z Q sub hx hy ez k
  unfold pEq at ez
  cases q : eqD d e with
  | none => rw [q] at ez; cases ez
  | some b =>
    rw [q] at ez
    cases ez
    obtain ⟨h1, h2, h3⟩ := eqD_ok q
    exact ⟨d, e, ex_dp sub hx, ex_dp sub hy, h1, h2, by rw [h3]; exact k _ B H (Grow.refl sub) (.bl b)⟩
theorem od_ne : OpD X (rNeD X.K) pNe := by
  intro B H x y d e z Q sub hx hy ez k
  unfold pNe at ez
  cases q : eqD d e with
  | none => rw [q] at ez; cases ez
  | some b =>
    rw [q] at ez
    cases ez
    obtain ⟨h1, h2, h3⟩ := eqD_ok q
    exact ⟨d, e, ex_dp sub hx, ex_dp sub hy, h1, h2, by rw [h3]; exact k _ B H (Grow.refl sub) (.bl (!b))⟩
def isNon : D → Bool
  | .none => true
  | _ => false
theorem isNon_dp {K : PySem.W.Frag} {B : Hp} {v : V} {d : D} (h : Dp K B v d) : decide (v = .non) = isNon d := by
  cases h <;> first | rfl | exact decide_eq_false (fun z => by cases z)
def pIsN (d e : D) : Option D := if isNon e then some (.bool (isNon d)) else none
def pNotN (d e : D) : Option D := if isNon e then some (.bool (!isNon d)) else none
theorem od_isN : OpD X (fun x y H Q => y = .non ∧ Q (.bl (decide (x = .non))) H) pIsN := by
  intro B H x y d e z Q sub hx hy ez k
  unfold pIsN at ez
  split at ez
  · rename_i h
    cases ez
    have hy2 : y = .non := by have := isNon_dp hy; rw [h] at this; exact of_decide_eq_true this
    exact ⟨hy2, by rw [isNon_dp hx]; exact k _ B H (Grow.refl sub) (.bl _)⟩
  · cases ez
theorem od_notN : OpD X (fun x y H Q => y = .non ∧ Q (.bl (!decide (x = .non))) H) pNotN := by
  intro B H x y d e z Q sub hx hy ez k
  unfold pNotN at ez
  split at ez
  · rename_i h
    cases ez
    have hy2 : y = .non := by have := isNon_dp hy; rw [h] at this; exact of_decide_eq_true this
    exact ⟨hy2, by rw [isNon_dp hx]; exact k _ B H (Grow.refl sub) (.bl _)⟩
  · cases ez
def pIsB : D → D → Option D
  | .bool a, .bool b => some (.bool (decide (a = b)))
  | _, _ => none
def pIsNotB : D → D → Option D
  | .bool a, .bool b => some (.bool (!decide (a = b)))
  | _, _ => none
theorem od_isB : OpD X (fun x y H Q => ∃ a b, x = .bl a ∧ y = .bl b ∧ Q (.bl (decide (a = b))) H) pIsB := by
  intro B H x y d e z Q sub hx hy ez k
  cases hx <;> cases hy <;> cases ez
  exact ⟨_, _, rfl, rfl, k _ B H (Grow.refl sub) (.bl _)⟩
theorem od_isNotB : OpD X (fun x y H Q => ∃ a b, x = .bl a ∧ y = .bl b ∧ Q (.bl (!decide (a = b))) H) pIsNotB := by
  intro B H x y d e z Q sub hx hy ez k
  cases hx <;> cases hy <;> cases ez
  exact ⟨_, _, rfl, rfl, k _ B H (Grow.refl sub) (.bl _)⟩
/-! ### + -/
def rCatS (K : PySem.W.Frag) : R2 := fun x y H Q => ∃ l b xs zs, x = .ref l ∧ y = .ref b ∧ SqL K H l xs ∧ SqL K H b zs ∧ xs.length + zs.length ≤ sizeLine ∧ ∀ p, H p = none → Q (.ref p) (upd H p (.lst (xs ++ zs)))
theorem op_catS : OpR X (binaryOp .Add) (rCatS X.K) := by
  intro pins s σ H x y v u Q I rx ry h
  obtain ⟨l, b, xs, zs, rfl, rfl, hl, hb, hz, q⟩ := h
  cases rx
  cases ry
  obtain ⟨its, r, pl, _⟩ := I.list hl
  obtain ⟨its2, r2, pl2, _⟩ := I.list hb
  obtain ⟨⟨cls, dd, data, sl⟩, ho, hc, n, hd⟩ := pl.isList
  obtain ⟨⟨cls2, dd2, data2, sl2⟩, ho2, hc2, n2, hd2⟩ := pl2.isList
  simp only at hc hd hc2 hd2
  subst hc hd hc2 hd2
  have e1 := r.length
  have e2 := r2.length
  have e : its.toArray ++ its2.toArray = (its ++ its2).toArray := by simp
  refine concat_meets ⟨_, ho, rfl⟩ ⟨_, ho2, rfl⟩ noFill_list_add seq_list_add PySem.F.slot_list_add PySem.F.entry_list_add (PySem.F.args_list_add_2 _ _) (list_addW l b its.toArray its2.toArray n n2 dd dd2 sl sl2 (by simp only [List.size_toArray]; omega)) ⟨ho, ho2, ?_⟩
  rw [e]
  exact ⟨.ref _, _, I.lnew (t' := s.toks) (r.append r2) (by rw [List.length_append]; omega), rfl, q _ I.fresh⟩
def rAddD (K : PySem.W.Frag) : R2 := fun x y H Q => (rI0 fun i j => .int (i + j)) x y H Q ∨ (rCatS K x y H Q ∨ (rCatA K x y H Q ∨ ∃ i j, x = .str i ∧ y = .str j ∧ i.length + j.length ≤ sizeLine ∧ Q (.str (i ++ j)) H))
theorem op_addD : OpR X (binaryOp .Add) (rAddD X.K) := op_add.or (op_catS.or (op_catA.or op_add_str))
def pAdd : D → D → Option D
  | .int i, .int j => some (.int (i + j))
  | .list xs, .list ys => if xs.length + ys.length ≤ lim then some (.list (xs ++ ys)) else none
  | .tuple xs, .tuple ys => if xs.length + ys.length ≤ lim then some (.tuple (xs ++ ys)) else none
  | .str a, .str b => if a.length + b.length ≤ lim then some (.str (a ++ b)) else none
  | _, _ => none
theorem od_add : OpD X (rAddD X.K) pAdd := by
  intro B H x y d e z Q sub hx hy ez k
  cases hx with
  | int i =>
    cases hy with
    | int j => cases ez; exact .inl ⟨i, j, rfl, rfl, k _ B H (Grow.refl sub) (.int _)⟩
    | non => cases ez
    | bl => cases ez
    | str => cases ez
    | lst => cases ez
    | tup => cases ez
  | @lst a xs ds hs ha =>
    cases hy with
    | @lst b ys es ht hb =>
      unfold pAdd at ez
      simp only at ez
      split at ez
      · rename_i hl
        cases ez
        have e1 := ha.len
        have e2 := hb.len
        refine .inr (.inl ⟨a, b, xs, ys, rfl, rfl, ex_l sub hs, ex_l sub ht, lim_le (by omega), fun p hp => ?_⟩)
        have g := grow_sh (o := .lst (xs ++ ys)) sub hp
        exact k _ _ _ g (.lst (.of upd_same) (ex_dpa g.eb (ha.append hb)))
      · cases ez
    | non => cases ez
    | bl => cases ez
    | str => cases ez
    | int => cases ez
    | tup => cases ez
  | @tup a xs ds hs ha =>
    cases hy with
    | @tup b ys es ht hb =>
      unfold pAdd at ez
      simp only at ez
      split at ez
      · rename_i hl
        cases ez
        have e1 := ha.len
        have e2 := hb.len
        refine .inr (.inr (.inl ⟨a, b, xs, ys, rfl, rfl, ex_t sub hs, ex_t sub ht, lim_le (by omega), fun z => ?_, fun _ z => ?_, fun _ _ p hp => ?_⟩))
        · subst z
          cases ha
          exact k _ B H (Grow.refl sub) (.tup ht hb)
        · subst z
          cases hb
          rw [List.append_nil] at k
          exact k _ B H (Grow.refl sub) (.tup hs ha)
        · have g := grow_sh (o := .tup (xs ++ ys)) sub hp
          exact k _ _ _ g (.tup (.of upd_same) (ex_dpa g.eb (ha.append hb)))
      · cases ez
    | non => cases ez
    | bl => cases ez
    | str => cases ez
    | int => cases ez
    | lst => cases ez
  | str a =>
    cases hy with
    | str b =>
      unfold pAdd at ez
      simp only at ez
      split at ez
      · rename_i hl
        cases ez
        exact .inr (.inr (.inr ⟨a, b, rfl, rfl, lim_le hl, k _ B H (Grow.refl sub) (.str _)⟩))
      · cases ez
    | non => cases ez
    | bl => cases ez
    | tup => cases ez
    | int => cases ez
    | lst => cases ez
  | non => cases hy <;> cases ez
  | bl => cases hy <;> cases ez
/-! ### in -/
def memD (d : D) : D → Option Bool
  | .list ds => if SeqAt.shaped d && SeqAt.shaped (.list ds) then some (ds.any fun z => PyData.eqv z d) else none
  | .tuple ds => if (asI d).isSome && ds.all (fun z => (asI z).isSome) then some (ds.any fun z => asI z == asI d) else none
  | .str y => match d with
    | .str x => some (!(Builtin.Str.occurrences y x 0 y.length 1).isEmpty)
    | _ => none
  | _ => none
def pIn (d e : D) : Option D := (memD d e).map PyData.bool
def pNotIn (d e : D) : Option D := (memD d e).map fun b => .bool (!b)
def rInA (K : PySem.W.Frag) : R2 := fun x y H Q => rInD K x y H Q ∨ (rIn K false x y H Q ∨ ∃ i j, x = .str i ∧ y = .str j ∧ Q (.bl (!(Builtin.Str.occurrences j i 0 j.length 1).isEmpty)) H)
def rNotInA (K : PySem.W.Frag) : R2 := fun x y H Q => rNotInD K x y H Q ∨ (rIn K true x y H Q ∨ ∃ i j, x = .str i ∧ y = .str j ∧ Q (.bl (!(!(Builtin.Str.occurrences j i 0 j.length 1).isEmpty))) H)
theorem op_inA (hu : X.A.units + 65 < cLine) : OpR X (compareOp .In) (rInA X.K) := (op_inD hu).or (op_in_seq.or op_in_str)
theorem op_notInA (hu : X.A.units + 65 < cLine) : OpR X (compareOp .NotIn) (rNotInA X.K) := (op_notInD hu).or (op_notIn_seq.or op_notIn_str)
theorem asI_dp {K : PySem.W.Frag} {B : Hp} {v : V} {d : D} (h : Dp K B v d) (e : (asI d).isSome = true) : ∃ i, v = .int i ∧ d = .int i := by
  cases h <;> first | exact ⟨_, rfl, rfl⟩ | cases e
theorem flat_dpa {K : PySem.W.Frag} {B : Hp} : ∀ {vs : List V} {ds : List D}, DpAll K B vs ds → ds.all (fun z => (asI z).isSome) = true → vs.all flatV = true
  | _, _, .nil, _ => rfl
  | _, _, .cons h t, e => by
    rw [List.all_cons, Bool.and_eq_true] at e
    obtain ⟨i, h1, _⟩ := asI_dp h e.1
    subst h1
    rw [List.all_cons, flat_dpa t e.2]
    rfl
theorem any_dpa {K : PySem.W.Frag} {B : Hp} {i : Int} : ∀ {vs : List V} {ds : List D}, DpAll K B vs ds → ds.all (fun z => (asI z).isSome) = true → inV (.int i) vs = ds.any fun z => asI z == some i
  | _, _, .nil, _ => rfl
  | _, _, .cons h t, e => by
    rw [List.all_cons, Bool.and_eq_true] at e
    obtain ⟨j, h1, h2⟩ := asI_dp h e.1
    subst h1 h2
    have := any_dpa (i := i) t e.2
    unfold inV at this ⊢
    rw [List.any_cons, List.any_cons, this]
    have q : eqV (V.int j) (V.int i) = (asI (.int j) == some i) := by
      show (j == i) = (some j == some i)
      rfl
    rw [q]
theorem mem_all {K : PySem.W.Frag} {B H : Hp} {x y : V} {d e : D} {b : Bool} {Q : VK} (sub : Ex B H) (hx : Dp K B x d) (hy : Dp K B y e) (h : memD d e = some b) (q : Q (.bl b) H) : rInA K x y H Q := by
  unfold memD at h
  split at h
  · split at h
    · rename_i hh
      rw [Bool.and_eq_true] at hh
      cases h
      exact .inl ⟨_, _, ex_dp sub hx, ex_dp sub hy, hh.1, hh.2, q⟩
    · cases h
  · split at h
    · rename_i hh
      rw [Bool.and_eq_true] at hh
      cases h
      obtain ⟨i, h1, h2⟩ := asI_dp hx hh.1
      subst h1 h2
      cases hy with
      | tup hs ha => exact .inr (.inl ⟨_, _, rfl, .inr (ex_t sub hs), rfl, flat_dpa ha hh.2, by rw [any_dpa ha hh.2]; exact q⟩)
    · cases h
  · split at h
    · cases h
      cases hx
      cases hy
      exact .inr (.inr ⟨_, _, rfl, rfl, q⟩)
    · cases h
  · cases h
theorem mem_allN {K : PySem.W.Frag} {B H : Hp} {x y : V} {d e : D} {b : Bool} {Q : VK} (sub : Ex B H) (hx : Dp K B x d) (hy : Dp K B y e) (h : memD d e = some b) (q : Q (.bl (!b)) H) : rNotInA K x y H Q := by
  unfold memD at h
  split at h
  · split at h
    · rename_i hh
      rw [Bool.and_eq_true] at hh
      cases h
      exact .inl ⟨_, _, ex_dp sub hx, ex_dp sub hy, hh.1, hh.2, q⟩
    · cases h
  · split at h
    · rename_i hh
      rw [Bool.and_eq_true] at hh
      cases h
      obtain ⟨i, h1, h2⟩ := asI_dp hx hh.1
      subst h1 h2
      cases hy with
      | tup hs ha => exact .inr (.inl ⟨_, _, rfl, .inr (ex_t sub hs), rfl, flat_dpa ha hh.2, by rw [any_dpa ha hh.2]; exact q⟩)
    · cases h
  · split at h
    · cases h
      cases hx
      cases hy
      exact .inr (.inr ⟨_, _, rfl, rfl, q⟩)
    · cases h
  · cases h
theorem od_in : OpD X (rInA X.K) pIn := by
  intro B H x y d e z Q sub hx hy ez k
  unfold pIn at ez
  cases q : memD d e with
  | none => rw [q] at ez; cases ez
  | some b => rw [q] at ez; cases ez; exact mem_all sub hx hy q (k _ B H (Grow.refl sub) (.bl b))
theorem od_notIn : OpD X (rNotInA X.K) pNotIn := by
  intro B H x y d e z Q sub hx hy ez k
  unfold pNotIn at ez
  cases q : memD d e with
  | none => rw [q] at ez; cases ez
  | some b => rw [q] at ez; cases ez; exact mem_allN sub hx hy q (k _ B H (Grow.refl sub) (.bl (!b)))
/-! ### an item -/
def pIx : D → D → Option D
  | .list ds, .int i => atI ds i
  | .tuple ds, .int i => atI ds i
  | .str z, .int i => if z.length ≤ lim then (atI z.cps.toList i).map fun c => .str ⟨#[c]⟩ else none
  | _, _ => none
theorem atI_dpa {K : PySem.W.Frag} {B : Hp} {vs : List V} {ds : List D} {i : Int} {d : D} (h : DpAll K B vs ds) (e : atI ds i = some d) : ∃ v, atI vs i = some v ∧ Dp K B v d := by
  unfold atI at e ⊢
  rw [h.len]
  cases q : ixN ds.length i with
  | none => rw [q] at e; cases e
  | some j => rw [q] at e; exact h.get e
theorem od_ix : OpD X (rIx X.K) pIx := by
  intro B H x y d e z Q sub hx hy ez k
  cases hy with
  | int i =>
    cases hx with
    | @lst a xs ds hs ha =>
      obtain ⟨v, h1, h2⟩ := atI_dpa ha ez
      exact .inl ⟨a, xs, i, v, rfl, rfl, ex_l sub hs, h1, k v B H (Grow.refl sub) h2⟩
    | @tup a xs ds hs ha =>
      obtain ⟨v, h1, h2⟩ := atI_dpa ha ez
      exact .inr (.inl ⟨a, xs, i, v, rfl, rfl, ex_t sub hs, h1, k v B H (Grow.refl sub) h2⟩)
    | str s =>
      unfold pIx at ez
      simp only at ez
      split at ez
      · rename_i hl
        cases q : atI s.cps.toList i with
        | none => rw [q] at ez; cases ez
        | some c => rw [q] at ez; cases ez; exact .inr (.inr ⟨s, i, c, rfl, rfl, lim_le hl, q, k _ B H (Grow.refl sub) (.str _)⟩)
      · cases ez
    | non => cases ez
    | bl => cases ez
    | int => cases ez
  | non => cases hx <;> cases ez
  | bl => cases hx <;> cases ez
  | str => cases hx <;> cases ez
  | lst => cases hx <;> cases ez
  | tup => cases hx <;> cases ez
end
end MD


set_option Elab.async false
set_option linter.all false
set_option autoImplicit false
set_option maxRecDepth 100000
set_option maxHeartbeats 1000000
namespace MD
open PySem PySem.Spec PyProof.Rows L2
open Evl (Ex Ex.refl Ex.trans Ex.new ex_l ex_t ex_rd)

section
variable {X : Cx} {Wx : WX} {pa : Nat → Addr} {ε ε' ε'' : Bool} {W B B1 H H1 : Hp} {σ : L2.St} {ρ : Rho} {Q : VK}
/-! ### tests -/
theorem finTest {te : TE} {f : M D} {Q : Bool → Hp → Prop} (he : ∀ (W B H : Hp) (ρ : Rho) (σ : L2.St) (Q : VK), ER X.K pa W B H ρ σ → FinV X Wx pa ε W B H σ Q (f ρ) → te σ H Q)
    (I : ER X.K pa W B H ρ σ) (h : FinT X Wx pa ε W B H σ Q (mTest f ρ)) : te σ H (fun x H1 => ∃ c, x = .bl c ∧ Q c H1) := by
  refine he W B H ρ σ _ I (FinV.mk h.exP.bind fun d ρ1 e1 v B1 H1 eb eh I1 dp => ?_)
  replace h : FinT X Wx pa ε W B H σ Q (optM (asB d) ρ1) := by rw [← bindM_ok (k := fun d => optM (asB d)) e1]; exact h
  obtain ⟨k, ek, q⟩ := h.opt
  have : d = .bool k := by cases d <;> cases ek; rfl
  subst this
  cases dp
  exact ⟨k, rfl, q B1 H1 eb eh I1⟩
theorem dt_val {e : Expr} {f : M D} (h : DV X Wx pa ε e f) (he : ∀ whole, isTrue e X.env whole = (do let v ← whole; standAt e.pos; holding [v] (truthy v)) := by intro _; rfl) : DT X Wx pa ε e (mTest f) := by
  obtain ⟨t, pe, hh⟩ := h
  exact ⟨_, pt_val pe he, fun W B H ρ σ Q I h => finTest hh I h⟩
theorem DW.dt {e : Expr} {f : M Bool} (h : DW X Wx pa ε e f) : DT X Wx pa ε e f := by
  obtain ⟨t, pe, hh⟩ := h
  exact ⟨t, pe.pt, hh⟩
theorem dw_and1 {a : Expr} {pos : Pos} {f : M Bool} (h : DT X Wx pa ε a f) : DW X Wx pa ε (.BoolOp .And [a] pos) f := by
  obtain ⟨t, pe, hh⟩ := h
  exact ⟨t, pw_and1 pe, hh⟩
theorem dw_or1 {a : Expr} {pos : Pos} {f : M Bool} (h : DT X Wx pa ε a f) : DW X Wx pa ε (.BoolOp .Or [a] pos) f := by
  obtain ⟨t, pe, hh⟩ := h
  exact ⟨t, pw_or1 pe, hh⟩
theorem dw_and {a b : Expr} {rest : List Expr} {pos : Pos} {f g : M Bool} (ha : DT X Wx pa ε a f) (hb : DW X Wx pa ε' (.BoolOp .And (b :: rest) pos) g) : DW X Wx pa (ε || ε') (.BoolOp .And (a :: b :: rest) pos) (mAnd f g) := by
  obtain ⟨ta, pe, ha⟩ := ha
  obtain ⟨tb, pf, hb⟩ := hb
  refine ⟨_, pw_and pe pf, fun W B H ρ σ Q I h => ?_⟩
  refine ha W B H ρ σ _ I (FinT.mk h.exP.bind fun c ρ1 e1 B1 H1 eb eh I1 => ?_)
  replace h : FinT X Wx pa (ε || ε') W B H σ Q ((if c then g else pureM false) ρ1) := by rw [← bindM_ok (k := fun b => if b then g else pureM false) e1]; exact h
  cases c with
  | true => exact hb W B1 H1 ρ1 σ Q I1 (FinT.mk (FinT.exP (h.pull (H1 := H) eb fun _ => Ex.refl _)) fun b ρ2 e2 B2 H2 eb2 eh2 I2 => by
      simp only [if_true] at h
      rw [e2] at h
      exact h B2 H2 (eb.trans eb2) (fun z => (eh (ef z).1).trans (eh2 (ef z).2)) I2)
  | false => exact h B1 H1 eb (fun z => eh (ef z).1) I1
theorem dw_or {a b : Expr} {rest : List Expr} {pos : Pos} {f g : M Bool} (ha : DT X Wx pa ε a f) (hb : DW X Wx pa ε' (.BoolOp .Or (b :: rest) pos) g) : DW X Wx pa (ε || ε') (.BoolOp .Or (a :: b :: rest) pos) (mOr f g) := by
  obtain ⟨ta, pe, ha⟩ := ha
  obtain ⟨tb, pf, hb⟩ := hb
  refine ⟨_, pw_or pe pf, fun W B H ρ σ Q I h => ?_⟩
  refine ha W B H ρ σ _ I (FinT.mk h.exP.bind fun c ρ1 e1 B1 H1 eb eh I1 => ?_)
  replace h : FinT X Wx pa (ε || ε') W B H σ Q ((if c then pureM true else g) ρ1) := by rw [← bindM_ok (k := fun b => if b then pureM true else g) e1]; exact h
  cases c with
  | false => exact hb W B1 H1 ρ1 σ Q I1 (FinT.mk (FinT.exP (h.pull (H1 := H) eb fun _ => Ex.refl _)) fun b ρ2 e2 B2 H2 eb2 eh2 I2 => by
      simp only [Bool.false_eq_true, if_false] at h
      rw [e2] at h
      exact h B2 H2 (eb.trans eb2) (fun z => (eh (ef z).1).trans (eh2 (ef z).2)) I2)
  | true => exact h B1 H1 eb (fun z => eh (ef z).1) I1
theorem dt_not {a : Expr} {pos : Pos} {f : M Bool} (ha : DT X Wx pa ε a f) : DT X Wx pa ε (.UnaryOp .Not a pos) (mNot f) := by
  obtain ⟨ta, pe, ha⟩ := ha
  refine ⟨_, pt_not pe, fun W B H ρ σ Q I h => ?_⟩
  refine ha W B H ρ σ _ I (FinT.mk h.exP.bind fun c ρ1 e1 B1 H1 eb eh I1 => ?_)
  replace h : FinT X Wx pa ε W B H σ Q (pureM (!c) ρ1) := by rw [← bindM_ok (k := fun b => pureM (!b)) e1]; exact h
  exact h B1 H1 eb eh I1
/-! ### and, or, not as values -/
theorem bl_of {K : PySem.W.Frag} {B : Hp} {v : V} {d : D} {c : Bool} (h : Dp K B v d) (e : asB d = some c) : v = .bl c ∧ d = .bool c := by
  have : d = .bool c := by cases d <;> cases e; rfl
  subst this
  cases h
  exact ⟨rfl, rfl⟩
def mAndV (f g : M D) : M D := bindM f fun d => bindM (optM (asB d)) fun b => if b then g else pureM (.bool false)
def mOrV (f g : M D) : M D := bindM f fun d => bindM (optM (asB d)) fun b => if b then pureM (.bool true) else g
def mNotV (f : M D) : M D := bindM f fun d => bindM (optM (asB d)) fun b => pureM (.bool (!b))
theorem dv_one {op : BoolOp} {a : Expr} {pos : Pos} {f : M D} (h : DV X Wx pa ε a f) : DV X Wx pa ε (.BoolOp op [a] pos) f := by
  obtain ⟨t, pe, hh⟩ := h
  exact ⟨t, pe_one pe, hh⟩
theorem finBool {te : TE} {f : M D} {α : Type} {k : Bool → M D} {R : Bool → Hp → Prop} (he : ∀ (W B H : Hp) (ρ : Rho) (σ : L2.St) (Q : VK), ER X.K pa W B H ρ σ → FinV X Wx pa ε W B H σ Q (f ρ) → te σ H Q)
    (I : ER X.K pa W B H ρ σ) (h : exPart X Wx pa W B σ (bindM f (fun d => bindM (optM (asB d)) k) ρ))
    (hk : ∀ c ρ1 B1 H1, bindM f (fun d => bindM (optM (asB d)) k) ρ = k c ρ1 → Ex B B1 → (ε = false → Ex H H1) → ER X.K pa W B1 H1 ρ1 σ → R c H1) : te σ H (fun x H1 => ∃ c, x = .bl c ∧ R c H1) := by
  refine he W B H ρ σ _ I (FinV.mk h.bind fun d ρ1 e1 v B1 H1 eb eh I1 dp => ?_)
  have e2 := bindM_ok (k := fun d => bindM (optM (asB d)) k) e1
  rw [e2] at h
  cases q : asB d with
  | none => rw [q] at h; exact h.elim
  | some c =>
    obtain ⟨h1, h2⟩ := bl_of dp q
    refine ⟨c, h1, hk c ρ1 B1 H1 ?_ eb eh I1⟩
    rw [e2, q]
    rfl
theorem dv_and {a b : Expr} {rest : List Expr} {pos : Pos} {f g : M D} (ha : DV X Wx pa ε a f) (hb : DV X Wx pa ε' (.BoolOp .And (b :: rest) pos) g) : DV X Wx pa (ε || ε') (.BoolOp .And (a :: b :: rest) pos) (mAndV f g) := by
  obtain ⟨ta, pe, ha⟩ := ha
  obtain ⟨tb, pf, hb⟩ := hb
  refine ⟨_, pe_and pe pf, fun W B H ρ σ Q I h => ?_⟩
  refine finBool (α := Unit) ha I h.exP fun c ρ1 B1 H1 e1 eb eh I1 => ?_
  replace h : FinV X Wx pa (ε || ε') W B H σ Q ((if c then g else pureM (.bool false)) ρ1) := by rw [← e1]; exact h
  cases c with
  | true => exact hb W B1 H1 ρ1 σ Q I1 (FinV.mk (FinV.exP (h.pull (H1 := H) eb fun _ => Ex.refl _)) fun b ρ2 e2 v B2 H2 eb2 eh2 I2 dp => by
      simp only [if_true] at h
      rw [e2] at h
      exact h v B2 H2 (eb.trans eb2) (fun z => (eh (ef z).1).trans (eh2 (ef z).2)) I2 dp)
  | false => exact h (.bl false) B1 H1 eb (fun z => eh (ef z).1) I1 (.bl _)
theorem dv_or {a b : Expr} {rest : List Expr} {pos : Pos} {f g : M D} (ha : DV X Wx pa ε a f) (hb : DV X Wx pa ε' (.BoolOp .Or (b :: rest) pos) g) : DV X Wx pa (ε || ε') (.BoolOp .Or (a :: b :: rest) pos) (mOrV f g) := by
  obtain ⟨ta, pe, ha⟩ := ha
  obtain ⟨tb, pf, hb⟩ := hb
  refine ⟨_, pe_or pe pf, fun W B H ρ σ Q I h => ?_⟩
  refine finBool (α := Unit) ha I h.exP fun c ρ1 B1 H1 e1 eb eh I1 => ?_
  replace h : FinV X Wx pa (ε || ε') W B H σ Q ((if c then pureM (.bool true) else g) ρ1) := by rw [← e1]; exact h
  cases c with
  | false => exact hb W B1 H1 ρ1 σ Q I1 (FinV.mk (FinV.exP (h.pull (H1 := H) eb fun _ => Ex.refl _)) fun b ρ2 e2 v B2 H2 eb2 eh2 I2 dp => by
      simp only [Bool.false_eq_true, if_false] at h
      rw [e2] at h
      exact h v B2 H2 (eb.trans eb2) (fun z => (eh (ef z).1).trans (eh2 (ef z).2)) I2 dp)
  | true => exact h (.bl true) B1 H1 eb (fun z => eh (ef z).1) I1 (.bl _)
theorem dv_not {a : Expr} {pos : Pos} {f : M D} (ha : DV X Wx pa ε a f) : DV X Wx pa ε (.UnaryOp .Not a pos) (mNotV f) := by
  obtain ⟨ta, pe, ha⟩ := ha
  refine ⟨_, pe_not pe, fun W B H ρ σ Q I h => ?_⟩
  refine finBool (α := Unit) ha I h.exP fun c ρ1 B1 H1 e1 eb eh I1 => ?_
  replace h : FinV X Wx pa ε W B H σ Q (pureM (.bool (!c)) ρ1) := by rw [← e1]; exact h
  exact h (.bl (!c)) B1 H1 eb eh I1 (.bl _)
/-! ### a < b < c -/
def mChain (w w' : D → D → Option D) (f g h : M D) : M D := bindM f fun d => bindM g fun e => bindM (optM ((w d e).bind asB)) fun b => if b then bindM h fun z => optM (w' e z) else pureM (.bool false)
theorem finChain {ta tb tc : TE} {r r' : R2} {f g h : M D} {w w' : D → D → Option D} (ho : OpD X r w) (ho' : OpD X r' w')
    (ha : ∀ (W B H : Hp) (ρ : Rho) (σ : L2.St) (Q : VK), ER X.K pa W B H ρ σ → FinV X Wx pa ε W B H σ Q (f ρ) → ta σ H Q)
    (hb : ∀ (W B H : Hp) (ρ : Rho) (σ : L2.St) (Q : VK), ER X.K pa W B H ρ σ → FinV X Wx pa ε' W B H σ Q (g ρ) → tb σ H Q)
    (hc : ∀ (W B H : Hp) (ρ : Rho) (σ : L2.St) (Q : VK), ER X.K pa W B H ρ σ → FinV X Wx pa ε'' W B H σ Q (h ρ) → tc σ H Q)
    (I : ER X.K pa W B H ρ σ) (hh : FinV X Wx pa (ε || (ε' || ε'')) W B H σ Q (mChain w w' f g h ρ)) : tChain r r' ta tb tc σ H Q := by
  refine ha W B H ρ σ _ I (FinV.mk hh.exP.bind fun d ρ1 e1 v B1 H1 eb eh I1 dp => ?_)
  replace hh : FinV X Wx pa (ε || (ε' || ε'')) W B H σ Q ((bindM g fun e => bindM (optM ((w d e).bind asB)) fun b => if b then bindM h fun z => optM (w' e z) else pureM (.bool false)) ρ1) := by
    rw [← bindM_ok (k := fun d => bindM g fun e => bindM (optM ((w d e).bind asB)) fun b => if b then bindM h fun z => optM (w' e z) else pureM (.bool false)) e1]; exact hh
  refine hb W B1 H1 ρ1 σ _ I1 (FinV.mk (FinV.exP (hh.pull (H1 := H) eb fun _ => Ex.refl _)).bind fun e ρ2 e2 y B2 H2 eb2 eh2 I2 dq => ?_)
  replace hh : FinV X Wx pa (ε || (ε' || ε'')) W B H σ Q ((bindM (optM ((w d e).bind asB)) fun b => if b then bindM h fun z => optM (w' e z) else pureM (.bool false)) ρ2) := by
    rw [← bindM_ok (k := fun e => bindM (optM ((w d e).bind asB)) fun b => if b then bindM h fun z => optM (w' e z) else pureM (.bool false)) e2]; exact hh
  cases q : w d e with
  | none => rw [q] at hh; exact hh.elim
  | some u =>
    cases q2 : asB u with
    | none => rw [q] at hh; simp only [Option.bind, q2] at hh; exact hh.elim
    | some c =>
      refine ho B2 H2 v y d e u _ I2.sub (ex_dp eb2 dp) dq q fun z B3 H3 gr du => ?_
      obtain ⟨h1, h2⟩ := bl_of du q2
      refine ⟨c, h1, ?_⟩
      have I3 := I2.grow gr
      have hE : ((bindM (optM ((w d e).bind asB)) fun b => if b then bindM h fun z => optM (w' e z) else pureM (.bool false)) ρ2) = (if c then bindM h fun z => optM (w' e z) else pureM (.bool false)) ρ2 := by
        rw [q]
        simp only [Option.bind, q2]
        rfl
      rw [hE] at hh
      cases c with
      | false => exact hh (.bl false) B3 H3 ((eb.trans eb2).trans gr.eb) (fun z => ((eh (ef z).1).trans (eh2 (ef (ef z).2).1)).trans gr.eh) I3 (.bl _)
      | true =>
        simp only [if_true] at hh ⊢
        refine hc W B3 H3 ρ2 σ _ I3 (FinV.mk (FinV.exP (hh.pull (H1 := H) ((eb.trans eb2).trans gr.eb) fun _ => Ex.refl _)).bind fun z' ρ3 e3 x B4 H4 eb4 eh4 I4 dz => ?_)
        replace hh : FinV X Wx pa (ε || (ε' || ε'')) W B H σ Q (optM (w' e z') ρ3) := by rw [← bindM_ok (k := fun z => optM (w' e z)) e3]; exact hh
        obtain ⟨u', eu, k⟩ := hh.opt
        exact ho' B4 H4 y x e z' u' Q I4.sub (ex_dp (gr.eb.trans eb4) dq) dz eu fun u2 B5 H5 gr5 du5 => k u2 B5 H5 ((((eb.trans eb2).trans gr.eb).trans eb4).trans gr5.eb) (fun z => ((((eh (ef z).1).trans (eh2 (ef (ef z).2).1)).trans gr.eh).trans (eh4 (ef (ef z).2).2)).trans gr5.eh) (I4.grow gr5) du5
theorem dv_chain {a b c : Expr} {op op' : CmpOp} {pos : Pos} {r r' : R2} {f g h : M D} {w w' : D → D → Option D} (hr : OpR X (compareOp op) r) (ho : OpD X r w) (hr' : OpR X (compareOp op') r') (ho' : OpD X r' w') (ha : DV X Wx pa ε a f) (hb : DV X Wx pa ε' b g) (hc : DV X Wx pa ε'' c h)
    (hm : lastMarks [op, op'] [b, c] = false := by with_unfolding_all rfl) : DV X Wx pa (ε || (ε' || ε'')) (.Compare a [op, op'] [b, c] pos) (mChain w w' f g h) := by
  obtain ⟨ta, pe, ha⟩ := ha
  obtain ⟨tb, pf, hb⟩ := hb
  obtain ⟨tc, pg, hc⟩ := hc
  exact ⟨_, pe_chain hr hr' pe pf pg hm, fun W B H ρ σ Q I h => finChain ho ho' ha hb hc I h⟩
theorem dt_chain {a b c : Expr} {op op' : CmpOp} {pos : Pos} {r r' : R2} {f g h : M D} {w w' : D → D → Option D} (hr : OpR X (compareOp op) r) (ho : OpD X r w) (hr' : OpR X (compareOp op') r') (ho' : OpD X r' w') (ha : DV X Wx pa ε a f) (hb : DV X Wx pa ε' b g) (hc : DV X Wx pa ε'' c h)
    (hm : lastMarks [op, op'] [b, c] = false := by with_unfolding_all rfl) : DT X Wx pa (ε || (ε' || ε'')) (.Compare a [op, op'] [b, c] pos) (mTest (mChain w w' f g h)) := by
  obtain ⟨ta, pe, ha⟩ := ha
  obtain ⟨tb, pf, hb⟩ := hb
  obtain ⟨tc, pg, hc⟩ := hc
  exact ⟨_, pt_chain hr hr' pe pf pg hm, fun W B H ρ σ Q I h => finTest (te := tChain _ _ ta tb tc) (fun W B H ρ σ Q I h => finChain ho ho' ha hb hc I h) I h⟩
/-! ### displays -/
def lstOf (ds : List D) : Option Cel := if ds.length ≤ lim then some (.o1 ds) else none
def tupOf (ds : List D) : Option D := if ds.length ≤ lim then some (.tuple ds) else none
/-- a new list is one's own -/
theorem ER.newList {K : PySem.W.Frag} {p : Addr} {xs : List V} {ds : List D} (I : ER K pa W B H ρ σ) (hp : H p = none) (h : DpAll K B xs ds) : EV K pa W B (upd H p (.lst xs)) ρ σ (.ref p) (.o1 ds) := by
  obtain ⟨φ, s⟩ := I
  have g := grow_ow (o := .lst xs) s.sub hp
  have hb : B p = none := by
    cases e : B p with
    | none => rfl
    | some u => rw [s.sub _ _ e] at hp; cases hp
  have hw : W p = none := by
    cases e : W p with
    | none => rfl
    | some u => rw [(s.frm _ _ e).1] at hp; cases hp
  refine ⟨φ, [p], s.grow g, ⟨p, rfl, rfl, xs, hb, upd_same, h⟩, by simp, fun i a ha hi => ?_, fun a ha => ?_⟩
  · have : a = p := by simpa using ha
    subst this
    exact (s.off i a hi).2.1 hp
  · have : a = p := by simpa using ha
    subst this
    exact ⟨hw, by rw [upd_same]; simp, hb⟩
theorem de_lst {es : List Expr} {pos : Pos} {g : M (List D)} (h : DA X Wx pa ε es g) : DE X Wx pa ε (.List es pos) (bindM g fun ds => optM (lstOf ds)) := by
  obtain ⟨_, t, pe, hh⟩ := h
  refine ⟨_, pe_lst pe, fun W B H ρ σ Q I h => ?_⟩
  refine hh W B H ρ σ _ I (FinA.mk h.exP.bind fun ds ρ1 e1 vs B1 H1 eb eh I1 dps => ?_)
  replace h : FinC X Wx pa ε W B H σ Q (optM (lstOf ds) ρ1) := by rw [← bindM_ok (k := fun ds => optM (lstOf ds)) e1]; exact h
  obtain ⟨c, ec, k⟩ := h.opt
  unfold lstOf at ec
  split at ec
  · rename_i hl
    cases ec
    refine ⟨lim_le (by rw [dps.len]; exact hl), fun p hp => k _ B1 _ eb (fun z => (eh z).trans (Ex.new hp)) (I1.newList hp dps)⟩
  · cases ec
theorem dv_tup {es : List Expr} {x1 : Nat} {pos : Pos} {g : M (List D)} (h : DA X Wx pa ε es g) : DV X Wx pa ε (.Tuple es x1 pos) (bindM g fun ds => optM (tupOf ds)) := by
  obtain ⟨_, t, pe, hh⟩ := h
  refine ⟨_, pe_tup pe, fun W B H ρ σ Q I h => ?_⟩
  refine hh W B H ρ σ _ I (FinA.mk h.exP.bind fun ds ρ1 e1 vs B1 H1 eb eh I1 dps => ?_)
  replace h : FinV X Wx pa ε W B H σ Q (optM (tupOf ds) ρ1) := by rw [← bindM_ok (k := fun ds => optM (tupOf ds)) e1]; exact h
  obtain ⟨c, ec, k⟩ := h.opt
  unfold tupOf at ec
  split at ec
  · rename_i hl
    cases ec
    refine ⟨lim_le (by rw [dps.len]; exact hl), fun p hp => ?_⟩
    have gr := grow_sh (o := .tup vs) I1.sub hp
    exact k _ _ _ (eb.trans gr.eb) (fun z => (eh z).trans gr.eh) (I1.grow gr) (.tup (.of upd_same) (ex_dpa gr.eb dps))
  · cases ec
/-! ### built-ins by values -/
def CallD (X : Cx) (r : List V → Hp → VK → Prop) (f : List D → Option D) : Prop := ∀ (B H : Hp) (vs : List V) (ds : List D) (z : D) (Q : VK), Ex B H → DpAll X.K B vs ds → f ds = some z → (∀ (v : V) (B' H' : Hp), Grow B H B' H' → Dp X.K B' v z → Q v H') → r vs H Q
theorem finCall {t : TA} {r : List V → Hp → VK → Prop} {g : M (List D)} {f : List D → Option D} (hf : CallD X r f) (hh : ∀ (W B H : Hp) (ρ : Rho) (σ : L2.St) (Q : List V → Hp → Prop), ER X.K pa W B H ρ σ → FinA X Wx pa ε W B H σ Q (g ρ) → t σ H Q)
    (I : ER X.K pa W B H ρ σ) (h : FinV X Wx pa ε W B H σ Q (opA f g ρ)) : tCB r t σ H Q := by
  refine hh W B H ρ σ _ I (FinA.mk h.exP.bind fun ds ρ1 e1 vs B1 H1 eb eh I1 dps => ?_)
  replace h : FinV X Wx pa ε W B H σ Q (optM (f ds) ρ1) := by rw [← bindM_ok (k := fun ds => optM (f ds)) e1]; exact h
  obtain ⟨z, ez, k⟩ := h.opt
  exact hf B1 H1 vs ds z Q I1.sub dps ez fun v B2 H2 gr dz => k v B2 H2 (eb.trans gr.eb) (fun z => (eh z).trans gr.eh) (I1.grow gr) dz
theorem dv_callB {x : Str} {p pos : Pos} {e : Expr} {es : List Expr} {id : String} {r : List V → Hp → VK → Prop} {g : M (List D)} {f : List D → Option D} (hc : CallR X (.builtin id) r) (hf : CallD X r f) (hg : Gl X x) (hm : X.mg x = none) (hv : bootBuiltins x = some (.builtin id)) (ha : DA X Wx pa ε (e :: es) g)
    (hn : x ≠ "__name__" := by decide) (hdb : (x == ("__debug__" : Str)) = false := by decide) (he : starEach (e :: es) X.env = (false, eval e X.env) :: starEach es X.env := by rfl) (hpl : (backTo pos (starEach es X.env)).any (·.1) = false := by rfl) :
    DV X Wx pa ε (.Call (.Name x p) (e :: es) [] pos) (opA f g) := by
  obtain ⟨_, t, pe, hh⟩ := ha
  exact ⟨_, pe_callB hc hg hm hv pe hn hdb he hpl, fun W B H ρ σ Q I h => finCall hf hh I h⟩
theorem dv_callTy {x : Str} {p pos : Pos} {e : Expr} {es : List Expr} {T : String} {r : List V → Hp → VK → Prop} {g : M (List D)} {f : List D → Option D} (hc : CallR X (.type T) r) (hf : CallD X r f) (hg : Gl X x) (hm : X.mg x = none) (hv : bootBuiltins x = some (.type T)) (ha : DA X Wx pa ε (e :: es) g)
    (hn : x ≠ "__name__" := by decide) (hdb : (x == ("__debug__" : Str)) = false := by decide) (he : starEach (e :: es) X.env = (false, eval e X.env) :: starEach es X.env := by rfl) (hpl : (backTo pos (starEach es X.env)).any (·.1) = false := by rfl) :
    DV X Wx pa ε (.Call (.Name x p) (e :: es) [] pos) (opA f g) := by
  obtain ⟨_, t, pe, hh⟩ := ha
  exact ⟨_, pe_callTy hc hg hm hv pe hn hdb he hpl, fun W B H ρ σ Q I h => finCall hf hh I h⟩
/-- .. that lay a new list -/
def CallLD (X : Cx) (r : List V → Hp → VK → Prop) (f : List D → Option (List D)) : Prop := ∀ (B H : Hp) (vs : List V) (ds zs : List D) (Q : VK), Ex B H → DpAll X.K B vs ds → f ds = some zs → (∀ (p : Addr) (xs : List V), H p = none → DpAll X.K B xs zs → Q (.ref p) (upd H p (.lst xs))) → r vs H Q
theorem finCallL {t : TA} {r : List V → Hp → VK → Prop} {g : M (List D)} {f : List D → Option (List D)} (hf : CallLD X r f) (hh : ∀ (W B H : Hp) (ρ : Rho) (σ : L2.St) (Q : List V → Hp → Prop), ER X.K pa W B H ρ σ → FinA X Wx pa ε W B H σ Q (g ρ) → t σ H Q)
    (I : ER X.K pa W B H ρ σ) (h : FinC X Wx pa ε W B H σ Q (opA (fun ds => (f ds).map Cel.o1) g ρ)) : tCB r t σ H Q := by
  refine hh W B H ρ σ _ I (FinA.mk h.exP.bind fun ds ρ1 e1 vs B1 H1 eb eh I1 dps => ?_)
  replace h : FinC X Wx pa ε W B H σ Q (optM ((f ds).map Cel.o1) ρ1) := by rw [← bindM_ok (k := fun ds => optM ((f ds).map Cel.o1)) e1]; exact h
  obtain ⟨z, ez, k⟩ := h.opt
  cases q : f ds with
  | none => rw [q] at ez; cases ez
  | some zs =>
    rw [q] at ez
    cases ez
    exact hf B1 H1 vs ds zs Q I1.sub dps q fun p xs hp dx => k _ B1 _ eb (fun z => (eh z).trans (Ex.new hp)) (I1.newList hp dx)
theorem de_callB {x : Str} {p pos : Pos} {e : Expr} {es : List Expr} {id : String} {r : List V → Hp → VK → Prop} {g : M (List D)} {f : List D → Option (List D)} (hc : CallR X (.builtin id) r) (hf : CallLD X r f) (hg : Gl X x) (hm : X.mg x = none) (hv : bootBuiltins x = some (.builtin id)) (ha : DA X Wx pa ε (e :: es) g)
    (hn : x ≠ "__name__" := by decide) (hdb : (x == ("__debug__" : Str)) = false := by decide) (he : starEach (e :: es) X.env = (false, eval e X.env) :: starEach es X.env := by rfl) (hpl : (backTo pos (starEach es X.env)).any (·.1) = false := by rfl) :
    DE X Wx pa ε (.Call (.Name x p) (e :: es) [] pos) (opA (fun ds => (f ds).map Cel.o1) g) := by
  obtain ⟨_, t, pe, hh⟩ := ha
  exact ⟨_, pe_callB hc hg hm hv pe hn hdb he hpl, fun W B H ρ σ Q I h => finCallL hf hh I h⟩
theorem de_callTy {x : Str} {p pos : Pos} {e : Expr} {es : List Expr} {T : String} {r : List V → Hp → VK → Prop} {g : M (List D)} {f : List D → Option (List D)} (hc : CallR X (.type T) r) (hf : CallLD X r f) (hg : Gl X x) (hm : X.mg x = none) (hv : bootBuiltins x = some (.type T)) (ha : DA X Wx pa ε (e :: es) g)
    (hn : x ≠ "__name__" := by decide) (hdb : (x == ("__debug__" : Str)) = false := by decide) (he : starEach (e :: es) X.env = (false, eval e X.env) :: starEach es X.env := by rfl) (hpl : (backTo pos (starEach es X.env)).any (·.1) = false := by rfl) :
    DE X Wx pa ε (.Call (.Name x p) (e :: es) [] pos) (opA (fun ds => (f ds).map Cel.o1) g) := by
  obtain ⟨_, t, pe, hh⟩ := ha
  exact ⟨_, pe_callTy hc hg hm hv pe hn hdb he hpl, fun W B H ρ σ Q I h => finCallL hf hh I h⟩
/-- one argument, a list that is read where it stands -/
def ListD (X : Cx) (r : List V → Hp → VK → Prop) (f : List D → Option D) : Prop := ∀ (B H : Hp) (a : Addr) (xs : List V) (ds : List D) (z : D) (Q : VK), Ex B H → SqL X.K H a xs → DpAll X.K B xs ds → f ds = some z → (∀ (v : V), Dp X.K B v z → Q v H) → r [.ref a] H Q
def ListLD (X : Cx) (r : List V → Hp → VK → Prop) (f : List D → Option (List D)) : Prop := ∀ (B H : Hp) (a : Addr) (xs : List V) (ds zs : List D) (Q : VK), Ex B H → SqL X.K H a xs → DpAll X.K B xs ds → f ds = some zs → (∀ (p : Addr) (ys : List V), H p = none → DpAll X.K B ys zs → Q (.ref p) (upd H p (.lst ys))) → r [.ref a] H Q
def onList {α : Type} (f : List D → Option α) : List D → Option α
  | [.list ds] => f ds
  | _ => none
theorem ListD.call {r : List V → Hp → VK → Prop} {f : List D → Option D} (h : ListD X r f) : CallD X r (onList f) := by
  intro B H vs ds z Q sub dps ez k
  unfold onList at ez
  split at ez
  · rename_i es
    cases dps with
    | cons hd ht =>
      cases ht
      cases hd with
      | lst hs ha => exact h B H _ _ es z Q sub (ex_l sub hs) ha ez fun v dv => k v B H (Grow.refl sub) dv
  · cases ez
theorem ListLD.call {r : List V → Hp → VK → Prop} {f : List D → Option (List D)} (h : ListLD X r f) : CallLD X r (onList f) := by
  intro B H vs ds z Q sub dps ez k
  unfold onList at ez
  split at ez
  · rename_i es
    cases dps with
    | cons hd ht =>
      cases ht
      cases hd with
      | lst hs ha => exact h B H _ _ es z Q sub (ex_l sub hs) ha ez fun p xs hp dx => k p xs hp dx
  · cases ez
def mRead {α β : Type} (g : Rho → Option α) (f : α → Option β) : M β := fun ρ => ((g ρ).bind f).map fun d => (.ok d, ρ)
theorem mRead_fin {α β : Type} {g : Rho → Option α} {f : α → Option β} {o : Option (Rs β × Rho)} (h : mRead g f ρ = o) : (o = none) ∨ ∃ a b, g ρ = some a ∧ f a = some b ∧ o = some (.ok b, ρ) := by
  subst h
  unfold mRead
  cases e : g ρ with
  | none => exact .inl rfl
  | some a =>
    cases e2 : f a with
    | none => left; simp [e2]
    | some b => right; exact ⟨a, b, rfl, e2, by simp [e2]⟩
theorem pa_one {e : Expr} {te : TE} (h : PE X e te) (hs : starEach [e] X.env = (false, eval e X.env) :: starEach [] X.env := by rfl) : PA X [e] (tCons te tNil) := pa_cons h pa_nil hs
theorem dv_callBL {x : Str} {p pos : Pos} {e : Expr} {id : String} {r : List V → Hp → VK → Prop} {g : Rho → Option (List D)} {f : List D → Option D} (hc : CallR X (.builtin id) r) (hf : ListD X r f) (hg : Gl X x) (hm : X.mg x = none) (hv : bootBuiltins x = some (.builtin id)) (ha : DL X pa e g)
    (hn : x ≠ "__name__" := by decide) (hdb : (x == ("__debug__" : Str)) = false := by decide) (he : starEach [e] X.env = (false, eval e X.env) :: starEach [] X.env := by rfl) :
    DV X Wx pa false (.Call (.Name x p) [e] [] pos) (mRead g f) := by
  obtain ⟨t, pe, hh⟩ := ha
  refine ⟨_, pe_callB hc hg hm hv (pa_one pe he) hn hdb he rfl, fun W B H ρ σ Q I h => ?_⟩
  rcases mRead_fin (g := g) (f := f) (ρ := ρ) rfl with q | ⟨ds, z, q1, q2, q⟩
  · rw [q] at h; exact h.elim
  · rw [q] at h
    exact hh W B H ρ σ _ I ds q1 fun a xs hs dx => hf B H a xs ds z Q I.sub hs dx q2 fun v dv => h v B H (Ex.refl _) (fun _ => Ex.refl _) I dv
theorem de_callBL {x : Str} {p pos : Pos} {e : Expr} {id : String} {r : List V → Hp → VK → Prop} {g : Rho → Option (List D)} {f : List D → Option (List D)} (hc : CallR X (.builtin id) r) (hf : ListLD X r f) (hg : Gl X x) (hm : X.mg x = none) (hv : bootBuiltins x = some (.builtin id)) (ha : DL X pa e g)
    (hn : x ≠ "__name__" := by decide) (hdb : (x == ("__debug__" : Str)) = false := by decide) (he : starEach [e] X.env = (false, eval e X.env) :: starEach [] X.env := by rfl) :
    DE X Wx pa false (.Call (.Name x p) [e] [] pos) (mRead g fun ds => (f ds).map Cel.o1) := by
  obtain ⟨t, pe, hh⟩ := ha
  refine ⟨_, pe_callB hc hg hm hv (pa_one pe he) hn hdb he rfl, fun W B H ρ σ Q I h => ?_⟩
  rcases mRead_fin (g := g) (f := fun ds => (f ds).map Cel.o1) (ρ := ρ) rfl with q | ⟨ds, c, q1, q2, q⟩
  · rw [q] at h; exact h.elim
  · rw [q] at h
    cases e3 : f ds with
    | none => rw [e3] at q2; cases q2
    | some zs =>
      rw [e3] at q2
      cases q2
      exact hh W B H ρ σ _ I ds q1 fun a xs hs dx => hf B H a xs ds zs Q I.sub hs dx e3 fun p ys hp dy => h _ B _ (Ex.refl _) (fun _ => Ex.new hp) (I.newList hp dy)
theorem de_callTyL {x : Str} {p pos : Pos} {e : Expr} {T : String} {r : List V → Hp → VK → Prop} {g : Rho → Option (List D)} {f : List D → Option (List D)} (hc : CallR X (.type T) r) (hf : ListLD X r f) (hg : Gl X x) (hm : X.mg x = none) (hv : bootBuiltins x = some (.type T)) (ha : DL X pa e g)
    (hn : x ≠ "__name__" := by decide) (hdb : (x == ("__debug__" : Str)) = false := by decide) (he : starEach [e] X.env = (false, eval e X.env) :: starEach [] X.env := by rfl) :
    DE X Wx pa false (.Call (.Name x p) [e] [] pos) (mRead g fun ds => (f ds).map Cel.o1) := by
  obtain ⟨t, pe, hh⟩ := ha
  refine ⟨_, pe_callTy hc hg hm hv (pa_one pe he) hn hdb he rfl, fun W B H ρ σ Q I h => ?_⟩
  rcases mRead_fin (g := g) (f := fun ds => (f ds).map Cel.o1) (ρ := ρ) rfl with q | ⟨ds, c, q1, q2, q⟩
  · rw [q] at h; exact h.elim
  · rw [q] at h
    cases e3 : f ds with
    | none => rw [e3] at q2; cases q2
    | some zs =>
      rw [e3] at q2
      cases q2
      exact hh W B H ρ σ _ I ds q1 fun a xs hs dx => hf B H a xs ds zs Q I.sub hs dx e3 fun p ys hp dy => h _ B _ (Ex.refl _) (fun _ => Ex.new hp) (I.newList hp dy)
/-- an item of a list that is read where it stands -/
def ixOf (ds : List D) : D → Option D
  | .int i => atI ds i
  | _ => none
def mIxL (g : Rho → Option (List D)) (f : M D) : M D := fun ρ => match g ρ with
  | none => none
  | some ds => bindM f (fun d => optM (ixOf ds d)) ρ
theorem dv_ixL {a b : Expr} {pos : Pos} {g : Rho → Option (List D)} {f : M D} (ha : DL X pa a g) (hb : DV X Wx pa false b f) (hs : PlainIx b := by exact fun _ _ => rfl) : DV X Wx pa false (.Subscript a b pos) (mIxL g f) := by
  obtain ⟨ta, pe, ha⟩ := ha
  obtain ⟨tb, pf, hb⟩ := hb
  refine ⟨_, pe_ix ix_list pe pf hs, fun W B H ρ σ Q I h => ?_⟩
  unfold mIxL at h
  split at h
  · exact h.elim
  · rename_i ds q1
    refine ha W B H ρ σ _ I ds q1 fun p xs hq dx => ?_
    refine hb W B H ρ σ _ I (FinV.mk h.exP.bind fun d ρ1 e1 v B1 H1 eb eh I1 dp => ?_)
    replace h : FinV X Wx pa false W B H σ Q (optM (ixOf ds d) ρ1) := by rw [← bindM_ok (k := fun d => optM (ixOf ds d)) e1]; exact h
    obtain ⟨z, ez, k⟩ := h.opt
    unfold ixOf at ez
    split at ez
    · rename_i i
      cases dp
      obtain ⟨u, h1, h2⟩ := atI_dpa dx ez
      exact ⟨p, xs, i, u, rfl, rfl, ex_l (eh rfl) hq, h1, k u B1 H1 eb eh I1 (ex_dp eb h2)⟩
    · cases ez
/-! ### the built-ins -/
theorem ld_len : ListD X (fun xs H Q => ∃ p ys, xs = [.ref p] ∧ (SqL X.K H p ys ∨ SqT X.K H p ys) ∧ Q (.int ys.length) H) (fun ds => some (.int ds.length)) := by
  intro B H a xs ds z Q sub hs dx ez k
  cases ez
  exact ⟨a, xs, rfl, .inl hs, by rw [dx.len]; exact k _ (.int _)⟩
def pLen : List D → Option D
  | [.list ds] => some (.int ds.length)
  | [.tuple ds] => some (.int ds.length)
  | [.str x] => if x.length ≤ lim then some (.int x.length) else none
  | _ => none
def rLenA (K : PySem.W.Frag) : List V → Hp → VK → Prop := fun xs H Q => (∃ p ys, xs = [.ref p] ∧ (SqL K H p ys ∨ SqT K H p ys) ∧ Q (.int ys.length) H) ∨ ∃ z, xs = [.str z] ∧ z.length ≤ sizeLine ∧ Q (.int z.length) H
theorem call_lenA : CallR X (.builtin "len") (rLenA X.K) := call_len_seq.or call_len_str
theorem cd_len : CallD X (rLenA X.K) pLen := by
  intro B H vs ds z Q sub dps ez k
  unfold pLen at ez
  split at ez
  · cases ez
    cases dps with
    | cons hd ht =>
      cases ht
      cases hd with
      | lst hs ha => exact .inl ⟨_, _, rfl, .inl (ex_l sub hs), by rw [ha.len]; exact k _ B H (Grow.refl sub) (.int _)⟩
  · cases ez
    cases dps with
    | cons hd ht =>
      cases ht
      cases hd with
      | tup hs ha => exact .inl ⟨_, _, rfl, .inr (ex_t sub hs), by rw [ha.len]; exact k _ B H (Grow.refl sub) (.int _)⟩
  · split at ez
    · rename_i hl
      cases ez
      cases dps with
      | cons hd ht =>
        cases ht
        cases hd
        exact .inr ⟨_, rfl, lim_le hl, k _ B H (Grow.refl sub) (.int _)⟩
    · cases ez
  · cases ez
def pAbs : List D → Option D
  | [.int i] => some (.int (if i < 0 then -i else i))
  | _ => none
theorem cd_abs : CallD X (fun xs H Q => ∃ i, xs = [.int i] ∧ Q (.int (if i < 0 then -i else i)) H) pAbs := by
  intro B H vs ds z Q sub dps ez k
  unfold pAbs at ez
  split at ez
  · cases ez
    cases dps with
    | cons hd ht => cases ht; cases hd; exact ⟨_, rfl, k _ B H (Grow.refl sub) (.int _)⟩
  · cases ez
def pMax2 : List D → Option D
  | [.int i, .int j] => some (.int (if j > i then j else i))
  | _ => none
def pMin2 : List D → Option D
  | [.int i, .int j] => some (.int (if j < i then j else i))
  | _ => none
theorem cd_max2 : CallD X (fun xs H Q => ∃ i j, xs = [.int i, .int j] ∧ Q (.int (if j > i then j else i)) H) pMax2 := by
  intro B H vs ds z Q sub dps ez k
  unfold pMax2 at ez
  split at ez
  · cases ez
    cases dps with
    | cons hd ht => cases hd; cases ht with
      | cons hd ht => cases hd; cases ht; exact ⟨_, _, rfl, k _ B H (Grow.refl sub) (.int _)⟩
  · cases ez
theorem cd_min2 : CallD X (fun xs H Q => ∃ i j, xs = [.int i, .int j] ∧ Q (.int (if j < i then j else i)) H) pMin2 := by
  intro B H vs ds z Q sub dps ez k
  unfold pMin2 at ez
  split at ez
  · cases ez
    cases dps with
    | cons hd ht => cases hd; cases ht with
      | cons hd ht => cases hd; cases ht; exact ⟨_, _, rfl, k _ B H (Grow.refl sub) (.int _)⟩
  · cases ez
def pInt : List D → Option D
  | [.int i] => some (.int i)
  | [.bool b] => some (.int (if b then 1 else 0))
  | _ => none
theorem cd_int : CallD X (fun xs H Q => (∃ i, xs = [.int i] ∧ Q (.int i) H) ∨ ∃ k, xs = [.bl k] ∧ Q (.int (if k then 1 else 0)) H) pInt := by
  intro B H vs ds z Q sub dps ez k
  unfold pInt at ez
  split at ez
  · cases ez
    cases dps with
    | cons hd ht => cases ht; cases hd; exact .inl ⟨_, rfl, k _ B H (Grow.refl sub) (.int _)⟩
  · cases ez
    cases dps with
    | cons hd ht => cases ht; cases hd; exact .inr ⟨_, rfl, k _ B H (Grow.refl sub) (.int _)⟩
  · cases ez
def intsOf : List D → Option (List Int)
  | [] => some []
  | .int i :: ds => (intsOf ds).map (i :: ·)
  | _ => none
theorem intsOf_dpa {K : PySem.W.Frag} {B : Hp} : ∀ {vs : List V} {ds : List D} {ns : List Int}, DpAll K B vs ds → intsOf ds = some ns → vs = ns.map V.int ∧ ds = ns.map PyData.int
  | _, _, _, .nil, e => by cases e; exact ⟨rfl, rfl⟩
  | v :: vs, d :: ds, ns, .cons h t, e => by
    cases h <;> try (cases e; done)
    rename_i i
    cases q : intsOf ds with
    | none => unfold intsOf at e; rw [q] at e; cases e
    | some ms =>
      unfold intsOf at e
      rw [q] at e
      cases e
      obtain ⟨h1, h2⟩ := intsOf_dpa t q
      rw [h1, h2]
      exact ⟨rfl, rfl⟩
theorem intsOf_map (ns : List Int) : intsOf (ns.map PyData.int) = some ns := by
  induction ns with
  | nil => rfl
  | cons n r ih => rw [List.map_cons]; unfold intsOf; rw [ih]; rfl
theorem ld_sum : ListD X (rSum X.K) (fun ds => (intsOf ds).map fun ns => .int ns.sum) := by
  intro B H a xs ds z Q sub hs dx ez k
  dsimp only at ez
  cases q : intsOf ds with
  | none => rw [q] at ez; cases ez
  | some ns =>
    rw [q] at ez
    cases ez
    obtain ⟨h1, h2⟩ := intsOf_dpa dx q
    subst h1
    exact ⟨a, ns, rfl, hs, k _ (.int _)⟩
def minOf : List Int → Option Int
  | [] => none
  | x :: r => some (r.foldl (fun a b => if b < a then b else a) x)
def maxOf : List Int → Option Int
  | [] => none
  | x :: r => some (r.foldl (fun a b => if b > a then b else a) x)
theorem min_fold : ∀ (r : List Int) (x : Int), (r.foldl (fun a b => if b < a then b else a) x) ∈ x :: r ∧ ∀ y ∈ x :: r, (r.foldl (fun a b => if b < a then b else a) x) ≤ y
  | [], x => ⟨by simp, fun y hy => by have : y = x := by simpa using hy
                                      rw [this]; exact Int.le_refl _⟩
  | b :: r, x => by
    rw [List.foldl_cons]
    obtain ⟨h1, h2⟩ := min_fold r (if b < x then b else x)
    refine ⟨?_, fun y hy => ?_⟩
    · rcases List.mem_cons.mp h1 with h | h
      · rw [h]; split <;> simp
      · exact List.mem_cons_of_mem _ (List.mem_cons_of_mem _ h)
    · have h3 := h2 _ List.mem_cons_self
      have h4 : (if b < x then b else x) ≤ x ∧ (if b < x then b else x) ≤ b := by split <;> omega
      rcases List.mem_cons.mp hy with h | h
      · rw [h]; omega
      · rcases List.mem_cons.mp h with h | h
        · rw [h]; omega
        · exact h2 y (List.mem_cons_of_mem _ h)
theorem max_fold : ∀ (r : List Int) (x : Int), (r.foldl (fun a b => if b > a then b else a) x) ∈ x :: r ∧ ∀ y ∈ x :: r, y ≤ (r.foldl (fun a b => if b > a then b else a) x)
  | [], x => ⟨by simp, fun y hy => by have : y = x := by simpa using hy
                                      rw [this]; exact Int.le_refl _⟩
  | b :: r, x => by
    rw [List.foldl_cons]
    obtain ⟨h1, h2⟩ := max_fold r (if b > x then b else x)
    refine ⟨?_, fun y hy => ?_⟩
    · rcases List.mem_cons.mp h1 with h | h
      · rw [h]; split <;> simp
      · exact List.mem_cons_of_mem _ (List.mem_cons_of_mem _ h)
    · have h3 := h2 _ List.mem_cons_self
      have h4 : x ≤ (if b > x then b else x) ∧ b ≤ (if b > x then b else x) := by split <;> omega
      rcases List.mem_cons.mp hy with h | h
      · rw [h]; omega
      · rcases List.mem_cons.mp h with h | h
        · rw [h]; omega
        · exact h2 y (List.mem_cons_of_mem _ h)
theorem ld_min : ListD X (rMin X.K) (fun ds => (intsOf ds).bind fun ns => (minOf ns).map PyData.int) := by
  intro B H a xs ds z Q sub hs dx ez k
  dsimp only at ez
  cases q : intsOf ds with
  | none => rw [q] at ez; cases ez
  | some ns =>
    rw [q] at ez
    obtain ⟨h1, h2⟩ := intsOf_dpa dx q
    subst h1
    cases ns with
    | nil => cases ez
    | cons n r =>
      cases ez
      refine ⟨a, n :: r, rfl, hs, by simp, fun m hm hle => ?_⟩
      obtain ⟨f1, f2⟩ := min_fold r n
      have : m = r.foldl (fun a b => if b < a then b else a) n := Int.le_antisymm (hle _ f1) (f2 m hm)
      subst this
      exact k _ (.int _)
theorem ld_max : ListD X (rMax X.K) (fun ds => (intsOf ds).bind fun ns => (maxOf ns).map PyData.int) := by
  intro B H a xs ds z Q sub hs dx ez k
  dsimp only at ez
  cases q : intsOf ds with
  | none => rw [q] at ez; cases ez
  | some ns =>
    rw [q] at ez
    obtain ⟨h1, h2⟩ := intsOf_dpa dx q
    subst h1
    cases ns with
    | nil => cases ez
    | cons n r =>
      cases ez
      refine ⟨a, n :: r, rfl, hs, by simp, fun m hm hle => ?_⟩
      obtain ⟨f1, f2⟩ := max_fold r n
      have : m = r.foldl (fun a b => if b > a then b else a) n := Int.le_antisymm (f2 m hm) (hle _ f1)
      subst this
      exact k _ (.int _)
theorem lld_list : ListLD X (fun xs H Q => ∃ p ys, xs = [.ref p] ∧ (SqL X.K H p ys ∨ SqT X.K H p ys) ∧ ∀ l, H l = none → Q (.ref l) (upd H l (.lst ys))) (fun ds => some ds) := by
  intro B H a xs ds zs Q sub hs dx ez k
  cases ez
  exact ⟨a, xs, rfl, .inl hs, fun l hl => k l xs hl dx⟩
def pList : List D → Option (List D)
  | [.list ds] => some ds
  | [.tuple ds] => some ds
  | _ => none
theorem cld_list : CallLD X (fun xs H Q => ∃ p ys, xs = [.ref p] ∧ (SqL X.K H p ys ∨ SqT X.K H p ys) ∧ ∀ l, H l = none → Q (.ref l) (upd H l (.lst ys))) pList := by
  intro B H vs ds z Q sub dps ez k
  unfold pList at ez
  split at ez
  · cases ez
    cases dps with
    | cons hd ht =>
      cases ht
      cases hd with
      | lst hs ha => exact ⟨_, _, rfl, .inl (ex_l sub hs), fun l hl => k l _ hl ha⟩
  · cases ez
    cases dps with
    | cons hd ht =>
      cases ht
      cases hd with
      | tup hs ha => exact ⟨_, _, rfl, .inr (ex_t sub hs), fun l hl => k l _ hl ha⟩
  · cases ez
def pTuple : List D → Option D
  | [.list ds] => some (.tuple ds)
  | [.tuple ds] => some (.tuple ds)
  | _ => none
theorem cd_tuple : CallD X (fun xs H Q => ∃ p ys, xs = [.ref p] ∧ ((SqL X.K H p ys ∧ ∀ l, H l = none → Q (.ref l) (upd H l (.tup ys))) ∨ (SqT X.K H p ys ∧ Q (.ref p) H))) pTuple := by
  intro B H vs ds z Q sub dps ez k
  unfold pTuple at ez
  split at ez
  · cases ez
    cases dps with
    | cons hd ht =>
      cases ht
      cases hd with
      | @lst a ys _ hs ha =>
        refine ⟨_, _, rfl, .inl ⟨ex_l sub hs, fun l hl => ?_⟩⟩
        have g := grow_sh (o := .tup ys) sub hl
        exact k _ _ _ g (.tup (.of upd_same) (ex_dpa g.eb ha))
  · cases ez
    cases dps with
    | cons hd ht =>
      cases ht
      cases hd with
      | tup hs ha => exact ⟨_, _, rfl, .inr ⟨ex_t sub hs, k _ B H (Grow.refl sub) (.tup hs ha)⟩⟩
  · cases ez
def pStr : List D → Option D
  | [.int i] => if i.natAbs.log2 < 1920 then some (.str (toString i)) else none
  | _ => none
theorem cd_str : CallD X (fun xs H Q => ∃ i, xs = [.int i] ∧ i.natAbs.log2 < 1920 ∧ Q (.str (toString i)) H) pStr := by
  intro B H vs ds z Q sub dps ez k
  unfold pStr at ez
  split at ez
  · split at ez
    · rename_i hl
      cases ez
      cases dps with
      | cons hd ht => cases ht; cases hd; exact ⟨_, rfl, hl, k _ B H (Grow.refl sub) (.str _)⟩
    · cases ez
  · cases ez
/-! ### isinstance of a built-in class -/
def tyD : D → Option String
  | .none => some "NoneType"
  | .bool _ => some "bool"
  | .int _ => some "int"
  | .str _ => some "str"
  | .list _ => some "list"
  | .tuple _ => some "tuple"
  | .dict _ => none
def pIsi (T : String) (d : D) : Option D := (tyD d).bind fun t => (kitB t T).map PyData.bool
theorem tyX_dp {K : PySem.W.Frag} {B H : Hp} {v : V} {d : D} {t : String} (sub : Ex B H) (h : Dp K B v d) (e : tyD d = some t) : TyX K H v (.type t) := by
  cases h with
  | non => cases e; exact .base .non
  | bl b => cases e; exact .base (.bl b)
  | int i => cases e; exact .base (.int i)
  | str x => cases e; exact .base (.str x)
  | lst hs _ =>
    cases e
    rcases ex_l sub hs with (h | ⟨o, h⟩) | ⟨o, its, n, h1, h2, _⟩
    · exact .base (.lst h)
    · exact .base (.frz h)
    · exact .kList h1 h2
  | tup hs _ =>
    cases e
    rcases ex_t sub hs with (h | ⟨o, h⟩) | ⟨o, its, n, h1, h2, _⟩
    · exact .base (.tup h)
    · exact .fTuple h
    · exact .kTuple h1 h2
theorem dv_isi {x y : Str} {p p2 pos : Pos} {e : Expr} {T : String} {f : M D} (hg : Gl X x) (hm : X.mg x = none) (hv : bootBuiltins x = some (.builtin "isinstance")) (ha : DV X Wx pa ε e f) (hg2 : Gl X y) (hm2 : X.mg y = none) (hv2 : bootBuiltins y = some (.type T))
    (hn2 : y ≠ "__name__" := by decide) (hdb2 : (y == ("__debug__" : Str)) = false := by decide) (hn : x ≠ "__name__" := by decide) (hdb : (x == ("__debug__" : Str)) = false := by decide)
    (hs : starEach [e, .Name y p2] X.env = (false, eval e X.env) :: starEach [.Name y p2] X.env := by rfl) (hs2 : starEach [.Name y p2] X.env = (false, eval (.Name y p2) X.env) :: starEach [] X.env := by rfl) (hpl : (backTo pos (starEach [.Name y p2] X.env)).any (·.1) = false := by rfl) :
    DV X Wx pa ε (.Call (.Name x p) [e, .Name y p2] [] pos) (op1 (pIsi T) f) := by
  obtain ⟨t, pe, hh⟩ := ha
  refine ⟨_, pe_callB call_isi hg hm hv (pa_cons pe (pa_cons (pe_bltn (v := .ty T) hg2 hm2 hv2 rfl hn2 hdb2) pa_nil hs2) hs) hn hdb hs hpl, fun W B H ρ σ Q I h => ?_⟩
  refine hh W B H ρ σ _ I (FinV.mk h.exP.bind fun d ρ1 e1 v B1 H1 eb eh I1 dp => ?_)
  replace h : FinV X Wx pa ε W B H σ Q (optM (pIsi T d) ρ1) := by rw [← bindM_ok (k := fun d => optM (pIsi T d)) e1]; exact h
  obtain ⟨z, ez, k⟩ := h.opt
  unfold pIsi at ez
  cases q : tyD d with
  | none => rw [q] at ez; cases ez
  | some tn =>
    rw [q] at ez
    cases q2 : kitB tn T with
    | none => simp only [Option.bind, q2] at ez; cases ez
    | some b =>
      simp only [Option.bind, q2] at ez
      cases ez
      exact ⟨v, .ty T, .type tn, .type T, b, rfl, .ty T, tyX_dp I1.sub dp q, kit_ty q2, k (.bl b) B1 H1 eb eh I1 (.bl b)⟩
end
end MD


set_option Elab.async false
set_option linter.all false
set_option autoImplicit false
set_option maxRecDepth 100000
set_option maxHeartbeats 1000000
namespace MD
open PySem PySem.Spec PyProof.Rows L2
open Evl (Ex Ex.refl Ex.trans Ex.new ex_l ex_t ex_rd)

/-! ### what a def promises: the mirror's answer -/
def SpOf (K : PySem.W.Frag) (mg : Str → Option Value) (n : Nat) (fm : FM) : Sp := fun vs H Q E => vs.length = n ∧ ∃ (W B : Hp) (pa : Nat → Addr) (cs : List Cel), ER K pa W B H (cs.map some) (vs.map some) ∧ match fm cs with
  | none => False
  | some (.ok c, cs') => ∀ (v : V) (B' H' : Hp), Ex B B' → EV K pa W B' H' (cs'.map some) (vs.map some) v c → Q v H'
  | some (.ex x, cs') => ∀ (C : Addr) (B' H' : Hp), mg x = some (.ref C) → Ex B B' → ER K pa W B' H' (cs'.map some) (vs.map some) → E (.ref C) none H'
def callM (fm : FM) (ds : List D) : M Cel := fun ρ => match fm (ds.map Cel.sh) with
  | none => none
  | some (.ok c, _) => some (.ok c, ρ)
  | some (.ex x, _) => some (.ex x, ρ)

section
variable {X : Cx} {Wx : WX} {pa : Nat → Addr} {ε ε' ε'' : Bool} {W B B1 H H1 : Hp} {σ : L2.St} {ρ : Rho} {Q : VK}
/-- all that is not shared is the callee's frame -/
def beside (B H : Hp) : Hp := fun a => match B a with
  | some _ => none
  | none => H a
theorem beside_some {a : Addr} {o : HO} : beside B H a = some o ↔ B a = none ∧ H a = some o := by
  unfold beside
  cases e : B a with
  | none => simp
  | some u => simp
theorem er_args {K : PySem.W.Frag} (pa' : Nat → Addr) (sub : Ex B H) {vs : List V} {ds : List D} (h : DpAll K B vs ds) : ER K pa' (beside B H) B H ((ds.map Cel.sh).map some) (vs.map some) := by
  refine ⟨fun _ => [], ⟨by simp [h.len], sub, fun a o e => ⟨(beside_some.mp e).2, (beside_some.mp e).1⟩, fun i c e => ?_, fun i es e => ?_, fun _ => List.nodup_nil, fun _ _ _ _ z => absurd z (by simp), fun _ _ z => absurd z (by simp)⟩⟩
  · rw [List.map_map, List.getElem?_map] at e
    cases q : ds[i]? with
    | none => rw [q] at e; cases e
    | some d =>
      rw [q] at e
      have e : some (some (Cel.sh d)) = some (some c) := e
      injection e with e
      injection e with e
      subst e
      obtain ⟨v, h1, h2⟩ := h.get q
      exact ⟨v, by rw [List.getElem?_map, h1]; rfl, rfl, h2⟩
  · rw [List.map_map, List.getElem?_map] at e
    cases q : ds[i]? with
    | none => rw [q] at e; cases e
    | some d =>
      rw [q] at e
      have e : some (some (Cel.sh d)) = some (some (Cel.x1 es)) := e
      injection e with e
      injection e with e
      cases e
/-- behind a call: the caller's names stand -/
theorem Slots.after {K : PySem.W.Frag} {φ : Nat → List Addr} (s : Slots K pa W B H ρ σ φ) (eb : Ex B B1) (sub : Ex B1 H1) (fr : ∀ a o, beside B H a = some o → H1 a = some o ∧ B1 a = none) : Slots K pa W B1 H1 ρ σ φ := by
  have ow : ∀ {p : Addr} {ds : List D}, Own1 K B H p ds → Own1 K B1 H1 p ds := fun ⟨xs, h1, h2, h3⟩ => ⟨xs, (fr _ _ (beside_some.mpr ⟨h1, h2⟩)).2, (fr _ _ (beside_some.mpr ⟨h1, h2⟩)).1, ex_dpa eb h3⟩
  refine ⟨s.len, sub, fun a o e => fr a o (beside_some.mpr ⟨(s.frm a o e).2, (s.frm a o e).1⟩), fun i c e => ?_, s.pin, s.nd, s.dis, fun i a ha => ?_⟩
  · obtain ⟨v, h1, r⟩ := s.at_ i c e
    refine ⟨v, h1, ?_⟩
    cases c with
    | sh d => exact ⟨r.1, ex_dp eb r.2⟩
    | o1 ds => obtain ⟨p, e1, e2, e3⟩ := r; exact ⟨p, e1, e2, ow e3⟩
    | x1 ds => obtain ⟨p, e1, e2, e3⟩ := r; exact ⟨p, e1, e2, ow e3⟩
    | o2 dss =>
      obtain ⟨p, ps, e1, e2, e3, e4, e5⟩ := r
      have q := fr _ _ (beside_some.mpr ⟨e3, e4⟩)
      refine ⟨p, ps, e1, e2, q.2, q.1, ?_⟩
      clear e2 e4 q e
      induction e5 with
      | nil => exact .nil
      | cons a t ih => exact .cons (ow a) ih
  · obtain ⟨h1, h2, h3⟩ := s.off i a ha
    obtain ⟨o, ho⟩ := ne_some h2
    have q := fr a o (beside_some.mpr ⟨h3, ho⟩)
    exact ⟨h1, by rw [q.1]; simp, q.2⟩
theorem ER.after {K : PySem.W.Frag} (h : ER K pa W B H ρ σ) (eb : Ex B B1) (sub : Ex B1 H1) (fr : ∀ a o, beside B H a = some o → H1 a = some o ∧ B1 a = none) : ER K pa W B1 H1 ρ σ := let ⟨φ, s⟩ := h; ⟨φ, s.after eb sub fr⟩
theorem ex_after (sub0 : Ex B H) (eb : Ex B B1) (sub : Ex B1 H1) (fr : ∀ a o, beside B H a = some o → H1 a = some o ∧ B1 a = none) : Ex H H1 := fun a o e => by
  cases q : B a with
  | none => exact (fr a o (beside_some.mpr ⟨q, e⟩)).1
  | some u =>
    have := sub0 a u q
    rw [e] at this
    cases this
    exact sub _ _ (eb _ _ q)
/-- the answer's cell, in the caller's frame -/
theorem EV.after {K : PySem.W.Frag} {pa' : Nat → Addr} {v : V} {c : Cel} {ρ' : Rho} {σ' : L2.St} (h : ER K pa W B H ρ σ) (eb : Ex B B1) (k : EV K pa' (beside B H) B1 H1 ρ' σ' v c) : EV K pa W B1 H1 ρ σ v c := by
  obtain ⟨φ', ψ, s', r, nd, dis, off⟩ := k
  obtain ⟨φ, s⟩ := h
  have s2 := s.after eb s'.sub s'.frm
  refine ⟨φ, ψ, s2, r, nd, fun i a ha hi => ?_, fun a ha => ⟨?_, (off a ha).2⟩⟩
  · obtain ⟨h1, h2, h3⟩ := s.off i a hi
    obtain ⟨o, ho⟩ := ne_some h2
    have := (off a ha).1
    rw [beside_some.mpr ⟨h3, ho⟩] at this
    cases this
  · cases e : W a with
    | none => rfl
    | some o =>
      have q := s.frm a o e
      have := (off a ha).1
      rw [beside_some.mpr ⟨q.2, q.1⟩] at this
      cases this
theorem de_call {k j n : Nat} {f : Addr} {fd : FuncData} {ps : List Str} {fm : FM} {x : Str} {p pos : Pos} {e : Expr} {es : List Expr} {g : M (List D)} (C : Takes X Wx) (F : FnOk X.prog X.w X.K X.mg X.base (L2.CX X.prog X.w) j f fd ps (SpOf X.K X.mg n fm)) (hr : Room k X.A) (hj : j ≤ k) (hg : Gl X x) (hm : X.mg x = some (.ref f)) (hk : PySem.W.keepIn X.K (.ref f) = true) (hb : Binds X.K fd ps [])
    (ha : DA X Wx pa ε (e :: es) g) (hn : (e :: es).length = n := by rfl) (hdb : (x == ("__debug__" : Str)) = false := by decide) (he : starEach (e :: es) X.env = (false, eval e X.env) :: starEach es X.env := by rfl) (hpl : (backTo pos (starEach es X.env)).any (·.1) = false := by rfl) :
    DE X Wx pa ε (.Call (.Name x p) (e :: es) [] pos) (bindM g (callM fm)) := by
  obtain ⟨hlen, t, pe, hh⟩ := ha
  refine ⟨_, pe_callS F (hr.mono hj) hg hm hk hb (fun σ => passAt C σ) pe hdb he hpl, fun W B H ρ σ Q I h => ?_⟩
  refine hh W B H ρ σ _ I (FinA.mk h.exP.bind fun ds ρ1 e1 vs B1 H1 eb eh I1 dps => ?_)
  replace h : FinC X Wx pa ε W B H σ Q (callM fm ds ρ1) := by rw [← bindM_ok (k := callM fm) e1]; exact h
  refine ⟨by rw [dps.len, hlen _ _ _ e1]; exact hn, beside B1 H1, B1, fun _ => 0, ds.map Cel.sh, er_args _ I1.sub dps, ?_⟩
  unfold callM at h
  split at h
  · exact h.elim
  · rename_i c cs' q
    refine fun v B' H' eb' k => h v B' H' (eb.trans eb') (fun z => (eh z).trans (ex_after I1.sub eb' k.er.sub fun a o q => ?_)) (EV.after I1 eb' k)
    obtain ⟨_, s⟩ := k.er
    exact s.frm a o q
  · rename_i c cs' q
    refine fun C B' H' hm eb' k => h C B' H' hm (eb.trans eb') ?_
    obtain ⟨_, s⟩ := id k
    exact I1.after eb' s.sub s.frm

/-! ### statements -/
def sSeq (f g : S) : S := fun ρ => match f ρ with
  | some (.nx, ρ') => g ρ'
  | o => o
def sNil : S := fun ρ => some (.nx, ρ)
theorem dss_nil : DSs X Wx pa [] sNil := ⟨_, pss_nil, fun W B H ρ σ D I h => h σ B H (Ex.refl _) I⟩
theorem dss_cons {st : Stmt} {rest : List Stmt} {f g : S} (h1 : DS X Wx pa st f) (h2 : DSs X Wx pa rest g) : DSs X Wx pa (st :: rest) (sSeq f g) := by
  obtain ⟨t, pe, h1⟩ := h1
  obtain ⟨u, pf, h2⟩ := h2
  refine ⟨_, pss_cons pe pf, fun W B H ρ σ D I h => ?_⟩
  refine h1 W B H ρ σ _ I ?_
  unfold sSeq at h
  cases e : f ρ with
  | none => rw [e] at h; exact h
  | some p =>
    obtain ⟨o, ρ'⟩ := p
    rw [e] at h
    cases o with
    | nx => exact fun σ' B' H' eb I' => h2 W B' H' ρ' σ' D I' (h.pull eb)
    | bk => exact h
    | ct => exact h
    | rt c => exact h
    | ex c => exact h
theorem dss_one {st : Stmt} {f : S} (h1 : DS X Wx pa st f) : DSs X Wx pa [st] f := by
  obtain ⟨t, pe, h1⟩ := h1
  exact ⟨_, pss_one pe, h1⟩
/-- from an expression to what follows it: an exception goes by -/
def andThen {α : Type} (m : M α) (k : α → S) : S := fun ρ => match m ρ with
  | none => none
  | some (.ok a, ρ') => k a ρ'
  | some (.ex c, ρ') => some (.ex c, ρ')
theorem andThen_ok {α : Type} {m : M α} {k : α → S} {a : α} {ρ' : Rho} (e : m ρ = some (.ok a, ρ')) : andThen m k ρ = k a ρ' := by
  unfold andThen
  rw [e]
theorem FinS.exP {α : Type} {m : M α} {k : α → S} {D : Ends} (h : FinS X Wx pa W B D (andThen m k ρ)) : exPart X Wx pa W B σ (m ρ) := by
  unfold andThen at h
  cases e : m ρ with
  | none => rw [e] at h; exact h
  | some p =>
    obtain ⟨r, ρ'⟩ := p
    rw [e] at h
    cases r with
    | ok d => trivial
    | ex c => exact fun C B' H' hm eb I' => h C σ B' H' hm eb I'
def notX : Option (Option Cel) → Bool
  | some (some (.x1 _)) => false
  | _ => true
/-- a name is stored; a lent one never -/
def putC (i : Nat) (c : Cel) (ρ : Rho) : Option Rho := match c with
  | .x1 _ => none
  | c => if notX ρ[i]? then some (ρ.set i (some c)) else none
theorem EV.put {K : PySem.W.Frag} {v : V} {c : Cel} {i : Nat} {ρ' : Rho} (h : EV K pa W B H ρ σ v c) (e : putC i c ρ = some ρ') : ER K pa W B H ρ' (σ.set i (some v)) := by
  obtain ⟨φ, ψ, s, r, nd, dis, off⟩ := h
  cases c with
  | x1 ds => cases e
  | sh d =>
    unfold putC at e
    simp only at e
    split at e
    · cases e; exact ⟨_, s.set r nd (fun j a ha _ hj => dis j a ha hj) off fun _ z => by cases z⟩
    · cases e
  | o1 ds =>
    unfold putC at e
    simp only at e
    split at e
    · cases e; exact ⟨_, s.set r nd (fun j a ha _ hj => dis j a ha hj) off fun _ z => by cases z⟩
    · cases e
  | o2 dss =>
    unfold putC at e
    simp only at e
    split at e
    · cases e; exact ⟨_, s.set r nd (fun j a ha _ hj => dis j a ha hj) off fun _ z => by cases z⟩
    · cases e
def nxt (o : Option Rho) : Option (Out × Rho) := o.map fun ρ => (.nx, ρ)
def sSet (i : Nat) (m : M Cel) : S := andThen m fun c ρ => nxt (putC i c ρ)
theorem FinS.nxt {D : Ends} {o : Option Rho} (h : FinS X Wx pa W B D (MD.nxt o)) : ∃ ρ', o = some ρ' ∧ ∀ (σ' : L2.St) (B' H' : Hp), Ex B B' → ER X.K pa W B' H' ρ' σ' → D.nx σ' H' := by
  cases o with
  | none => exact h.elim
  | some ρ' => exact ⟨ρ', rfl, h⟩
theorem ds_set {i : Nat} {x : Str} {e : Expr} {f : M Cel} {pos pos' : Pos} (nd : X.N.Nodup) (he : DE X Wx pa ε e f) (hi : X.N[i]? = some x := by rfl) (hx : Loc X.env.scope x := by first | exact Or.inl rfl | exact Or.inr rfl)
    (hs : swapsWith e (some (.Name x pos')) pos.line X.env = pure false := by rfl) (hf : X.fn x = true ∨ X.env.scope.names.lookup x = some .local := by first | exact .inl rfl | exact .inr rfl) : DS X Wx pa (.Assign [.Name x pos'] e pos) (sSet i f) := by
  obtain ⟨t, pe, hh⟩ := he
  refine ⟨_, ps_set nd hi hx pe hs hf, fun W B H ρ σ D I h => ?_⟩
  refine hh W B H ρ σ _ I (FinC.mk h.exP fun c ρ1 e1 v B1 H1 eb eh I1 => ?_)
  replace h : FinS X Wx pa W B D (nxt (putC i c ρ1)) := by rw [← andThen_ok (k := fun c ρ => nxt (putC i c ρ)) e1]; exact h
  obtain ⟨ρ', e2, k⟩ := h.nxt
  exact k _ B1 H1 eb (I1.put e2)
def sDrop {α : Type} (m : M α) : S := andThen m fun _ ρ => some (.nx, ρ)
theorem ds_expr {e : Expr} {f : M Cel} {pos : Pos} (he : DE X Wx pa ε e f) (hs : swapsWith e none pos.line X.env = pure false := by rfl) : DS X Wx pa (.Expr e pos) (sDrop f) := by
  obtain ⟨t, pe, hh⟩ := he
  refine ⟨_, ps_expr pe hs, fun W B H ρ σ D I h => ?_⟩
  refine hh W B H ρ σ _ I (FinC.mk h.exP fun c ρ1 e1 v B1 H1 eb eh I1 => ?_)
  replace h : FinS X Wx pa W B D (some (.nx, ρ1)) := by rw [← andThen_ok (k := fun _ ρ => some (Out.nx, ρ)) e1]; exact h
  exact h σ B1 H1 eb I1.er
def sRet (m : M Cel) : S := andThen m fun c ρ => some (.rt c, ρ)
theorem ds_ret {e : Expr} {f : M Cel} {pos : Pos} (he : DE X Wx pa ε e f) : DS X Wx pa (.Return (some e) pos) (sRet f) := by
  obtain ⟨t, pe, hh⟩ := he
  refine ⟨_, ps_ret pe, fun W B H ρ σ D I h => ?_⟩
  refine hh W B H ρ σ _ I (FinC.mk h.exP fun c ρ1 e1 v B1 H1 eb eh I1 => ?_)
  replace h : FinS X Wx pa W B D (some (.rt c, ρ1)) := by rw [← andThen_ok (k := fun c ρ => some (Out.rt c, ρ)) e1]; exact h
  exact h v σ B1 H1 eb I1
def sIf (c : M Bool) (f g : S) : S := andThen c fun b => if b then f else g
theorem ds_if {c : Expr} {a b : List Stmt} {m : M Bool} {f g : S} {pos : Pos} (hc : DT X Wx pa ε c m) (ha : DSs X Wx pa a f) (hb : DSs X Wx pa b g) : DS X Wx pa (.If c a b pos) (sIf m f g) := by
  obtain ⟨t, pe, hc⟩ := hc
  obtain ⟨u, pf, ha⟩ := ha
  obtain ⟨w, pg, hb⟩ := hb
  refine ⟨_, ps_if pe pf pg, fun W B H ρ σ D I h => ?_⟩
  refine hc W B H ρ σ _ I (FinT.mk h.exP fun k ρ1 e1 B1 H1 eb eh I1 => ?_)
  replace h : FinS X Wx pa W B D ((if k then f else g) ρ1) := by rw [← andThen_ok (k := fun b => if b then f else g) e1]; exact h
  cases k with
  | true => exact ha W B1 H1 ρ1 σ D I1 (FinS.pull h eb)
  | false => exact hb W B1 H1 ρ1 σ D I1 (FinS.pull h eb)
theorem ds_pass {pos : Pos} : DS X Wx pa (.Pass pos) sNil := ⟨_, ps_pass, fun W B H ρ σ D I h => h σ B H (Ex.refl _) I⟩
def sBrk : S := fun ρ => some (.bk, ρ)
def sCont : S := fun ρ => some (.ct, ρ)
theorem ds_break {pos : Pos} : DS X Wx pa (.Break pos) sBrk := ⟨_, ps_break, fun W B H ρ σ D I h => h σ B H (Ex.refl _) I⟩
theorem ds_continue {pos : Pos} : DS X Wx pa (.Continue pos) sCont := ⟨_, ps_continue, fun W B H ρ σ D I h => h σ B H (Ex.refl _) I⟩
/-! ### raise -/
structure ExcOk (X : Cx) (x : Str) (C : Addr) : Prop where
  g : X.mg x = some (.ref C)
  x : PySem.W.excIn X.K C HandSPX.veTail "ValueError.__new__" = true
  k : PySem.W.keepIn X.K (.ref C) = true
  b : PySem.W.subIn X.K (.ref C) (.type "BaseException") = some true
  t : PySem.W.typeIn X.K (.ref C) = some (.type "type")
def sRaise (c : Str) : S := fun ρ => some (.ex c, ρ)
theorem ds_raise {x m : Str} {C : Addr} {j : Nat} {p p2 pos pos' : Pos} (hc : X.calm = true) (tk : Takes X Wx) (O : ExcOk X x C) (hg : Gl X x := by rfl) (hdb : (x == ("__debug__" : Str)) = false := by decide) :
    DS X Wx pa (.Raise (some (.Call (.Name x p) [.Constant (.str m) j p2] [] pos)) none pos') (sRaise x) := by
  refine ⟨_, ps_raise hc tk (pmk_own PySem.F.excBase_ValueError O.x O.g O.k (raises_own O.b O.t) hg hdb), fun W B H ρ σ D I h => ?_⟩
  exact h C σ B H O.g (Ex.refl _) I
/-! ### targets -/
def Agree (is : List Nat) (σ σ' : L2.St) : Prop := σ'.length = σ.length ∧ ∀ j, j ∉ is → σ'[j]? = σ[j]?
structure DG (tg : Expr) (is : List Nat) (g : D → Rho → Option Rho) : Prop where
  ex : ∃ t, PG X tg t ∧ ∀ (W B H : Hp) (ρ ρ' : Rho) (σ : L2.St) (v : V) (d : D) (Q : L2.St → Hp → Prop), ER X.K pa W B H ρ σ → Dp X.K B v d → g d ρ = some ρ' → (∀ σ', ER X.K pa W B H ρ' σ' → Agree is σ σ' → Q σ' H) → t v σ H Q
structure DGs (ts : List Expr) (is : List Nat) (g : List D → Rho → Option Rho) : Prop where
  ex : ∃ t, PGs X ts t ∧ ∀ (W B H : Hp) (ρ ρ' : Rho) (σ : L2.St) (vs : List V) (ds : List D) (Q : L2.St → Hp → Prop), ER X.K pa W B H ρ σ → DpAll X.K B vs ds → g ds ρ = some ρ' → (∀ σ', ER X.K pa W B H ρ' σ' → Agree is σ σ' → Q σ' H) → t vs σ H Q
end
section
variable {X : Cx} {Wx : WX} {pa : Nat → Addr} {ε ε' ε'' : Bool} {W B B1 H H1 : Hp} {σ : L2.St} {ρ : Rho} {Q : VK}
def gN (i : Nat) : D → Rho → Option Rho := fun d ρ => putC i (.sh d) ρ
theorem dg_name (i : Nat) {x : Str} {pos : Pos} (nd : X.N.Nodup) (hi : X.N[i]? = some x := by rfl) (hx : Loc X.env.scope x := by first | exact Or.inl rfl | exact Or.inr rfl) (hf : X.fn x = true ∨ X.env.scope.names.lookup x = some .local := by first | exact .inl rfl | exact .inr rfl) : DG (X := X) (pa := pa) (.Name x pos) [i] (gN i) := by
  refine ⟨_, pg_name nd hi hx hf, fun W B H ρ ρ' σ v d Q I dp e k => ?_⟩
  exact k _ ((EV.of_dp I dp).put e) ⟨List.length_set, fun j hj => List.getElem?_set_ne (by intro z; exact hj (by simp [z]))⟩
def gsNil : List D → Rho → Option Rho
  | [], ρ => some ρ
  | _ :: _, _ => none
def gsCons (g : D → Rho → Option Rho) (h : List D → Rho → Option Rho) : List D → Rho → Option Rho
  | [], _ => none
  | d :: ds, ρ => (g d ρ).bind (h ds)
theorem dgs_nil : DGs (X := X) (pa := pa) [] [] gsNil := by
  refine ⟨_, pgs_nil, fun W B H ρ ρ' σ vs ds Q I dps e k => ?_⟩
  cases dps with
  | nil => cases e; exact ⟨rfl, k σ I ⟨rfl, fun _ _ => rfl⟩⟩
  | cons => cases e
theorem dgs_cons {e : Expr} {es : List Expr} {is js : List Nat} {g : D → Rho → Option Rho} {h : List D → Rho → Option Rho} (h1 : DG (X := X) (pa := pa) e is g) (h2 : DGs (X := X) (pa := pa) es js h)
    (hs : (assignEach (e :: es) X.env).map (·.2) = assign e X.env :: (assignEach es X.env).map (·.2) := by rfl) : DGs (X := X) (pa := pa) (e :: es) (is ++ js) (gsCons g h) := by
  obtain ⟨t, pe, h1⟩ := h1
  obtain ⟨u, pf, h2⟩ := h2
  refine ⟨_, pgs_cons pe pf hs, fun W B H ρ ρ' σ vs ds Q I dps e k => ?_⟩
  cases dps with
  | nil => cases e
  | @cons v vs d ds hd ht =>
    unfold gsCons at e
    simp only at e
    cases q : g d ρ with
    | none => rw [q] at e; cases e
    | some ρ1 =>
      rw [q] at e
      refine ⟨v, vs, rfl, h1 W B H ρ ρ1 σ v d _ I hd q fun σ1 I1 a1 => ?_⟩
      refine h2 W B H ρ1 ρ' σ1 vs ds _ I1 ht e fun σ2 I2 a2 => k σ2 I2 ⟨a2.1.trans a1.1, fun j hj => ?_⟩
      rw [List.mem_append] at hj
      rw [a2.2 j (fun z => hj (.inr z)), a1.2 j (fun z => hj (.inl z))]
def gTupD (n : Nat) (h : List D → Rho → Option Rho) : D → Rho → Option Rho
  | .tuple ds, ρ => if ds.length = n then h ds ρ else none
  | _, _ => none
theorem dg_tup {es : List Expr} {k n : Nat} {is : List Nat} {h : List D → Rho → Option Rho} {pos : Pos} (hc : X.calm = true) (hh : DGs (X := X) (pa := pa) es is h) (hn : (assignEach es X.env).length = n := by rfl) (hst : (assignEach es X.env).findIdx? (·.1) = none := by rfl) : DG (X := X) (pa := pa) (.Tuple es k pos) is (gTupD n h) := by
  obtain ⟨t, pe, hh⟩ := hh
  refine ⟨_, pg_tup hc pe hn hst, fun W B H ρ ρ' σ v d Q I dp e k => ?_⟩
  unfold gTupD at e
  split at e
  · rename_i ds
    split at e
    · rename_i hl
      cases dp with
      | tup hs ha => exact ⟨_, _, rfl, ex_t I.sub hs, by rw [ha.len]; exact hl, hh W B H ρ ρ' σ _ ds Q I ha e k⟩
    · cases e
  · cases e
def gLstD (n : Nat) (h : List D → Rho → Option Rho) : D → Rho → Option Rho
  | .list ds, ρ => if ds.length = n then h ds ρ else none
  | _, _ => none
theorem dg_lst {es : List Expr} {k n : Nat} {is : List Nat} {h : List D → Rho → Option Rho} {pos : Pos} (hc : X.calm = true) (hh : DGs (X := X) (pa := pa) es is h) (hn : (assignEach es X.env).length = n := by rfl) (hst : (assignEach es X.env).findIdx? (·.1) = none := by rfl) : DG (X := X) (pa := pa) (.Tuple es k pos) is (gLstD n h) := by
  obtain ⟨t, pe, hh⟩ := hh
  refine ⟨_, pg_lst hc pe hn hst, fun W B H ρ ρ' σ v d Q I dp e k => ?_⟩
  unfold gLstD at e
  split at e
  · rename_i ds
    split at e
    · rename_i hl
      cases dp with
      | lst hs ha => exact ⟨_, _, rfl, ex_l I.sub hs, by rw [ha.len]; exact hl, hh W B H ρ ρ' σ _ ds Q I ha e k⟩
    · cases e
  · cases e
def sAsg (g : D → Rho → Option Rho) (m : M D) : S := andThen m fun d ρ => nxt (g d ρ)
theorem ds_asg {tg e : Expr} {is : List Nat} {g : D → Rho → Option Rho} {f : M D} {pos : Pos} (he : DV X Wx pa ε e f) (hg : DG (X := X) (pa := pa) tg is g) (hs : swapsWithSole [tg] e pos.line X.env = pure false := by rfl) (hw : swappedStores [tg] e X.env = pure none := by rfl)
    (h1 : (assignEach [tg] X.env).map (·.2) = [assign tg X.env] := by rfl) : DS X Wx pa (.Assign [tg] e pos) (sAsg g f) := by
  obtain ⟨t, pe, hh⟩ := he
  obtain ⟨u, pf, hg⟩ := hg
  refine ⟨_, ps_asg pe pf hs hw h1, fun W B H ρ σ D I h => ?_⟩
  refine hh W B H ρ σ _ I (FinV.mk h.exP fun d ρ1 e1 v B1 H1 eb eh I1 dp => ?_)
  replace h : FinS X Wx pa W B D (nxt (g d ρ1)) := by rw [← andThen_ok (k := fun d ρ => nxt (g d ρ)) e1]; exact h
  obtain ⟨ρ', e2, k⟩ := h.nxt
  exact hg W B1 H1 ρ1 ρ' σ v d _ I1 dp e2 fun σ' I' _ => k σ' B1 H1 eb I'
/-- a, b = x, y -/
def sPar (i j : Nat) (m : M (List D)) : S := andThen m fun ds ρ => match ds with
  | [d, e] => nxt ((putC i (.sh d) ρ).bind fun ρ1 => putC j (.sh e) ρ1)
  | _ => none
theorem ds_par {i j : Nat} {x y : Str} {a b : Expr} {f : M (List D)} {px py pt pt2 pos : Pos} {kt k2 : Nat} (hc : X.calm = true) (nd : X.N.Nodup) (ha : DA X Wx pa ε [a, b] f) (hi : X.N[i]? = some x := by rfl) (hj : X.N[j]? = some y := by rfl) (hij : i ≠ j := by decide)
    (hx : X.env.scope.names.lookup x = some .local := by rfl) (hy : X.env.scope.names.lookup y = some .local := by rfl)
    (hw : swappedStores [.Tuple [.Name x px, .Name y py] kt pt] (.Tuple [a, b] k2 pt2) X.env = pure (some [x, y]) := by rfl)
    (hs : swapsWithSole [.Tuple [.Name x px, .Name y py] kt pt] (.Tuple [a, b] k2 pt2) pos.line X.env = pure false := by rfl) :
    DS X Wx pa (.Assign [.Tuple [.Name x px, .Name y py] kt pt] (.Tuple [a, b] k2 pt2) pos) (sPar i j f) := by
  obtain ⟨_, t, pe, hh⟩ := ha
  refine ⟨_, ps_par hc nd hi hj hij hx hy pe hw hs, fun W B H ρ σ D I h => ?_⟩
  refine hh W B H ρ σ _ I (FinA.mk h.exP fun ds ρ1 e1 vs B1 H1 eb eh I1 dps => ?_)
  have h2 := andThen_ok (k := fun (ds : List MD.D) ρ => match ds with
    | [d, e] => nxt ((putC i (.sh d) ρ).bind fun ρ1 => putC j (.sh e) ρ1)
    | _ => none) e1
  unfold sPar at h
  rw [h2] at h
  split at h
  · rename_i d e
    obtain ⟨ρ', e2, k⟩ := h.nxt
    cases dps with
    | @cons v _ _ _ hd ht =>
      cases ht with
      | @cons w _ _ _ hd2 ht =>
        cases ht
        cases q : putC i (.sh d) ρ1 with
        | none => rw [q] at e2; cases e2
        | some ρ2 =>
          rw [q] at e2
          have I2 := (EV.of_dp I1 hd).put q
          exact ⟨v, w, rfl, k _ B1 H1 eb ((EV.of_dp I2 hd2).put e2)⟩
  · exact h.elim
/-- x += e, whole numbers -/
def sAug (i : Nat) (w : Int → Int → Int) (m : M D) : S := fun ρ => match ρ[i]? with
  | some (some (.sh (.int a))) => andThen m (fun d ρ' => match d with
    | .int b => nxt (putC i (.sh (.int (w a b))) ρ')
    | _ => none) ρ
  | _ => none
theorem ds_aug {i : Nat} {x : Str} {e : Expr} {op : Operator} {w : Int → Int → Int} {f : M D} {pos pos' : Pos} (nd : X.N.Nodup) (ho : PIp X op (ipI w)) (he : DV X Wx pa ε e f) (hi : X.N[i]? = some x := by rfl) (hx : Loc X.env.scope x := by first | exact Or.inl rfl | exact Or.inr rfl) (hf : X.fn x = true ∨ X.env.scope.names.lookup x = some .local := by first | exact .inl rfl | exact .inr rfl) :
    DS X Wx pa (.AugAssign (.Name x pos') op e pos) (sAug i w f) := by
  obtain ⟨t, pe, hh⟩ := he
  refine ⟨_, ps_aug nd hi hx pe ho hf, fun W B H ρ σ D I h => ?_⟩
  unfold sAug at h
  split at h
  · rename_i a q
    obtain ⟨v, fp, hv, r⟩ := I.look q
    obtain ⟨_, dv⟩ := r
    cases dv
    refine ⟨_, hv, hh W B H ρ σ _ I (FinV.mk h.exP fun d ρ1 e1 v B1 H1 eb eh I1 dp => ?_)⟩
    have h2 := andThen_ok (k := fun d ρ' => match d with
      | PyData.int b => nxt (putC i (.sh (.int (w a b))) ρ')
      | _ => none) e1
    rw [h2] at h
    split at h
    · rename_i b
      cases dp
      obtain ⟨ρ', e2, k⟩ := h.nxt
      exact ⟨a, b, rfl, rfl, k _ B1 H1 eb ((EV.of_dp I1 (.int _)).put e2)⟩
    · exact h.elim
  · exact h.elim
/-! ### lists of one's own are changed -/
def Cel.own : Cel → Option (List D)
  | .o1 ds => some ds
  | .x1 ds => some ds
  | _ => none
def Cel.mk : Cel → List D → Cel
  | .x1 _, es => .x1 es
  | _, es => .o1 es
theorem ER.own {K : PySem.W.Frag} {i : Nat} {c : Cel} {ds : List D} (h : ER K pa W B H ρ σ) (hi : ρ[i]? = some (some c)) (e : c.own = some ds) :
    ∃ p xs, σ[i]? = some (some (.ref p)) ∧ B p = none ∧ H p = some (.lst xs) ∧ DpAll K B xs ds ∧ ∀ ys es, DpAll K B ys es → ER K pa W B (upd H p (.lst ys)) (ρ.set i (some (c.mk es))) σ := by
  obtain ⟨φ, s⟩ := h
  obtain ⟨v, hv, r⟩ := s.at_ i c hi
  have key : ∃ p xs, v = .ref p ∧ φ i = [p] ∧ B p = none ∧ H p = some (.lst xs) ∧ DpAll K B xs ds := by
    cases c with
    | o1 ds' => cases e; obtain ⟨p, h1, h2, xs, h3, h4, h5⟩ := r; exact ⟨p, xs, h1, h2, h3, h4, h5⟩
    | x1 ds' => cases e; obtain ⟨p, h1, h2, xs, h3, h4, h5⟩ := r; exact ⟨p, xs, h1, h2, h3, h4, h5⟩
    | sh d => cases e
    | o2 d => cases e
  obtain ⟨p, xs, e1, hp, h3, h4, h5⟩ := key
  subst e1
  refine ⟨p, xs, hv, h3, h4, h5, fun ys es dy => ?_⟩
  have pw : W p = none := (s.off i p (by rw [hp]; simp)).1
  have oth : ∀ a, a ≠ p → upd H p (.lst ys) a = H a := fun a ha => upd_ne ha
  have nb : ∀ a o, B a = some o → a ≠ p := fun a o q z => by rw [z, h3] at q; cases q
  have sub' : Ex B (upd H p (.lst ys)) := fun a o q => by rw [oth a (nb a o q)]; exact s.sub a o q
  have ow : ∀ {q : Addr} {fs : List D}, q ≠ p → Own1 K B H q fs → Own1 K B (upd H p (.lst ys)) q fs := fun hq ⟨zs, z1, z2, z3⟩ => ⟨zs, z1, by rw [oth _ hq]; exact z2, z3⟩
  have hl : i < ρ.length := (List.getElem?_eq_some_iff.mp hi).1
  refine ⟨φ, ⟨by rw [List.length_set]; exact s.len, sub', fun a o q => ?_, fun j c' q => ?_, fun j fs q => ?_, s.nd, s.dis, fun j a ha => ?_⟩⟩
  · obtain ⟨z1, z2⟩ := s.frm a o q
    exact ⟨by rw [oth a (fun z => by rw [z, pw] at q; cases q)]; exact z1, z2⟩
  · by_cases hj : j = i
    · subst hj
      rw [List.getElem?_set_self hl] at q
      cases q
      refine ⟨.ref p, hv, ?_⟩
      cases c with
      | o1 _ => exact ⟨p, rfl, hp, ys, h3, upd_same, dy⟩
      | x1 _ => exact ⟨p, rfl, hp, ys, h3, upd_same, dy⟩
      | sh _ => cases e
      | o2 _ => cases e
    · rw [List.getElem?_set_ne (Ne.symm hj)] at q
      obtain ⟨u, z1, z2⟩ := s.at_ j c' q
      have off : ∀ a, a ∈ φ j → a ≠ p := fun a ha z => s.dis j i a hj ha (by rw [hp, z]; simp)
      refine ⟨u, z1, ?_⟩
      cases c' with
      | sh d => exact z2
      | o1 _ => obtain ⟨q1, y1, y2, y3⟩ := z2; exact ⟨q1, y1, y2, ow (off q1 (by rw [y2]; simp)) y3⟩
      | x1 _ => obtain ⟨q1, y1, y2, y3⟩ := z2; exact ⟨q1, y1, y2, ow (off q1 (by rw [y2]; simp)) y3⟩
      | o2 _ =>
        obtain ⟨q1, qs, y1, y2, y3, y4, y5⟩ := z2
        refine ⟨q1, qs, y1, y2, y3, by rw [oth _ (off q1 (by rw [y2]; simp))]; exact y4, ?_⟩
        have hq : ∀ q, q ∈ qs → q ≠ p := fun q hm => off q (by rw [y2]; exact List.mem_cons_of_mem _ hm)
        clear y2 y4 q
        induction y5 with
        | nil => exact .nil
        | cons a t ih => exact .cons (ow (hq _ (by simp)) a) (ih fun q hm => hq q (List.mem_cons_of_mem _ hm))
  · by_cases hj : j = i
    · subst hj
      rw [List.getElem?_set_self hl] at q
      cases c with
      | x1 ds' => exact s.pin j ds' hi
      | o1 _ => cases q
      | sh _ => cases e
      | o2 _ => cases e
    · rw [List.getElem?_set_ne (Ne.symm hj)] at q
      exact s.pin j fs q
  · obtain ⟨z1, z2, z3⟩ := s.off j a ha
    refine ⟨z1, ?_, z3⟩
    by_cases hz : a = p
    · rw [hz, upd_same]; simp
    · rw [oth a hz]; exact z2
/-- what a method does with the list in slot i -/
def ownAt (i : Nat) (ρ : Rho) : Option (Cel × List D) := match ρ[i]? with
  | some (some c) => c.own.map fun ds => (c, ds)
  | _ => none
theorem ownAt_some {i : Nat} {c : Cel} {ds : List D} (e : ownAt i ρ = some (c, ds)) : ρ[i]? = some (some c) ∧ c.own = some ds := by
  unfold ownAt at e
  split at e
  · rename_i c' q
    cases q2 : c'.own with
    | none => rw [q2] at e; cases e
    | some ds' => rw [q2] at e; cases e; exact ⟨q, q2⟩
  · cases e
/-- m(args) of the list in slot i: its new items, and the answer -/
def mMeth (i : Nat) (w : List D → List D → Option (List D × D)) (g : M (List D)) : M D := fun ρ => match ownAt i ρ with
  | none => none
  | some _ => bindM g (fun as ρ => match ownAt i ρ with
    | none => none
    | some (c, ds) => (w ds as).map fun p => (.ok p.2, ρ.set i (some (c.mk p.1)))) ρ
def MethD (X : Cx) (r : V → List V → Hp → VK → Prop) (w : List D → List D → Option (List D × D)) : Prop := ∀ (B H : Hp) (p : Addr) (xs vs : List V) (ds as : List D) (es : List D) (z : D) (Q : VK), Ex B H → B p = none → H p = some (.lst xs) → DpAll X.K B xs ds → DpAll X.K B vs as → w ds as = some (es, z) →
  (∀ (v : V) (ys : List V), DpAll X.K B ys es → Dp X.K B v z → Q v (upd H p (.lst ys))) → r (.ref p) vs H Q
theorem finMeth {i : Nat} {to : TE} {t : TA} {r : V → List V → Hp → VK → Prop} {g : M (List D)} {w : List D → List D → Option (List D × D)} (hw : MethD X r w) (hto : ∀ (σ : L2.St) (H : Hp) (Q : VK) (v : V), σ[i]? = some (some v) → Q v H → to σ H Q)
    (hh : ∀ (W B H : Hp) (ρ : Rho) (σ : L2.St) (Q : List V → Hp → Prop), ER X.K pa W B H ρ σ → FinA X Wx pa ε W B H σ Q (g ρ) → t σ H Q) (I : ER X.K pa W B H ρ σ) (h : FinV X Wx pa true W B H σ Q (mMeth i w g ρ)) : tBM X.K "list" r to t σ H Q := by
  unfold mMeth at h
  split at h
  · exact h.elim
  · rename_i c0 q0
    obtain ⟨c0, ds0⟩ := c0
    obtain ⟨a1, a2⟩ := ownAt_some q0
    obtain ⟨p, xs, hv, _, hH, _, _⟩ := I.own a1 a2
    refine hto σ H _ _ hv ⟨.inl ⟨rfl, xs, .of hH⟩, hh W B H ρ σ _ I (FinA.mk h.exP.bind fun as ρ1 e1 vs B1 H1 eb eh I1 dps => ?_)⟩
    rw [bindM_ok e1] at h
    split at h
    · exact h.elim
    · rename_i c ds q1
      cases q2 : w ds as with
      | none => rw [q2] at h; exact h.elim
      | some pr =>
        obtain ⟨es, z⟩ := pr
        rw [q2] at h
        obtain ⟨b1, b2⟩ := ownAt_some q1
        obtain ⟨p', xs', hv', hb', hH', dx, k⟩ := I1.own b1 b2
        rw [hv] at hv'
        injection hv' with hv'
        injection hv' with hv'
        injection hv' with hv'
        subst hv'
        exact hw B1 H1 p xs' vs ds as es z Q I1.sub hb' hH' dx dps q2 fun v ys dy dz => h v B1 _ eb (fun z => by cases z) (k ys es dy) dz
theorem dv_meth {i : Nat} {x name : Str} {id : String} {p apos pos : Pos} {e : Expr} {es : List Expr} {r : V → List V → Hp → VK → Prop} {g : M (List D)} {w : List D → List D → Option (List D × D)} (hp : PlainAttrs "list") (slot : Slot "list" name id) (hty : typeOf (.builtin id) = pure (.type "method_descriptor")) (hm : MtR X id r) (hw : MethD X r w)
    (ha : DA X Wx pa ε (e :: es) g) (hN : X.N[i]? = some x := by rfl) (hv : Vis X.env.scope x := by first | exact Or.inl rfl | exact Or.inr (Or.inl rfl) | exact Or.inr (Or.inr rfl)) (hd : (x == ("__debug__" : Str)) = false := by decide) (hcd : (x == ("__classdict__" : Str)) = false := by decide)
    (hbase : attributeBase (.Name x p) name X.env (eval (.Name x p) X.env) = eval (.Name x p) X.env := by rfl)
    (hfew : ((backTo pos (starEach (e :: es) X.env)).all (fun x => !x.1) && (backToKw pos (keywordEach [] X.env)).all (fun x => x.1.isSome)
      && decide ((e :: es).length + ([] : List Keyword).length + (if ([] : List Keyword).isEmpty then 0 else 1) < 30)) = true := by rfl)
    (hline : (apos.endLine == pos.line) = true := by rfl) (hs : starEach (e :: es) X.env = (false, eval e X.env) :: starEach es X.env := by rfl) (hplain : (backTo pos (starEach es X.env)).any (·.1) = false := by rfl) :
    DV X Wx pa true (.Call (.Attribute (.Name x p) name apos) (e :: es) [] pos) (mMeth i w g) := by
  obtain ⟨_, t, pe, hh⟩ := ha
  exact ⟨_, pe_bm hp slot hty hm (pe_var hN hv hd hcd) pe hbase hfew hline hs hplain, fun W B H ρ σ Q I h => finMeth hw (fun σ H Q v e q => ⟨v, e, q⟩) hh I h⟩
/-- without arguments -/
def mMeth0 (i : Nat) (w : List D → List D → Option (List D × D)) : M D := fun ρ => match ownAt i ρ with
  | none => none
  | some (c, ds) => (w ds []).map fun p => (.ok p.2, ρ.set i (some (c.mk p.1)))
theorem dv_meth0 {i : Nat} {x name : Str} {id : String} {p apos pos : Pos} {r : V → List V → Hp → VK → Prop} {w : List D → List D → Option (List D × D)} (hp : PlainAttrs "list") (slot : Slot "list" name id) (hty : typeOf (.builtin id) = pure (.type "method_descriptor")) (hm : MtR X id r) (hw : MethD X r w)
    (hN : X.N[i]? = some x := by rfl) (hv : Vis X.env.scope x := by first | exact Or.inl rfl | exact Or.inr (Or.inl rfl) | exact Or.inr (Or.inr rfl)) (hd : (x == ("__debug__" : Str)) = false := by decide) (hcd : (x == ("__classdict__" : Str)) = false := by decide)
    (hbase : attributeBase (.Name x p) name X.env (eval (.Name x p) X.env) = eval (.Name x p) X.env := by rfl) (hline : (apos.endLine == pos.line) = true := by rfl) :
    DV X Wx pa true (.Call (.Attribute (.Name x p) name apos) [] [] pos) (mMeth0 i w) := by
  refine ⟨_, pe_bm0 hp slot hty hm (pe_var hN hv hd hcd) hbase hline, fun W B H ρ σ Q I h => ?_⟩
  unfold mMeth0 at h
  split at h
  · exact h.elim
  · rename_i c ds q1
    cases q2 : w ds [] with
    | none => rw [q2] at h; exact h.elim
    | some pr =>
      obtain ⟨es, z⟩ := pr
      rw [q2] at h
      obtain ⟨b1, b2⟩ := ownAt_some q1
      obtain ⟨p', xs', hv', hb', hH', dx, k⟩ := I.own b1 b2
      exact ⟨_, hv', .inl ⟨rfl, xs', .of hH'⟩, hw B H p' xs' [] ds [] es z Q I.sub hb' hH' dx .nil q2 fun v ys dy dz => h v B _ (Ex.refl _) (fun z => by cases z) (k ys es dy) dz⟩
/-! the methods -/
def wAppend (ds as : List D) : Option (List D × D) := match as with
  | [d] => if ds.length < lim then some (ds ++ [d], .none) else none
  | _ => none
theorem md_append : MethD X rAppend wAppend := by
  intro B H p xs vs ds as es z Q sub hb hH dx da ew k
  unfold wAppend at ew
  split at ew
  · split at ew
    · rename_i hl
      cases ew
      cases da with
      | cons hd ht =>
        cases ht
        exact ⟨p, xs, _, rfl, rfl, hH, lim_lt (by rw [dx.len]; exact hl), k _ _ (dx.append (.cons hd .nil)) .non⟩
    · cases ew
  · cases ew
def wPopAt (ds as : List D) : Option (List D × D) := match as with
  | [.int i] => match ixN ds.length i with
    | none => none
    | some j => if ds.length ≤ lim then (ds[j]?).map fun d => (ds.eraseIdx j, d) else none
  | _ => none
theorem md_popAt : MethD X rPopAt wPopAt := by
  intro B H p xs vs ds as es z Q sub hb hH dx da ew k
  unfold wPopAt at ew
  split at ew
  · rename_i i
    split at ew
    · cases ew
    · rename_i j hj
      split at ew
      · rename_i hl
        cases q : ds[j]? with
        | none => rw [q] at ew; cases ew
        | some d =>
          rw [q] at ew
          cases ew
          obtain ⟨v, h1, h2⟩ := dx.get q
          rw [← dx.len] at hj
          obtain ⟨s1, s2, s3, s4⟩ := ixN_seq hj
          have hl2 : xs.length ≤ 100000 := by rw [dx.len]; exact hl
          cases da with
          | cons hd ht =>
            cases ht
            cases hd
            exact ⟨p, xs, i, j, v, rfl, rfl, hH, by omega, by omega, s1, h1, k v _ (dx.eraseIdx j) h2⟩
      · cases ew
  · cases ew
def wPop (ds as : List D) : Option (List D × D) := match as with
  | [] => (ds[ds.length - 1]?).map fun d => (ds.dropLast, d)
  | _ => none
theorem md_pop : MethD X rPop wPop := by
  intro B H p xs vs ds as es z Q sub hb hH dx da ew k
  unfold wPop at ew
  split at ew
  · cases q : ds[ds.length - 1]? with
    | none => rw [q] at ew; cases ew
    | some d =>
      rw [q] at ew
      cases ew
      obtain ⟨v, h1, h2⟩ := dx.get q
      rw [← dx.len] at h1
      cases da
      exact ⟨p, xs, v, rfl, rfl, hH, h1, k v _ dx.dropLast h2⟩
  · cases ew
def wClear (ds as : List D) : Option (List D × D) := match as with
  | [] => some ([], .none)
  | _ => none
theorem md_clear : MethD X rClear wClear := by
  intro B H p xs vs ds as es z Q sub hb hH dx da ew k
  unfold wClear at ew
  split at ew
  · cases ew
    cases da
    exact ⟨p, xs, rfl, rfl, hH, k .non [] .nil .non⟩
  · cases ew
/-- x.extend(a list) -/
def rExtendS (K : PySem.W.Frag) : V → List V → Hp → VK → Prop := fun x vs H Q => ∃ l b xs zs, x = .ref l ∧ vs = [.ref b] ∧ H l = some (.lst xs) ∧ H b = some (.lst zs) ∧ xs.length + zs.length ≤ sizeLine ∧ Q .non (upd H l (.lst (xs ++ zs)))
/-! ### x[i] = e -/
def putK (i : Nat) (d : D) (k : D) : S := fun ρ => match ownAt i ρ with
  | none => none
  | some (c, ds) => match k with
    | .int n => (ixN ds.length n).map fun a => (.nx, ρ.set i (some (c.mk (ds.set a d))))
    | _ => none
def sPutAt (i : Nat) (m : M D) (j : M D) : S := andThen m fun d ρ => match ownAt i ρ with
  | none => none
  | some _ => andThen j (putK i d) ρ
theorem ds_putAt {i : Nat} {x : Str} {a e : Expr} {f g : M D} {p spos pos : Pos} (hv : DV X Wx pa ε e f) (hi : DV X Wx pa ε' a g) (hN : X.N[i]? = some x := by rfl) (hvs : Vis X.env.scope x := by first | exact Or.inl rfl | exact Or.inr (Or.inl rfl) | exact Or.inr (Or.inr rfl)) (hd : (x == ("__debug__" : Str)) = false := by decide) (hcd : (x == ("__classdict__" : Str)) = false := by decide)
    (ha : ∀ v, assign (.Subscript (.Name x p) a spos) X.env v = (do
      let ov ← holding [v] (eval (.Name x p) X.env)
      let iv ← holding [v, ov] (eval a X.env)
      standAt spos
      holding [v, ov, iv] (setItem ov iv v)
      release [v, ov, iv] []) := by intro _; rfl)
    (hs : swapsWithSole [.Subscript (.Name x p) a spos] e pos.line X.env = pure false := by rfl) (hw : swappedStores [.Subscript (.Name x p) a spos] e X.env = pure none := by rfl)
    (h1 : (assignEach [.Subscript (.Name x p) a spos] X.env).map (·.2) = [assign (.Subscript (.Name x p) a spos) X.env] := by rfl) : DS X Wx pa (.Assign [.Subscript (.Name x p) a spos] e pos) (sPutAt i f g) := by
  obtain ⟨t, pe, hh⟩ := hv
  obtain ⟨u, pf, hg⟩ := hi
  refine ⟨_, ps_asg pe (pg_sub (pe_var hN hvs hd hcd) pf set_list ha) hs hw h1, fun W B H ρ σ D I h => ?_⟩
  refine hh W B H ρ σ _ I (FinV.mk h.exP fun d ρ1 e1 v B1 H1 eb eh I1 dp => ?_)
  unfold sPutAt at h
  rw [andThen_ok e1] at h
  split at h
  · exact h.elim
  · rename_i c0 q0
    obtain ⟨c0, ds0⟩ := c0
    obtain ⟨a1, a2⟩ := ownAt_some q0
    obtain ⟨p0, xs0, hv0, _, hH0, _, _⟩ := I1.own a1 a2
    refine ⟨_, hv0, hg W B1 H1 ρ1 σ _ I1 (FinV.mk (FinS.pull h eb).exP fun k ρ2 e2 iv B2 H2 eb2 eh2 I2 dk => ?_)⟩
    rw [andThen_ok e2] at h
    unfold putK at h
    split at h
    · exact h.elim
    · rename_i c ds q1
      obtain ⟨b1, b2⟩ := ownAt_some q1
      obtain ⟨p', xs', hv', hb', hH', dx, kk⟩ := I2.own b1 b2
      rw [hv0] at hv'
      injection hv' with hv'
      injection hv' with hv'
      injection hv' with hv'
      subst hv'
      split at h
      · rename_i n
        cases q2 : ixN ds.length n with
        | none => rw [q2] at h; exact h.elim
        | some a =>
          rw [q2] at h
          cases dk
          exact ⟨p0, xs', n, a, rfl, rfl, hH', by rw [dx.len]; exact q2, h σ B2 _ (eb.trans eb2) (kk _ _ (dx.set (ex_dp eb2 dp) a))⟩
      · exact h.elim
end
end MD


set_option Elab.async false
set_option linter.all false
set_option autoImplicit false
set_option maxRecDepth 100000
set_option maxHeartbeats 1000000
namespace MD
open PySem PySem.Spec PyProof.Rows L2
open Evl (Ex Ex.refl Ex.trans Ex.new ex_l ex_t ex_rd)

/-! ### what is walked -/
structure ItD (K : PySem.W.Frag) (J : It) (B : Hp) (ds : List D) : Prop where
  go : ∀ (i : Nat) (H : Hp), Ex B H → i < ds.length → J.go i H
  stop : ∀ (H : Hp), Ex B H → J.stop ds.length H
  yld : ∀ (i : Nat) (H : Hp) (x : V) (H' : Hp) (d : D) (B1 : Hp), Ex B B1 → Ex B1 H → ds[i]? = some d → J.yld i H x H' → ∃ B2, Grow B1 H B2 H' ∧ Dp K B2 x d
theorem ItD.mono {K : PySem.W.Frag} {J : It} {B B1 : Hp} {ds : List D} (h : ItD K J B ds) (e : Ex B B1) : ItD K J B1 ds :=
  ⟨fun i H x => h.go i H (e.trans x), fun H x => h.stop H (e.trans x), fun i H x H' d B2 e1 => h.yld i H x H' d B2 (e.trans e1)⟩
section
variable (X : Cx) (Wx : WX) (pa : Nat → Addr)
def FinI (ε : Bool) (W B H : Hp) (σ : L2.St) (R : It → Hp → Prop) : Option (Rs (List D) × Rho) → Prop
  | none => False
  | some (.ok ds, ρ') => ∀ (J : It) (B' H' : Hp), Ex B B' → (ε = false → Ex H H') → ER X.K pa W B' H' ρ' σ → ItD X.K J B' ds → R J H'
  | some (.ex c, ρ') => ExP X Wx pa W B σ c ρ'
structure DI (ε : Bool) (tg iter : Expr) (f : M (List D)) : Prop where
  ex : ∃ wi, PI X tg iter wi ∧ ∀ (W B H : Hp) (ρ : Rho) (σ : L2.St) (R : It → Hp → Prop), ER X.K pa W B H ρ σ → FinI X Wx pa ε W B H σ R (f ρ) → wi σ H R
end
section
variable {X : Cx} {Wx : WX} {pa : Nat → Addr} {ε ε' ε'' : Bool} {W B B1 H H1 : Hp} {σ : L2.St} {ρ : Rho} {Q : VK} {tg : Expr}
theorem FinI.exP {R : It → Hp → Prop} {o : Option (Rs (List D) × Rho)} (h : FinI X Wx pa ε W B H σ R o) : exPart X Wx pa W B σ o := by
  cases o with
  | none => exact h
  | some p =>
    obtain ⟨r, ρ'⟩ := p
    cases r with
    | ok d => trivial
    | ex c => exact h
theorem FinI.mk {R : It → Hp → Prop} {o : Option (Rs (List D) × Rho)} (he : exPart X Wx pa W B σ o) (hk : ∀ ds ρ', o = some (.ok ds, ρ') → ∀ (J : It) (B' H' : Hp), Ex B B' → (ε = false → Ex H H') → ER X.K pa W B' H' ρ' σ → ItD X.K J B' ds → R J H') : FinI X Wx pa ε W B H σ R o := by
  cases o with
  | none => exact he
  | some p =>
    obtain ⟨r, ρ'⟩ := p
    cases r with
    | ok d => exact hk d ρ' rfl
    | ex c => exact he
theorem FinI.opt {R : It → Hp → Prop} {o : Option (List D)} (h : FinI X Wx pa ε W B H σ R (optM o ρ)) : ∃ ds, o = some ds ∧ ∀ (J : It) (B' H' : Hp), Ex B B' → (ε = false → Ex H H') → ER X.K pa W B' H' ρ σ → ItD X.K J B' ds → R J H' := by
  cases o with
  | none => exact h.elim
  | some d => exact ⟨d, rfl, h⟩
def asL : D → Option (List D)
  | .list ds => some ds
  | _ => none
def asT : D → Option (List D)
  | .tuple ds => some ds
  | _ => none
def itL (m : M D) : M (List D) := bindM m fun d => optM (asL d)
def itT (m : M D) : M (List D) := bindM m fun d => optM (asT d)
theorem itD_list {K : PySem.W.Frag} {a : Addr} {xs : List V} {ds : List D} (hs : SqL K B a xs) (ha : DpAll K B xs ds) : ItD K (Itl K a) B ds where
  go := fun i H e hi => by
    have : i < xs.length := by rw [ha.len]; exact hi
    exact ⟨xs, xs[i], ex_l e hs, List.getElem?_eq_getElem this⟩
  stop := fun H e => ⟨xs, ex_l e hs, by rw [ha.len]; exact Nat.le_refl _⟩
  yld := fun i H x H' d B1 e1 e2 hd y => by
    obtain ⟨rfl, y⟩ := y
    exact ⟨B1, Grow.refl e2, ex_dp e1 (ha.getV hd (y xs (ex_l (e1.trans e2) hs)))⟩
theorem itD_tup {K : PySem.W.Frag} {a : Addr} {xs : List V} {ds : List D} (hs : SqT K B a xs) (ha : DpAll K B xs ds) : ItD K (Itt K a) B ds where
  go := fun i H e hi => by
    have : i < xs.length := by rw [ha.len]; exact hi
    exact ⟨xs, xs[i], ex_t e hs, List.getElem?_eq_getElem this⟩
  stop := fun H e => ⟨xs, ex_t e hs, by rw [ha.len]; exact Nat.le_refl _⟩
  yld := fun i H x H' d B1 e1 e2 hd y => by
    obtain ⟨rfl, y⟩ := y
    exact ⟨B1, Grow.refl e2, ex_dp e1 (ha.getV hd (y xs (ex_t (e1.trans e2) hs)))⟩
theorem di_list {iter : Expr} {f : M D} (h : DV X Wx pa ε iter f) : DI X Wx pa ε tg iter (itL f) := by
  obtain ⟨t, pe, hh⟩ := h
  refine ⟨_, pi_list pe, fun W B H ρ σ R I h => ?_⟩
  refine hh W B H ρ σ _ I (FinV.mk h.exP.bind fun d ρ1 e1 v B1 H1 eb eh I1 dp => ?_)
  replace h : FinI X Wx pa ε W B H σ R (optM (asL d) ρ1) := by rw [← bindM_ok (k := fun d => optM (asL d)) e1]; exact h
  obtain ⟨ds, ed, k⟩ := h.opt
  cases dp <;> cases ed
  rename_i a xs hs ha
  exact ⟨a, rfl, ⟨xs, ex_l I1.sub hs⟩, k _ B1 H1 eb eh I1 (itD_list hs ha)⟩
theorem di_tup {iter : Expr} {f : M D} (h : DV X Wx pa ε iter f) : DI X Wx pa ε tg iter (itT f) := by
  obtain ⟨t, pe, hh⟩ := h
  refine ⟨_, pi_tup pe, fun W B H ρ σ R I h => ?_⟩
  refine hh W B H ρ σ _ I (FinV.mk h.exP.bind fun d ρ1 e1 v B1 H1 eb eh I1 dp => ?_)
  replace h : FinI X Wx pa ε W B H σ R (optM (asT d) ρ1) := by rw [← bindM_ok (k := fun d => optM (asT d)) e1]; exact h
  obtain ⟨ds, ed, k⟩ := h.opt
  cases dp <;> cases ed
  rename_i a xs hs ha
  exact ⟨a, rfl, ⟨xs, ex_t I1.sub hs⟩, k _ B1 H1 eb eh I1 (itD_tup hs ha)⟩
/-- lo, lo + 1, .., below hi -/
def rngD (lo : Int) (n : Nat) : List D := (List.range n).map fun k => .int (lo + (k : Nat))
theorem rngD_len (lo : Int) (n : Nat) : (rngD lo n).length = n := by simp [rngD]
theorem itD_rng {K : PySem.W.Frag} (lo : Int) (n : Nat) : ItD K (Itr lo n) B (rngD lo n) where
  go := fun i H e hi => by rw [rngD_len] at hi; exact hi
  stop := fun H e => by rw [rngD_len]; exact Nat.le_refl _
  yld := fun i H x H' d B1 e1 e2 hd y => by
    obtain ⟨rfl, rfl⟩ := y
    refine ⟨B1, Grow.refl e2, ?_⟩
    unfold rngD at hd
    rw [List.getElem?_map] at hd
    have hi : i < n := by
      rcases Nat.lt_or_ge i n with h | h
      · exact h
      · rw [List.getElem?_eq_none (by simpa using h)] at hd; cases hd
    rw [List.getElem?_range hi] at hd
    cases hd
    exact .int _
def big (i : Int) : Bool := decide (-(2 ^ 62) ≤ i ∧ i < 2 ^ 62)
def rng1 : List D → Option (List D)
  | [.int j] => if big j then some (rngD 0 j.toNat) else none
  | _ => none
def rng2 : List D → Option (List D)
  | [.int i, .int j] => if big i && big j then some (rngD i (j - i).toNat) else none
  | _ => none
theorem di_range1 {a : Expr} {g : M (List D)} {p pos : Pos} (hg : Gl X "range") (hm : X.mg "range" = none) (ha : DA X Wx pa ε [a] g) (hs : starEach [a] X.env = [(false, eval a X.env)] := by rfl) : DI X Wx pa ε tg (.Call (.Name "range" p) [a] [] pos) (opA rng1 g) := by
  obtain ⟨_, t, pe, hh⟩ := ha
  refine ⟨_, pi_range1 hg hm pe hs, fun W B H ρ σ R I h => ?_⟩
  refine hh W B H ρ σ _ I (FinA.mk h.exP.bind fun ds ρ1 e1 vs B1 H1 eb eh I1 dps => ?_)
  replace h : FinI X Wx pa ε W B H σ R (optM (rng1 ds) ρ1) := by rw [← bindM_ok (k := fun ds => optM (rng1 ds)) e1]; exact h
  obtain ⟨zs, ez, k⟩ := h.opt
  unfold rng1 at ez
  split at ez
  · rename_i j
    split at ez
    · rename_i hb
      cases ez
      have hb := of_decide_eq_true hb
      cases dps with
      | cons hd ht =>
        cases ht
        cases hd
        exact ⟨j, rfl, hb.1, hb.2, k _ B1 H1 eb eh I1 (itD_rng 0 j.toNat)⟩
    · cases ez
  · cases ez
theorem di_range2 {a b : Expr} {g : M (List D)} {p pos : Pos} (hg : Gl X "range") (hm : X.mg "range" = none) (ha : DA X Wx pa ε [a, b] g) (hs : starEach [a, b] X.env = [(false, eval a X.env), (false, eval b X.env)] := by rfl) (hs2 : starEach [b] X.env = [(false, eval b X.env)] := by rfl) : DI X Wx pa ε tg (.Call (.Name "range" p) [a, b] [] pos) (opA rng2 g) := by
  obtain ⟨_, t, pe, hh⟩ := ha
  refine ⟨_, pi_range2 hg hm pe hs hs2, fun W B H ρ σ R I h => ?_⟩
  refine hh W B H ρ σ _ I (FinA.mk h.exP.bind fun ds ρ1 e1 vs B1 H1 eb eh I1 dps => ?_)
  replace h : FinI X Wx pa ε W B H σ R (optM (rng2 ds) ρ1) := by rw [← bindM_ok (k := fun ds => optM (rng2 ds)) e1]; exact h
  obtain ⟨zs, ez, k⟩ := h.opt
  unfold rng2 at ez
  split at ez
  · rename_i i j
    split at ez
    · rename_i hb
      cases ez
      rw [Bool.and_eq_true] at hb
      have h1 := of_decide_eq_true hb.1
      have h2 := of_decide_eq_true hb.2
      cases dps with
      | cons hd ht =>
        cases hd
        cases ht with
        | cons hd ht =>
          cases ht
          cases hd
          exact ⟨i, j, rfl, ⟨h1.1, h1.2, h2.1, h2.2⟩, k _ B1 H1 eb eh I1 (itD_rng i (j - i).toNat)⟩
    · cases ez
  · cases ez
/-! ### for -/
def forN (g : D → Rho → Option Rho) (body : S) : List D → S
  | [], ρ => some (.nx, ρ)
  | d :: ds, ρ => match g d ρ with
    | none => none
    | some ρ1 => match body ρ1 with
      | some (.nx, ρ2) => forN g body ds ρ2
      | some (.ct, ρ2) => forN g body ds ρ2
      | some (.bk, ρ2) => some (.nx, ρ2)
      | o => o
def sFor (g : D → Rho → Option Rho) (f : M (List D)) (body : S) : S := andThen f fun ds => forN g body ds
theorem ds_for {tg iter : Expr} {is : List Nat} {g : D → Rho → Option Rho} {f : M (List D)} {b : S} {body : List Stmt} {pos : Pos} (hp : PassesOwn (model X.prog X.w) X.A X.env X.xe) (hc : X.calm = true) (hi : DI X Wx pa ε tg iter f) (hg : DG (X := X) (pa := pa) tg is g) (hb : DSs X Wx pa body b)
    (hs : ∀ x, foldedSetIterable iter X.env x = pure x := by intro _; rfl) : DS X Wx pa (.For tg iter body [] pos) (sFor g f b) := by
  obtain ⟨wi, pi, hi⟩ := hi
  obtain ⟨tg', pg, hg⟩ := hg
  obtain ⟨tb, pb, hb⟩ := hb
  refine ⟨_, ps_for hp hc pi pg pb hs, fun W B H ρ σ D I h => ?_⟩
  refine hi W B H ρ σ _ I (FinI.mk h.exP fun ds ρ1 e1 J B1 H1 eb eh I1 it => ?_)
  unfold sFor at h
  rw [andThen_ok e1] at h
  refine ⟨fun i m σ' H' => i ≤ ds.length ∧ m = ds.length - i ∧ ∃ ρ' B', Ex B1 B' ∧ ER X.K pa W B' H' ρ' σ' ∧ FinS X Wx pa W B' D (forN g b (ds.drop i) ρ'), ⟨ds.length, Nat.zero_le _, rfl, ρ1, B1, Ex.refl _, I1, h.pull eb⟩, ?_⟩
  rintro i m σ' H' ⟨hl, rfl, ρ', B', eb', I', h'⟩
  by_cases hlt : i < ds.length
  · refine .inr ⟨it.go i H' (eb'.trans I'.sub) hlt, fun σ2 H2 => ∃ ρ2 B2, Ex B1 B2 ∧ ER X.K pa W B2 H2 ρ2 σ2 ∧ FinS X Wx pa W B2 D (forN g b (ds.drop (i + 1)) ρ2), fun σ2 H2 ⟨ρ2, B2, e2, I2, h2⟩ => ⟨ds.length - (i + 1), by omega, hlt, rfl, ρ2, B2, e2, I2, h2⟩, fun x H2 y => ?_⟩
    obtain ⟨B2, gr, dx⟩ := it.yld i H' x H2 ds[i] B' eb' I'.sub (List.getElem?_eq_getElem hlt) y
    rw [List.drop_eq_getElem_cons hlt] at h'
    unfold forN at h'
    have I2 := I'.grow gr
    cases q : g ds[i] ρ' with
    | none => rw [q] at h'; exact h'.elim
    | some ρ3 =>
      rw [q] at h'
      dsimp only at h'
      refine hg W B2 H2 ρ' ρ3 σ' x ds[i] _ I2 dx q fun σ3 I3 _ => ?_
      refine hb W B2 H2 ρ3 σ3 _ I3 ?_
      cases q2 : b ρ3 with
      | none => rw [q2] at h'; exact h'
      | some pr =>
        obtain ⟨o, ρ4⟩ := pr
        rw [q2] at h'
        cases o with
        | nx => exact fun σ4 B4 H4 e4 I4 => ⟨ρ4, B4, (eb'.trans gr.eb).trans e4, I4, h'.pull (gr.eb.trans e4)⟩
        | ct => exact fun σ4 B4 H4 e4 I4 => ⟨ρ4, B4, (eb'.trans gr.eb).trans e4, I4, h'.pull (gr.eb.trans e4)⟩
        | bk => exact fun σ4 B4 H4 e4 I4 => h' σ4 B4 H4 (gr.eb.trans e4) I4
        | rt c => exact fun v σ4 B4 H4 e4 I4 => h' v σ4 B4 H4 (gr.eb.trans e4) I4
        | ex c => exact fun C σ4 B4 H4 hm e4 I4 => h' C σ4 B4 H4 hm (gr.eb.trans e4) I4
  · have e : i = ds.length := by omega
    subst e
    rw [List.drop_length] at h'
    exact .inl ⟨it.stop H' (eb'.trans I'.sub), h' σ' B' H' (Ex.refl _) I'⟩
/-! ### while -/
def whileN (t : M Bool) (body : S) : Nat → S
  | 0, _ => none
  | n + 1, ρ => match t ρ with
    | none => none
    | some (.ex c, ρ1) => some (.ex c, ρ1)
    | some (.ok false, ρ1) => some (.nx, ρ1)
    | some (.ok true, ρ1) => match body ρ1 with
      | some (.nx, ρ2) => whileN t body n ρ2
      | some (.ct, ρ2) => whileN t body n ρ2
      | some (.bk, ρ2) => some (.nx, ρ2)
      | o => o
open Classical in
/-- as many turns as it wants -/
noncomputable def sWhile (t : M Bool) (body : S) : S := fun ρ => if h : ∃ n, whileN t body n ρ ≠ none then whileN t body h.choose ρ else none
theorem whileN_mono {t : M Bool} {body : S} : ∀ {n m : Nat} {ρ : Rho} {o : Out × Rho}, n ≤ m → whileN t body n ρ = some o → whileN t body m ρ = some o
  | 0, _, _, _, _, h => by cases h
  | n + 1, 0, _, _, hl, _ => by omega
  | n + 1, m + 1, ρ, o, hl, h => by
    unfold whileN at h ⊢
    split at h
    · cases h
    · exact h
    · exact h
    · rename_i ρ1 q
      split at h
      · exact whileN_mono (by omega) h
      · exact whileN_mono (by omega) h
      · exact h
      · exact h
theorem sWhile_of {t : M Bool} {body : S} {n : Nat} {o : Out × Rho} (h : whileN t body n ρ = some o) : sWhile t body ρ = some o := by
  have hx : ∃ n, whileN t body n ρ ≠ none := ⟨n, by rw [h]; simp⟩
  unfold sWhile
  rw [dif_pos hx]
  cases q : whileN t body hx.choose ρ with
  | none => exact absurd q hx.choose_spec
  | some o' =>
    rcases Nat.le_total n hx.choose with hl | hl
    · rw [whileN_mono hl h] at q; exact q.symm
    · rw [whileN_mono hl q] at h; exact h
theorem sWhile_some {t : M Bool} {body : S} (h : sWhile t body ρ ≠ none) : ∃ n, sWhile t body ρ = whileN t body n ρ := by
  unfold sWhile at h ⊢
  split
  · rename_i hx; exact ⟨_, rfl⟩
  · rename_i hx; rw [dif_neg hx] at h; exact absurd rfl h
theorem ds_while {c : Expr} {t : M Bool} {b : S} {body : List Stmt} {pos : Pos} (hp : PassesOwn (model X.prog X.w) X.A X.env X.xe) (hc : DT X Wx pa ε c t) (hb : DSs X Wx pa body b) : DS X Wx pa (.While c body [] pos) (sWhile t b) := by
  obtain ⟨tc, pc, hc⟩ := hc
  obtain ⟨tb, pb, hb⟩ := hb
  refine ⟨_, ps_while hp pc pb, fun W B H ρ σ D I h => ?_⟩
  have hne : sWhile t b ρ ≠ none := fun z => by rw [z] at h; exact h
  obtain ⟨n, hn⟩ := sWhile_some hne
  rw [hn] at h
  refine ⟨fun m σ' H' => ∃ ρ' B', Ex B B' ∧ ER X.K pa W B' H' ρ' σ' ∧ FinS X Wx pa W B' D (whileN t b m ρ'), ⟨n, ρ, B, Ex.refl _, I, h⟩, ?_⟩
  rintro m σ' H' ⟨ρ', B', eb', I', h'⟩
  cases m with
  | zero => exact h'.elim
  | succ m =>
    unfold whileN at h'
    have hx : exPart X Wx pa W B' σ' (t ρ') := by
      cases q : t ρ' with
      | none => rw [q] at h'; exact h'
      | some pr =>
        obtain ⟨r, ρ1⟩ := pr
        rw [q] at h'
        cases r with
        | ok k => trivial
        | ex c => exact fun C B2 H2 hm e2 I2 => h' C σ' B2 H2 hm e2 I2
    refine hc W B' H' ρ' σ' _ I' (FinT.mk hx fun k ρ1 e1 B1 H1 eb eh I1 => ?_)
    rw [e1] at h'
    cases k with
    | false => exact h' σ' B1 H1 eb I1
    | true =>
      dsimp only at h'
      refine ⟨fun σ2 H2 => ∃ ρ2 B2, Ex B B2 ∧ ER X.K pa W B2 H2 ρ2 σ2 ∧ FinS X Wx pa W B2 D (whileN t b m ρ2), fun σ2 H2 z => ⟨m, Nat.lt_succ_self _, z⟩, ?_⟩
      refine hb W B1 H1 ρ1 σ' _ I1 ?_
      cases q2 : b ρ1 with
      | none => rw [q2] at h'; exact h'
      | some pr =>
        obtain ⟨o, ρ4⟩ := pr
        rw [q2] at h'
        cases o with
        | nx => exact fun σ4 B4 H4 e4 I4 => ⟨ρ4, B4, (eb'.trans eb).trans e4, I4, FinS.pull h' (eb.trans e4)⟩
        | ct => exact fun σ4 B4 H4 e4 I4 => ⟨ρ4, B4, (eb'.trans eb).trans e4, I4, FinS.pull h' (eb.trans e4)⟩
        | bk => exact fun σ4 B4 H4 e4 I4 => h' σ4 B4 H4 (eb.trans e4) I4
        | rt c => exact fun v σ4 B4 H4 e4 I4 => h' v σ4 B4 H4 (eb.trans e4) I4
        | ex c => exact fun C σ4 B4 H4 hm e4 I4 => h' C σ4 B4 H4 hm (eb.trans e4) I4
/-! ### a comprehension -/
def wipeR (ρ : Rho) : List Nat → Rho
  | [] => ρ
  | v :: vs => (wipeR ρ vs).set v none
/-- the names of the block get their cells back -/
def back (ρ1 : Rho) (ρ2 : Rho) : List Nat → Rho
  | [] => ρ2
  | v :: vs => (back ρ1 ρ2 vs).set v ((ρ1[v]?).getD none)
def noOwn (ρ : Rho) (vs : List Nat) : Bool := vs.all fun v => match ρ[v]? with
  | some (some (.sh _)) => true
  | some (some _) => false
  | _ => true
def lcN (g : D → Rho → Option Rho) (test : M Bool) (elt : M D) (vs : List Nat) : List D → Rho → List D → Option (List D × Rho)
  | [], ρ, acc => some (acc, ρ)
  | d :: ds, ρ, acc => match g d ρ with
    | none => none
    | some ρ1 => match test ρ1 with
      | some (.ok true, ρ2) => match elt ρ2 with
        | some (.ok e, ρ3) => if acc.length < lim then lcN g test elt vs ds (wipeR ρ3 vs) (acc ++ [e]) else none
        | _ => none
      | some (.ok false, ρ2) => lcN g test elt vs ds (wipeR ρ2 vs) acc
      | _ => none
def mLc (f : M (List D)) (vs : List Nat) (g : D → Rho → Option Rho) (test : M Bool) (elt : M D) : M Cel := bindM f fun ds ρ1 => if noOwn ρ1 vs then match lcN g test elt vs ds (wipeR ρ1 vs) [] with
  | none => none
  | some (acc, ρ2) => some (.ok (.o1 acc), back ρ1 ρ2 vs) else none
theorem wipeR_len (ρ : Rho) : ∀ vs, (wipeR ρ vs).length = ρ.length
  | [] => rfl
  | v :: vs => by unfold wipeR; rw [List.length_set, wipeR_len ρ vs]
theorem wipeR_in {ρ : Rho} {i : Nat} {c : Cel} : ∀ {vs : List Nat}, (wipeR ρ vs)[i]? = some (some c) → i ∉ vs ∧ ρ[i]? = some (some c)
  | [], h => ⟨by simp, h⟩
  | v :: vs, h => by
    unfold wipeR at h
    by_cases hv : v = i
    · subst hv
      by_cases hl : v < (wipeR ρ vs).length
      · rw [List.getElem?_set_self hl] at h; cases h
      · rw [List.getElem?_eq_none (by rw [List.length_set]; omega)] at h; cases h
    · rw [List.getElem?_set_ne hv] at h
      obtain ⟨h1, h2⟩ := wipeR_in h
      exact ⟨by simp only [List.mem_cons, not_or]; exact ⟨fun z => hv z.symm, h1⟩, h2⟩
theorem ER.wipe {K : PySem.W.Frag} (I : ER K pa W B H ρ σ) (vs : List Nat) : ER K pa W B H (wipeR ρ vs) (L2.wipe σ vs) := by
  obtain ⟨φ, s⟩ := I
  refine ⟨φ, ⟨by rw [wipe_length, wipeR_len]; exact s.len, s.sub, s.frm, fun i c e => ?_, fun i ds e => ?_, s.nd, s.dis, s.off⟩⟩
  · obtain ⟨h1, h2⟩ := wipeR_in e
    obtain ⟨v, h3, h4⟩ := s.at_ i c h2
    exact ⟨v, by rw [wipe_out h1]; exact h3, h4⟩
  · obtain ⟨h1, h2⟩ := wipeR_in e
    rw [wipe_out h1]
    exact s.pin i ds h2
theorem wipe_in {i : Nat} {σ : L2.St} : ∀ {vs : List Nat}, i ∈ vs → i < σ.length → (L2.wipe σ vs)[i]? = some none
  | [], h, _ => absurd h (by simp)
  | v :: vs, h, hl => by
    unfold L2.wipe
    by_cases hv : v = i
    · subst hv
      rw [List.getElem?_set_self (by rw [wipe_length]; exact hl)]
    · rw [List.getElem?_set_ne hv]
      exact wipe_in (by rcases List.mem_cons.mp h with e | e; exact absurd e.symm hv; exact e) hl
theorem wipe_eq {σ σ' : L2.St} {is vs : List Nat} (hl : σ'.length = σ.length) (h : ∀ j, j ∉ is → σ'[j]? = σ[j]?) (hs : ∀ j, j ∈ is → j ∈ vs) : L2.wipe σ' vs = L2.wipe σ vs := by
  apply List.ext_getElem?
  intro j
  by_cases hj : j ∈ vs
  · by_cases hlt : j < σ.length
    · rw [wipe_in hj hlt, wipe_in hj (by rw [hl]; exact hlt)]
    · rw [List.getElem?_eq_none (by rw [wipe_length]; omega), List.getElem?_eq_none (by rw [wipe_length]; omega)]
  · rw [wipe_out hj, wipe_out hj]
    exact h j fun z => hj (hs j z)
theorem wipe_wipe {σ : L2.St} (vs : List Nat) : L2.wipe (L2.wipe σ vs) vs = L2.wipe σ vs := wipe_eq (is := vs) (wipe_length _ _) (fun j hj => wipe_out hj) fun _ h => h
/-- the new list stands beside -/
theorem ER.frame {K : PySem.W.Frag} {p : Addr} {o : HO} (I : ER K pa W B H ρ σ) (hp : H p = none) : ER K pa (upd W p o) B (upd H p o) ρ σ := by
  obtain ⟨φ, s⟩ := I.grow (grow_ow (o := o) I.sub hp)
  have hb : B p = none := by
    cases e : B p with
    | none => rfl
    | some u => rw [I.sub _ _ e] at hp; cases hp
  obtain ⟨φ0, s0⟩ := I
  have s1 := s0.grow (grow_ow (o := o) s0.sub hp)
  refine ⟨φ0, ⟨s1.len, s1.sub, fun a u e => ?_, s1.at_, s1.pin, s1.nd, s1.dis, fun i a ha => ?_⟩⟩
  · by_cases hq : a = p
    · subst hq; rw [upd_same] at e ⊢; exact ⟨e, hb⟩
    · rw [upd_ne hq] at e; exact s1.frm a u e
  · obtain ⟨z1, z2, z3⟩ := s1.off i a ha
    exact ⟨by rw [upd_ne (fun z => (s0.off i a ha).2.1 (by rw [z]; exact hp))]; exact z1, z2, z3⟩
theorem ER.reframe {K : PySem.W.Frag} {p : Addr} {o o' : HO} (I : ER K pa (upd W p o) B H ρ σ) : ER K pa (upd W p o') B (upd H p o') ρ σ := by
  obtain ⟨φ, s⟩ := I
  obtain ⟨hH, hB⟩ := s.frm p o upd_same
  have nb : ∀ a u, B a = some u → a ≠ p := fun a u q z => by rw [z, hB] at q; cases q
  have np : ∀ i a, a ∈ φ i → a ≠ p := fun i a ha z => by have := (s.off i a ha).1; rw [z, upd_same] at this; cases this
  have ow : ∀ {q : Addr} {fs : List D}, q ≠ p → Own1 K B H q fs → Own1 K B (upd H p o') q fs := fun hq ⟨zs, z1, z2, z3⟩ => ⟨zs, z1, by rw [upd_ne hq]; exact z2, z3⟩
  refine ⟨φ, ⟨s.len, fun a u q => by rw [upd_ne (nb a u q)]; exact s.sub a u q, fun a u e => ?_, fun i c e => ?_, s.pin, s.nd, s.dis, fun i a ha => ?_⟩⟩
  · by_cases hq : a = p
    · subst hq; rw [upd_same] at e ⊢; exact ⟨e, hB⟩
    · rw [upd_ne hq] at e ⊢
      exact s.frm a u (by rw [upd_ne hq]; exact e)
  · obtain ⟨v, z1, z2⟩ := s.at_ i c e
    refine ⟨v, z1, ?_⟩
    cases c with
    | sh d => exact z2
    | o1 _ => obtain ⟨q1, y1, y2, y3⟩ := z2; exact ⟨q1, y1, y2, ow (np i q1 (by rw [y2]; simp)) y3⟩
    | x1 _ => obtain ⟨q1, y1, y2, y3⟩ := z2; exact ⟨q1, y1, y2, ow (np i q1 (by rw [y2]; simp)) y3⟩
    | o2 _ =>
      obtain ⟨q1, qs, y1, y2, y3, y4, y5⟩ := z2
      refine ⟨q1, qs, y1, y2, y3, by rw [upd_ne (np i q1 (by rw [y2]; simp))]; exact y4, ?_⟩
      have hq : ∀ q, q ∈ qs → q ≠ p := fun q hm => np i q (by rw [y2]; exact List.mem_cons_of_mem _ hm)
      clear y2 y4 e
      induction y5 with
      | nil => exact .nil
      | cons a t ih => exact .cons (ow (hq _ (by simp)) a) (ih fun q hm => hq q (List.mem_cons_of_mem _ hm))
  · obtain ⟨z1, z2, z3⟩ := s.off i a ha
    rw [upd_ne (np i a ha)] at z1
    exact ⟨by rw [upd_ne (np i a ha)]; exact z1, by rw [upd_ne (np i a ha)]; exact z2, z3⟩
theorem back_len (ρ1 ρ2 : Rho) : ∀ vs, (back ρ1 ρ2 vs).length = ρ2.length
  | [] => rfl
  | v :: vs => by unfold back; rw [List.length_set, back_len ρ1 ρ2 vs]
theorem back_out {ρ1 ρ2 : Rho} {i : Nat} : ∀ {vs : List Nat}, i ∉ vs → (back ρ1 ρ2 vs)[i]? = ρ2[i]?
  | [], _ => rfl
  | v :: vs, h => by
    unfold back
    rw [List.mem_cons, not_or] at h
    rw [List.getElem?_set_ne (Ne.symm h.1), back_out h.2]
theorem back_in {ρ1 ρ2 : Rho} {i : Nat} : ∀ {vs : List Nat}, i ∈ vs → i < ρ2.length → (back ρ1 ρ2 vs)[i]? = some ((ρ1[i]?).getD none)
  | [], h, _ => absurd h (by simp)
  | v :: vs, h, hl => by
    unfold back
    by_cases hv : v = i
    · subst hv
      rw [List.getElem?_set_self (by rw [back_len]; exact hl)]
    · rw [List.getElem?_set_ne hv]
      exact back_in (by rcases List.mem_cons.mp h with e | e; exact absurd e.symm hv; exact e) hl
theorem noOwn_at {ρ : Rho} {vs : List Nat} {i : Nat} {c : Cel} (h : noOwn ρ vs = true) (hi : i ∈ vs) (e : ρ[i]? = some (some c)) : ∃ d, c = .sh d := by
  have q := List.all_eq_true.mp h i hi
  rw [e] at q
  cases c with
  | sh d => exact ⟨d, rfl⟩
  | o1 => cases q
  | o2 => cases q
  | x1 => cases q
theorem ER.back {K : PySem.W.Frag} {ρ1 ρ2 : Rho} {vs : List Nat} {p : Addr} {o : HO} (I1 : ER K pa W B H ρ1 σ) (no : noOwn ρ1 vs = true) (I2 : ER K pa (upd W p o) B1 H1 ρ2 (L2.wipe σ vs)) (eb : Ex B B1) (hp : H p = none) {acc : List V} {ds : List D} (ho : o = .lst acc) (da : DpAll K B1 acc ds) : EV K pa W B1 H1 (MD.back ρ1 ρ2 vs) σ (.ref p) (.o1 ds) := by
  subst ho
  obtain ⟨φ1, s1⟩ := I1
  obtain ⟨φ, s⟩ := I2
  have hl : ρ2.length = σ.length := by rw [← s.len, wipe_length]
  have hw : W p = none := by
    cases e : W p with
    | none => rfl
    | some u => rw [(s1.frm _ _ e).1] at hp; cases hp
  have wa : ∀ a u, W a = some u → upd W p (.lst acc) a = some u := fun a u e => by rw [upd_ne (fun z => by rw [z, hw] at e; cases e)]; exact e
  have np : ∀ i a, a ∈ φ i → a ≠ p := fun i a ha z => by have := (s.off i a ha).1; rw [z, upd_same] at this; cases this
  obtain ⟨hH, hB⟩ := s.frm p _ upd_same
  refine ⟨fun i => if i ∈ vs then [] else φ i, [p], ⟨by rw [back_len]; exact hl.symm, s.sub, fun a u e => s.frm a u (wa a u e), fun i c e => ?_, fun i es e => ?_, fun i => ?_, fun i j a hij ha hb => ?_, fun i a ha => ?_⟩, ⟨p, rfl, rfl, acc, hB, hH, da⟩, by simp, fun i a ha hi => ?_, fun a ha => ?_⟩
  · by_cases hi : i ∈ vs
    · have hlt : i < ρ2.length := by
        rcases Nat.lt_or_ge i ρ2.length with h | h
        · exact h
        · rw [List.getElem?_eq_none (by rw [back_len]; exact h)] at e; cases e
      rw [back_in hi hlt] at e
      have e : (ρ1[i]?).getD none = some c := by injection e
      have e1 : ρ1[i]? = some (some c) := by
        cases q : ρ1[i]? with
        | none => rw [q] at e; cases e
        | some x => rw [q] at e; exact congrArg some e
      obtain ⟨d, rfl⟩ := noOwn_at no hi e1
      obtain ⟨v, h1, h2⟩ := s1.at_ i _ e1
      exact ⟨v, h1, by simp only [hi, if_true]; exact ⟨rfl, ex_dp eb h2.2⟩⟩
    · rw [back_out hi] at e
      obtain ⟨v, h1, h2⟩ := s.at_ i c e
      rw [wipe_out hi] at h1
      exact ⟨v, h1, by simp only [hi, if_false]; exact h2⟩
  · by_cases hi : i ∈ vs
    · have hlt : i < ρ2.length := by
        rcases Nat.lt_or_ge i ρ2.length with h | h
        · exact h
        · rw [List.getElem?_eq_none (by rw [back_len]; exact h)] at e; cases e
      rw [back_in hi hlt] at e
      have e : (ρ1[i]?).getD none = some (.x1 es) := by injection e
      have e1 : ρ1[i]? = some (some (.x1 es)) := by
        cases q : ρ1[i]? with
        | none => rw [q] at e; cases e
        | some x => rw [q] at e; exact congrArg some e
      exact s1.pin i es e1
    · rw [back_out hi] at e
      have := s.pin i es e
      rw [wipe_out hi] at this
      exact this
  · by_cases hi : i ∈ vs
    · simp only [hi, if_true]; exact List.nodup_nil
    · simp only [hi, if_false]; exact s.nd i
  · by_cases hi : i ∈ vs
    · simp only [hi, if_true] at ha; exact absurd ha (by simp)
    · by_cases hj : j ∈ vs
      · simp only [hj, if_true] at hb; exact absurd hb (by simp)
      · simp only [hi, hj, if_false] at ha hb; exact s.dis i j a hij ha hb
  · by_cases hi : i ∈ vs
    · simp only [hi, if_true] at ha; exact absurd ha (by simp)
    · simp only [hi, if_false] at ha
      obtain ⟨z1, z2, z3⟩ := s.off i a ha
      rw [upd_ne (np i a ha)] at z1
      exact ⟨z1, z2, z3⟩
  · have ea : a = p := by simpa using ha
    by_cases hj : i ∈ vs
    · simp only [hj, if_true] at hi; exact absurd hi (by simp)
    · simp only [hj, if_false] at hi; exact np i a hi ea
  · have ea : a = p := by simpa using ha
    subst ea
    exact ⟨hw, by rw [hH]; simp, hB⟩
theorem finLc {wi : TI} {tgt : TG} {tt : TT} {te : TE} {f : M (List D)} {is vs : List Nat} {g : D → Rho → Option Rho} {test : M Bool} {elt : M D} {P : Cx → Prop}
    (hi : ∀ (W B H : Hp) (ρ : Rho) (σ : L2.St) (R : It → Hp → Prop), ER X.K pa W B H ρ σ → FinI X Wx pa ε W B H σ R (f ρ) → wi σ H R)
    (hg : ∀ (W B H : Hp) (ρ ρ' : Rho) (σ : L2.St) (v : V) (d : D) (Q : L2.St → Hp → Prop), ER X.K pa W B H ρ σ → Dp X.K B v d → g d ρ = some ρ' → (∀ σ', ER X.K pa W B H ρ' σ' → Agree is σ σ' → Q σ' H) → tgt v σ H Q)
    (ht : ∀ (W B H : Hp) (ρ ρ' : Rho) (σ : L2.St) (b : Bool) (Q : Bool → Hp → Prop), ER X.K pa W B H ρ σ → test ρ = some (.ok b, ρ') → (∀ (B' H' : Hp), Ex B B' → (ε' = false → Ex H H') → ER X.K pa W B' H' ρ' σ → Q b H') → tt σ H Q)
    (he : ∀ (W B H : Hp) (ρ ρ' : Rho) (σ : L2.St) (d : D) (Q : VK), ER X.K pa W B H ρ σ → elt ρ = some (.ok d, ρ') → (∀ (v : V) (B' H' : Hp), Ex B B' → (ε'' = false → Ex H H') → ER X.K pa W B' H' ρ' σ → Dp X.K B' v d → Q v H') → te σ H Q)
    (hs : ∀ j, j ∈ is → j ∈ vs) (I : ER X.K pa W B H ρ σ) (h : FinC X Wx pa (ε || (ε' || ε'')) W B H σ Q (mLc f vs g test elt ρ)) : tLc wi tgt tt te vs σ H Q := by
  refine hi W B H ρ σ _ I (FinI.mk h.exP.bind fun ds ρ1 e1 J B1 H1 eb eh I1 it => fun p hp => ?_)
  unfold mLc at h
  rw [bindM_ok e1] at h
  cases no : noOwn ρ1 vs with
  | false => rw [no] at h; exact h.elim
  | true =>
    rw [no] at h
    cases q0 : lcN g test elt vs ds (wipeR ρ1 vs) [] with
    | none => rw [q0] at h; exact h.elim
    | some pr =>
      obtain ⟨out, ρ2⟩ := pr
      rw [q0] at h
      have hB : B1 p = none := by
        cases e : B1 p with
        | none => rfl
        | some u => rw [I1.sub _ _ e] at hp; cases hp
      refine ⟨fun i m H' => i ≤ ds.length ∧ m = ds.length - i ∧ ∃ ρb B' acc accD, Ex B1 B' ∧ ((ε || (ε' || ε'')) = false → ∀ a o, H1 a = some o → H' a = some o) ∧ ER X.K pa (upd W p (.lst acc)) B' H' ρb (L2.wipe σ vs) ∧ DpAll X.K B' acc accD ∧ lcN g test elt vs (ds.drop i) ρb accD = some (out, ρ2),
        ⟨ds.length, Nat.zero_le _, rfl, wipeR ρ1 vs, B1, [], [], Ex.refl _, fun _ => Ex.new hp, (I1.wipe vs).frame hp, .nil, q0⟩, ?_⟩
      rintro i m H' ⟨hl, rfl, ρb, B', acc, accD, eb', eh', I', da, q'⟩
      by_cases hlt : i < ds.length
      · refine .inr ⟨it.go i H' (eb'.trans I'.sub) hlt, fun H2 => ∃ ρb B' acc accD, Ex B1 B' ∧ ((ε || (ε' || ε'')) = false → ∀ a o, H1 a = some o → H2 a = some o) ∧ ER X.K pa (upd W p (.lst acc)) B' H2 ρb (L2.wipe σ vs) ∧ DpAll X.K B' acc accD ∧ lcN g test elt vs (ds.drop (i + 1)) ρb accD = some (out, ρ2),
          fun H2 z => ⟨ds.length - (i + 1), by omega, hlt, rfl, z⟩, fun x H2 y => ?_⟩
        obtain ⟨B2, gr, dx⟩ := it.yld i H' x H2 ds[i] B' eb' I'.sub (List.getElem?_eq_getElem hlt) y
        rw [List.drop_eq_getElem_cons hlt] at q'
        unfold lcN at q'
        have I2 := I'.grow gr
        cases q : g ds[i] ρb with
        | none => rw [q] at q'; cases q'
        | some ρ3 =>
          rw [q] at q'
          dsimp only at q'
          refine hg _ B2 H2 ρb ρ3 _ x ds[i] _ I2 dx q fun σ3 I3 a3 => ?_
          have ew : L2.wipe σ3 vs = L2.wipe σ vs := by
            rw [wipe_eq (is := is) a3.1 a3.2 hs, wipe_wipe]
          refine ⟨by rw [ew], ?_⟩
          split at q'
          · rename_i ρ4 q4
            refine ht _ B2 H2 ρ3 ρ4 σ3 true _ I3 q4 fun B4 H4 e4 eh4 I4 => ?_
            simp only [if_true]
            split at q'
            · rename_i e5 ρ5 q5
              refine he _ B4 H4 ρ4 ρ5 σ3 e5 _ I4 q5 fun v B5 H5 eb5 eh5 I5 dv => ?_
              split at q'
              · rename_i hlen
                obtain ⟨_, s5⟩ := id I5
                obtain ⟨hD, _⟩ := s5.frm p _ upd_same
                have d5 : DpAll X.K B5 acc accD := ex_dpa ((gr.eb.trans e4).trans eb5) da
                refine ⟨acc, hD, lim_lt (by rw [d5.len]; exact hlen), wipeR ρ5 vs, B5, acc ++ [v], accD ++ [e5], ((eb'.trans gr.eb).trans e4).trans eb5, fun z a o ha => ?_, ?_, d5.append (.cons dv .nil), q'⟩
                · rw [upd_ne (fun w => by rw [w, hp] at ha; cases ha)]
                  exact eh5 (ef (ef z).2).2 _ _ (eh4 (ef (ef z).2).1 _ _ (gr.eh _ _ (eh' z a o ha)))
                · have := (I5.wipe vs).reframe (o' := .lst (acc ++ [v]))
                  rw [ew] at this
                  exact this
              · cases q'
            · cases q'
          · rename_i ρ4 q4
            refine ht _ B2 H2 ρ3 ρ4 σ3 false _ I3 q4 fun B4 H4 e4 eh4 I4 => ?_
            simp only [Bool.false_eq_true, if_false]
            refine ⟨wipeR ρ4 vs, B4, acc, accD, (eb'.trans gr.eb).trans e4, fun z a o ha => eh4 (ef (ef z).2).1 _ _ (gr.eh _ _ (eh' z a o ha)), ?_, ex_dpa (gr.eb.trans e4) da, q'⟩
            have := I4.wipe vs
            rw [ew] at this
            exact this
          · cases q'
      · have e : i = ds.length := by omega
        subst e
        rw [List.drop_length] at q'
        cases q'
        refine .inl ⟨it.stop H' (eb'.trans I'.sub), h _ B' H' (eb.trans eb') (fun z => (eh (ef z).1).trans (eh' z)) ?_⟩
        exact I1.back no I' eb' hp rfl da
end
end MD


set_option Elab.async false
set_option linter.all false
set_option autoImplicit false
set_option maxRecDepth 100000
set_option maxHeartbeats 1000000
namespace MD
open PySem PySem.Spec PyProof.Rows L2
open Evl (Ex Ex.refl Ex.trans Ex.new ex_l ex_t ex_rd)

/-- a comprehension's block, as it stands when it runs -/
structure Bk where
  s : Shared
  H : Hp
  C : Addr
  cl : List (Str × Addr)
  fp : List Addr
abbrev bkX (X : Cx) (scope : Scope) (b : Bk) : Cx := X.blk b.s b.H scope (compEnvC scope b.cl b.C X.env) b.fp
abbrev W0 : WX := fun _ _ _ _ => False
structure DTs (X : Cx) (Wx : WX) (pa : Nat → Addr) (ε : Bool) (ifs : List Expr) (f : M Bool) : Prop where
  ex : ∃ t, PTs X ifs t ∧ ∀ (W B H : Hp) (ρ : Rho) (σ : L2.St) (Q : Bool → Hp → Prop), ER X.K pa W B H ρ σ → FinT X Wx pa ε W B H σ Q (f ρ) → t σ H Q
section
variable {X : Cx} {Wx : WX} {pa : Nat → Addr} {ε ε' ε'' : Bool} {W B B1 H H1 : Hp} {σ : L2.St} {ρ : Rho} {Q : VK} {tg : Expr}
theorem dts_nil : DTs X Wx pa false [] (pureM true) := ⟨_, pts_nil, fun W B H ρ σ Q I h => h B H (Ex.refl _) (fun _ => Ex.refl _) I⟩
theorem dts_one {c : Expr} {f : M Bool} (h : DT X Wx pa ε c f) : DTs X Wx pa ε [c] f := by
  obtain ⟨t, pe, hh⟩ := h
  exact ⟨_, pts_one pe, hh⟩
/-- what is common to both forms of a comprehension -/
theorem lc_parts {elt tg iter : Expr} {ifs : List Expr} {scope : Scope} {own : List (Str × Nat)} {is : List Nat} {g : D → Rho → Option Rho} {f : M (List D)} {test : M Bool} {e : M D}
    (hi : DI X Wx pa ε tg iter f) (hg : ∀ b, DG (X := bkX X scope b) (pa := pa) tg is g) (ht : ∀ b, DTs (bkX X scope b) W0 pa ε' ifs test) (he : ∀ b, DV (bkX X scope b) W0 pa ε'' elt e) (hs : ∀ j, j ∈ is → j ∈ own.map (·.2)) :
    ∃ wi tgt tt te, PI X tg iter wi ∧ (∀ b, PG (bkX X scope b) tg tgt) ∧ (∀ b, PTs (bkX X scope b) ifs tt) ∧ (∀ b, PE (bkX X scope b) elt te) ∧
      ∀ (W B H : Hp) (ρ : Rho) (σ : L2.St) (Q : VK), ER X.K pa W B H ρ σ → FinC X Wx pa (ε || (ε' || ε'')) W B H σ Q (mLc f (own.map (·.2)) g test e ρ) → tLc wi tgt tt te (own.map (·.2)) σ H Q := by
  obtain ⟨wi, pi, hi⟩ := hi
  refine ⟨wi, fun v σ H Q => ∀ b, (hg b).ex.choose v σ H Q, fun σ H Q => ∀ b, (ht b).ex.choose σ H Q, fun σ H Q => ∀ b, (he b).ex.choose σ H Q, pi, fun b => ?_, fun b => ?_, fun b => ?_, fun W B H ρ σ Q I h => ?_⟩
  · exact ⟨fun pins s σ H v u Q I r h => (hg b).ex.choose_spec.1.run pins s σ H v u Q I r (h b)⟩
  · exact ⟨fun pins s σ H Q I h => (ht b).ex.choose_spec.1.run pins s σ H Q I (h b)⟩
  · exact ⟨fun pins s σ H Q I h => (he b).ex.choose_spec.1.run pins s σ H Q I (h b)⟩
  · refine finLc (P := fun _ => True) hi (fun W B H ρ ρ' σ v d Q I dp q k b => (hg b).ex.choose_spec.2 W B H ρ ρ' σ v d Q I dp q k) (fun W B H ρ ρ' σ c Q I q k b => ?_) (fun W B H ρ ρ' σ d Q I q k b => ?_) hs I h
    · refine (ht b).ex.choose_spec.2 W B H ρ σ Q I ?_
      rw [q]
      exact k
    · refine (he b).ex.choose_spec.2 W B H ρ σ Q I ?_
      rw [q]
      exact k
theorem de_lc {elt tg iter : Expr} {ifs : List Expr} {scope : Scope} {own : List (Str × Nat)} {is : List Nat} {g : D → Rho → Option Rho} {f : M (List D)} {test : M Bool} {e : M D} {pos : Pos} (hc : X.calm = true) (nd : X.N.Nodup) (ok : blkC X.N X.env.scope scope own = true)
    (hi : DI X Wx pa ε tg iter f) (hg : ∀ b, DG (X := bkX X scope b) (pa := pa) tg is g) (ht : ∀ b, DTs (bkX X scope b) W0 pa ε' ifs test) (he : ∀ b, DV (bkX X scope b) W0 pa ε'' elt e) (hs : ∀ j, j ∈ is → j ∈ own.map (·.2) := by decide)
    (hf : ∀ x, foldedSetIterable iter X.env x = pure x := by intro _; rfl) :
    DE X Wx pa (ε || (ε' || ε'')) (.ListComp elt [⟨tg, iter, ifs, 0⟩] scope pos) (mLc f (own.map (·.2)) g test e) := by
  obtain ⟨wi, tgt, tt, te, p1, p2, p3, p4, p5⟩ := lc_parts hi hg ht he hs
  exact ⟨_, pe_lc hc nd p1 (blkOk_by ok) (fun s H C cl fp => p2 ⟨s, H, C, cl, fp⟩) (fun s H C cl fp => p3 ⟨s, H, C, cl, fp⟩) (fun s H C cl fp => p4 ⟨s, H, C, cl, fp⟩) hf, p5⟩
/-- y = [..] on one line -/
theorem ds_setLc {i : Nat} {y : Str} {py : Pos} {elt tg iter : Expr} {ifs : List Expr} {scope : Scope} {own : List (Str × Nat)} {is : List Nat} {g : D → Rho → Option Rho} {f : M (List D)} {test : M Bool} {e : M D} {pos spos : Pos} (hc : X.calm = true) (nd : X.N.Nodup) (ok : blkC X.N X.env.scope scope own = true)
    (hi : DI X Wx pa ε tg iter f) (hg : ∀ b, DG (X := bkX X scope b) (pa := pa) tg is g) (ht : ∀ b, DTs (bkX X scope b) W0 pa ε' ifs test) (he : ∀ b, DV (bkX X scope b) W0 pa ε'' elt e) (hs : ∀ j, j ∈ is → j ∈ own.map (·.2) := by decide)
    (hy : X.N[i]? = some y := by rfl) (hyl : X.env.scope.names.lookup y = some .local := by rfl) (hsw : swapsWith (.ListComp elt [⟨tg, iter, ifs, 0⟩] scope pos) (some (.Name y py)) spos.line X.env = pure true := by exact sw_true rfl rfl rfl (by decide +kernel))
    (hf : ∀ x, foldedSetIterable iter X.env x = pure x := by intro _; rfl) :
    DS X Wx pa (.Assign [.Name y py] (.ListComp elt [⟨tg, iter, ifs, 0⟩] scope pos) spos) (sSet i (mLc f (own.map (·.2)) g test e)) := by
  obtain ⟨wi, tgt, tt, te, p1, p2, p3, p4, p5⟩ := lc_parts hi hg ht he hs
  refine ⟨_, ps_setLc hc nd hy hyl hsw p1 (blkOk_by ok) (fun s H C cl fp => p2 ⟨s, H, C, cl, fp⟩) (fun s H C cl fp => p3 ⟨s, H, C, cl, fp⟩) (fun s H C cl fp => p4 ⟨s, H, C, cl, fp⟩) hf, fun W B H ρ σ D I h => ?_⟩
  refine p5 W B H ρ σ _ I (FinC.mk h.exP fun c ρ1 e1 v B1 H1 eb eh I1 => ?_)
  replace h : FinS X Wx pa W B D (nxt (putC i c ρ1)) := by rw [← andThen_ok (k := fun c ρ => nxt (putC i c ρ)) e1]; exact h
  obtain ⟨ρ', e2, k⟩ := h.nxt
  exact k _ B1 H1 eb (I1.put e2)
end

/-! ### a def by its body -/
/-- what the lent lists are behind it -/
def outs : List Cel → Rho → Option (List Cel)
  | [], _ => some []
  | .sh d :: cs, _ :: ρ => (outs cs ρ).map (.sh d :: ·)
  | .x1 _ :: cs, some (.x1 ds) :: ρ => (outs cs ρ).map (.x1 ds :: ·)
  | _, _ => none
def mDef (n : Nat) (body : S) : FM := fun cs => match body (cs.map some ++ List.replicate n none) with
  | some (.nx, ρ) => (outs cs ρ).map fun cs' => (.ok (.sh .none), cs')
  | some (.rt c, ρ) => (outs cs ρ).map fun cs' => (.ok c, cs')
  | some (.ex x, ρ) => (outs cs ρ).map fun cs' => (.ex x, cs')
  | _ => none
theorem outs_at : ∀ {cs : List Cel} {ρ : Rho} {cs' : List Cel}, outs cs ρ = some cs' → cs'.length = cs.length ∧ ∀ (i : Nat) (c' : Cel), cs'[i]? = some c' → (∃ d, c' = .sh d ∧ cs[i]? = some (.sh d)) ∨ (∃ ds es, c' = .x1 es ∧ cs[i]? = some (.x1 ds) ∧ ρ[i]? = some (some (.x1 es)))
  | [], _, _, h => by cases h; exact ⟨rfl, fun i c' e => by simp at e⟩
  | .sh d :: cs, [], _, h => by cases h
  | .sh d :: cs, x :: ρ, cs', h => by
    unfold outs at h
    cases q : outs cs ρ with
    | none => rw [q] at h; cases h
    | some zs =>
      rw [q] at h
      cases h
      obtain ⟨h1, h2⟩ := outs_at q
      refine ⟨by rw [List.length_cons, List.length_cons, h1], fun i c' e => ?_⟩
      cases i with
      | zero => simp at e; subst e; exact .inl ⟨d, rfl, rfl⟩
      | succ i => simpa using h2 i c' (by simpa using e)
  | .x1 ds :: cs, some (.x1 es) :: ρ, cs', h => by
    unfold outs at h
    cases q : outs cs ρ with
    | none => rw [q] at h; cases h
    | some zs =>
      rw [q] at h
      cases h
      obtain ⟨h1, h2⟩ := outs_at q
      refine ⟨by rw [List.length_cons, List.length_cons, h1], fun i c' e => ?_⟩
      cases i with
      | zero => simp at e; subst e; exact .inr ⟨ds, es, rfl, rfl, rfl⟩
      | succ i => simpa using h2 i c' (by simpa using e)
  | .x1 ds :: cs, some (.sh _) :: ρ, cs', h => by cases h
  | .x1 ds :: cs, some (.o1 _) :: ρ, cs', h => by cases h
  | .x1 ds :: cs, some (.o2 _) :: ρ, cs', h => by cases h
  | .x1 ds :: cs, none :: ρ, cs', h => by cases h
  | .x1 ds :: cs, [], cs', h => by cases h
  | .o1 ds :: cs, _, cs', h => by cases h
  | .o2 ds :: cs, _, cs', h => by cases h
section
variable {K : PySem.W.Frag} {pa : Nat → Addr} {W B B1 H H1 : Hp} {σ : L2.St} {ρ : Rho}
/-- the names of a def at its entry -/
theorem ER.entry {vs : List V} {cs : List Cel} {N : List Str} (I : ER K pa W B H (cs.map some) (vs.map some)) (hn : vs.length ≤ N.length) : ER K pa W B H (cs.map some ++ List.replicate (N.length - vs.length) none) (L2.start N vs) := by
  obtain ⟨φ, s⟩ := I
  have hl := s.len
  simp only [List.length_map] at hl
  have key : ∀ (i : Nat) (c : Cel), (cs.map some ++ List.replicate (N.length - vs.length) (none : Option Cel))[i]? = some (some c) → (cs.map some)[i]? = some (some c) ∧ i < vs.length := fun i c e => by
    by_cases hi : i < cs.length
    · rw [List.getElem?_append_left (by simpa using hi)] at e
      exact ⟨e, by omega⟩
    · rw [List.getElem?_append_right (by simpa using hi), List.getElem?_replicate] at e
      split at e <;> cases e
  have st : ∀ i, i < vs.length → (L2.start N vs)[i]? = (vs.map some)[i]? := fun i hi => by
    unfold L2.start
    rw [List.getElem?_append_left (by simpa using hi)]
  refine ⟨φ, ⟨?_, s.sub, s.frm, fun i c e => ?_, fun i ds e => ?_, s.nd, s.dis, s.off⟩⟩
  · unfold L2.start
    rw [List.length_append, List.length_append, List.length_map, List.length_map, List.length_replicate, List.length_replicate, hl]
  · obtain ⟨e1, e2⟩ := key i c e
    obtain ⟨v, h1, h2⟩ := s.at_ i c e1
    exact ⟨v, by rw [st i e2]; exact h1, h2⟩
  · obtain ⟨e1, e2⟩ := key i _ e
    rw [st i e2]
    exact s.pin i ds e1
/-- .. and at its end -/
theorem outs_er {vs : List V} {cs cs' : List Cel} {φ : Nat → List Addr} (I : ER K pa W B H (cs.map some) (vs.map some)) (s : Slots K pa W B1 H1 ρ σ φ) (eb : Ex B B1) (o : outs cs ρ = some cs') :
    Slots K pa W B1 H1 (cs'.map some) (vs.map some) (fun i => match cs'[i]? with | some (.x1 _) => φ i | _ => []) := by
  obtain ⟨φ0, s0⟩ := I
  obtain ⟨hl, ha⟩ := outs_at o
  have l0 := s0.len
  simp only [List.length_map] at l0
  have vat : ∀ (i : Nat) (c : Cel), cs[i]? = some c → ∃ v, (vs.map some)[i]? = some (some v) ∧ RC K B H v c (φ0 i) := fun i c e => s0.at_ i c (by rw [List.getElem?_map, e]; rfl)
  refine ⟨by simp [l0, hl], s.sub, s.frm, fun i c e => ?_, fun i ds e => ?_, fun i => ?_, fun i j a hij h1 h2 => ?_, fun i a h1 => ?_⟩
  · rw [List.getElem?_map] at e
    cases q : cs'[i]? with
    | none => rw [q] at e; cases e
    | some c' =>
      rw [q] at e
      have e : some (some c') = some (some c) := e
      injection e with e
      injection e with e
      subst e
      rcases ha i c' q with ⟨d, rfl, hc⟩ | ⟨ds, es, rfl, hc, hr⟩
      · obtain ⟨v, h1, h2⟩ := vat i _ hc
        exact ⟨v, h1, rfl, ex_dp eb h2.2⟩
      · obtain ⟨v, h1, h2⟩ := s.at_ i _ hr
        have p1 := s.pin i es hr
        rw [p1] at h1
        injection h1 with h1
        injection h1 with h1
        subst h1
        have p0 := s0.pin i ds (by rw [List.getElem?_map, hc]; rfl)
        exact ⟨_, p0, h2⟩
  · rw [List.getElem?_map] at e
    cases q : cs'[i]? with
    | none => rw [q] at e; cases e
    | some c' =>
      rw [q] at e
      have e : some (some c') = some (some (.x1 ds)) := e
      injection e with e
      injection e with e
      subst e
      rcases ha i _ q with ⟨d, z, _⟩ | ⟨ds', es, z, hc, hr⟩
      · cases z
      · exact s0.pin i ds' (by rw [List.getElem?_map, hc]; rfl)
  · split
    · exact s.nd i
    · exact List.nodup_nil
  · split at h1
    · split at h2
      · exact s.dis i j a hij h1 h2
      · exact absurd h2 (by simp)
    · exact absurd h1 (by simp)
  · split at h1
    · exact s.off i a h1
    · exact absurd h1 (by simp)
end
theorem len_spOf {K : PySem.W.Frag} {mg : Str → Option Value} {n : Nat} {fm : FM} {ps : List Str} (h : ps.length = n) : ∀ vs H Q E, SpOf K mg n fm vs H Q E → vs.length = ps.length := fun vs H Q E q => by rw [q.1, h]
/-- what a def's body may lean on -/
structure BCx (X : Cx) (Wx : WX) (k : Nat) : Prop where
  tk : Takes X Wx
  own : PassesOwn (model X.prog X.w) X.A X.env X.xe
  calm : X.calm = true
  nd : X.N.Nodup
  room : Room k X.A
theorem BCx.hu {X : Cx} {Wx : WX} {k : Nat} (C : BCx X Wx k) : X.A.units + 65 < cLine := by have := C.room.un; omega
theorem BCx.bk {X : Cx} {Wx : WX} {k : Nat} (C : BCx X Wx k) (scope : Scope) (b : Bk) : BCx (bkX X scope b) W0 k := ⟨takes0, PassesOwn.never, C.calm, C.nd, C.room⟩
theorem df_ok {P : Program} {w : World} {K : PySem.W.Frag} {mg : Str → Option Value} {base : Heap} {x qual : Str} {st : Stmt} {f : Addr} {fd : FuncData} {N ps : List Str} {k : Nat} {body : S} (F : Fun K x qual st f fd) (S : FnScope N ps (defScope st))
    (hb : ∀ (f : Addr) (cdv : Value) (A : Around) (outer : List Env) (s : Shared) (H : Hp) (E : XK) (pa : Nat → Addr), BCx (cxOf (L2.CX P w) P w K mg base N qual (defScope st) f cdv A outer s H E) (fun cls d _ H' => E cls d H') k →
      DSs (cxOf (L2.CX P w) P w K mg base N qual (defScope st) f cdv A outer s H E) (fun cls d _ H' => E cls d H') pa (defBody st) body) :
    FnOk P w K mg base (L2.CX P w) (k + 1) f fd ps (SpOf K mg ps.length (mDef (N.length - ps.length) body)) := by
  refine F.okX S (len_spOf rfl) (fun cdv A outer s H vs Q E hr h => ?_)
  obtain ⟨hl, W, B, pa, cs, I, h⟩ := h
  have C : BCx (cxOf (L2.CX P w) P w K mg base N qual (defScope st) f cdv A outer s H E) (fun cls d _ H' => E cls d H') k := ⟨takes_of rfl rfl rfl rfl, passes_of rfl, rfl, S.nd, hr⟩
  obtain ⟨t, pe, hh⟩ := hb f cdv A outer s H E pa C
  have hpl : ps.length ≤ N.length := by have := congrArg List.length S.pre; rw [List.length_take] at this; omega
  refine ⟨t, pe, hh W B H (cs.map some ++ List.replicate (N.length - vs.length) none) (L2.start N vs) _ (I.entry (by omega)) ?_⟩
  have lc : cs.length = vs.length := by have := I.len; simpa using this.symm
  unfold mDef at h
  rw [← hl] at h
  cases q : body (cs.map some ++ List.replicate (N.length - vs.length) none) with
  | none => rw [q] at h; exact h
  | some pr =>
    obtain ⟨o, ρ'⟩ := pr
    rw [q] at h
    cases o with
    | bk => exact h.elim
    | ct => exact h.elim
    | nx =>
      dsimp only at h
      cases q2 : outs cs ρ' with
      | none => rw [q2] at h; exact h.elim
      | some cs' =>
        rw [q2] at h
        refine fun σ' B' H' eb ⟨φ, s⟩ => h .non B' H' eb ?_
        exact ⟨_, [], outs_er I s eb q2, ⟨rfl, .non⟩, List.nodup_nil, (fun _ _ z => absurd z (by simp)), (fun _ z => absurd z (by simp))⟩
    | rt c =>
      dsimp only at h
      cases q2 : outs cs ρ' with
      | none => rw [q2] at h; exact h.elim
      | some cs' =>
        rw [q2] at h
        refine fun v σ' B' H' eb ⟨φ, ψ, s, r, nd, dis, off⟩ => h v B' H' eb ?_
        refine ⟨_, ψ, outs_er I s eb q2, r, nd, fun i a ha hi => ?_, off⟩
        split at hi
        · exact dis i a ha hi
        · exact absurd hi (by simp)
    | ex c =>
      dsimp only at h
      cases q2 : outs cs ρ' with
      | none => rw [q2] at h; exact h.elim
      | some cs' =>
        rw [q2] at h
        refine fun C σ' B' H' hm eb ⟨φ, s⟩ => h C B' H' hm eb ⟨_, outs_er I s eb q2⟩

/-! ### a call that lends the list in slot i -/
def callO (fm : FM) (i : Nat) (ds : List D) : M Cel := fun ρ => match ownAt i ρ with
  | none => none
  | some (c, es) => match fm (.x1 es :: ds.map Cel.sh) with
    | some (.ok r, .x1 es' :: _) => some (.ok r, ρ.set i (some (c.mk es')))
    | _ => none
def mCallO (fm : FM) (i : Nat) (g : M (List D)) : M Cel := fun ρ => match ownAt i ρ with
  | none => none
  | some _ => bindM g (callO fm i) ρ
section
variable {X : Cx} {Wx : WX} {pa : Nat → Addr} {ε ε' ε'' : Bool} {W B B1 H H1 : Hp} {σ : L2.St} {ρ : Rho} {Q : VK} {tg : Expr}
theorem slots_args {K : PySem.W.Frag} {p : Addr} {xs vs : List V} {es ds : List D} (sub : Ex B H) (hB : B p = none) (hH : H p = some (.lst xs)) (dx : DpAll K B xs es) (h : DpAll K B vs ds) :
    ER K (fun _ => p) (fun a => if a = p then none else beside B H a) B H ((Cel.x1 es :: ds.map Cel.sh).map some) ((V.ref p :: vs).map some) := by
  refine ⟨fun i => if i = 0 then [p] else [], ⟨by simp [h.len], sub, fun a o e => ?_, fun i c e => ?_, fun i zs e => ?_, fun i => ?_, fun i j a hij h1 h2 => ?_, fun i a h1 => ?_⟩⟩
  · split at e
    · cases e
    · exact ⟨(beside_some.mp e).2, (beside_some.mp e).1⟩
  · cases i with
    | zero =>
      simp at e
      subst e
      exact ⟨.ref p, rfl, p, rfl, rfl, xs, hB, hH, dx⟩
    | succ i =>
      simp only [List.map_cons, List.getElem?_cons_succ, List.map_map, List.getElem?_map] at e
      cases q : ds[i]? with
      | none => rw [q] at e; cases e
      | some d =>
        rw [q] at e
        have e : some (some (Cel.sh d)) = some (some c) := e
        injection e with e
        injection e with e
        subst e
        obtain ⟨v, h1, h2⟩ := h.get q
        exact ⟨v, by simp [h1], rfl, h2⟩
  · cases i with
    | zero => rfl
    | succ i =>
      simp only [List.map_cons, List.getElem?_cons_succ, List.map_map, List.getElem?_map] at e
      cases q : ds[i]? with
      | none => rw [q] at e; cases e
      | some d =>
        rw [q] at e
        have e : some (some (Cel.sh d)) = some (some (Cel.x1 zs)) := e
        injection e with e
        injection e with e
        cases e
  · split <;> simp
  · split at h1
    · split at h2
      · omega
      · exact absurd h2 (by simp)
    · exact absurd h1 (by simp)
  · split at h1
    · have : a = p := by simpa using h1
      subst this
      exact ⟨if_pos rfl, by rw [hH]; simp, hB⟩
    · exact absurd h1 (by simp)
/-- behind a call that was lent the list in slot i -/
theorem EV.afterO {K : PySem.W.Frag} {i : Nat} {c0 : Cel} {p : Addr} {xs : List V} {es es' : List D} {cs' : List Cel} {us : List V} {v : V} {c : Cel} (h : ER K pa W B H ρ σ) (hi : ρ[i]? = some (some c0)) (hc : c0.own = some es) (hv : σ[i]? = some (some (.ref p))) (hB : B p = none) (hH : H p = some (.lst xs)) (eb : Ex B B1)
    (k : EV K (fun _ => p) (fun a => if a = p then none else beside B H a) B1 H1 ((Cel.x1 es' :: cs').map some) ((V.ref p :: us).map some) v c) : EV K pa W B1 H1 (ρ.set i (some (c0.mk es'))) σ v c := by
  obtain ⟨φ', ψ, s', r, nd, dis, off⟩ := k
  obtain ⟨φ, s⟩ := h
  have hp : φ i = [p] := by
    obtain ⟨u, h1, h2⟩ := s.at_ i c0 hi
    rw [hv] at h1
    injection h1 with h1
    injection h1 with h1
    subst h1
    cases c0 with
    | o1 ds' => obtain ⟨q, e1, e2, _⟩ := h2; cases e1; exact e2
    | x1 ds' => obtain ⟨q, e1, e2, _⟩ := h2; cases e1; exact e2
    | sh d => cases hc
    | o2 d => cases hc
  have fr : ∀ a o, a ≠ p → B a = none → H a = some o → H1 a = some o ∧ B1 a = none := fun a o ha hb hh => s'.frm a o (by rw [if_neg ha]; exact beside_some.mpr ⟨hb, hh⟩)
  have pn : ∀ j a, j ≠ i → a ∈ φ j → a ≠ p := fun j a hj ha z => s.dis j i a hj ha (by rw [hp, z]; simp)
  obtain ⟨u0, z0, q0⟩ := s'.at_ 0 (.x1 es') rfl
  have z0 : u0 = .ref p := by have : some (some (V.ref p)) = some (some u0) := z0; injection this with this; injection this with this; exact this.symm
  subst z0
  obtain ⟨p', e1, e2, o1⟩ := q0
  cases e1
  have wp : W p = none := (s.off i p (by rw [hp]; simp)).1
  have ow : ∀ {q : Addr} {fs : List D}, q ≠ p → Own1 K B H q fs → Own1 K B1 H1 q fs := fun hq ⟨zs, z1, z2, z3⟩ => ⟨zs, (fr _ _ hq z1 z2).2, (fr _ _ hq z1 z2).1, ex_dpa eb z3⟩
  have hl : i < ρ.length := (List.getElem?_eq_some_iff.mp hi).1
  refine ⟨φ, ψ, ⟨by rw [List.length_set]; exact s.len, s'.sub, fun a o e => ?_, fun j c' q => ?_, fun j fs q => ?_, s.nd, s.dis, fun j a ha => ?_⟩, r, nd, fun j a ha hj => ?_, fun a ha => ⟨?_, (off a ha).2⟩⟩
  · exact fr a o (fun z => by rw [z, wp] at e; cases e) (s.frm a o e).2 (s.frm a o e).1
  · by_cases hj : j = i
    · subst hj
      rw [List.getElem?_set_self hl] at q
      cases q
      refine ⟨.ref p, hv, ?_⟩
      cases c0 with
      | o1 _ => exact ⟨p, rfl, hp, o1⟩
      | x1 _ => exact ⟨p, rfl, hp, o1⟩
      | sh _ => cases hc
      | o2 _ => cases hc
    · rw [List.getElem?_set_ne (Ne.symm hj)] at q
      obtain ⟨u, z1, z2⟩ := s.at_ j c' q
      refine ⟨u, z1, ?_⟩
      have off' := fun a => pn j a hj
      cases c' with
      | sh d => exact ⟨z2.1, ex_dp eb z2.2⟩
      | o1 _ => obtain ⟨q1, y1, y2, y3⟩ := z2; exact ⟨q1, y1, y2, ow (off' q1 (by rw [y2]; simp)) y3⟩
      | x1 _ => obtain ⟨q1, y1, y2, y3⟩ := z2; exact ⟨q1, y1, y2, ow (off' q1 (by rw [y2]; simp)) y3⟩
      | o2 _ =>
        obtain ⟨q1, qs, y1, y2, y3, y4, y5⟩ := z2
        have f1 := fr _ _ (off' q1 (by rw [y2]; simp)) y3 y4
        refine ⟨q1, qs, y1, y2, f1.2, f1.1, ?_⟩
        have hq : ∀ q, q ∈ qs → q ≠ p := fun q hm => off' q (by rw [y2]; exact List.mem_cons_of_mem _ hm)
        clear y2 y4 q f1
        induction y5 with
        | nil => exact .nil
        | cons a t ih => exact .cons (ow (hq _ (by simp)) a) (ih fun q hm => hq q (List.mem_cons_of_mem _ hm))
  · by_cases hj : j = i
    · subst hj
      rw [List.getElem?_set_self hl] at q
      cases c0 with
      | x1 ds' => exact s.pin j ds' hi
      | o1 _ => cases q
      | sh _ => cases hc
      | o2 _ => cases hc
    · rw [List.getElem?_set_ne (Ne.symm hj)] at q
      exact s.pin j fs q
  · obtain ⟨z1, z2, z3⟩ := s.off j a ha
    by_cases hz : a = p
    · subst hz
      obtain ⟨zs, y1, y2, y3⟩ := o1
      exact ⟨z1, by rw [y2]; simp, y1⟩
    · obtain ⟨o, ho⟩ := ne_some z2
      have q := fr a o hz z3 ho
      exact ⟨z1, by rw [q.1]; simp, q.2⟩
  · by_cases hz : a = p
    · exact dis 0 a ha (by rw [e2, hz]; simp)
    · obtain ⟨z1, z2, z3⟩ := s.off j a hj
      obtain ⟨o, ho⟩ := ne_some z2
      have : (if a = p then none else beside B H a) = none := (off a ha).1
      rw [if_neg hz, beside_some.mpr ⟨z3, ho⟩] at this
      cases this
  · by_cases hz : a = p
    · rw [hz]; exact wp
    · cases e : W a with
      | none => rfl
      | some o =>
        have q := s.frm a o e
        have : (if a = p then none else beside B H a) = none := (off a ha).1
        rw [if_neg hz, beside_some.mpr ⟨q.2, q.1⟩] at this
        cases this
theorem de_callO {k j n i : Nat} {f : Addr} {fd : FuncData} {ps : List Str} {fm : FM} {x y : Str} {p p2 pos : Pos} {es : List Expr} {g : M (List D)} (C : Takes X Wx) (F : FnOk X.prog X.w X.K X.mg X.base (L2.CX X.prog X.w) j f fd ps (SpOf X.K X.mg n fm)) (hr : Room k X.A) (hj : j ≤ k) (hg : Gl X x) (hm : X.mg x = some (.ref f)) (hk : PySem.W.keepIn X.K (.ref f) = true) (hb : Binds X.K fd ps [])
    (ha : DA X Wx pa ε es g) (hn : es.length + 1 = n := by rfl) (hN : X.N[i]? = some y := by rfl) (hvs : Vis X.env.scope y := by first | exact Or.inl rfl | exact Or.inr (Or.inl rfl) | exact Or.inr (Or.inr rfl)) (hd : (y == ("__debug__" : Str)) = false := by decide) (hcd : (y == ("__classdict__" : Str)) = false := by decide) (hdb : (x == ("__debug__" : Str)) = false := by decide) (he : starEach (.Name y p2 :: es) X.env = (false, eval (.Name y p2) X.env) :: starEach es X.env := by rfl) (hpl : (backTo pos (starEach es X.env)).any (·.1) = false := by rfl) :
    DE X Wx pa true (.Call (.Name x p) (.Name y p2 :: es) [] pos) (mCallO fm i g) := by
  obtain ⟨hlen, t, pe, hh⟩ := ha
  refine ⟨_, pe_callS F (hr.mono hj) hg hm hk hb (fun σ => passAt C σ) (pa_cons (pe_var hN hvs hd hcd) pe he) hdb he hpl, fun W B H ρ σ Q I h => ?_⟩
  unfold mCallO at h
  split at h
  · exact h.elim
  · rename_i c0 q0
    obtain ⟨c0, es0⟩ := c0
    obtain ⟨a1, a2⟩ := ownAt_some q0
    obtain ⟨p0, xs0, hv0, _, hH0, _, _⟩ := I.own a1 a2
    refine ⟨_, hv0, hh W B H ρ σ _ I (FinA.mk h.exP.bind fun ds ρ1 e1 vs B1 H1 eb eh I1 dps => ?_)⟩
    rw [bindM_ok e1] at h
    unfold callO at h
    split at h
    · exact h.elim
    · rename_i c es q1
      obtain ⟨b1, b2⟩ := ownAt_some q1
      obtain ⟨p', xs', hv', hb', hH', dx, kk⟩ := I1.own b1 b2
      rw [hv0] at hv'
      injection hv' with hv'
      injection hv' with hv'
      injection hv' with hv'
      subst hv'
      split at h
      · rename_i r es' cs' q2
        refine ⟨by rw [List.length_cons, dps.len, hlen _ _ _ e1]; exact hn, _, B1, fun _ => p0, .x1 es :: ds.map Cel.sh, slots_args I1.sub hb' hH' dx dps, ?_⟩
        rw [q2]
        exact fun v B' H' eb' k' => h v B' H' (eb.trans eb') (fun z => by cases z) (EV.afterO I1 b1 b2 hv0 hb' hH' eb' k')
      · exact h.elim
end
end MD


set_option Elab.async false
set_option linter.all false
set_option autoImplicit false
set_option maxRecDepth 100000
set_option maxHeartbeats 4000000
namespace MD
open PySem PySem.Spec PyProof.Rows L2
open Evl (Ex Ex.refl Ex.trans Ex.new ex_l ex_t ex_rd)

/-! ### set(xs) of a list of ints: its order too -/
section
variable {P : Program} {w : World} {A : Around} {E : Value → Shared → Prop} {s : Shared}
abbrev newS (w : World) : Obj := { cls := .type "set", dict := none, data := .set #[] 0 (.fresh 0 0 (!w.params.followText "set-order")) }
def SetEnd (w : World) (s : Shared) (ns : List Int) (r : Value) (s2 : Shared) : Prop := r = .none ∧ ∃ h' tk c, s2 = { s with heap := h', toks := tk } ∧ SetR w h' s.heap.objs.size (fun j => decide (j ∈ ns)) c ∧ c ≤ ns.length ∧ ∀ b o, s.heap.get? b = some o → h'.get? b = some o
theorem newS_at (s : Shared) : (s.heap.push (newS w)).get? s.heap.objs.size = some (newS w) := Heap.get?_push_size _ rfl
theorem ints_at {items : Array Value} {ns : List Int} (hit : IntsAre items.toList ns) : items.size = ns.length ∧ ∀ (i : Nat) (v : Value), items[i]? = some v → ∃ k t, ns[i]? = some k ∧ v = .int k t := by
  have hz : items.size = ns.length := by have q := hit.length; simpa using q
  refine ⟨hz, fun i v hv => ?_⟩
  obtain ⟨hi, _⟩ := Array.getElem?_eq_some_iff.mp hv
  obtain ⟨t, e⟩ := PyProof.Rows.IntsAre.int_at hit i v (by rw [Array.getElem?_toList]; exact hv)
  have hi2 : i < ns.length := hz ▸ hi
  exact ⟨ns[i], t, List.getElem?_eq_getElem hi2, by rw [e]; simp [List.getD_eq_getElem?_getD, List.getElem?_eq_getElem hi2]⟩
theorem call_setL {l : Addr} {items : Array Value} {Q : Value → Shared → Prop} (ns : List Int) (hh : A.handled = none) (hl : s.heap.IsList l items) (hit : IntsAre items.toList ns) (hb : ns.length + 1 < scanBound)
    (k : ∀ (h' : Heap) (tk c : Nat), SetR w h' s.heap.objs.size (fun j => decide (j ∈ ns)) c → c ≤ ns.length → (∀ b o, s.heap.get? b = some o → h'.get? b = some o) → Q (.ref s.heap.objs.size) { s with heap := h', toks := tk }) :
    wpAny (model P w) A (call (.type "set") [.ref l]) Q E s := by
  obtain ⟨hz, hat⟩ := ints_at hit
  obtain ⟨c0, c1, c2⟩ := F.called_set.mro
  have b1 := F.called_set.made
  have b2 := F.called_set.sub
  have b3 := F.called_set.notType
  have b4 := F.called_set.canCreate
  have b5 := F.typeCall_set_1 (.ref l)
  refine wpAny_call (codeAny_of_tree (show wpAny _ _ (callAny (.type "set") _) _ _ _ from wpAny_pure ⟨Code.quiet_builtin _ (by decide +kernel), codeAny_builtin F.entry_type_call ?_⟩))
  rw [Around.under_plain (weight_type_call_type "set" [.ref l] []) rfl]
  repeat (any_goals (first | assumption | wp_step))
  refine codeAny_mono (code_set_led1 (.ref l) (E := E) (Q₁ := fun o z => o = .ref s.heap.objs.size ∧ z = { s with heap := s.heap.push (newS w) }) ⟨rfl, rfl⟩) fun r z hr => ?_
  rcases r with e | fl
  · exact hr
  · cases fl with
    | next => exact hr.elim
    | brk => exact hr.elim
    | cont => exact hr.elim
    | ret o =>
    obtain ⟨rfl, rfl⟩ := hr
    have nT : Shared.TypeIs { s with heap := s.heap.push (newS w) } (.ref s.heap.objs.size) "set" := ⟨_, newS_at s, rfl⟩
    have b6 := F.called_set.init.lookup
    have b7 := F.called_set.init.bind (.ref s.heap.objs.size)
    repeat (any_goals (first | assumption | wp_step))
    refine codeAny_mono (codeAny_call_builtin (R := wants (SetEnd w s ns) E) F.called_set.init.plain F.entry_set_init (check_set_init_1 nT ?_)) fun r2 z2 hr2 => ?_
    · have hls : l < s.heap.objs.size := by obtain ⟨o, ho, _⟩ := hl; exact Heap.lt_size ho
      have hl1 : (s.heap.push (newS w)).IsList l items := hl.push _
      obtain ⟨⟨oc, od, oa, os⟩, ho, e1, n, e2⟩ := hl
      cases e1
      cases e2
      have ho' := Heap.get?_push_of_some (newS w) ho
      have n1 := F.sub_list_set
      have n2 := F.sub_list_frozenset
      have n3 : (Value.type "list" == Value.type "dict") = false := by decide
      unfold Builtin.«set.__init__» noKeywords Builtin.Frozenset.updateFrom
      generalize hPI : pyIter = PI
      wp_walk
      subst hPI
      refine wpAny_pyIter_list hl1 (wpAny_bind (wpAny_runValue ?_))
      have z1 : (s.heap.push (newS w)).objs.size = s.heap.objs.size + 1 := Heap.size_push ..
      have off : s.heap.objs.size ∉ [(s.heap.push (newS w)).objs.size, l] := by
        rw [z1, List.mem_cons, List.mem_singleton]
        exact fun z => z.elim (Nat.ne_of_lt (Nat.lt_succ_self _)) (Nat.ne_of_gt hls)
      refine set_update_ints ((Walks.list (show A.in1.in1.in1.handled = none by simp [hh]) _ l (show l ≠ (s.heap.push (newS w)).objs.size by rw [z1]; exact Nat.ne_of_lt (Nat.lt_succ_of_lt hls)) items).toS) s.heap.objs.size off ns hz hb hat items.size 0 _ (Nat.sub_zero _) (Nat.zero_le _) ⟨⟨_, Heap.get?_push_size _ rfl, rfl, rfl⟩, hl1.push _⟩ ⟨0, Nat.le_refl 0, setR_new_at (Heap.get?_push_of_some _ (newS_at s))⟩ fun z2 c' hm hc' hS' => ?_
      obtain ⟨h', g2, d', tk', os'⟩ := z2
      cases hm.gens
      cases hm.drawn
      cases hm.os
      refine (wpAny_pure ?_ : wpAny _ _ _ _ _ _)
      refine (wpAny_pure ?_ : wpAny _ _ (ret Value.none) _ _ _)
      refine ⟨rfl, h', tk', c', rfl, hS', hz ▸ hc', fun b o e => hm.heap b o ?_ (Heap.get?_push_of_some _ (Heap.get?_push_of_some _ e))⟩
      have hbs := Heap.lt_size e
      rw [z1, List.mem_cons, List.mem_singleton]
      exact fun z => z.elim (Nat.ne_of_lt hbs) (Nat.ne_of_lt (Nat.lt_succ_of_lt hbs))
    · rcases r2 with e | fl
      · exact hr2
      · cases fl with
        | next => exact hr2.elim
        | brk => exact hr2.elim
        | cont => exact hr2.elim
        | ret r3 =>
        obtain ⟨rfl, h', tk, c', rfl, hS', hc', hk'⟩ := hr2
        repeat (any_goals (first | assumption | wp_step))
        exact k _ _ _ hS' hc' hk'
end
end MD


set_option Elab.async false
set_option linter.all false
set_option autoImplicit false
set_option maxRecDepth 100000
set_option maxHeartbeats 1000000
namespace MD
open PySem PySem.Spec PyProof.Rows L2
open Evl (Ex Ex.refl Ex.trans Ex.new ex_l ex_t ex_rd)

/-! ### sorted -/
def tupNE : D → Bool
  | .tuple (_ :: _) => true
  | _ => false
def keyOk : D → Bool
  | .none => false
  | .tuple _ => false
  | _ => true
def srtOk (ds : List D) : Bool := decide (ds.length ≤ lim) && (ds.all fun d => ds.all fun e => PySem.W.alike d e) && (ds.all tupNE || ds.all keyOk) && ds.all fun d => decide (d.depth ≤ 50)
def srtD (ds : List D) : List D := ds.mergeSort (PySem.W.dataLe false id)
def pSorted (ds : List D) : Option (List D) := if srtOk ds then some (srtD ds) else none
def rSortD (K : PySem.W.Frag) : List V → Hp → VK → Prop := fun vs H Q => ∃ (B : Hp) (a : Addr) (xs : List V) (ds : List D), vs = [.ref a] ∧ Ex B H ∧ SqL K H a xs ∧ DpAll K B xs ds ∧ srtOk ds = true ∧
  ∀ (ys : List V) (p : Addr), DpAll K B ys (srtD ds) → H p = none → Q (.ref p) (upd H p (.lst ys))
section
variable {X : Cx}
theorem each_dp {K : PySem.W.Frag} {B : Hp} : ∀ {xs : List V} {us : List Value} {ds : List D}, Vals xs us → DpAll K B xs ds → PySem.W.EachIs (fun u d => ∃ x, RelV x u ∧ Dp K B x d) us ds
  | _, _, _, .nil, .nil => .nil
  | _, _, _, .cons r rs, .cons h t => .cons ⟨_, r, h⟩ (each_dp rs t)
theorem dp_each {K : PySem.W.Frag} {B : Hp} : ∀ {us : List Value} {ds : List D}, PySem.W.EachIs (fun u d => ∃ x, RelV x u ∧ Dp K B x d) us ds → ∃ xs, Vals xs us ∧ DpAll K B xs ds
  | _, _, .nil => ⟨[], .nil, .nil⟩
  | _, _, .cons ⟨x, r, h⟩ t => by
    obtain ⟨xs, h1, h2⟩ := dp_each t
    exact ⟨x :: xs, .cons r h1, .cons h h2⟩
theorem each_reads {pins : List (Addr × Obj)} {σ : L2.St} {H : Hp} {s : Shared} (I : Inv X pins σ H s) : ∀ {xs : List V} {us : List Value} {ds : List D}, Vals xs us → DpAll X.K H xs ds → PySem.W.EachIs (fun u d => ∃ as, Reads s.heap u (id d) as) us ds
  | _, _, _, .nil, .nil => .nil
  | _, _, _, .cons r rs, .cons h t => .cons (Dp.reads I _ _ _ h r) (each_reads I rs t)
theorem cr_sortedD (hu : X.A.units + 65 < cLine) : CallR X (.builtin "sorted") (rSortD X.K) := by
  intro pins s σ H vs us Q I r h
  obtain ⟨B, a, xs, ds, rfl, sub, hs, da, ok, q⟩ := h
  obtain ⟨its, rv, hl, hz⟩ := I.list hs
  rw [Vals.ref1 r]
  unfold srtOk at ok
  simp only [Bool.and_eq_true, Bool.or_eq_true, List.all_eq_true, decide_eq_true_eq] at ok
  obtain ⟨⟨⟨o1, o2⟩, o3⟩, o4⟩ := ok
  have hlen : ds.length ≤ sizeLine := lim_le o1
  refine PySem.W.sorted_data (enc := id) hl.isList (each_dp rv da) (each_reads I rv (ex_dpa sub da)) (by rw [List.map_id]; exact o2) (by
    rw [List.map_id]
    rcases o3 with o3 | o3
    · refine .inl fun d hd => ?_
      have := o3 d hd
      unfold tupNE at this
      split at this
      · exact ⟨_, _, rfl⟩
      · cases this
    · refine .inr fun d hd => ?_
      have := o3 d hd
      constructor
      · rintro rfl; cases this
      · rintro zs rfl; cases this) hlen (fun b hb => by have := o4 b hb; show X.A.units + 2 + b.depth < cLine; omega) fun out e1 e2 => ?_
  obtain ⟨ys, y1, y2⟩ := dp_each e2
  obtain ⟨ep, he'⟩ := PyProof.Rows.sortedAll_at s.heap its out.toArray
  have hly : ys.length ≤ sizeLine := by rw [y1.length, e1]; exact hlen
  exact ⟨.ref _, upd H (s.heap.objs.size + 1) (.lst ys), I.laid (t' := s.toks) (fun _ _ => PyProof.Rows.sortedAll_old) (Nat.le_succ _) ⟨hly, out, ep, y1, he'⟩, rfl, q ys _ y2 (I.hok.fresh (Nat.le_succ _))⟩
theorem ld_sorted : ListLD X (rSortD X.K) pSorted := by
  intro B H a xs ds zs Q sub hs dx ez k
  unfold pSorted at ez
  split at ez
  · rename_i ok
    cases ez
    exact ⟨B, a, xs, ds, rfl, sub, hs, dx, ok, fun ys p dy hp => k p ys hp dy⟩
  · cases ez

/-! ### order of data -/
def cmpOk (d e : D) : Bool := PySem.W.alike d e && !(match d with | .none => true | _ => false) && decide (d.depth ≤ 50)
def ltD (d e : D) : Option D := if cmpOk d e then some (.bool (PySem.W.dataLt d e)) else none
def gtD (d e : D) : Option D := if cmpOk d e then some (.bool (PySem.W.dataLt e d)) else none
def leD (d e : D) : Option D := if cmpOk d e then some (.bool (!PySem.W.dataLt e d)) else none
def geD (d e : D) : Option D := if cmpOk d e then some (.bool (!PySem.W.dataLt d e)) else none
def rOrdD (K : PySem.W.Frag) (w : D → D → Option D) : R2 := fun x y H Q => ∃ d e b, Dp K H x d ∧ Dp K H y e ∧ w d e = some (.bool b) ∧ Q (.bl b) H
theorem cmpOk_at {d e : D} (h : cmpOk d e = true) : PySem.W.alike d e = true ∧ d ≠ .none ∧ d.depth ≤ 50 := by
  unfold cmpOk at h
  simp only [Bool.and_eq_true, decide_eq_true_eq] at h
  obtain ⟨⟨h1, h2⟩, h3⟩ := h
  refine ⟨h1, fun z => ?_, h3⟩
  subst z
  cases h2
theorem op_ltD' (hu : X.A.units + 65 < cLine) : OpR X (compareOp .Lt) (rOrdD X.K ltD) := by
  intro pins s σ H x y v u Q I rx ry h
  obtain ⟨d, e, b, hd, he, hw, q⟩ := h
  unfold ltD at hw
  split at hw
  · rename_i ok
    cases hw
    obtain ⟨o1, o2, o3⟩ := cmpOk_at ok
    obtain ⟨as, r1⟩ := Dp.reads I d x v hd rx
    obtain ⟨bs, r2⟩ := Dp.reads I e y u he ry
    exact PySem.W.lt_data r1 r2 o1 o2 (by omega) ⟨.bl _, H, I, rfl, q⟩
  · cases hw
theorem op_gtD' (hu : X.A.units + 65 < cLine) : OpR X (compareOp .Gt) (rOrdD X.K gtD) := by
  intro pins s σ H x y v u Q I rx ry h
  obtain ⟨d, e, b, hd, he, hw, q⟩ := h
  unfold gtD at hw
  split at hw
  · rename_i ok
    cases hw
    obtain ⟨o1, o2, o3⟩ := cmpOk_at ok
    obtain ⟨as, r1⟩ := Dp.reads I d x v hd rx
    obtain ⟨bs, r2⟩ := Dp.reads I e y u he ry
    exact PySem.W.gt_data r1 r2 o1 o2 (by omega) ⟨.bl _, H, I, rfl, q⟩
  · cases hw
theorem op_leD' (hu : X.A.units + 65 < cLine) : OpR X (compareOp .LtE) (rOrdD X.K leD) := by
  intro pins s σ H x y v u Q I rx ry h
  obtain ⟨d, e, b, hd, he, hw, q⟩ := h
  unfold leD at hw
  split at hw
  · rename_i ok
    cases hw
    obtain ⟨o1, o2, o3⟩ := cmpOk_at ok
    obtain ⟨as, r1⟩ := Dp.reads I d x v hd rx
    obtain ⟨bs, r2⟩ := Dp.reads I e y u he ry
    exact PySem.W.le_data r1 r2 o1 o2 (by omega) ⟨.bl _, H, I, rfl, q⟩
  · cases hw
theorem op_geD' (hu : X.A.units + 65 < cLine) : OpR X (compareOp .GtE) (rOrdD X.K geD) := by
  intro pins s σ H x y v u Q I rx ry h
  obtain ⟨d, e, b, hd, he, hw, q⟩ := h
  unfold geD at hw
  split at hw
  · rename_i ok
    cases hw
    obtain ⟨o1, o2, o3⟩ := cmpOk_at ok
    obtain ⟨as, r1⟩ := Dp.reads I d x v hd rx
    obtain ⟨bs, r2⟩ := Dp.reads I e y u he ry
    exact PySem.W.ge_data r1 r2 o1 o2 (by omega) ⟨.bl _, H, I, rfl, q⟩
  · cases hw
theorem od_ord {w : D → D → Option D} (hb : ∀ d e z, w d e = some z → ∃ b, z = .bool b) : OpD X (rOrdD X.K w) w := by
  intro B H x y d e z Q sub hx hy ew k
  obtain ⟨b, rfl⟩ := hb d e z ew
  exact ⟨d, e, b, ex_dp sub hx, ex_dp sub hy, ew, k _ B H (Grow.refl sub) (.bl b)⟩
theorem ltD_b (d e z : D) (h : ltD d e = some z) : ∃ b, z = .bool b := by unfold ltD at h; split at h <;> cases h; exact ⟨_, rfl⟩
theorem gtD_b (d e z : D) (h : gtD d e = some z) : ∃ b, z = .bool b := by unfold gtD at h; split at h <;> cases h; exact ⟨_, rfl⟩
theorem leD_b (d e z : D) (h : leD d e = some z) : ∃ b, z = .bool b := by unfold leD at h; split at h <;> cases h; exact ⟨_, rfl⟩
theorem geD_b (d e z : D) (h : geD d e = some z) : ∃ b, z = .bool b := by unfold geD at h; split at h <;> cases h; exact ⟨_, rfl⟩
end
end MD


set_option Elab.async false
set_option linter.all false
set_option autoImplicit false
set_option maxRecDepth 100000
set_option maxHeartbeats 1000000
namespace MD
open PySem PySem.Spec PyProof.Rows L2
open Evl (Ex Ex.refl Ex.trans Ex.new ex_l ex_t ex_rd)

/-! ### sets of ints -/
def insU (x : Int) : List Int → List Int
  | [] => [x]
  | y :: r => if x < y then x :: y :: r else if x = y then y :: r else y :: insU x r
def sortU (ns : List Int) : List Int := ns.foldr insU []
theorem insU_mem {x k : Int} : ∀ {l : List Int}, k ∈ insU x l ↔ k = x ∨ k ∈ l
  | [] => by simp [insU]
  | y :: r => by
    unfold insU
    split
    · simp
    · split
      · rename_i h; subst h; simp
      · rw [List.mem_cons, insU_mem (l := r), List.mem_cons]
        constructor
        · rintro (h | h | h)
          · exact .inr (.inl h)
          · exact .inl h
          · exact .inr (.inr h)
        · rintro (h | h | h)
          · exact .inr (.inl h)
          · exact .inl h
          · exact .inr (.inr h)
theorem insU_pw {x : Int} : ∀ {l : List Int}, l.Pairwise (· < ·) → (insU x l).Pairwise (· < ·)
  | [], _ => by simp [insU]
  | y :: r, h => by
    obtain ⟨h1, h2⟩ := List.pairwise_cons.mp h
    unfold insU
    split
    · rename_i hx
      exact List.pairwise_cons.mpr ⟨fun z hz => by rcases List.mem_cons.mp hz with e | e; omega; have := h1 z e; omega, h⟩
    · split
      · exact h
      · refine List.pairwise_cons.mpr ⟨fun z hz => ?_, insU_pw h2⟩
        rcases insU_mem.mp hz with e | e
        · omega
        · exact h1 z e
theorem sortU_mem {k : Int} : ∀ {ns : List Int}, k ∈ sortU ns ↔ k ∈ ns
  | [] => by simp [sortU]
  | n :: r => by
    show k ∈ insU n (sortU r) ↔ _
    rw [insU_mem, sortU_mem (ns := r), List.mem_cons]
theorem sortU_pw : ∀ ns : List Int, (sortU ns).Pairwise (· < ·)
  | [] => .nil
  | n :: r => insU_pw (sortU_pw r)
theorem pw_eq : ∀ {l m : List Int}, l.Pairwise (· < ·) → m.Pairwise (· < ·) → (∀ k, k ∈ l ↔ k ∈ m) → l = m
  | [], [], _, _, _ => rfl
  | [], y :: m, _, _, h => absurd ((h y).mpr (by simp)) (by simp)
  | x :: l, [], _, _, h => absurd ((h x).mp (by simp)) (by simp)
  | x :: l, y :: m, hl, hm, h => by
    obtain ⟨l1, l2⟩ := List.pairwise_cons.mp hl
    obtain ⟨m1, m2⟩ := List.pairwise_cons.mp hm
    have e : x = y := by
      rcases List.mem_cons.mp ((h x).mp (by simp)) with e | e
      · exact e
      · rcases List.mem_cons.mp ((h y).mpr (by simp)) with e2 | e2
        · exact e2.symm
        · have := m1 x e; have := l1 y e2; omega
    subst e
    refine congrArg (x :: ·) (pw_eq l2 m2 fun k => ⟨fun hk => ?_, fun hk => ?_⟩)
    · rcases List.mem_cons.mp ((h k).mp (List.mem_cons_of_mem _ hk)) with e | e
      · have := l1 k hk; omega
      · exact e
    · rcases List.mem_cons.mp ((h k).mpr (List.mem_cons_of_mem _ hk)) with e | e
      · have := m1 k hk; omega
      · exact e
theorem sortU_nodup (ns : List Int) : (sortU ns).Nodup := (sortU_pw ns).imp fun h => by omega
theorem len_sortU {l : List Int} (nd : l.Nodup) {ns : List Int} (h : ∀ k, k ∈ l ↔ k ∈ ns) : l.length = (sortU ns).length := by
  have p : l.Perm (sortU ns) := (List.perm_ext_iff_of_nodup nd (sortU_nodup ns)).mpr fun k => (h k).trans sortU_mem.symm
  exact p.length_eq
def rSetL (K : PySem.W.Frag) (w : World) : List V → Hp → VK → Prop := fun xs H Q => ∃ (a : Addr) (ns : List Int), xs = [.ref a] ∧ SqL K H a (ns.map V.int) ∧ ns.length ≤ 1000 ∧
  ∀ p, H p = none → Q (.ref p) (upd H p (SetO w p (fun j => decide (j ∈ ns)) (sortU ns).length))
def rLenSet (w : World) : List V → Hp → VK → Prop := fun xs H Q => ∃ (a : Addr) (S : Int → Bool) (n : Nat), xs = [.ref a] ∧ H a = some (SetO w a S n) ∧ n ≤ lim ∧ Q (.int n) H
section
variable {X : Cx}
theorem setR_len {w : World} {h : Heap} {a : Addr} {ns : List Int} {c : Nat} (R : SetR w h a (fun j => decide (j ∈ ns)) c) : SetR w h a (fun j => decide (j ∈ ns)) (sortU ns).length := by
  obtain ⟨o, es, ep, t, ho, hx, hd, g, nd, hm, hb, hf, hn, rest⟩ := R
  refine ⟨o, es, ep, t, ho, hx, hd, g, nd, hm, hb, hf, ?_, rest⟩
  have := len_sortU nd (ns := ns) fun k => (hm k).symm.trans decide_eq_true_iff
  simpa using this
theorem cr_setL (hc : X.calm = true) : CallR X (.type "set") (rSetL X.K X.w) := by
  intro pins s σ H xs us Q I r h
  obtain ⟨a, ns, rfl, hs, hl, q⟩ := h
  obtain ⟨its, rv, pl, hz⟩ := I.list hs
  rw [Vals.ref1 r]
  refine call_setL ns (I.ok.hd hc) pl.isList (by simpa using rv.ints) (Nat.lt_of_le_of_lt (Nat.succ_le_succ hl) (by decide)) fun h' tk c R hcn k => ?_
  exact ⟨.ref _, upd H s.heap.objs.size (SetO X.w s.heap.objs.size (fun j => decide (j ∈ ns)) (sortU ns).length), I.laid (t' := tk) k (Nat.le_refl _) (setO_new (setR_len R)), rfl, q _ (I.hok.fresh (Nat.le_refl _))⟩
theorem cr_lenSet : CallR X (.builtin "len") (rLenSet X.w) := by
  intro pins s σ H xs us Q I r h
  obtain ⟨a, S, n, rfl, ha, hl, q⟩ := h
  rw [Vals.ref1 r]
  obtain ⟨o, es, ep, t, ho, hx, hd, g, nd, hm, hb, hf, hn, rest⟩ := setO_get I ha
  refine call_len_set ho hx hd hf (by rw [hn]; have : n ≤ 100000 := hl; omega) ?_
  rw [hn]
  exact ⟨.int n, H, I.tok _, ⟨_, rfl⟩, q⟩
def pSortSet (ds : List D) : Option (List D) := (intsOf ds).bind fun ns => if ns.length < 64 then some ((sortU ns).map PyData.int) else none
def pLenSet (ds : List D) : Option D := (intsOf ds).bind fun ns => if ns.length ≤ 1000 then some (.int (sortU ns).length) else none
theorem sortU_le : ∀ ns : List Int, (sortU ns).length ≤ ns.length
  | [] => Nat.le_refl _
  | n :: r => by
    have : ∀ l : List Int, (insU n l).length ≤ l.length + 1 := by
      intro l
      induction l with
      | nil => simp [insU]
      | cons y l ih =>
        unfold insU
        split
        · simp
        · split
          · simp
          · simp only [List.length_cons]; omega
    show (insU n (sortU r)).length ≤ _
    have := this (sortU r)
    have := sortU_le r
    simp only [List.length_cons]
    omega

variable {Wx : WX} {pa : Nat → Addr} {ε ε' ε'' : Bool} {W B B1 H H1 : Hp} {σ : L2.St} {ρ : Rho} {Q : VK}
theorem sortSet_end {v : V} {d : D} {zs : List D} (I : ER X.K pa W B H ρ σ) (dp : Dp X.K H v d) (hd : onList pSortSet [d] = some zs) (k : ∀ (u : V) (H' : Hp), Ex H H' → EV X.K pa W B H' ρ σ u (.o1 zs) → Q u H') :
    rSetL X.K X.w [v] H fun u H1 => rSortedSet X.w [u] H1 Q := by
  cases dp <;> try (cases hd)
  rename_i a xs ds hs dx
  have hd : pSortSet ds = some zs := hd
  unfold pSortSet at hd
  cases q : intsOf ds with
  | none => rw [q] at hd; cases hd
  | some ns =>
    rw [q] at hd
    dsimp only [Option.bind] at hd
    split at hd
    · rename_i hl
      cases hd
      obtain ⟨h1, h2⟩ := intsOf_dpa dx q
      subst h1
      refine ⟨a, ns, rfl, hs, Nat.le_trans (Nat.le_of_lt hl) (by decide), fun p hp => ⟨p, _, _, rfl, upd_same, Nat.lt_of_le_of_lt (sortU_le ns) hl, fun ms p2 h1 h2 h3 hp2 => ?_⟩⟩
      have e : ms = sortU ns := pw_eq h1 (sortU_pw ns) fun j => (h2 j).trans (decide_eq_true_iff.trans sortU_mem.symm)
      subst e
      exact k _ _ ((Ex.new hp).trans (Ex.new hp2)) ((I.grow (grow_ow I.sub hp)).newList hp2 (dpa_ints _))
    · cases hd
theorem lenSet_end {v : V} {d z : D} (I : ER X.K pa W B H ρ σ) (dp : Dp X.K H v d) (hd : onList pLenSet [d] = some z) (k : ∀ (u : V) (H' : Hp), Ex H H' → ER X.K pa W B H' ρ σ → Dp X.K B u z → Q u H') :
    rSetL X.K X.w [v] H fun u H1 => rLenSet X.w [u] H1 Q := by
  cases dp <;> try (cases hd)
  rename_i a xs ds hs dx
  have hd : pLenSet ds = some z := hd
  unfold pLenSet at hd
  cases q : intsOf ds with
  | none => rw [q] at hd; cases hd
  | some ns =>
    rw [q] at hd
    dsimp only [Option.bind] at hd
    split at hd
    · rename_i hl
      cases hd
      obtain ⟨h1, h2⟩ := intsOf_dpa dx q
      subst h1
      exact ⟨a, ns, rfl, hs, hl, fun p hp => ⟨p, _, _, rfl, upd_same, Nat.le_trans (Nat.le_trans (sortU_le ns) hl) (by decide), k _ _ (Ex.new hp) (I.grow (grow_ow I.sub hp)) (.int _)⟩⟩
    · cases hd
theorem pe_twoB {e : Expr} {te : TE} {y x : Str} {p p2 q pos : Pos} {id T : String} {r r' : List V → Hp → VK → Prop} (hc : CallR X (.type T) r) (hc' : CallR X (.builtin id) r') (hg : Gl X x) (hm : X.mg x = none) (hv : bootBuiltins x = some (.builtin id)) (hg2 : Gl X y) (hm2 : X.mg y = none) (hv2 : bootBuiltins y = some (.type T)) (he : PE X e te)
    (hn : x ≠ "__name__" := by decide) (hn2 : y ≠ "__name__" := by decide) (hdb : (x == ("__debug__" : Str)) = false := by decide) (hdb2 : (y == ("__debug__" : Str)) = false := by decide)
    (hs : starEach [e] X.env = (false, eval e X.env) :: starEach [] X.env := by rfl) :
    PE X (.Call (.Name x p) [.Call (.Name y p2) [e] [] q] [] pos) (tCB r' (tCons (tCB r (tCons te tNil)) tNil)) :=
  pe_callB hc' hg hm hv (pa_one (pe_callTy hc hg2 hm2 hv2 (pa_one he hs) hn2 hdb2 hs rfl) rfl) hn hdb rfl rfl
def mSortSet (f : M D) : M Cel := bindM f fun d => optM ((onList pSortSet [d]).map Cel.o1)
def mLenSet (f : M D) : M D := bindM f fun d => optM (onList pLenSet [d])
/-- sorted(set(e)) -/
theorem de_sortSet {e : Expr} {f : M D} {p p2 q pos : Pos} (hc : X.calm = true) (he : DV X Wx pa ε e f) (hg : Gl X "sorted") (hm : X.mg "sorted" = none) (hg2 : Gl X "set") (hm2 : X.mg "set" = none) (hs : starEach [e] X.env = (false, eval e X.env) :: starEach [] X.env := by rfl) :
    DE X Wx pa ε (.Call (.Name "sorted" p) [.Call (.Name "set" p2) [e] [] q] [] pos) (mSortSet f) := by
  unfold mSortSet
  obtain ⟨t, pe, hh⟩ := he
  refine ⟨_, pe_twoB (cr_setL hc) (cr_sortedSet hc) hg hm PyProof.Rows.boot_sorted hg2 hm2 boot_set pe (by decide) (by decide) (by decide) (by decide) hs, fun W B H ρ σ Q I h => ?_⟩
  refine hh W B H ρ σ _ I (FinV.mk h.exP.bind fun d ρ1 e1 v B1 H1 eb eh I1 dp => ?_)
  rw [bindM_ok e1] at h
  obtain ⟨z, ez, k⟩ := h.opt
  cases q : onList pSortSet [d] with
  | none => rw [q] at ez; cases ez
  | some zs =>
    rw [q] at ez
    cases ez
    exact sortSet_end I1 (ex_dp I1.sub dp) q fun u H' e' k' => k u B1 H' eb (fun z => (eh z).trans e') k'
/-- len(set(e)) -/
theorem dv_lenSet {e : Expr} {f : M D} {p p2 q pos : Pos} (hc : X.calm = true) (he : DV X Wx pa ε e f) (hg : Gl X "len") (hm : X.mg "len" = none) (hg2 : Gl X "set") (hm2 : X.mg "set" = none) (hs : starEach [e] X.env = (false, eval e X.env) :: starEach [] X.env := by rfl) :
    DV X Wx pa ε (.Call (.Name "len" p) [.Call (.Name "set" p2) [e] [] q] [] pos) (mLenSet f) := by
  unfold mLenSet
  obtain ⟨t, pe, hh⟩ := he
  refine ⟨_, pe_twoB (cr_setL hc) cr_lenSet hg hm boot_len hg2 hm2 boot_set pe (by decide) (by decide) (by decide) (by decide) hs, fun W B H ρ σ Q I h => ?_⟩
  refine hh W B H ρ σ _ I (FinV.mk h.exP.bind fun d ρ1 e1 v B1 H1 eb eh I1 dp => ?_)
  rw [bindM_ok e1] at h
  obtain ⟨z, ez, k⟩ := h.opt
  exact lenSet_end I1 (ex_dp I1.sub dp) ez fun u H' e' I' du => k u B1 H' eb (fun z => (eh z).trans e') I' du
end
end MD


set_option Elab.async false
set_option linter.all false
set_option autoImplicit false
set_option maxRecDepth 100000
set_option maxHeartbeats 1000000
namespace MD
open PySem PySem.Spec PyProof.Rows L2
open Evl (Ex Ex.refl Ex.trans Ex.new ex_l ex_t ex_rd)

section
variable {X : Cx} {Wx : WX} {pa : Nat → Addr} {ε ε' ε'' : Bool} {W B B1 H H1 : Hp} {σ : L2.St} {ρ : Rho} {Q : VK} {tg : Expr}
/-! ### -e -/
def pNeg : D → Option D
  | .int i => some (.int (-i))
  | _ => none
theorem dv_neg {a : Expr} {pos : Pos} {f : M D} (ha : DV X Wx pa ε a f) : DV X Wx pa ε (.UnaryOp .USub a pos) (op1 pNeg f) := by
  obtain ⟨t, pe, hh⟩ := ha
  refine ⟨_, pe_un un_neg pe, fun W B H ρ σ Q I h => ?_⟩
  refine hh W B H ρ σ _ I (FinV.mk h.exP.bind fun d ρ1 e1 v B1 H1 eb eh I1 dp => ?_)
  replace h : FinV X Wx pa ε W B H σ Q (optM (pNeg d) ρ1) := by rw [← bindM_ok (k := fun d => optM (pNeg d)) e1]; exact h
  obtain ⟨z, ez, k⟩ := h.opt
  cases dp <;> cases ez
  exact ⟨_, rfl, k _ B1 H1 eb eh I1 (.int _)⟩
/-! ### slices -/
def cutD (ds : List D) (lo hi : Option Int) : List D := (ds.drop (HT.sIx ds.length 0 lo)).take (HT.sIx ds.length ds.length hi - HT.sIx ds.length 0 lo)
theorem cut_dpa {K : PySem.W.Frag} {xs : List V} {ds : List D} (h : DpAll K B xs ds) (lo hi : Option Int) : DpAll K B (cutV xs lo hi) (cutD ds lo hi) := by
  unfold cutV cutD
  rw [h.len]
  exact (h.drop _).take _
/-- a slice's bound -/
abbrev MO := Rho → Option (Option Int × Rho)
structure DO (X : Cx) (Wx : WX) (pa : Nat → Addr) (ε : Bool) (oe : Option Expr) (f : MO) : Prop where
  ex : ∃ t, PO X oe t ∧ ∀ (W B H : Hp) (ρ : Rho) (σ : L2.St) (Q : Option Int → Hp → Prop), ER X.K pa W B H ρ σ →
    (∃ o ρ', f ρ = some (o, ρ') ∧ ∀ B' H', Ex B B' → (ε = false → Ex H H') → ER X.K pa W B' H' ρ' σ → Q o H') → t σ H Q
def oNone : MO := fun ρ => some (none, ρ)
def oSome (f : M D) : MO := fun ρ => match f ρ with
  | some (.ok (.int i), ρ') => some (some i, ρ')
  | _ => none
theorem do_none : DO X Wx pa false none oNone := ⟨_, po_none, fun W B H ρ σ Q I ⟨o, ρ', e, k⟩ => by cases e; exact k B H (Ex.refl _) (fun _ => Ex.refl _) I⟩
theorem do_some {e : Expr} {f : M D} (h : DV X Wx pa ε e f) : DO X Wx pa ε (some e) (oSome f) := by
  obtain ⟨t, pe, hh⟩ := h
  refine ⟨_, po_some pe, fun W B H ρ σ Q I ⟨o, ρ', e, k⟩ => ?_⟩
  refine hh W B H ρ σ _ I ?_
  unfold oSome at e
  split at e
  · rename_i i ρ1 q
    rw [q]
    cases e
    intro v B' H' eb eh I' dp
    cases dp
    exact ⟨i, rfl, k B' H' eb eh I'⟩
  · cases e
def cutTo (ds : List D) (l h : Option Int) (ρ : Rho) : Option (Rs Cel × Rho) := if ds.length ≤ lim then some (.ok (.o1 (cutD ds l h)), ρ) else none
def mCut (fl fh : MO) (ds : List D) : M Cel := fun ρ => match fl ρ with
  | none => none
  | some (l, ρ1) => match fh ρ1 with
    | none => none
    | some (h, ρ2) => cutTo ds l h ρ2
def mSlice (f : M D) (fl fh : MO) : M Cel := bindM f fun d => match d with
  | .list ds => mCut fl fh ds
  | _ => fun _ => none
def mSliceL (g : Rho → Option (List D)) (fl fh : MO) : M Cel := fun ρ => match g ρ with
  | none => none
  | some ds => mCut fl fh ds ρ
theorem de_slice {e : Expr} {f : M D} {lo hi : Option Expr} {fl fh : MO} {p pos : Pos} (he : DV X Wx pa ε e f) (hl : DO X Wx pa ε' lo fl) (hh : DO X Wx pa ε'' hi fh) : DE X Wx pa (ε || (ε' || ε'')) (.Subscript e (.Slice lo hi none p) pos) (mSlice f fl fh) := by
  unfold mSlice
  obtain ⟨t, pe, he⟩ := he
  obtain ⟨tl, pl, hl⟩ := hl
  obtain ⟨th, ph, hh⟩ := hh
  refine ⟨_, pe_slice sl_list pe pl ph, fun W B H ρ σ Q I h => ?_⟩
  refine he W B H ρ σ _ I (FinV.mk h.exP.bind fun d ρ1 e1 v B1 H1 eb eh I1 dp => ?_)
  rw [bindM_ok e1] at h
  cases dp <;> try (exact h.elim)
  rename_i a xs ds hs dx
  have h : FinC X Wx pa (ε || (ε' || ε'')) W B H σ Q (mCut fl fh ds ρ1) := h
  unfold mCut at h
  split at h
  · exact h.elim
  · rename_i l ρ2 e2
    refine hl W B1 H1 ρ1 σ _ I1 ⟨l, ρ2, e2, fun B2 H2 eb2 eh2 I2 => ?_⟩
    split at h
    · exact h.elim
    · rename_i u ρ3 e3
      refine hh W B2 H2 ρ2 σ _ I2 ⟨u, ρ3, e3, fun B3 H3 eb3 eh3 I3 => ?_⟩
      unfold cutTo at h
      split at h
      · refine ⟨a, xs, rfl, ex_l ((eb2.trans eb3).trans I3.sub) hs, fun p hp => ?_⟩
        exact h (.ref p) B3 _ ((eb.trans eb2).trans eb3) (fun z => (((eh (ef z).1).trans (eh2 (ef (ef z).2).1)).trans (eh3 (ef (ef z).2).2)).trans (Ex.new hp)) (I3.newList hp (cut_dpa (ex_dpa (eb2.trans eb3) dx) l u))
      · exact h.elim
theorem de_sliceL {e : Expr} {g : Rho → Option (List D)} {lo hi : Option Expr} {fl fh : MO} {p pos : Pos} (he : DL X pa e g) (hl : DO X Wx pa false lo fl) (hh : DO X Wx pa false hi fh) : DE X Wx pa false (.Subscript e (.Slice lo hi none p) pos) (mSliceL g fl fh) := by
  unfold mSliceL
  obtain ⟨t, pe, he⟩ := he
  obtain ⟨tl, pl, hl⟩ := hl
  obtain ⟨th, ph, hh⟩ := hh
  refine ⟨_, pe_slice sl_list pe pl ph, fun W B H ρ σ Q I h => ?_⟩
  split at h
  · exact h.elim
  · rename_i ds q
    refine he W B H ρ σ _ I ds q fun a xs hs dx => ?_
    unfold mCut at h
    split at h
    · exact h.elim
    · rename_i l ρ2 e2
      refine hl W B H ρ σ _ I ⟨l, ρ2, e2, fun B2 H2 eb2 eh2 I2 => ?_⟩
      split at h
      · exact h.elim
      · rename_i u ρ3 e3
        refine hh W B2 H2 ρ2 σ _ I2 ⟨u, ρ3, e3, fun B3 H3 eb3 eh3 I3 => ?_⟩
        unfold cutTo at h
        split at h
        · refine ⟨a, xs, rfl, ex_l ((eh2 rfl).trans (eh3 rfl)) hs, fun p hp => ?_⟩
          exact h (.ref p) B3 _ (eb2.trans eb3) (fun z => ((eh2 rfl).trans (eh3 rfl)).trans (Ex.new hp)) (I3.newList hp (cut_dpa (ex_dpa (eb2.trans eb3) dx) l u))
        · exact h.elim
/-- e[::-1] -/
def revOf (d : D) : Option Cel := match d with
  | .list ds => if ds.length ≤ lim then some (.o1 ds.reverse) else none
  | _ => none
def mRev (f : M D) : M Cel := bindM f fun d => optM (revOf d)
theorem de_rev {e : Expr} {f : M D} {k : Nat} {p1 p2 p3 pos : Pos} (he : DV X Wx pa ε e f) : DE X Wx pa ε (.Subscript e (.Slice none none (some (.UnaryOp .USub (.Constant (.int 1) k p1) p2)) p3) pos) (mRev f) := by
  unfold mRev
  obtain ⟨t, pe, he⟩ := he
  refine ⟨_, pe_revL pe, fun W B H ρ σ Q I h => ?_⟩
  refine he W B H ρ σ _ I (FinV.mk h.exP.bind fun d ρ1 e1 v B1 H1 eb eh I1 dp => ?_)
  rw [bindM_ok e1] at h
  obtain ⟨c, ec, k⟩ := h.opt
  unfold revOf at ec
  cases dp <;> try (cases ec)
  rename_i a xs ds hs dx
  dsimp only at ec
  split at ec
  · cases ec
    exact ⟨a, xs, rfl, ex_l I1.sub hs, fun p hp => k _ B1 _ eb (fun z => (eh z).trans (Ex.new hp)) (I1.newList hp dx.rev)⟩
  · cases ec
/-! ### a display times a number -/
def repOf (c : Cel) (d : D) : Option Cel := match c, d with
  | .o1 ds, .int k => if k ≤ 100000 ∧ -(2 ^ 62) ≤ k ∧ ds.length * k.toNat ≤ lim then some (.o1 (List.replicate k.toNat ds).flatten) else none
  | _, _ => none
def mRep (f : M Cel) (g : M D) : M Cel := bindM f fun c => bindM g fun d => optM (repOf c d)
theorem de_rep {a b : Expr} {pos : Pos} {f : M Cel} {g : M D} (ha : DE X Wx pa ε a f) (hb : DV X Wx pa false b g) : DE X Wx pa (ε || false) (.BinOp a .Mult b pos) (mRep f g) := by
  unfold mRep
  obtain ⟨ta, pe, ha⟩ := ha
  obtain ⟨tb, pf, hb⟩ := hb
  refine ⟨_, pe_op op_rep pe pf, fun W B H ρ σ Q I h => ?_⟩
  refine ha W B H ρ σ _ I (FinC.mk h.exP.bind fun c ρ1 e1 v B1 H1 eb eh V1 => ?_)
  rw [bindM_ok e1] at h
  have h1 := (h.pull (H1 := H) eb fun _ => Ex.refl _).exP
  refine hb W B1 H1 ρ1 σ _ V1.er (FinV.mk h1.bind fun d ρ2 e2 y B2 H2 eb2 eh2 I2 dp => ?_)
  rw [bindM_ok e2] at h
  obtain ⟨z, ez, k⟩ := h.opt
  unfold repOf at ez
  split at ez
  · rename_i ds n
    split at ez
    · rename_i hn
      cases ez
      cases dp
      obtain ⟨φ, ψ, s, r, _⟩ := V1
      obtain ⟨p, rfl, _, xs, _, hH, dx⟩ := r
      refine ⟨p, n, xs, rfl, rfl, eh2 rfl _ _ hH, by omega, by omega, lim_le (by rw [dx.len]; exact hn.2.2), fun p2 hp2 => ?_⟩
      exact k _ B2 _ (eb.trans eb2) (fun z => ((eh (ef z).1).trans (eh2 rfl)).trans (Ex.new hp2)) (I2.newList hp2 ((ex_dpa eb2 dx).rep _))
    · cases ez
  · cases ez
/-! ### zip, enumerate, a falling range -/
def zipD : List D → List D → List D
  | x :: xs, y :: ys => .tuple [x, y] :: zipD xs ys
  | _, _ => []
theorem zipD_len : ∀ (xs ys : List D), (zipD xs ys).length = min xs.length ys.length
  | [], _ => by simp [zipD]
  | _ :: _, [] => by simp [zipD]
  | x :: xs, y :: ys => by simp [zipD, zipD_len xs ys]
theorem zipD_at : ∀ {xs ys : List D} {i : Nat} {d : D}, (zipD xs ys)[i]? = some d → ∃ x y, xs[i]? = some x ∧ ys[i]? = some y ∧ d = .tuple [x, y]
  | [], _, _, _, h => by simp [zipD] at h
  | _ :: _, [], _, _, h => by simp [zipD] at h
  | x :: xs, y :: ys, 0, d, h => by simp [zipD] at h; exact ⟨x, y, rfl, rfl, h.symm⟩
  | x :: xs, y :: ys, i + 1, d, h => by simp [zipD] at h; simpa using zipD_at h
def enumD : Int → List D → List D
  | _, [] => []
  | i, x :: xs => .tuple [.int i, x] :: enumD (i + 1) xs
theorem enumD_len : ∀ (xs : List D) (i : Int), (enumD i xs).length = xs.length
  | [], _ => rfl
  | x :: xs, i => by simp [enumD, enumD_len xs (i + 1)]
theorem enumD_at : ∀ {xs : List D} {j : Int} {i : Nat} {d : D}, (enumD j xs)[i]? = some d → ∃ x, xs[i]? = some x ∧ d = .tuple [.int (j + i), x]
  | [], _, _, _, h => by simp [enumD] at h
  | x :: xs, j, 0, d, h => by simp [enumD] at h; exact ⟨x, rfl, by rw [← h]; simp⟩
  | x :: xs, j, i + 1, d, h => by
    simp [enumD] at h
    obtain ⟨y, h1, h2⟩ := enumD_at h
    exact ⟨y, by simpa using h1, by rw [h2]; congr 3; omega⟩
theorem new_at {T : Addr} {o : HO} (eb : Ex B B1) (sub : Ex B1 H) (hT : H T = none) : ∃ B2, Grow B1 H B2 (upd H T o) ∧ B2 T = some o := ⟨_, grow_sh sub hT, upd_same⟩
theorem itD_zip {K : PySem.W.Frag} {a b : Addr} {xs ys : List V} {ds es : List D} (hs : SqL K B a xs) (ha : DpAll K B xs ds) (hs2 : SqL K B b ys) (ha2 : DpAll K B ys es) : ItD K (Itz K a b) B (zipD ds es) where
  go := fun i H e hi => by
    rw [zipD_len, ← ha.len, ← ha2.len] at hi
    have h1 : i < xs.length := by omega
    have h2 : i < ys.length := by omega
    exact ⟨xs, ys, xs[i], ys[i], ex_l e hs, ex_l e hs2, List.getElem?_eq_getElem h1, List.getElem?_eq_getElem h2⟩
  stop := fun H e => ⟨xs, ys, ex_l e hs, ex_l e hs2, by rw [zipD_len, ha.len, ha2.len]; omega⟩
  yld := fun i H x H' d B1 e1 e2 hd y => by
    obtain ⟨T, u, v, rfl, hT, rfl, f1, f2⟩ := y
    obtain ⟨p, q, hp, hq, rfl⟩ := zipD_at hd
    have g := grow_sh (o := .tup [u, v]) e2 hT
    refine ⟨_, g, .tup (.of upd_same) (.cons (ex_dp (e1.trans g.eb) (ha.getV hp (f1 _ (ex_l (e1.trans e2) hs)))) (.cons (ex_dp (e1.trans g.eb) (ha2.getV hq (f2 _ (ex_l (e1.trans e2) hs2)))) .nil))⟩
theorem itD_enum {K : PySem.W.Frag} {a : Addr} {xs : List V} {ds : List D} (hs : SqL K B a xs) (ha : DpAll K B xs ds) : ItD K (Ite K a) B (enumD 0 ds) where
  go := fun i H e hi => by
    rw [enumD_len, ← ha.len] at hi
    exact ⟨xs, xs[i], ex_l e hs, List.getElem?_eq_getElem hi⟩
  stop := fun H e => ⟨xs, ex_l e hs, by rw [enumD_len, ha.len]; exact Nat.le_refl _⟩
  yld := fun i H x H' d B1 e1 e2 hd y => by
    obtain ⟨T, u, rfl, hT, rfl, f1⟩ := y
    obtain ⟨p, hp, rfl⟩ := enumD_at hd
    have g := grow_sh (o := .tup [.int (i : Nat), u]) e2 hT
    refine ⟨_, g, ?_⟩
    rw [show (0 : Int) + (i : Nat) = (i : Nat) by omega]
    exact .tup (.of upd_same) (.cons (.int _) (.cons (ex_dp (e1.trans g.eb) (ha.getV hp (f1 _ (ex_l (e1.trans e2) hs)))) .nil))
def pZip : List D → Option (List D)
  | [.list xs, .list ys] => some (zipD xs ys)
  | _ => none
def pEnum : List D → Option (List D)
  | [.list xs] => some (enumD 0 xs)
  | _ => none
theorem di_zip {a b : Expr} {g : M (List D)} {elts : List Expr} {kk : Nat} {p pos tpos : Pos} (hg : Gl X "zip") (hm : X.mg "zip" = none) (ha : DA X Wx pa ε [a, b] g) (hs : starEach [a, b] X.env = (false, eval a X.env) :: starEach [b] X.env := by rfl) (hpl : (backTo pos (starEach [b] X.env)).any (·.1) = false := by rfl) :
    DI X Wx pa ε (.Tuple elts kk tpos) (.Call (.Name "zip" p) [a, b] [] pos) (opA pZip g) := by
  obtain ⟨_, t, pe, hh⟩ := ha
  refine ⟨_, pi_zip hg hm pe hs hpl, fun W B H ρ σ R I h => ?_⟩
  refine hh W B H ρ σ _ I (FinA.mk h.exP.bind fun ds ρ1 e1 vs B1 H1 eb eh I1 dps => ?_)
  replace h : FinI X Wx pa ε W B H σ R (optM (pZip ds) ρ1) := by rw [← bindM_ok (k := fun ds => optM (pZip ds)) e1]; exact h
  obtain ⟨zs, ez, k⟩ := h.opt
  unfold pZip at ez
  split at ez
  · cases ez
    cases dps with
    | cons hd ht =>
      cases ht with
      | cons he ht =>
        cases ht
        cases hd with
        | lst hs1 da1 =>
          cases he with
          | lst hs2 da2 => exact ⟨_, _, _, _, rfl, ex_l I1.sub hs1, ex_l I1.sub hs2, k _ B1 H1 eb eh I1 (itD_zip hs1 da1 hs2 da2)⟩
  · cases ez
theorem di_enum {a : Expr} {g : M (List D)} {elts : List Expr} {kk : Nat} {p pos tpos : Pos} (hg : Gl X "enumerate") (hm : X.mg "enumerate" = none) (ha : DA X Wx pa ε [a] g) (hs : starEach [a] X.env = [(false, eval a X.env)] := by rfl) :
    DI X Wx pa ε (.Tuple elts kk tpos) (.Call (.Name "enumerate" p) [a] [] pos) (opA pEnum g) := by
  obtain ⟨_, t, pe, hh⟩ := ha
  refine ⟨_, pi_enum hg hm pe hs, fun W B H ρ σ R I h => ?_⟩
  refine hh W B H ρ σ _ I (FinA.mk h.exP.bind fun ds ρ1 e1 vs B1 H1 eb eh I1 dps => ?_)
  replace h : FinI X Wx pa ε W B H σ R (optM (pEnum ds) ρ1) := by rw [← bindM_ok (k := fun ds => optM (pEnum ds)) e1]; exact h
  obtain ⟨zs, ez, k⟩ := h.opt
  unfold pEnum at ez
  split at ez
  · cases ez
    cases dps with
    | cons hd ht =>
      cases ht
      cases hd with
      | lst hs1 da1 => exact ⟨_, _, rfl, ex_l I1.sub hs1, k _ B1 H1 eb eh I1 (itD_enum hs1 da1)⟩
  · cases ez
/-- lo, lo - 1, .. -/
def rngDn (lo : Int) (n : Nat) : List D := (List.range n).map fun k => .int (lo + (k : Nat) * (-1))
theorem itD_dn {K : PySem.W.Frag} (lo : Int) (n : Nat) : ItD K (Itc lo (-1) n) B (rngDn lo n) where
  go := fun i H e hi => by show i < n; simpa [rngDn] using hi
  stop := fun H e => by show n ≤ _; simp [rngDn]
  yld := fun i H x H' d B1 e1 e2 hd y => by
    obtain ⟨rfl, rfl⟩ := y
    refine ⟨B1, Grow.refl e2, ?_⟩
    unfold rngDn at hd
    rw [List.getElem?_map] at hd
    have hi : i < n := by
      rcases Nat.lt_or_ge i n with h | h
      · exact h
      · rw [List.getElem?_eq_none (by simpa using h)] at hd; cases hd
    rw [List.getElem?_range hi] at hd
    cases hd
    exact .int _
def rng3 : List D → Option (List D)
  | [.int i, .int j, .int k] => if big i && big j && decide (k = -1) then some (rngDn i (i - j).toNat) else none
  | _ => none
theorem di_range3 {a b c : Expr} {g : M (List D)} {p pos : Pos} (hg : Gl X "range") (hm : X.mg "range" = none) (ha : DA X Wx pa ε [a, b, c] g) (hs : starEach [a, b, c] X.env = (false, eval a X.env) :: starEach [b, c] X.env := by rfl) (hpl : (backTo pos (starEach [b, c] X.env)).any (·.1) = false := by rfl) :
    DI X Wx pa ε tg (.Call (.Name "range" p) [a, b, c] [] pos) (opA rng3 g) := by
  obtain ⟨_, t, pe, hh⟩ := ha
  refine ⟨_, pi_range3 hg hm pe hs hpl, fun W B H ρ σ R I h => ?_⟩
  refine hh W B H ρ σ _ I (FinA.mk h.exP.bind fun ds ρ1 e1 vs B1 H1 eb eh I1 dps => ?_)
  replace h : FinI X Wx pa ε W B H σ R (optM (rng3 ds) ρ1) := by rw [← bindM_ok (k := fun ds => optM (rng3 ds)) e1]; exact h
  obtain ⟨zs, ez, k⟩ := h.opt
  unfold rng3 at ez
  split at ez
  · rename_i i j c
    split at ez
    · rename_i hb
      cases ez
      rw [Bool.and_eq_true, Bool.and_eq_true] at hb
      have h1 := of_decide_eq_true hb.1.1
      have h2 := of_decide_eq_true hb.1.2
      have h3 := of_decide_eq_true hb.2
      subst h3
      cases dps with
      | cons hd ht =>
        cases hd
        cases ht with
        | cons hd ht =>
          cases hd
          cases ht with
          | cons hd ht =>
            cases ht
            cases hd
            exact ⟨i, j, -1, _, rfl, RgC.neg h1.1 h1.2 h2.1 h2.2, k _ B1 H1 eb eh I1 (itD_dn i _)⟩
    · cases ez
  · cases ez
/-! ### list(range(..)) -/
def lstRg (i j : D) : Option Cel := match i, j with
  | .int a, .int b => if big a && big b && decide ((b - a).toNat ≤ 100000) then some (.o1 (rngD a (b - a).toNat)) else none
  | _, _ => none
theorem rgV_dpa {K : PySem.W.Frag} (a b : Int) : DpAll K B (rgV a b) (rngD a (b - a).toNat) := by
  unfold rgV rngD
  generalize (b - a).toNat = n
  generalize hl : List.range n = l
  clear hl
  induction l with
  | nil => exact .nil
  | cons x l ih => exact .cons (.int _) ih
def mLstRg1 (f : M D) : M Cel := bindM f fun d => optM (lstRg (.int 0) d)
def mLstRg2 (f g : M D) : M Cel := bindM f fun d => bindM g fun e => optM (lstRg d e)
theorem de_listRg1 {a : Expr} {f : M D} {p p2 pos pos2 : Pos} (hc : X.calm = true) (hg : Gl X "list") (hm : X.mg "list" = none) (hg2 : Gl X "range") (hm2 : X.mg "range" = none) (ha : DV X Wx pa ε a f) (na : starEach [a] X.env = (false, eval a X.env) :: starEach [] X.env := by rfl) :
    DE X Wx pa ε (.Call (.Name "list" p) [.Call (.Name "range" p2) [a] [] pos2] [] pos) (mLstRg1 f) := by
  unfold mLstRg1
  obtain ⟨t, pe, hh⟩ := ha
  refine ⟨_, pe_listRg hc hg hm (prg_1 hg2 hm2 pe na) rfl, fun W B H ρ σ Q I h => ?_⟩
  refine hh W B H ρ σ _ I (FinV.mk h.exP.bind fun d ρ1 e1 v B1 H1 eb eh I1 dp => ?_)
  rw [bindM_ok e1] at h
  obtain ⟨c, ec, k⟩ := h.opt
  unfold lstRg at ec
  cases dp <;> try (cases ec)
  · rename_i b
    dsimp only at ec
    split at ec
    · rename_i hb
      cases ec
      rw [Bool.and_eq_true, Bool.and_eq_true] at hb
      have h1 := of_decide_eq_true hb.1.1
      have h2 := of_decide_eq_true hb.1.2
      have h3 := of_decide_eq_true hb.2
      exact ⟨b, rfl, ⟨h1.1, h1.2, h2.1, h2.2, Nat.le_trans h3 (by decide)⟩, fun q hq => k _ B1 _ eb (fun z => (eh z).trans (Ex.new hq)) (I1.newList hq (rgV_dpa 0 b))⟩
    · cases ec
theorem de_listRg2 {a b : Expr} {f g : M D} {p p2 pos pos2 : Pos} (hc : X.calm = true) (hg : Gl X "list") (hm : X.mg "list" = none) (hg2 : Gl X "range") (hm2 : X.mg "range" = none) (ha : DV X Wx pa ε a f) (hb : DV X Wx pa ε' b g) (na : starEach [a, b] X.env = (false, eval a X.env) :: starEach [b] X.env := by rfl)
    (nb : starEach [b] X.env = (false, eval b X.env) :: starEach [] X.env := by rfl) (hp : (backTo pos2 (starEach [b] X.env)).any (·.1) = false := by rfl) :
    DE X Wx pa (ε || ε') (.Call (.Name "list" p) [.Call (.Name "range" p2) [a, b] [] pos2] [] pos) (mLstRg2 f g) := by
  unfold mLstRg2
  obtain ⟨t, pe, hh⟩ := ha
  obtain ⟨u, pf, hk⟩ := hb
  refine ⟨_, pe_listRg hc hg hm (prg_2 hg2 hm2 pe pf na nb hp) rfl, fun W B H ρ σ Q I h => ?_⟩
  refine hh W B H ρ σ _ I (FinV.mk h.exP.bind fun d ρ1 e1 v B1 H1 eb eh I1 dp => ?_)
  rw [bindM_ok e1] at h
  have hx := (h.pull (H1 := H) eb fun _ => Ex.refl _).exP
  refine hk W B1 H1 ρ1 σ _ I1 (FinV.mk hx.bind fun e ρ2 e2 y B2 H2 eb2 eh2 I2 dq => ?_)
  rw [bindM_ok e2] at h
  obtain ⟨c, ec, k⟩ := h.opt
  unfold lstRg at ec
  split at ec
  · rename_i a' b'
    split at ec
    · rename_i hb
      cases ec
      rw [Bool.and_eq_true, Bool.and_eq_true] at hb
      have h1 := of_decide_eq_true hb.1.1
      have h2 := of_decide_eq_true hb.1.2
      have h3 := of_decide_eq_true hb.2
      cases dp
      cases dq
      exact ⟨a', b', rfl, rfl, ⟨h1.1, h1.2, h2.1, h2.2, Nat.le_trans h3 (by decide)⟩, fun q hq => k _ B2 _ (eb.trans eb2) (fun z => ((eh (ef z).1).trans (eh2 (ef z).2)).trans (Ex.new hq)) (I2.newList hq (rgV_dpa a' b'))⟩
    · cases ec
  · cases ec
theorem ds_none {st : Stmt} : DS X Wx pa st (fun _ => none) := ⟨_, ⟨fun pins s σ H D I (h : False) => h.elim⟩, fun W B H ρ σ D I h => h⟩
end
end MD


set_option Elab.async false
set_option linter.all false
set_option autoImplicit false
set_option maxRecDepth 100000
set_option maxHeartbeats 1000000
namespace MD
open PySem PySem.Spec PyProof.Rows L2
open Evl (Ex Ex.refl Ex.trans Ex.new ex_l ex_t ex_rd)

section
variable {X : Cx} {Wx : WX} {pa : Nat → Addr} {ε ε' ε'' : Bool} {W B B1 H H1 : Hp} {σ : L2.St} {ρ : Rho} {Q : VK} {tg : Expr}
/-! ### a comparison with what is read where it stands -/
theorem grow_in {B2 H2 : Hp} (sub : Ex B H) (g : Grow H H B2 H2) : Grow B H B H2 := ⟨Ex.refl _, g.eh, sub.trans g.eh, fun _ h1 h2 => absurd h2 h1⟩
def bl2 (w : D → D → Option D) (d e : D) : Option Bool := (w d e).bind asB
def mCmpB1 (w : D → D → Option D) (g : Rho → Option D) (f : M D) : M Bool := fun ρ => match g ρ with
  | none => none
  | some d => bindM f (fun e => optM (bl2 w d e)) ρ
def mCmpB2 (w : D → D → Option D) (f : M D) (g : Rho → Option D) : M Bool := bindM f fun d ρ => match g ρ with
  | none => none
  | some e => (bl2 w d e).map fun b => (.ok b, ρ)
theorem bl2_bl {w : D → D → Option D} {d e : D} {b : Bool} (h : bl2 w d e = some b) : w d e = some (.bool b) := by
  unfold bl2 at h
  cases q : w d e with
  | none => rw [q] at h; cases h
  | some z =>
    rw [q] at h
    cases z <;> cases h
    rfl
theorem finB1 {te tf : TE} {r : R2} {w : D → D → Option D} {ga : Rho → Option D} {f : M D} {R : V → Hp → Prop} (ho : OpD X r w)
    (ha : ∀ (W B H : Hp) (ρ : Rho) (σ : L2.St) (Q : VK), ER X.K pa W B H ρ σ → ∀ d, ga ρ = some d → (∀ v, Dp X.K H v d → Q v H) → te σ H Q)
    (hb : ∀ (W B H : Hp) (ρ : Rho) (σ : L2.St) (Q : VK), ER X.K pa W B H ρ σ → FinV X Wx pa false W B H σ Q (f ρ) → tf σ H Q)
    (I : ER X.K pa W B H ρ σ) {Qb : Bool → Hp → Prop} (hR : ∀ b H', Qb b H' → R (.bl b) H') (h : FinT X Wx pa false W B H σ Qb (mCmpB1 w ga f ρ)) : tOp r te tf σ H R := by
  unfold mCmpB1 at h
  split at h
  · exact h.elim
  · rename_i d q
    refine ha W B H ρ σ _ I d q fun v dv => ?_
    refine hb W B H ρ σ _ I (FinV.mk h.exP.bind fun e ρ1 e1 y B1 H1 eb eh I1 dp => ?_)
    rw [bindM_ok e1] at h
    obtain ⟨b, eb1, k⟩ := h.opt
    refine ho H1 H1 v y d e (.bool b) R (Ex.refl _) (ex_dp (eh rfl) dv) (ex_dp I1.sub dp) (bl2_bl eb1) fun u B2 H2 gr du => ?_
    cases du
    have g2 := grow_in I1.sub gr
    exact hR b H2 (k B1 H2 eb (fun _ => (eh rfl).trans gr.eh) (I1.grow g2))
theorem finB2 {te tf : TE} {r : R2} {w : D → D → Option D} {gb : Rho → Option D} {f : M D} {R : V → Hp → Prop} (ho : OpD X r w)
    (ha : ∀ (W B H : Hp) (ρ : Rho) (σ : L2.St) (Q : VK), ER X.K pa W B H ρ σ → FinV X Wx pa ε W B H σ Q (f ρ) → te σ H Q)
    (hb : ∀ (W B H : Hp) (ρ : Rho) (σ : L2.St) (Q : VK), ER X.K pa W B H ρ σ → ∀ d, gb ρ = some d → (∀ v, Dp X.K H v d → Q v H) → tf σ H Q)
    (I : ER X.K pa W B H ρ σ) {Qb : Bool → Hp → Prop} (hR : ∀ b H', Qb b H' → R (.bl b) H') (h : FinT X Wx pa ε W B H σ Qb (mCmpB2 w f gb ρ)) : tOp r te tf σ H R := by
  unfold mCmpB2 at h
  refine ha W B H ρ σ _ I (FinV.mk h.exP.bind fun d ρ1 e1 v B1 H1 eb eh I1 dp => ?_)
  rw [bindM_ok e1] at h
  split at h
  · exact h.elim
  · rename_i e q
    cases q2 : bl2 w d e with
    | none => rw [q2] at h; exact h.elim
    | some b =>
      rw [q2] at h
      refine hb W B1 H1 ρ1 σ _ I1 e q fun y dy => ?_
      refine ho H1 H1 v y d e (.bool b) R (Ex.refl _) (ex_dp I1.sub dp) dy (bl2_bl q2) fun u B2 H2 gr du => ?_
      cases du
      have g2 := grow_in I1.sub gr
      exact hR b H2 (h B1 H2 eb (fun z => (eh z).trans gr.eh) (I1.grow g2))
theorem FinV.toT {f : M Bool} (h : FinV X Wx pa ε W B H σ Q (mBl f ρ)) : FinT X Wx pa ε W B H σ (fun b H' => Q (.bl b) H') (f ρ) := by
  refine FinT.mk h.exP.bind fun b ρ1 e1 B1 H1 eb eh I1 => ?_
  unfold mBl at h
  rw [bindM_ok e1] at h
  exact h (.bl b) B1 H1 eb eh I1 (.bl b)
theorem dv_cmpB1 {a b : Expr} {op : CmpOp} {pos : Pos} {r : R2} {g : Rho → Option D} {f : M D} {w : D → D → Option D} (hr : OpR X (compareOp op) r) (ho : OpD X r w) (ha : DB X pa a g) (hb : DV X Wx pa false b f) (hm : behindInMarks op b = false := by first | exact nomark _ | rfl) : DV X Wx pa false (.Compare a [op] [b] pos) (mBl (mCmpB1 w g f)) := by
  obtain ⟨ta, pe, ha⟩ := ha
  obtain ⟨tb, pf, hb⟩ := hb
  exact ⟨_, pe_cmpR hr pe pf hm, fun W B H ρ σ Q I h => finB1 ho ha hb I (fun _ _ q => q) h.toT⟩
theorem dt_cmpB1 {a b : Expr} {op : CmpOp} {pos : Pos} {r : R2} {g : Rho → Option D} {f : M D} {w : D → D → Option D} (hr : OpR X (compareOp op) r) (ho : OpD X r w) (ha : DB X pa a g) (hb : DV X Wx pa false b f) (hm : behindInMarks op b = false := by first | exact nomark _ | rfl) : DT X Wx pa false (.Compare a [op] [b] pos) (mCmpB1 w g f) := by
  obtain ⟨ta, pe, ha⟩ := ha
  obtain ⟨tb, pf, hb⟩ := hb
  exact ⟨_, pt_cmpR hr pe pf hm, fun W B H ρ σ Q I h => finB1 ho ha hb I (fun b _ q => ⟨b, rfl, q⟩) h⟩
theorem dv_cmpB2 {a b : Expr} {op : CmpOp} {pos : Pos} {r : R2} {g : Rho → Option D} {f : M D} {w : D → D → Option D} (hr : OpR X (compareOp op) r) (ho : OpD X r w) (ha : DV X Wx pa ε a f) (hb : DB X pa b g) (hm : behindInMarks op b = false := by first | exact nomark _ | rfl) : DV X Wx pa ε (.Compare a [op] [b] pos) (mBl (mCmpB2 w f g)) := by
  obtain ⟨ta, pe, ha⟩ := ha
  obtain ⟨tb, pf, hb⟩ := hb
  exact ⟨_, pe_cmpR hr pe pf hm, fun W B H ρ σ Q I h => finB2 ho ha hb I (fun _ _ q => q) h.toT⟩
theorem dt_cmpB2 {a b : Expr} {op : CmpOp} {pos : Pos} {r : R2} {g : Rho → Option D} {f : M D} {w : D → D → Option D} (hr : OpR X (compareOp op) r) (ho : OpD X r w) (ha : DV X Wx pa ε a f) (hb : DB X pa b g) (hm : behindInMarks op b = false := by first | exact nomark _ | rfl) : DT X Wx pa ε (.Compare a [op] [b] pos) (mCmpB2 w f g) := by
  obtain ⟨ta, pe, ha⟩ := ha
  obtain ⟨tb, pf, hb⟩ := hb
  exact ⟨_, pt_cmpR hr pe pf hm, fun W B H ρ σ Q I h => finB2 ho ha hb I (fun b _ q => ⟨b, rfl, q⟩) h⟩
/-! ### more methods -/
def wInsert (ds as : List D) : Option (List D × D) := match as with
  | [.int i, d] => if ds.length < lim ∧ 0 ≤ i ∧ i < 100000 then some (ds.take i.toNat ++ [d] ++ ds.drop i.toNat, .none) else none
  | _ => none
theorem md_insert : MethD X (fun x vs H Q => ∃ (l : Addr) (xs : List V) (i : Int) (y : V), x = .ref l ∧ vs = [.int i, y] ∧ H l = some (.lst xs) ∧ xs.length < sizeLine ∧ 0 ≤ i ∧ i < 2 ^ 63 ∧
    Q .non (upd H l (.lst (xs.take i.toNat ++ [y] ++ xs.drop i.toNat)))) wInsert := by
  intro B H p xs vs ds as es z Q sub hb hH dx da ew k
  unfold wInsert at ew
  split at ew
  · rename_i i d
    split at ew
    · rename_i hl
      cases ew
      cases da with
      | cons hd ht =>
        cases hd
        cases ht with
        | cons hd2 ht =>
          cases ht
          exact ⟨p, xs, i, _, rfl, rfl, hH, lim_lt (by rw [dx.len]; exact hl.1), hl.2.1, by omega, k _ _ (((dx.take _).append (.cons hd2 .nil)).append (dx.drop _)) .non⟩
    · cases ew
  · cases ew
/-- x.extend(a new list) -/
def mExt (i : Nat) (g : M Cel) : M D := fun ρ => match ownAt i ρ with
  | none => none
  | some _ => bindM g (fun c ρ => match c with
    | .o1 es => (match ownAt i ρ with
      | none => none
      | some (c, ds) => if ds.length + es.length ≤ lim then some (.ok .none, ρ.set i (some (c.mk (ds ++ es)))) else none)
    | _ => none) ρ
theorem dv_ext {i : Nat} {x : Str} {p apos pos : Pos} {e : Expr} {g : M Cel} (ha : DE X Wx pa ε e g) (hN : X.N[i]? = some x := by rfl) (hv : Vis X.env.scope x := by first | exact Or.inl rfl | exact Or.inr (Or.inl rfl) | exact Or.inr (Or.inr rfl)) (hd : (x == ("__debug__" : Str)) = false := by decide) (hcd : (x == ("__classdict__" : Str)) = false := by decide)
    (hbase : attributeBase (.Name x p) "extend" X.env (eval (.Name x p) X.env) = eval (.Name x p) X.env := by rfl)
    (hfew : ((backTo pos (starEach [e] X.env)).all (fun x => !x.1) && (backToKw pos (keywordEach [] X.env)).all (fun x => x.1.isSome)
      && decide (([e] : List Expr).length + ([] : List Keyword).length + (if ([] : List Keyword).isEmpty then 0 else 1) < 30)) = true := by rfl)
    (hline : (apos.endLine == pos.line) = true := by rfl) (hs : starEach [e] X.env = (false, eval e X.env) :: starEach [] X.env := by rfl) :
    DV X Wx pa true (.Call (.Attribute (.Name x p) "extend" apos) [e] [] pos) (mExt i g) := by
  obtain ⟨t, pe, hh⟩ := ha
  refine ⟨_, pe_bm PySem.F.plainAttrs_list PySem.F.slot_list_extend PySem.F.type_list_extend mt_extend (pe_var hN hv hd hcd) (pa_one pe hs) hbase hfew hline hs rfl, fun W B H ρ σ Q I h => ?_⟩
  unfold mExt at h
  split at h
  · exact h.elim
  · rename_i c0 q0
    obtain ⟨c0, ds0⟩ := c0
    obtain ⟨a1, a2⟩ := ownAt_some q0
    obtain ⟨p0, xs, hv0, _, hH, _, _⟩ := I.own a1 a2
    refine ⟨_, hv0, .inl ⟨rfl, xs, .of hH⟩, hh W B H ρ σ _ I (FinC.mk h.exP.bind fun c ρ1 e1 v B1 H1 eb eh V1 => ?_)⟩
    rw [bindM_ok e1] at h
    split at h
    · rename_i es
      split at h
      · exact h.elim
      · rename_i c ds q1
        split at h
        · rename_i hl
          obtain ⟨b1, b2⟩ := ownAt_some q1
          obtain ⟨p', xs', hv', hb', hH', dx, k⟩ := V1.er.own b1 b2
          rw [hv0] at hv'
          injection hv' with hv'
          injection hv' with hv'
          injection hv' with hv'
          subst hv'
          obtain ⟨φ, ψ, s, r, _⟩ := V1
          obtain ⟨p2, rfl, _, zs, _, hZ, dz⟩ := r
          exact ⟨p0, p2, xs', zs, rfl, rfl, hH', hZ, lim_le (by rw [dx.len, dz.len]; exact hl), h .non B1 _ eb (fun z => by cases z) (k _ _ (dx.append dz)) .non⟩
        · exact h.elim
    · exact h.elim
/-- x.index(d) of a list that is read where it stands -/
def firstAt (d : D) : Nat → List D → Option Nat
  | _, [] => none
  | i, z :: r => if PyData.eqv z d then some i else firstAt d (i + 1) r
def wIndex (ds : List D) (d : D) : Option D := if SeqAt.shaped (.list ds) && SeqAt.shaped d then (firstAt d 0 ds).map fun i => .int (i : Nat) else none
theorem firstAt_some {d : D} : ∀ {ds : List D} {i j : Nat}, firstAt d i ds = some j → ∃ m z, j = i + m ∧ ds[m]? = some z ∧ PyData.eqv z d = true ∧ ∀ (n : Nat) (z' : D), n < m → ds[n]? = some z' → PyData.eqv z' d = false
  | [], _, _, h => by cases h
  | z :: r, i, j, h => by
    unfold firstAt at h
    split at h
    · rename_i e
      cases h
      exact ⟨0, z, rfl, rfl, e, fun n z' hn => by omega⟩
    · rename_i e
      obtain ⟨m, z2, h1, h2, h3, h4⟩ := firstAt_some h
      refine ⟨m + 1, z2, by omega, by simpa using h2, h3, fun n z' hn hz => ?_⟩
      cases n with
      | zero => simp at hz; subst hz; simpa using e
      | succ n => exact h4 n z' (by omega) (by simpa using hz)
def mIndex (g : Rho → Option (List D)) (f : M D) : M D := fun ρ => match g ρ with
  | none => none
  | some ds => bindM f (fun d => optM (wIndex ds d)) ρ
theorem dv_index {b e : Expr} {apos pos : Pos} {g : Rho → Option (List D)} {f : M D} (hu : X.A.units + 65 < cLine) (hb : DL X pa b g) (ha : DV X Wx pa false e f)
    (hbase : attributeBase b "index" X.env (eval b X.env) = eval b X.env := by rfl)
    (hfew : ((backTo pos (starEach [e] X.env)).all (fun x => !x.1) && (backToKw pos (keywordEach [] X.env)).all (fun x => x.1.isSome)
      && decide (([e] : List Expr).length + ([] : List Keyword).length + (if ([] : List Keyword).isEmpty then 0 else 1) < 30)) = true := by rfl)
    (hline : (apos.endLine == pos.line) = true := by rfl) (hs : starEach [e] X.env = (false, eval e X.env) :: starEach [] X.env := by rfl) :
    DV X Wx pa false (.Call (.Attribute b "index" apos) [e] [] pos) (mIndex g f) := by
  obtain ⟨tb, pb, hb⟩ := hb
  obtain ⟨t, pe, hh⟩ := ha
  refine ⟨_, pe_bm PySem.F.plainAttrs_list PySem.F.slot_list_index PySem.F.type_list_index (mt_indexD hu) pb (pa_one pe hs) hbase hfew hline hs rfl, fun W B H ρ σ Q I h => ?_⟩
  unfold mIndex at h
  split at h
  · exact h.elim
  · rename_i ds q0
    refine hb W B H ρ σ _ I ds q0 fun a xs hs dx => ⟨.inl ⟨rfl, xs, hs⟩, ?_⟩
    refine hh W B H ρ σ _ I (FinV.mk h.exP.bind fun d ρ1 e1 v B1 H1 eb eh I1 dp => ?_)
    rw [bindM_ok e1] at h
    obtain ⟨z, ez, k⟩ := h.opt
    unfold wIndex at ez
    split at ez
    · rename_i hsh
      rw [Bool.and_eq_true] at hsh
      cases q : firstAt d 0 ds with
      | none => rw [q] at ez; cases ez
      | some j =>
        rw [q] at ez
        cases ez
        obtain ⟨m, z2, h1, h2, h3, h4⟩ := firstAt_some q
        have e2 : j = m := by omega
        subst e2
        exact ⟨a, v, d, ds, j, z2, rfl, rfl, .lst (ex_l (eh rfl) hs) (ex_dpa (eb.trans I1.sub) dx), ex_dp I1.sub dp, hsh.1, hsh.2, h2, h3, h4, k _ B1 H1 eb eh I1 (.int _)⟩
    · cases ez
end
end MD


set_option Elab.async false
set_option linter.all false
set_option autoImplicit false
set_option maxRecDepth 100000
set_option maxHeartbeats 1000000
namespace MD
open PySem PySem.Spec PyProof.Rows L2
open Evl (Ex Ex.refl Ex.trans Ex.new ex_l ex_t ex_rd)

/-! ### lists of lists of one's own -/
inductive RowsF (K : PySem.W.Frag) (B W : Hp) : List Addr → List (List D) → Prop
  | nil : RowsF K B W [] []
  | cons {p : Addr} {ps : List Addr} {ds : List D} {dss : List (List D)} : (∃ xs, W p = some (.lst xs) ∧ DpAll K B xs ds) → RowsF K B W ps dss → RowsF K B W (p :: ps) (ds :: dss)
theorem RowsF.mono {K : PySem.W.Frag} {B B1 W W1 : Hp} (eb : Ex B B1) : ∀ {ps : List Addr} {dss : List (List D)}, (∀ a, a ∈ ps → W1 a = W a) → RowsF K B W ps dss → RowsF K B1 W1 ps dss
  | _, _, _, .nil => .nil
  | _, _, h, .cons ⟨xs, h1, h2⟩ t => .cons ⟨xs, by rw [h _ (by simp)]; exact h1, ex_dpa eb h2⟩ (RowsF.mono eb (fun a ha => h a (List.mem_cons_of_mem _ ha)) t)
theorem RowsF.append {K : PySem.W.Frag} {B W : Hp} {p : Addr} {ds : List D} (q : ∃ xs, W p = some (.lst xs) ∧ DpAll K B xs ds) : ∀ {ps : List Addr} {dss : List (List D)}, RowsF K B W ps dss → RowsF K B W (ps ++ [p]) (dss ++ [ds])
  | _, _, .nil => .cons q .nil
  | _, _, .cons h t => .cons h (RowsF.append q t)
theorem RowsF.rows {K : PySem.W.Frag} {B W H : Hp} (h : ∀ a o, W a = some o → H a = some o ∧ B a = none) : ∀ {ps : List Addr} {dss : List (List D)}, RowsF K B W ps dss → Rows K B H ps dss
  | _, _, .nil => .nil
  | _, _, .cons ⟨xs, h1, h2⟩ t => .cons ⟨xs, (h _ _ h1).2, (h _ _ h1).1, h2⟩ (RowsF.rows h t)
theorem RowsF.len {K : PySem.W.Frag} {B W : Hp} : ∀ {ps : List Addr} {dss : List (List D)}, RowsF K B W ps dss → ps.length = dss.length
  | _, _, .nil => rfl
  | _, _, .cons _ t => by rw [List.length_cons, List.length_cons, RowsF.len t]
def lcN2 (g : D → Rho → Option Rho) (test : M Bool) (elt : M Cel) (vs : List Nat) : List D → Rho → List (List D) → Option (List (List D) × Rho)
  | [], ρ, acc => some (acc, ρ)
  | d :: ds, ρ, acc => match g d ρ with
    | none => none
    | some ρ1 => match test ρ1 with
      | some (.ok true, ρ2) => match elt ρ2 with
        | some (.ok (.o1 e), ρ3) => if acc.length < lim then lcN2 g test elt vs ds (wipeR ρ3 vs) (acc ++ [e]) else none
        | _ => none
      | some (.ok false, ρ2) => lcN2 g test elt vs ds (wipeR ρ2 vs) acc
      | _ => none
def mLc2 (f : M (List D)) (vs : List Nat) (g : D → Rho → Option Rho) (test : M Bool) (elt : M Cel) : M Cel := bindM f fun ds ρ1 => if noOwn ρ1 vs then match lcN2 g test elt vs ds (wipeR ρ1 vs) [] with
  | none => none
  | some (acc, ρ2) => some (.ok (.o2 acc), back ρ1 ρ2 vs) else none
section
variable {X : Cx} {Wx : WX} {pa : Nat → Addr} {ε ε' ε'' : Bool} {W W' B B1 H H1 : Hp} {σ : L2.St} {ρ : Rho} {Q : VK} {tg : Expr}
theorem upd_eq {p : Addr} {o : HO} (h : W p = some o) : upd W p o = W := funext fun a => by
  by_cases e : a = p
  · subst e; rw [upd_same, h]
  · rw [upd_ne e]
theorem ER.reframe' {K : PySem.W.Frag} {p : Addr} {o o' : HO} (I : ER K pa W B H ρ σ) (h : W p = some o) : ER K pa (upd W p o') B (upd H p o') ρ σ := by
  rw [← upd_eq h] at I
  have := I.reframe (o' := o')
  exact this
/-- a list of one's own moves into the frame -/
theorem EV.frame1 {K : PySem.W.Frag} {v : V} {ds : List D} (h : EV K pa W B H ρ σ v (.o1 ds)) : ∃ q xs, v = .ref q ∧ W q = none ∧ H q = some (.lst xs) ∧ DpAll K B xs ds ∧ ER K pa (upd W q (.lst xs)) B H ρ σ := by
  obtain ⟨φ, ψ, s, ⟨q, rfl, rfl, xs, hB, hH, dx⟩, nd, dis, off⟩ := h
  have hw := (off q (by simp)).1
  refine ⟨q, xs, rfl, hw, hH, dx, φ, ⟨s.len, s.sub, fun a o e => ?_, s.at_, s.pin, s.nd, s.dis, fun i a ha => ?_⟩⟩
  · by_cases z : a = q
    · subst z; rw [upd_same] at e; cases e; exact ⟨hH, hB⟩
    · rw [upd_ne z] at e; exact s.frm a o e
  · obtain ⟨z1, z2, z3⟩ := s.off i a ha
    exact ⟨by rw [upd_ne (fun z => dis i a (by rw [z]; simp) ha)]; exact z1, z2, z3⟩
theorem ER.backG {K : PySem.W.Frag} {ρ1 ρ2 : Rho} {vs : List Nat} (I1 : ER K pa W B H ρ1 σ) (no : noOwn ρ1 vs = true) (I2 : ER K pa W' B1 H1 ρ2 (L2.wipe σ vs)) (eb : Ex B B1) (hW : ∀ a o, W a = some o → W' a = some o) : ∃ φ, Slots K pa W B1 H1 (MD.back ρ1 ρ2 vs) σ φ ∧ ∀ a o, W' a = some o → ∀ i, a ∉ φ i := by
  obtain ⟨φ1, s1⟩ := I1
  obtain ⟨φ, s⟩ := I2
  have hl : ρ2.length = σ.length := by rw [← s.len, wipe_length]
  have get1 : ∀ (i : Nat) (c : Cel), i ∈ vs → (MD.back ρ1 ρ2 vs)[i]? = some (some c) → ρ1[i]? = some (some c) := fun i c hi e => by
    have hlt : i < ρ2.length := by
      rcases Nat.lt_or_ge i ρ2.length with h | h
      · exact h
      · rw [List.getElem?_eq_none (by rw [back_len]; exact h)] at e; cases e
    rw [back_in hi hlt] at e
    have e : (ρ1[i]?).getD none = some c := by injection e
    cases q : ρ1[i]? with
    | none => rw [q] at e; cases e
    | some x => rw [q] at e; exact congrArg some e
  refine ⟨fun i => if i ∈ vs then [] else φ i, ⟨by rw [back_len]; exact hl.symm, s.sub, fun a u e => s.frm a u (hW a u e), fun i c e => ?_, fun i es e => ?_, fun i => ?_, fun i j a hij ha hb => ?_, fun i a ha => ?_⟩, fun a o ho i ha => ?_⟩
  · by_cases hi : i ∈ vs
    · have e1 := get1 i c hi e
      obtain ⟨d, rfl⟩ := noOwn_at no hi e1
      obtain ⟨v, h1, h2⟩ := s1.at_ i _ e1
      exact ⟨v, h1, by simp only [hi, if_true]; exact ⟨rfl, ex_dp eb h2.2⟩⟩
    · rw [back_out hi] at e
      obtain ⟨v, h1, h2⟩ := s.at_ i c e
      rw [wipe_out hi] at h1
      exact ⟨v, h1, by simp only [hi, if_false]; exact h2⟩
  · by_cases hi : i ∈ vs
    · exact s1.pin i es (get1 i _ hi e)
    · rw [back_out hi] at e
      have := s.pin i es e
      rw [wipe_out hi] at this
      exact this
  · by_cases hi : i ∈ vs
    · simp only [hi, if_true]; exact List.nodup_nil
    · simp only [hi, if_false]; exact s.nd i
  · by_cases hi : i ∈ vs
    · simp only [hi, if_true] at ha; exact absurd ha (by simp)
    · by_cases hj : j ∈ vs
      · simp only [hj, if_true] at hb; exact absurd hb (by simp)
      · simp only [hi, hj, if_false] at ha hb; exact s.dis i j a hij ha hb
  · by_cases hi : i ∈ vs
    · simp only [hi, if_true] at ha; exact absurd ha (by simp)
    · simp only [hi, if_false] at ha
      obtain ⟨z1, z2, z3⟩ := s.off i a ha
      refine ⟨?_, z2, z3⟩
      cases q : W a with
      | none => rfl
      | some o => rw [hW a o q] at z1; cases z1
  · by_cases hi : i ∈ vs
    · simp only [hi, if_true] at ha; exact absurd ha (by simp)
    · simp only [hi, if_false] at ha
      have := (s.off i a ha).1
      rw [ho] at this
      cases this
theorem finLc2 {wi : TI} {tgt : TG} {tt : TT} {te : TE} {f : M (List D)} {is vs : List Nat} {g : D → Rho → Option Rho} {test : M Bool} {elt : M Cel}
    (hi : ∀ (W B H : Hp) (ρ : Rho) (σ : L2.St) (R : It → Hp → Prop), ER X.K pa W B H ρ σ → FinI X Wx pa ε W B H σ R (f ρ) → wi σ H R)
    (hg : ∀ (W B H : Hp) (ρ ρ' : Rho) (σ : L2.St) (v : V) (d : D) (Q : L2.St → Hp → Prop), ER X.K pa W B H ρ σ → Dp X.K B v d → g d ρ = some ρ' → (∀ σ', ER X.K pa W B H ρ' σ' → Agree is σ σ' → Q σ' H) → tgt v σ H Q)
    (ht : ∀ (W B H : Hp) (ρ ρ' : Rho) (σ : L2.St) (b : Bool) (Q : Bool → Hp → Prop), ER X.K pa W B H ρ σ → test ρ = some (.ok b, ρ') → (∀ (B' H' : Hp), Ex B B' → (ε' = false → Ex H H') → ER X.K pa W B' H' ρ' σ → Q b H') → tt σ H Q)
    (he : ∀ (W B H : Hp) (ρ ρ' : Rho) (σ : L2.St) (c : Cel) (Q : VK), ER X.K pa W B H ρ σ → elt ρ = some (.ok c, ρ') → (∀ (v : V) (B' H' : Hp), Ex B B' → (ε'' = false → Ex H H') → EV X.K pa W B' H' ρ' σ v c → Q v H') → te σ H Q)
    (hs : ∀ j, j ∈ is → j ∈ vs) (I : ER X.K pa W B H ρ σ) (h : FinC X Wx pa (ε || (ε' || ε'')) W B H σ Q (mLc2 f vs g test elt ρ)) : tLc wi tgt tt te vs σ H Q := by
  refine hi W B H ρ σ _ I (FinI.mk h.exP.bind fun ds ρ1 e1 J B1 H1 eb eh I1 it => fun p hp => ?_)
  unfold mLc2 at h
  rw [bindM_ok e1] at h
  cases no : noOwn ρ1 vs with
  | false => rw [no] at h; exact h.elim
  | true =>
    rw [no] at h
    cases q0 : lcN2 g test elt vs ds (wipeR ρ1 vs) [] with
    | none => rw [q0] at h; exact h.elim
    | some pr =>
      obtain ⟨out, ρ2⟩ := pr
      rw [q0] at h
      have wp : W p = none := by
        obtain ⟨_, s1⟩ := I1
        cases e : W p with
        | none => rfl
        | some u => rw [(s1.frm p u e).1] at hp; cases hp
      refine ⟨fun i m H' => i ≤ ds.length ∧ m = ds.length - i ∧ ∃ ρb B' W' ps accD, Ex B1 B' ∧ ((ε || (ε' || ε'')) = false → ∀ a o, H1 a = some o → H' a = some o) ∧ (∀ a o, W a = some o → W' a = some o) ∧ W' p = some (.lst (ps.map V.ref)) ∧ RowsF X.K B' W' ps accD ∧ (p :: ps).Nodup ∧ (∀ a, a ∈ p :: ps → W a = none) ∧ ER X.K pa W' B' H' ρb (L2.wipe σ vs) ∧ lcN2 g test elt vs (ds.drop i) ρb accD = some (out, ρ2),
        ⟨ds.length, Nat.zero_le _, rfl, wipeR ρ1 vs, B1, upd W p (.lst []), [], [], Ex.refl _, fun _ => Ex.new hp, fun a o e => (Ex.new wp : Ex W (upd W p (.lst []))) a o e, upd_same, .nil, by simp, by simp [wp], (I1.wipe vs).frame hp, q0⟩, ?_⟩
      rintro i m H' ⟨hl, rfl, ρb, B', W', ps, accD, eb', eh', hW, hWp, rows, nd, off, I', q'⟩
      by_cases hlt : i < ds.length
      · refine .inr ⟨it.go i H' (eb'.trans I'.sub) hlt, fun H2 => ∃ ρb B' W' ps accD, Ex B1 B' ∧ ((ε || (ε' || ε'')) = false → ∀ a o, H1 a = some o → H2 a = some o) ∧ (∀ a o, W a = some o → W' a = some o) ∧ W' p = some (.lst (ps.map V.ref)) ∧ RowsF X.K B' W' ps accD ∧ (p :: ps).Nodup ∧ (∀ a, a ∈ p :: ps → W a = none) ∧ ER X.K pa W' B' H2 ρb (L2.wipe σ vs) ∧ lcN2 g test elt vs (ds.drop (i + 1)) ρb accD = some (out, ρ2),
          fun H2 z => ⟨ds.length - (i + 1), by omega, hlt, rfl, z⟩, fun x H2 y => ?_⟩
        obtain ⟨B2, gr, dx⟩ := it.yld i H' x H2 ds[i] B' eb' I'.sub (List.getElem?_eq_getElem hlt) y
        rw [List.drop_eq_getElem_cons hlt] at q'
        unfold lcN2 at q'
        have I2 := I'.grow gr
        cases q : g ds[i] ρb with
        | none => rw [q] at q'; cases q'
        | some ρ3 =>
          rw [q] at q'
          dsimp only at q'
          refine hg _ B2 H2 ρb ρ3 _ x ds[i] _ I2 dx q fun σ3 I3 a3 => ?_
          have ew : L2.wipe σ3 vs = L2.wipe σ vs := by
            rw [wipe_eq (is := is) a3.1 a3.2 hs, wipe_wipe]
          refine ⟨by rw [ew], ?_⟩
          split at q'
          · rename_i ρ4 q4
            refine ht _ B2 H2 ρ3 ρ4 σ3 true _ I3 q4 fun B4 H4 e4 eh4 I4 => ?_
            simp only [if_true]
            split at q'
            · rename_i e5 ρ5 q5
              refine he _ B4 H4 ρ4 ρ5 σ3 _ _ I4 q5 fun v B5 H5 eb5 eh5 V5 => ?_
              split at q'
              · rename_i hlen
                obtain ⟨z, xs, rfl, wz, hz, dz, I5⟩ := V5.frame1
                have zp : z ≠ p := fun e => by rw [e, hWp] at wz; cases wz
                have W'z : ∀ a o, W' a = some o → upd W' z (.lst xs) a = some o := fun a o e => by rw [upd_ne (fun t => by rw [t, wz] at e; cases e)]; exact e
                obtain ⟨_, s5⟩ := id I5
                have hD : H5 p = some (.lst (ps.map V.ref)) := (s5.frm p _ (W'z _ _ hWp)).1
                have zps : z ∉ ps := fun hm => by
                  have key : ∀ {qs : List Addr} {es : List (List D)}, RowsF X.K B' W' qs es → z ∈ qs → W' z ≠ none := by
                    intro qs es r
                    induction r with
                    | nil => intro hm; exact absurd hm (by simp)
                    | cons h _ ih =>
                      intro hm
                      rcases List.mem_cons.mp hm with e | e
                      · subst e; obtain ⟨_, h1, _⟩ := h; rw [h1]; simp
                      · exact ih e
                  exact key rows hm wz
                have W0z : W z = none := by
                  cases e : W z with
                  | none => rfl
                  | some o => rw [hW z o e] at wz; cases wz
                have psne : ∀ a, a ∈ ps → a ≠ p := fun a ha e => (List.nodup_cons.mp nd).1 (e ▸ ha)
                refine ⟨ps.map V.ref, hD, lim_lt (by rw [List.length_map, rows.len]; exact hlen), wipeR ρ5 vs, B5, upd (upd W' z (.lst xs)) p (.lst ((ps ++ [z]).map V.ref)), ps ++ [z], accD ++ [e5], ((eb'.trans gr.eb).trans e4).trans eb5, fun t a o ha => ?_, fun a o e => ?_, upd_same, ?_, ?_, fun a ha => ?_, ?_, q'⟩
                · rw [upd_ne (fun w => by rw [w, hp] at ha; cases ha)]
                  exact eh5 (ef (ef t).2).2 _ _ (eh4 (ef (ef t).2).1 _ _ (gr.eh _ _ (eh' t a o ha)))
                · rw [upd_ne (fun t => by rw [t, wp] at e; cases e)]
                  exact W'z _ _ (hW _ _ e)
                · refine RowsF.append ⟨xs, by rw [upd_ne zp, upd_same], dz⟩ (rows.mono ((gr.eb.trans e4).trans eb5) fun a ha => ?_)
                  rw [upd_ne (psne a ha), upd_ne (fun t => zps (by rw [← t]; exact ha))]
                · rw [List.nodup_cons] at nd ⊢
                  refine ⟨fun hm => ?_, ?_⟩
                  · rcases List.mem_append.mp hm with e | e
                    · exact nd.1 e
                    · exact zp (List.mem_singleton.mp e).symm
                  · exact List.nodup_append.mpr ⟨nd.2, by simp, fun a ha b hb e => zps (by rw [List.mem_singleton.mp hb] at e; exact e ▸ ha)⟩
                · rcases List.mem_cons.mp ha with e | e
                  · exact off a (by simp [e])
                  · rcases List.mem_append.mp e with e | e
                    · exact off a (List.mem_cons_of_mem _ e)
                    · rw [List.mem_singleton.mp e]; exact W0z
                · have := (I5.wipe vs).reframe' (o' := .lst ((ps ++ [z]).map V.ref)) (W'z _ _ hWp)
                  rw [ew] at this
                  rw [List.map_append] at this ⊢
                  exact this
              · cases q'
            · cases q'
          · rename_i ρ4 q4
            refine ht _ B2 H2 ρ3 ρ4 σ3 false _ I3 q4 fun B4 H4 e4 eh4 I4 => ?_
            simp only [Bool.false_eq_true, if_false]
            refine ⟨wipeR ρ4 vs, B4, W', ps, accD, (eb'.trans gr.eb).trans e4, fun z a o ha => eh4 (ef (ef z).2).1 _ _ (gr.eh _ _ (eh' z a o ha)), hW, hWp, rows.mono (gr.eb.trans e4) fun _ _ => rfl, nd, off, ?_, q'⟩
            have := I4.wipe vs
            rw [ew] at this
            exact this
          · cases q'
      · have e : i = ds.length := by omega
        subst e
        rw [List.drop_length] at q'
        cases q'
        refine .inl ⟨it.stop H' (eb'.trans I'.sub), h _ B' H' (eb.trans eb') (fun z => (eh (ef z).1).trans (eh' z)) ?_⟩
        obtain ⟨φ, s, hφ⟩ := I1.backG no I' eb' hW
        obtain ⟨_, s'⟩ := I'
        have rw' := rows.rows s'.frm
        refine ⟨φ, p :: ps, s, ⟨p, ps, rfl, rfl, (s'.frm _ _ hWp).2, (s'.frm _ _ hWp).1, rw'⟩, nd, fun i a ha => ?_, fun a ha => ?_⟩
        · rcases List.mem_cons.mp ha with e | e
          · rw [e]; exact hφ p _ hWp i
          · have key : ∀ {qs : List Addr} {es : List (List D)}, RowsF X.K B' W' qs es → a ∈ qs → ∃ o, W' a = some o := by
              intro qs es r
              induction r with
              | nil => intro hm; exact absurd hm (by simp)
              | cons h _ ih =>
                intro hm
                rcases List.mem_cons.mp hm with e | e
                · subst e; obtain ⟨_, h1, _⟩ := h; exact ⟨_, h1⟩
                · exact ih e
            obtain ⟨o, ho⟩ := key rows e
            exact hφ a o ho i
        · have hw' : ∃ o, W' a = some o := by
            rcases List.mem_cons.mp ha with e | e
            · rw [e]; exact ⟨_, hWp⟩
            · have key : ∀ {qs : List Addr} {es : List (List D)}, RowsF X.K B' W' qs es → a ∈ qs → ∃ o, W' a = some o := by
                intro qs es r
                induction r with
                | nil => intro hm; exact absurd hm (by simp)
                | cons h _ ih =>
                  intro hm
                  rcases List.mem_cons.mp hm with e | e
                  · subst e; obtain ⟨_, h1, _⟩ := h; exact ⟨_, h1⟩
                  · exact ih e
              exact key rows e
          obtain ⟨o, ho⟩ := hw'
          obtain ⟨f1, f2⟩ := s'.frm a o ho
          exact ⟨off a ha, by rw [f1]; simp, f2⟩
end
end MD


set_option Elab.async false
set_option linter.all false
set_option autoImplicit false
set_option maxRecDepth 100000
set_option maxHeartbeats 1000000
namespace MD
open PySem PySem.Spec PyProof.Rows L2
open Evl (Ex Ex.refl Ex.trans Ex.new ex_l ex_t ex_rd)

section
variable {X : Cx} {Wx : WX} {pa : Nat → Addr} {ε ε' ε'' : Bool} {W W' B B1 H H1 : Hp} {σ : L2.St} {ρ : Rho} {Q : VK} {tg : Expr}
theorem lc_parts2 {elt tg iter : Expr} {ifs : List Expr} {scope : Scope} {own : List (Str × Nat)} {is : List Nat} {g : D → Rho → Option Rho} {f : M (List D)} {test : M Bool} {e : M Cel}
    (hi : DI X Wx pa ε tg iter f) (hg : ∀ b, DG (X := bkX X scope b) (pa := pa) tg is g) (ht : ∀ b, DTs (bkX X scope b) W0 pa ε' ifs test) (he : ∀ b, DE (bkX X scope b) W0 pa ε'' elt e) (hs : ∀ j, j ∈ is → j ∈ own.map (·.2)) :
    ∃ wi tgt tt te, PI X tg iter wi ∧ (∀ b, PG (bkX X scope b) tg tgt) ∧ (∀ b, PTs (bkX X scope b) ifs tt) ∧ (∀ b, PE (bkX X scope b) elt te) ∧
      ∀ (W B H : Hp) (ρ : Rho) (σ : L2.St) (Q : VK), ER X.K pa W B H ρ σ → FinC X Wx pa (ε || (ε' || ε'')) W B H σ Q (mLc2 f (own.map (·.2)) g test e ρ) → tLc wi tgt tt te (own.map (·.2)) σ H Q := by
  obtain ⟨wi, pi, hi⟩ := hi
  refine ⟨wi, fun v σ H Q => ∀ b, (hg b).ex.choose v σ H Q, fun σ H Q => ∀ b, (ht b).ex.choose σ H Q, fun σ H Q => ∀ b, (he b).ex.choose σ H Q, pi, fun b => ?_, fun b => ?_, fun b => ?_, fun W B H ρ σ Q I h => ?_⟩
  · exact ⟨fun pins s σ H v u Q I r h => (hg b).ex.choose_spec.1.run pins s σ H v u Q I r (h b)⟩
  · exact ⟨fun pins s σ H Q I h => (ht b).ex.choose_spec.1.run pins s σ H Q I (h b)⟩
  · exact ⟨fun pins s σ H Q I h => (he b).ex.choose_spec.1.run pins s σ H Q I (h b)⟩
  · refine finLc2 hi (fun W B H ρ ρ' σ v d Q I dp q k b => (hg b).ex.choose_spec.2 W B H ρ ρ' σ v d Q I dp q k) (fun W B H ρ ρ' σ c Q I q k b => ?_) (fun W B H ρ ρ' σ d Q I q k b => ?_) hs I h
    · refine (ht b).ex.choose_spec.2 W B H ρ σ Q I ?_
      rw [q]
      exact k
    · refine (he b).ex.choose_spec.2 W B H ρ σ Q I ?_
      rw [q]
      exact k
theorem de_lc2 {elt tg iter : Expr} {ifs : List Expr} {scope : Scope} {own : List (Str × Nat)} {is : List Nat} {g : D → Rho → Option Rho} {f : M (List D)} {test : M Bool} {e : M Cel} {pos : Pos} (hc : X.calm = true) (nd : X.N.Nodup) (ok : blkC X.N X.env.scope scope own = true)
    (hi : DI X Wx pa ε tg iter f) (hg : ∀ b, DG (X := bkX X scope b) (pa := pa) tg is g) (ht : ∀ b, DTs (bkX X scope b) W0 pa ε' ifs test) (he : ∀ b, DE (bkX X scope b) W0 pa ε'' elt e) (hs : ∀ j, j ∈ is → j ∈ own.map (·.2) := by decide)
    (hf : ∀ x, foldedSetIterable iter X.env x = pure x := by intro _; rfl) :
    DE X Wx pa (ε || (ε' || ε'')) (.ListComp elt [⟨tg, iter, ifs, 0⟩] scope pos) (mLc2 f (own.map (·.2)) g test e) := by
  obtain ⟨wi, tgt, tt, te, p1, p2, p3, p4, p5⟩ := lc_parts2 hi hg ht he hs
  exact ⟨_, pe_lc hc nd p1 (blkOk_by ok) (fun s H C cl fp => p2 ⟨s, H, C, cl, fp⟩) (fun s H C cl fp => p3 ⟨s, H, C, cl, fp⟩) (fun s H C cl fp => p4 ⟨s, H, C, cl, fp⟩) hf, p5⟩
theorem ds_setLc2 {i : Nat} {y : Str} {py : Pos} {elt tg iter : Expr} {ifs : List Expr} {scope : Scope} {own : List (Str × Nat)} {is : List Nat} {g : D → Rho → Option Rho} {f : M (List D)} {test : M Bool} {e : M Cel} {pos spos : Pos} (hc : X.calm = true) (nd : X.N.Nodup) (ok : blkC X.N X.env.scope scope own = true)
    (hi : DI X Wx pa ε tg iter f) (hg : ∀ b, DG (X := bkX X scope b) (pa := pa) tg is g) (ht : ∀ b, DTs (bkX X scope b) W0 pa ε' ifs test) (he : ∀ b, DE (bkX X scope b) W0 pa ε'' elt e) (hs : ∀ j, j ∈ is → j ∈ own.map (·.2) := by decide)
    (hy : X.N[i]? = some y := by rfl) (hyl : X.env.scope.names.lookup y = some .local := by rfl) (hsw : swapsWith (.ListComp elt [⟨tg, iter, ifs, 0⟩] scope pos) (some (.Name y py)) spos.line X.env = pure true := by exact sw_true rfl rfl rfl (by decide +kernel))
    (hf : ∀ x, foldedSetIterable iter X.env x = pure x := by intro _; rfl) :
    DS X Wx pa (.Assign [.Name y py] (.ListComp elt [⟨tg, iter, ifs, 0⟩] scope pos) spos) (sSet i (mLc2 f (own.map (·.2)) g test e)) := by
  obtain ⟨wi, tgt, tt, te, p1, p2, p3, p4, p5⟩ := lc_parts2 hi hg ht he hs
  refine ⟨_, ps_setLc hc nd hy hyl hsw p1 (blkOk_by ok) (fun s H C cl fp => p2 ⟨s, H, C, cl, fp⟩) (fun s H C cl fp => p3 ⟨s, H, C, cl, fp⟩) (fun s H C cl fp => p4 ⟨s, H, C, cl, fp⟩) hf, fun W B H ρ σ D I h => ?_⟩
  refine p5 W B H ρ σ _ I (FinC.mk h.exP fun c ρ1 e1 v B1 H1 eb eh I1 => ?_)
  replace h : FinS X Wx pa W B D (nxt (putC i c ρ1)) := by rw [← andThen_ok (k := fun c ρ => nxt (putC i c ρ)) e1]; exact h
  obtain ⟨ρ', e2, k⟩ := h.nxt
  exact k _ B1 H1 eb (I1.put e2)
/-! ### rows of such a list -/
def o2At (i : Nat) (ρ : Rho) : Option (List (List D)) := match ρ[i]? with
  | some (some (.o2 dss)) => some dss
  | _ => none
def iVar (j : Nat) (ρ : Rho) : Option Int := match ρ[j]? with
  | some (some (.sh (.int n))) => some n
  | _ => none
def rowAt (i j : Nat) (ρ : Rho) : Option (Nat × List D) := (o2At i ρ).bind fun dss => (iVar j ρ).bind fun n => (ixN dss.length n).bind fun k => (dss[k]?).map fun ds => (k, ds)
def lRow (i j : Nat) (ρ : Rho) : Option (List D) := (rowAt i j ρ).map (·.2)
theorem o2At_some {i : Nat} {dss : List (List D)} (h : o2At i ρ = some dss) : ρ[i]? = some (some (.o2 dss)) := by
  unfold o2At at h
  split at h
  · rename_i q; cases h; exact q
  · cases h
theorem iVar_some {K : PySem.W.Frag} {j : Nat} {n : Int} (I : ER K pa W B H ρ σ) (h : iVar j ρ = some n) : σ[j]? = some (some (.int n)) := by
  unfold iVar at h
  split at h
  · rename_i q
    cases h
    obtain ⟨v, fp, h1, h2⟩ := I.look q
    obtain ⟨_, h2⟩ := h2
    cases h2
    exact h1
  · cases h
theorem rowAt_some {i j k : Nat} {ds : List D} (h : rowAt i j ρ = some (k, ds)) : ∃ dss n, o2At i ρ = some dss ∧ iVar j ρ = some n ∧ ixN dss.length n = some k ∧ dss[k]? = some ds := by
  unfold rowAt at h
  cases q1 : o2At i ρ with
  | none => rw [q1] at h; cases h
  | some dss =>
    rw [q1] at h
    dsimp only [Option.bind] at h
    cases q2 : iVar j ρ with
    | none => rw [q2] at h; cases h
    | some n =>
      rw [q2] at h
      dsimp only [Option.bind] at h
      cases q3 : ixN dss.length n with
      | none => rw [q3] at h; cases h
      | some k' =>
        rw [q3] at h
        dsimp only [Option.bind] at h
        cases q4 : dss[k']? with
        | none => rw [q4] at h; cases h
        | some ds' =>
          rw [q4] at h
          cases h
          exact ⟨dss, n, rfl, rfl, q3, q4⟩
theorem Rows.at_ {K : PySem.W.Frag} : ∀ {ps : List Addr} {dss : List (List D)} {k : Nat} {ds : List D}, Rows K B H ps dss → dss[k]? = some ds → ∃ q, ps[k]? = some q ∧ Own1 K B H q ds
  | _, _, _, _, .nil, h => by simp at h
  | _, _, 0, _, .cons a t, h => by simp at h; subst h; exact ⟨_, rfl, a⟩
  | _, _, k + 1, ds, .cons a t, h => by
    obtain ⟨q, h1, h2⟩ := Rows.at_ (k := k) (ds := ds) t (by simpa using h)
    exact ⟨q, by simpa using h1, h2⟩
theorem Rows.length {K : PySem.W.Frag} : ∀ {ps : List Addr} {dss : List (List D)}, Rows K B H ps dss → ps.length = dss.length
  | _, _, .nil => rfl
  | _, _, .cons a t => by rw [List.length_cons, List.length_cons, Rows.length t]
theorem Rows.other {K : PySem.W.Frag} {q : Addr} {ys : List V} : ∀ {ps : List Addr} {dss : List (List D)}, q ∉ ps → Rows K B H ps dss → Rows K B (upd H q (.lst ys)) ps dss
  | _, _, _, .nil => .nil
  | _, _, h, .cons ⟨xs, h1, h2, h3⟩ t => by
    rw [List.mem_cons, not_or] at h
    exact .cons ⟨xs, h1, by rw [upd_ne (fun z => h.1 z.symm)]; exact h2, h3⟩ (Rows.other h.2 t)
theorem Rows.put {K : PySem.W.Frag} {q : Addr} {ys : List V} {es : List D} (dy : DpAll K B ys es) : ∀ {ps : List Addr} {dss : List (List D)} {k : Nat}, ps.Nodup → ps[k]? = some q → Rows K B H ps dss → Rows K B (upd H q (.lst ys)) ps (dss.set k es)
  | _, _, _, _, h, .nil => by simp at h
  | _, _, 0, nd, h, .cons ⟨xs, h1, h2, h3⟩ t => by
    simp at h
    subst h
    exact .cons ⟨ys, h1, upd_same, dy⟩ (Rows.other (List.nodup_cons.mp nd).1 t)
  | _, _, k + 1, nd, h, .cons ⟨xs, h1, h2, h3⟩ t => by
    obtain ⟨n1, n2⟩ := List.nodup_cons.mp nd
    have h : _ := h
    rw [List.getElem?_cons_succ] at h
    rw [List.set_cons_succ]
    exact .cons ⟨xs, h1, by rw [upd_ne (fun z => n1 (by rw [z]; exact List.mem_of_getElem? h))]; exact h2, h3⟩ (Rows.put dy n2 h t)
theorem ER.own2 {K : PySem.W.Frag} {i : Nat} {dss : List (List D)} (h : ER K pa W B H ρ σ) (hi : ρ[i]? = some (some (.o2 dss))) :
    ∃ p ps, σ[i]? = some (some (.ref p)) ∧ H p = some (.lst (ps.map V.ref)) ∧ Rows K B H ps dss ∧ ∀ k q ys es, ps[k]? = some q → DpAll K B ys es → ER K pa W B (upd H q (.lst ys)) (ρ.set i (some (.o2 (dss.set k es)))) σ := by
  obtain ⟨φ, s⟩ := h
  obtain ⟨v, hv, r⟩ := s.at_ i _ hi
  obtain ⟨p, ps, rfl, hφ, hB, hH, rows⟩ := r
  refine ⟨p, ps, hv, hH, rows, fun k q ys es hk dy => ?_⟩
  have qin : q ∈ ps := List.mem_of_getElem? hk
  have nd := s.nd i
  rw [hφ] at nd
  obtain ⟨n1, n2⟩ := List.nodup_cons.mp nd
  have qp : p ≠ q := fun z => n1 (z ▸ qin)
  have qi : q ∈ φ i := by rw [hφ]; exact List.mem_cons_of_mem _ qin
  obtain ⟨w1, w2, w3⟩ := s.off i q qi
  have nb : ∀ a o, B a = some o → a ≠ q := fun a o z e => by rw [e, w3] at z; cases z
  have oth : ∀ j a, j ≠ i → a ∈ φ j → a ≠ q := fun j a hj ha e => s.dis j i a hj ha (e ▸ qi)
  have ow : ∀ {z : Addr} {fs : List D}, z ≠ q → Own1 K B H z fs → Own1 K B (upd H q (.lst ys)) z fs := fun hz ⟨zs, z1, z2, z3⟩ => ⟨zs, z1, by rw [upd_ne hz]; exact z2, z3⟩
  have hl : i < ρ.length := (List.getElem?_eq_some_iff.mp hi).1
  refine ⟨φ, ⟨by rw [List.length_set]; exact s.len, fun a o e => by rw [upd_ne (nb a o e)]; exact s.sub a o e, fun a o e => ?_, fun j c' e => ?_, fun j fs e => ?_, s.nd, s.dis, fun j a ha => ?_⟩⟩
  · obtain ⟨z1, z2⟩ := s.frm a o e
    exact ⟨by rw [upd_ne (fun z => by rw [z, w1] at e; cases e)]; exact z1, z2⟩
  · by_cases hj : j = i
    · subst hj
      rw [List.getElem?_set_self hl] at e
      cases e
      exact ⟨.ref p, hv, p, ps, rfl, hφ, hB, by rw [upd_ne qp]; exact hH, Rows.put dy n2 hk rows⟩
    · rw [List.getElem?_set_ne (Ne.symm hj)] at e
      obtain ⟨u, z1, z2⟩ := s.at_ j c' e
      refine ⟨u, z1, ?_⟩
      cases c' with
      | sh d => exact z2
      | o1 _ => obtain ⟨q1, y1, y2, y3⟩ := z2; exact ⟨q1, y1, y2, ow (oth j q1 hj (by rw [y2]; simp)) y3⟩
      | x1 _ => obtain ⟨q1, y1, y2, y3⟩ := z2; exact ⟨q1, y1, y2, ow (oth j q1 hj (by rw [y2]; simp)) y3⟩
      | o2 _ =>
        obtain ⟨q1, qs, y1, y2, y3, y4, y5⟩ := z2
        refine ⟨q1, qs, y1, y2, y3, by rw [upd_ne (oth j q1 hj (by rw [y2]; simp))]; exact y4, ?_⟩
        exact Rows.other (fun hm => oth j q hj (by rw [y2]; exact List.mem_cons_of_mem _ hm) rfl) y5
  · by_cases hj : j = i
    · subst hj
      rw [List.getElem?_set_self hl] at e
      cases e
    · rw [List.getElem?_set_ne (Ne.symm hj)] at e
      exact s.pin j fs e
  · obtain ⟨z1, z2, z3⟩ := s.off j a ha
    refine ⟨z1, ?_, z3⟩
    by_cases hz : a = q
    · rw [hz, upd_same]; simp
    · rw [upd_ne hz]; exact z2
theorem atI_row {ps : List Addr} {n : Int} {k : Nat} {q : Addr} (h : ixN ps.length n = some k) (e : ps[k]? = some q) : atI (ps.map V.ref) n = some (.ref q) := by
  unfold atI
  rw [List.length_map, h]
  show (ps.map V.ref)[k]? = _
  rw [List.getElem?_map, e]
  rfl
/-- x[j] of a list of lists of one's own, read where it stands -/
theorem dl_row (i j : Nat) {x y : Str} {p p2 pos : Pos} (hN : X.N[i]? = some x := by rfl) (hv : Vis X.env.scope x := by first | exact Or.inl rfl | exact Or.inr (Or.inl rfl) | exact Or.inr (Or.inr rfl)) (hd : (x == ("__debug__" : Str)) = false := by decide) (hcd : (x == ("__classdict__" : Str)) = false := by decide)
    (hN2 : X.N[j]? = some y := by rfl) (hv2 : Vis X.env.scope y := by first | exact Or.inl rfl | exact Or.inr (Or.inl rfl) | exact Or.inr (Or.inr rfl)) (hd2 : (y == ("__debug__" : Str)) = false := by decide) (hcd2 : (y == ("__classdict__" : Str)) = false := by decide) :
    DL X pa (.Subscript (.Name x p) (.Name y p2) pos) (lRow i j) := by
  refine ⟨_, pe_ix ix_list (pe_var hN hv hd hcd) (pe_var hN2 hv2 hd2 hcd2) (fun _ _ => rfl), fun W B H ρ σ Q I ds h k => ?_⟩
  unfold lRow at h
  cases q : rowAt i j ρ with
  | none => rw [q] at h; cases h
  | some pr =>
    obtain ⟨k', ds'⟩ := pr
    rw [q] at h
    cases h
    obtain ⟨dss, n, h1, h2, h3, h4⟩ := rowAt_some q
    obtain ⟨a, ps, hv, hH, rows, _⟩ := I.own2 (o2At_some h1)
    obtain ⟨r, hr, xs, _, hx, dx⟩ := rows.at_ h4
    exact ⟨_, hv, _, iVar_some I h2, a, _, n, .ref r, rfl, rfl, .of hH, atI_row (by rw [rows.length]; exact h3) hr, k r xs (.of hx) dx⟩
def putRow (i ja jb : Nat) (d : D) : S := fun ρ => match rowAt i ja ρ with
  | none => none
  | some (k, ds) => (iVar jb ρ).bind fun n => (ixN ds.length n).bind fun a => match ρ[i]? with
    | some (some (.o2 dss)) => some (.nx, ρ.set i (some (.o2 (dss.set k (ds.set a d)))))
    | _ => none
def sPutRow (i ja jb : Nat) (m : M D) : S := andThen m (putRow i ja jb)
/-- x[a][b] = e -/
theorem ds_putRow (i ja jb : Nat) {x ya yb : Str} {e : Expr} {f : M D} {p pa2 pb spos spos2 pos : Pos} (hv : DV X Wx pa ε e f) (hN : X.N[i]? = some x := by rfl) (hvs : Vis X.env.scope x := by first | exact Or.inl rfl | exact Or.inr (Or.inl rfl) | exact Or.inr (Or.inr rfl)) (hd : (x == ("__debug__" : Str)) = false := by decide) (hcd : (x == ("__classdict__" : Str)) = false := by decide)
    (hNa : X.N[ja]? = some ya := by rfl) (hva : Vis X.env.scope ya := by first | exact Or.inl rfl | exact Or.inr (Or.inl rfl) | exact Or.inr (Or.inr rfl)) (hda : (ya == ("__debug__" : Str)) = false := by decide) (hcda : (ya == ("__classdict__" : Str)) = false := by decide)
    (hNb : X.N[jb]? = some yb := by rfl) (hvb : Vis X.env.scope yb := by first | exact Or.inl rfl | exact Or.inr (Or.inl rfl) | exact Or.inr (Or.inr rfl)) (hdb : (yb == ("__debug__" : Str)) = false := by decide) (hcdb : (yb == ("__classdict__" : Str)) = false := by decide)
    (ha : ∀ v, assign (.Subscript (.Subscript (.Name x p) (.Name ya pa2) spos2) (.Name yb pb) spos) X.env v = (do
      let ov ← holding [v] (eval (.Subscript (.Name x p) (.Name ya pa2) spos2) X.env)
      let iv ← holding [v, ov] (eval (.Name yb pb) X.env)
      standAt spos
      holding [v, ov, iv] (setItem ov iv v)
      release [v, ov, iv] []) := by intro _; rfl)
    (hs : swapsWithSole [.Subscript (.Subscript (.Name x p) (.Name ya pa2) spos2) (.Name yb pb) spos] e pos.line X.env = pure false := by rfl) (hw : swappedStores [.Subscript (.Subscript (.Name x p) (.Name ya pa2) spos2) (.Name yb pb) spos] e X.env = pure none := by rfl)
    (h1 : (assignEach [.Subscript (.Subscript (.Name x p) (.Name ya pa2) spos2) (.Name yb pb) spos] X.env).map (·.2) = [assign (.Subscript (.Subscript (.Name x p) (.Name ya pa2) spos2) (.Name yb pb) spos) X.env] := by rfl) :
    DS X Wx pa (.Assign [.Subscript (.Subscript (.Name x p) (.Name ya pa2) spos2) (.Name yb pb) spos] e pos) (sPutRow i ja jb f) := by
  obtain ⟨t, pe, hh⟩ := hv
  refine ⟨_, ps_asg pe (pg_sub (pe_ix ix_list (pe_var hN hvs hd hcd) (pe_var hNa hva hda hcda) (fun _ _ => rfl)) (pe_var hNb hvb hdb hcdb) set_list ha) hs hw h1, fun W B H ρ σ D I h => ?_⟩
  refine hh W B H ρ σ _ I (FinV.mk h.exP fun d ρ1 e1 v B1 H1 eb eh I1 dp => ?_)
  unfold sPutRow at h
  rw [andThen_ok e1] at h
  unfold putRow at h
  split at h
  · exact h.elim
  · rename_i k ds q
    obtain ⟨dss, n, h1, h2, h3, h4⟩ := rowAt_some q
    cases q5 : iVar jb ρ1 with
    | none => rw [q5] at h; exact h.elim
    | some m =>
      rw [q5] at h
      dsimp only [Option.bind] at h
      cases q6 : ixN ds.length m with
      | none => rw [q6] at h; exact h.elim
      | some a =>
        rw [q6] at h
        dsimp only [Option.bind] at h
        rw [o2At_some h1] at h
        obtain ⟨r, ps, hv, hH, rows, kk⟩ := I1.own2 (o2At_some h1)
        obtain ⟨z, hz, xs, _, hx, dx⟩ := rows.at_ h4
        refine ⟨_, hv, _, iVar_some I1 h2, r, _, n, .ref z, rfl, rfl, .of hH, atI_row (by rw [rows.length]; exact h3) hz, _, iVar_some I1 q5, z, xs, m, a, rfl, rfl, hx, by rw [dx.len]; exact q6, ?_⟩
        exact h σ B1 _ eb (kk k z _ _ hz (dx.set dp a))
theorem HU64 {n : Nat} (h : n + 65 < cLine) : n + 64 < cLine := by omega
end
/-- a constant that the module has written -/
structure GlobD (K : PySem.W.Frag) (mg : Str → Option Value) (x : Str) (d : D) where
  u : Value
  v : V
  g : mg x = some u
  r : RelV v u
  d : ∀ B, Dp K B v d
end MD


set_option Elab.async false
set_option linter.all false
set_option autoImplicit false
set_option maxRecDepth 100000
set_option maxHeartbeats 1000000
namespace MD
open PySem PySem.Spec PyProof.Rows L2
open Evl (Ex Ex.refl Ex.trans Ex.new ex_l ex_t ex_rd)

/-! ### a name's list is shared from here on -/
def fzTo (i : Nat) (ρ : Rho) : Option Rho := match ρ[i]? with
  | some (some c) => (c.fz).map fun d => ρ.set i (some (.sh d))
  | _ => some ρ
def sFz (i : Nat) (f : S) : S := fun ρ => match f ρ with
  | some (.nx, ρ') => (fzTo i ρ').map fun ρ2 => (.nx, ρ2)
  | o => o
section
variable {X : Cx} {Wx : WX} {pa : Nat → Addr} {W B H : Hp} {σ : L2.St} {ρ : Rho}
theorem ds_fz (i : Nat) {st : Stmt} {f : S} (h : DS X Wx pa st f) : DS X Wx pa st (sFz i f) := by
  obtain ⟨t, pe, hh⟩ := h
  refine ⟨t, pe, fun W B H ρ σ D I h => hh W B H ρ σ D I ?_⟩
  unfold sFz at h
  cases e : f ρ with
  | none => rw [e] at h; exact h
  | some p =>
    obtain ⟨o, ρ'⟩ := p
    rw [e] at h
    cases o with
    | bk => exact h
    | ct => exact h
    | rt c => exact h
    | ex c => exact h
    | nx =>
      dsimp only at h
      unfold fzTo at h
      split at h
      · rename_i c hc
        cases q : c.fz with
        | none => rw [q] at h; exact h.elim
        | some d =>
          rw [q] at h
          intro σ' B' H' eb I'
          obtain ⟨v, B2, _, eb2, I2, _⟩ := I'.fzVar hc q
          exact h σ' B2 H' (eb.trans eb2) I2
      · exact h
end

/-! ### what a mirror comes to -/
def WM {α : Type} (m : M α) (ρ : Rho) (Q : α → Rho → Prop) : Prop := ∃ a ρ', m ρ = some (.ok a, ρ') ∧ Q a ρ'
def noX : Out → Prop
  | .ex _ => False
  | _ => True
/-- .. of statements, without exceptions -/
def WS (s : S) (ρ : Rho) (Q : Out → Rho → Prop) : Prop := ∃ o ρ', s ρ = some (o, ρ') ∧ noX o ∧ Q o ρ'
section
variable {α β : Type} {ρ : Rho}
theorem WM.mono {m : M α} {Q R : α → Rho → Prop} (h : WM m ρ Q) (k : ∀ a ρ', Q a ρ' → R a ρ') : WM m ρ R := let ⟨a, ρ', e, q⟩ := h; ⟨a, ρ', e, k _ _ q⟩
theorem WS.mono {s : S} {Q R : Out → Rho → Prop} (h : WS s ρ Q) (k : ∀ o ρ', Q o ρ' → R o ρ') : WS s ρ R := let ⟨a, ρ', e, x, q⟩ := h; ⟨a, ρ', e, x, k _ _ q⟩
@[simp] theorem WM_pure {a : α} {Q : α → Rho → Prop} : WM (pureM a) ρ Q ↔ Q a ρ := by
  constructor
  · rintro ⟨a', ρ', e, q⟩; cases e; exact q
  · exact fun q => ⟨a, ρ, rfl, q⟩
@[simp] theorem WM_bind {m : M α} {k : α → M β} {Q : β → Rho → Prop} : WM (bindM m k) ρ Q ↔ WM m ρ fun a ρ' => WM (k a) ρ' Q := by
  constructor
  · rintro ⟨b, ρ', e, q⟩
    unfold bindM at e
    split at e
    · cases e
    · rename_i a ρ1 q1; exact ⟨a, ρ1, q1, b, ρ', e, q⟩
    · cases e
  · rintro ⟨a, ρ1, e, b, ρ', e2, q⟩
    exact ⟨b, ρ', by rw [bindM_ok e]; exact e2, q⟩
@[simp] theorem WM_opt {o : Option α} {Q : α → Rho → Prop} : WM (optM o) ρ Q ↔ ∃ a, o = some a ∧ Q a ρ := by
  constructor
  · rintro ⟨a, ρ', e, q⟩
    unfold optM at e
    cases o with
    | none => cases e
    | some x => cases e; exact ⟨_, rfl, q⟩
  · rintro ⟨a, rfl, q⟩; exact ⟨a, ρ, rfl, q⟩
@[simp] theorem WM_var {i : Nat} {Q : D → Rho → Prop} : WM (mVar i) ρ Q ↔ ∃ c d, ρ[i]? = some (some c) ∧ c.fz = some d ∧ Q d (ρ.set i (some (.sh d))) := by
  constructor
  · rintro ⟨d, ρ', e, q⟩
    unfold mVar at e
    split at e
    · rename_i c hc
      cases q2 : c.fz with
      | none => rw [q2] at e; cases e
      | some d' => rw [q2] at e; cases e; exact ⟨c, _, hc, q2, q⟩
    · cases e
  · rintro ⟨c, d, h1, h2, q⟩
    exact ⟨d, _, by unfold mVar; rw [h1]; simp [h2], q⟩
@[simp] theorem WM_op1 {f : D → Option D} {m : M D} {Q : D → Rho → Prop} : WM (op1 f m) ρ Q ↔ WM m ρ fun d ρ' => ∃ z, f d = some z ∧ Q z ρ' := by unfold op1; simp
@[simp] theorem WM_op2 {f : D → D → Option D} {m k : M D} {Q : D → Rho → Prop} : WM (op2 f m k) ρ Q ↔ WM m ρ fun d ρ1 => WM k ρ1 fun e ρ2 => ∃ z, f d e = some z ∧ Q z ρ2 := by unfold op2; simp
@[simp] theorem WM_opA {f : List D → Option α} {m : M (List D)} {Q : α → Rho → Prop} : WM (opA f m) ρ Q ↔ WM m ρ fun ds ρ1 => ∃ z, f ds = some z ∧ Q z ρ1 := by unfold opA; simp
@[simp] theorem WM_val {m : M Cel} {Q : D → Rho → Prop} : WM (mVal m) ρ Q ↔ WM m ρ fun c ρ1 => ∃ z, c.fz = some z ∧ Q z ρ1 := by unfold mVal; simp
@[simp] theorem WM_cel {m : M D} {Q : Cel → Rho → Prop} : WM (mCel m) ρ Q ↔ WM m ρ fun d ρ1 => Q (.sh d) ρ1 := by unfold mCel; simp
@[simp] theorem WM_nil {Q : List D → Rho → Prop} : WM mNil ρ Q ↔ Q [] ρ := by unfold mNil; simp
@[simp] theorem WM_cons {m : M D} {k : M (List D)} {Q : List D → Rho → Prop} : WM (mCons m k) ρ Q ↔ WM m ρ fun d ρ1 => WM k ρ1 fun ds ρ2 => Q (d :: ds) ρ2 := by unfold mCons; simp
@[simp] theorem WM_test {m : M D} {Q : Bool → Rho → Prop} : WM (mTest m) ρ Q ↔ WM m ρ fun d ρ1 => ∃ b, asB d = some b ∧ Q b ρ1 := by unfold mTest; simp
@[simp] theorem WM_bl {m : M Bool} {Q : D → Rho → Prop} : WM (mBl m) ρ Q ↔ WM m ρ fun b ρ1 => Q (.bool b) ρ1 := by unfold mBl; simp
theorem WM_ite {b : Bool} {m k : M α} {Q : α → Rho → Prop} : WM (if b then m else k) ρ Q ↔ (b = true → WM m ρ Q) ∧ (b = false → WM k ρ Q) := by cases b <;> simp
@[simp] theorem WM_or {m k : M Bool} {Q : Bool → Rho → Prop} : WM (mOr m k) ρ Q ↔ WM m ρ fun b ρ1 => (b = true → Q true ρ1) ∧ (b = false → WM k ρ1 Q) := by unfold mOr; simp [WM_ite]
@[simp] theorem WM_and {m k : M Bool} {Q : Bool → Rho → Prop} : WM (mAnd m k) ρ Q ↔ WM m ρ fun b ρ1 => (b = true → WM k ρ1 Q) ∧ (b = false → Q false ρ1) := by unfold mAnd; simp [WM_ite]
@[simp] theorem WM_not {m : M Bool} {Q : Bool → Rho → Prop} : WM (mNot m) ρ Q ↔ WM m ρ fun b ρ1 => Q (!b) ρ1 := by unfold mNot; simp
@[simp] theorem WM_andV {f g : M D} {Q : D → Rho → Prop} : WM (mAndV f g) ρ Q ↔ WM f ρ fun d ρ1 => ∃ b, asB d = some b ∧ (b = true → WM g ρ1 Q) ∧ (b = false → Q (.bool false) ρ1) := by unfold mAndV; simp [WM_ite]
@[simp] theorem WM_orV {f g : M D} {Q : D → Rho → Prop} : WM (mOrV f g) ρ Q ↔ WM f ρ fun d ρ1 => ∃ b, asB d = some b ∧ (b = true → Q (.bool true) ρ1) ∧ (b = false → WM g ρ1 Q) := by unfold mOrV; simp [WM_ite]
@[simp] theorem WM_notV {f : M D} {Q : D → Rho → Prop} : WM (mNotV f) ρ Q ↔ WM f ρ fun d ρ1 => ∃ b, asB d = some b ∧ Q (.bool (!b)) ρ1 := by unfold mNotV; simp
@[simp] theorem WM_chain {w w' : D → D → Option D} {f g h : M D} {Q : D → Rho → Prop} : WM (mChain w w' f g h) ρ Q ↔ WM f ρ fun d ρ1 => WM g ρ1 fun e ρ2 => ∃ b, (w d e).bind asB = some b ∧ (b = true → WM h ρ2 fun z ρ3 => ∃ r, w' e z = some r ∧ Q r ρ3) ∧ (b = false → Q (.bool false) ρ2) := by unfold mChain; simp [WM_ite]
@[simp] theorem WM_read {g : Rho → Option α} {f : α → Option β} {Q : β → Rho → Prop} : WM (mRead g f) ρ Q ↔ ∃ a b, g ρ = some a ∧ f a = some b ∧ Q b ρ := by
  unfold mRead WM
  dsimp only
  constructor
  · rintro ⟨b, ρ', e, q⟩
    cases h1 : g ρ with
    | none => rw [h1] at e; cases e
    | some a =>
      rw [h1] at e
      cases h2 : f a with
      | none => simp [h2] at e
      | some b' => simp [h2] at e; obtain ⟨rfl, rfl⟩ := e; exact ⟨a, b', rfl, h2, q⟩
  · rintro ⟨a, b, h1, h2, q⟩
    exact ⟨b, ρ, by simp [h1, h2], q⟩
@[simp] theorem WM_ixL {g : Rho → Option (List D)} {f : M D} {Q : D → Rho → Prop} : WM (mIxL g f) ρ Q ↔ ∃ ds, g ρ = some ds ∧ WM f ρ fun d ρ1 => ∃ z, ixOf ds d = some z ∧ Q z ρ1 := by
  unfold mIxL WM
  dsimp only
  constructor
  · rintro ⟨b, ρ', e, q⟩
    split at e
    · cases e
    · rename_i ds h1
      have : WM (bindM f fun d => optM (ixOf ds d)) ρ Q := ⟨b, ρ', e, q⟩
      simp at this
      exact ⟨ds, h1, this⟩
  · rintro ⟨ds, h1, h2⟩
    rw [h1]
    have : WM (bindM f fun d => optM (ixOf ds d)) ρ Q := by simp; exact h2
    exact this
@[simp] theorem WM_index {g : Rho → Option (List D)} {f : M D} {Q : D → Rho → Prop} : WM (mIndex g f) ρ Q ↔ ∃ ds, g ρ = some ds ∧ WM f ρ fun d ρ1 => ∃ z, wIndex ds d = some z ∧ Q z ρ1 := by
  unfold mIndex WM
  dsimp only
  constructor
  · rintro ⟨b, ρ', e, q⟩
    split at e
    · cases e
    · rename_i ds h1
      have : WM (bindM f fun d => optM (wIndex ds d)) ρ Q := ⟨b, ρ', e, q⟩
      simp at this
      exact ⟨ds, h1, this⟩
  · rintro ⟨ds, h1, h2⟩
    rw [h1]
    have : WM (bindM f fun d => optM (wIndex ds d)) ρ Q := by simp; exact h2
    exact this
@[simp] theorem WM_cmpB1 {w : D → D → Option D} {g : Rho → Option D} {f : M D} {Q : Bool → Rho → Prop} : WM (mCmpB1 w g f) ρ Q ↔ ∃ d, g ρ = some d ∧ WM f ρ fun e ρ1 => ∃ z, bl2 w d e = some z ∧ Q z ρ1 := by
  unfold mCmpB1 WM
  dsimp only
  constructor
  · rintro ⟨b, ρ', e, q⟩
    split at e
    · cases e
    · rename_i d h1
      have : WM (bindM f fun e => optM (bl2 w d e)) ρ Q := ⟨b, ρ', e, q⟩
      simp only [WM_bind, WM_opt] at this
      exact ⟨d, h1, this⟩
  · rintro ⟨d, h1, h2⟩
    rw [h1]
    have : WM (bindM f fun e => optM (bl2 w d e)) ρ Q := by simp only [WM_bind, WM_opt]; exact h2
    exact this
@[simp] theorem WM_cmpB2 {w : D → D → Option D} {g : Rho → Option D} {f : M D} {Q : Bool → Rho → Prop} : WM (mCmpB2 w f g) ρ Q ↔ WM f ρ fun d ρ1 => ∃ e z, g ρ1 = some e ∧ bl2 w d e = some z ∧ Q z ρ1 := by
  unfold mCmpB2
  simp only [WM_bind]
  constructor
  · rintro ⟨d, ρ1, e1, b, ρ', e, q⟩
    refine ⟨d, ρ1, e1, ?_⟩
    dsimp only at e
    split at e
    · cases e
    · rename_i e' h1
      cases h2 : bl2 w d e' with
      | none => rw [h2] at e; cases e
      | some z => rw [h2] at e; cases e; exact ⟨e', _, h1, h2, q⟩
  · rintro ⟨d, ρ1, e1, e', z, h1, h2, q⟩
    exact ⟨d, ρ1, e1, z, ρ1, by simp [h1, h2], q⟩
@[simp] theorem WM_call {fm : FM} {ds : List D} {Q : Cel → Rho → Prop} : WM (callM fm ds) ρ Q ↔ ∃ c cs, fm (ds.map Cel.sh) = some (.ok c, cs) ∧ Q c ρ := by
  unfold callM WM
  dsimp only
  constructor
  · rintro ⟨b, ρ', e, q⟩
    split at e
    · cases e
    · rename_i c cs h1; cases e; exact ⟨_, _, h1, q⟩
    · cases e
  · rintro ⟨c, cs, h1, q⟩
    exact ⟨c, ρ, by simp [h1], q⟩
@[simp] theorem WM_meth0 {i : Nat} {w : List D → List D → Option (List D × D)} {Q : D → Rho → Prop} : WM (mMeth0 i w) ρ Q ↔ ∃ c ds es z, ownAt i ρ = some (c, ds) ∧ w ds [] = some (es, z) ∧ Q z (ρ.set i (some (c.mk es))) := by
  unfold mMeth0 WM
  dsimp only
  constructor
  · rintro ⟨b, ρ', e, q⟩
    split at e
    · cases e
    · rename_i c ds h1
      cases h2 : w ds [] with
      | none => rw [h2] at e; cases e
      | some p => obtain ⟨es, z⟩ := p; rw [h2] at e; cases e; exact ⟨c, ds, es, _, h1, h2, q⟩
  · rintro ⟨c, ds, es, z, h1, h2, q⟩
    exact ⟨z, _, by simp [h1, h2], q⟩
@[simp] theorem WM_meth {i : Nat} {w : List D → List D → Option (List D × D)} {g : M (List D)} {Q : D → Rho → Prop} : WM (mMeth i w g) ρ Q ↔ (∃ x, ownAt i ρ = some x) ∧ WM g ρ fun as ρ1 => ∃ c ds es z, ownAt i ρ1 = some (c, ds) ∧ w ds as = some (es, z) ∧ Q z (ρ1.set i (some (c.mk es))) := by
  unfold mMeth
  constructor
  · rintro ⟨b, ρ', e, q⟩
    dsimp only at e
    split at e
    · cases e
    · rename_i x h0
      have : WM (bindM g _) ρ Q := ⟨b, ρ', e, q⟩
      rw [WM_bind] at this
      refine ⟨⟨x, h0⟩, this.mono fun as ρ1 ⟨b, ρ', e, q⟩ => ?_⟩
      dsimp only at e
      split at e
      · cases e
      · rename_i c ds h1
        cases h2 : w ds as with
        | none => rw [h2] at e; cases e
        | some p => obtain ⟨es, z⟩ := p; rw [h2] at e; cases e; exact ⟨c, ds, es, _, h1, h2, q⟩
  · rintro ⟨⟨x, h0⟩, h⟩
    unfold WM
    dsimp only
    rw [h0]
    have : WM (bindM g (fun as ρ => match ownAt i ρ with
      | none => none
      | some (c, ds) => (w ds as).map fun p => (.ok p.2, ρ.set i (some (c.mk p.1))))) ρ Q := by
      rw [WM_bind]
      refine h.mono fun as ρ1 ⟨c, ds, es, z, h1, h2, q⟩ => ⟨z, _, by simp [h1, h2], q⟩
    exact this
@[simp] theorem WM_callO {fm : FM} {i : Nat} {g : M (List D)} {Q : Cel → Rho → Prop} : WM (mCallO fm i g) ρ Q ↔ (∃ x, ownAt i ρ = some x) ∧ WM g ρ fun ds ρ1 => ∃ c es r es' cs, ownAt i ρ1 = some (c, es) ∧ fm (.x1 es :: ds.map Cel.sh) = some (.ok r, .x1 es' :: cs) ∧ Q r (ρ1.set i (some (c.mk es'))) := by
  unfold mCallO
  constructor
  · rintro ⟨b, ρ', e, q⟩
    dsimp only at e
    split at e
    · cases e
    · rename_i x h0
      have : WM (bindM g (callO fm i)) ρ Q := ⟨b, ρ', e, q⟩
      rw [WM_bind] at this
      refine ⟨⟨x, h0⟩, this.mono fun ds ρ1 ⟨b, ρ', e, q⟩ => ?_⟩
      unfold callO at e
      split at e
      · cases e
      · rename_i c es h1
        split at e
        · rename_i r es' cs h2; cases e; exact ⟨c, es, _, es', cs, h1, h2, q⟩
        · cases e
  · rintro ⟨⟨x, h0⟩, h⟩
    unfold WM
    dsimp only
    rw [h0]
    have : WM (bindM g (callO fm i)) ρ Q := by
      rw [WM_bind]
      refine h.mono fun ds ρ1 ⟨c, es, r, es', cs, h1, h2, q⟩ => ⟨r, _, by unfold callO; simp [h1, h2], q⟩
    exact this
@[simp] theorem WM_ext {i : Nat} {g : M Cel} {Q : D → Rho → Prop} : WM (mExt i g) ρ Q ↔ (∃ x, ownAt i ρ = some x) ∧ WM g ρ fun c0 ρ1 => ∃ es c ds, c0 = .o1 es ∧ ownAt i ρ1 = some (c, ds) ∧ ds.length + es.length ≤ lim ∧ Q .none (ρ1.set i (some (c.mk (ds ++ es)))) := by
  unfold mExt
  constructor
  · rintro ⟨b, ρ', e, q⟩
    dsimp only at e
    split at e
    · cases e
    · rename_i x h0
      have : WM (bindM g _) ρ Q := ⟨b, ρ', e, q⟩
      rw [WM_bind] at this
      refine ⟨⟨x, h0⟩, this.mono fun c0 ρ1 hh => ?_⟩
      obtain ⟨b, ρ', e, q⟩ := hh
      dsimp only at e
      cases c0 with
      | o1 es =>
        dsimp only at e
        split at e
        · cases e
        · rename_i c ds h1
          split at e
          · rename_i h2; cases e; exact ⟨es, c, ds, rfl, h1, h2, q⟩
          · cases e
      | sh d => cases e
      | o2 d => cases e
      | x1 d => cases e
  · rintro ⟨⟨x, h0⟩, h⟩
    unfold WM
    dsimp only
    rw [h0]
    have : WM (bindM g (fun c ρ => match c with
    | .o1 es => (match ownAt i ρ with
      | none => none
      | some (c, ds) => if ds.length + es.length ≤ lim then some (.ok .none, ρ.set i (some (c.mk (ds ++ es)))) else none)
    | _ => none)) ρ Q := by
      rw [WM_bind]
      refine h.mono fun c0 ρ1 ⟨es, c, ds, h1, h2, h3, q⟩ => ?_
      subst h1
      exact ⟨.none, _, by simp [h2, h3], q⟩
    exact this
/-! statements -/
@[simp] theorem WS_seq {f g : S} {Q : Out → Rho → Prop} : WS (sSeq f g) ρ Q ↔ WS f ρ fun o ρ' => match o with | .nx => WS g ρ' Q | o => Q o ρ' := by
  unfold sSeq WS
  dsimp only
  constructor
  · rintro ⟨o, ρ', e, x, q⟩
    split at e
    · rename_i ρ1 h1; exact ⟨.nx, ρ1, h1, trivial, o, ρ', e, x, q⟩
    · rename_i h1
      refine ⟨o, ρ', e, x, ?_⟩
      cases o with
      | nx => exact absurd e (h1 ρ')
      | _ => exact q
  · rintro ⟨o, ρ1, h1, x, q⟩
    cases o with
    | nx => obtain ⟨o2, ρ2, h2, x2, q2⟩ := q; exact ⟨o2, ρ2, by rw [h1]; exact h2, x2, q2⟩
    | bk => exact ⟨.bk, ρ1, by rw [h1], trivial, q⟩
    | ct => exact ⟨.ct, ρ1, by rw [h1], trivial, q⟩
    | rt c => exact ⟨.rt c, ρ1, by rw [h1], trivial, q⟩
    | ex c => exact x.elim
@[simp] theorem WS_nil {Q : Out → Rho → Prop} : WS sNil ρ Q ↔ Q .nx ρ := by
  constructor
  · rintro ⟨o, ρ', e, x, q⟩; cases e; exact q
  · exact fun q => ⟨_, _, rfl, trivial, q⟩
@[simp] theorem WS_brk {Q : Out → Rho → Prop} : WS sBrk ρ Q ↔ Q .bk ρ := by
  constructor
  · rintro ⟨o, ρ', e, x, q⟩; cases e; exact q
  · exact fun q => ⟨_, _, rfl, trivial, q⟩
@[simp] theorem WS_cont {Q : Out → Rho → Prop} : WS sCont ρ Q ↔ Q .ct ρ := by
  constructor
  · rintro ⟨o, ρ', e, x, q⟩; cases e; exact q
  · exact fun q => ⟨_, _, rfl, trivial, q⟩
theorem WS_then {m : M α} {k : α → S} {Q : Out → Rho → Prop} : WS (andThen m k) ρ Q ↔ WM m ρ fun a ρ' => WS (k a) ρ' Q := by
  constructor
  · rintro ⟨o, ρ2, e, x, q⟩
    unfold andThen at e
    split at e
    · cases e
    · rename_i a ρ1 h1; exact ⟨a, ρ1, h1, o, ρ2, e, x, q⟩
    · cases e; exact x.elim
  · rintro ⟨a, ρ1, e, o, ρ2, e2, x, q⟩
    exact ⟨o, ρ2, by rw [andThen_ok e]; exact e2, x, q⟩
theorem WS_of {o : Out} {ρ1 : Rho} {s : S} {Q : Out → Rho → Prop} (e : s ρ = some (o, ρ1)) (x : noX o) : WS s ρ Q ↔ Q o ρ1 := by
  constructor
  · rintro ⟨o', ρ', e', _, q⟩; rw [e] at e'; cases e'; exact q
  · exact fun q => ⟨o, ρ1, e, x, q⟩
@[simp] theorem WS_drop {m : M α} {Q : Out → Rho → Prop} : WS (sDrop m) ρ Q ↔ WM m ρ fun _ ρ' => Q .nx ρ' := by
  unfold sDrop
  rw [WS_then]
  exact ⟨fun h => h.mono fun a ρ' q => (WS_of (o := .nx) rfl trivial).mp q, fun h => h.mono fun a ρ' q => (WS_of (o := .nx) rfl trivial).mpr q⟩
theorem WS_nxt {o : Rho → Option Rho} {Q : Out → Rho → Prop} : WS (fun ρ => nxt (o ρ)) ρ Q ↔ ∃ ρ2, o ρ = some ρ2 ∧ Q .nx ρ2 := by
  constructor
  · rintro ⟨z, ρ', e, x, q⟩
    unfold nxt at e
    cases h : o ρ with
    | none => simp [h] at e
    | some ρ2 => simp [h] at e; obtain ⟨rfl, rfl⟩ := e; exact ⟨_, rfl, q⟩
  · rintro ⟨ρ2, h, q⟩; exact ⟨.nx, ρ2, by simp [nxt, h], trivial, q⟩
@[simp] theorem WS_set {i : Nat} {m : M Cel} {Q : Out → Rho → Prop} : WS (sSet i m) ρ Q ↔ WM m ρ fun c ρ' => ∃ ρ2, putC i c ρ' = some ρ2 ∧ Q .nx ρ2 := by
  unfold sSet
  rw [WS_then]
  exact ⟨fun h => h.mono fun a ρ' q => WS_nxt.mp q, fun h => h.mono fun a ρ' q => WS_nxt.mpr q⟩
@[simp] theorem WS_ret {m : M Cel} {Q : Out → Rho → Prop} : WS (sRet m) ρ Q ↔ WM m ρ fun c ρ' => Q (.rt c) ρ' := by
  unfold sRet
  rw [WS_then]
  exact ⟨fun h => h.mono fun a ρ' q => (WS_of (o := .rt a) rfl trivial).mp q, fun h => h.mono fun a ρ' q => (WS_of (o := .rt a) rfl trivial).mpr q⟩
@[simp] theorem WS_if {c : M Bool} {f g : S} {Q : Out → Rho → Prop} : WS (sIf c f g) ρ Q ↔ WM c ρ fun b ρ' => (b = true → WS f ρ' Q) ∧ (b = false → WS g ρ' Q) := by
  unfold sIf
  rw [WS_then]
  exact ⟨fun h => h.mono fun b ρ' q => by cases b <;> simpa using q, fun h => h.mono fun b ρ' q => by cases b <;> simpa using q⟩
@[simp] theorem WS_asg {g : D → Rho → Option Rho} {m : M D} {Q : Out → Rho → Prop} : WS (sAsg g m) ρ Q ↔ WM m ρ fun d ρ' => ∃ ρ2, g d ρ' = some ρ2 ∧ Q .nx ρ2 := by
  unfold sAsg
  rw [WS_then]
  exact ⟨fun h => h.mono fun a ρ' q => WS_nxt.mp q, fun h => h.mono fun a ρ' q => WS_nxt.mpr q⟩
@[simp] theorem WS_for {g : D → Rho → Option Rho} {f : M (List D)} {b : S} {Q : Out → Rho → Prop} : WS (sFor g f b) ρ Q ↔ WM f ρ fun ds ρ' => WS (forN g b ds) ρ' Q := WS_then
@[simp] theorem WS_fz {i : Nat} {f : S} {Q : Out → Rho → Prop} : WS (sFz i f) ρ Q ↔ WS f ρ fun o ρ' => match o with | .nx => ∃ ρ2, fzTo i ρ' = some ρ2 ∧ Q .nx ρ2 | o => Q o ρ' := by
  unfold sFz
  constructor
  · rintro ⟨o, ρ', e, x, q⟩
    dsimp only at e
    split at e
    · rename_i ρ1 h1
      refine ⟨.nx, ρ1, h1, trivial, ?_⟩
      cases h2 : fzTo i ρ1 with
      | none => simp [h2] at e
      | some ρ2 => simp [h2] at e; obtain ⟨rfl, rfl⟩ := e; exact ⟨_, h2, q⟩
    · rename_i h1
      refine ⟨o, ρ', e, x, ?_⟩
      cases o with
      | nx => exact absurd e (h1 ρ')
      | _ => exact q
  · rintro ⟨o, ρ1, e, x, q⟩
    unfold WS
    dsimp only
    rw [e]
    cases o with
    | nx => obtain ⟨ρ2, h2, q⟩ := q; exact ⟨.nx, ρ2, by simp [h2], trivial, q⟩
    | bk => exact ⟨_, _, rfl, trivial, q⟩
    | ct => exact ⟨_, _, rfl, trivial, q⟩
    | rt c => exact ⟨_, _, rfl, trivial, q⟩
    | ex c => exact x.elim
@[simp] theorem WS_putAt {i : Nat} {m j : M D} {Q : Out → Rho → Prop} : WS (sPutAt i m j) ρ Q ↔ WM m ρ fun d ρ1 => (∃ x, ownAt i ρ1 = some x) ∧ WM j ρ1 fun k ρ2 => ∃ c ds n a, ownAt i ρ2 = some (c, ds) ∧ k = .int n ∧ ixN ds.length n = some a ∧ Q .nx (ρ2.set i (some (c.mk (ds.set a d)))) := by
  unfold sPutAt
  rw [WS_then]
  constructor
  · refine fun h => h.mono fun d ρ1 hh => ?_
    obtain ⟨o, ρ', e, x, q⟩ := hh
    dsimp only at e
    split at e
    · cases e
    · rename_i z h0
      refine ⟨⟨z, h0⟩, (WS_then.mp ⟨o, ρ', e, x, q⟩).mono fun k ρ2 hh => ?_⟩
      obtain ⟨o, ρ', e, x, q⟩ := hh
      unfold putK at e
      split at e
      · cases e
      · rename_i c ds h1
        split at e
        · rename_i n
          cases h3 : ixN ds.length n with
          | none => simp [h3] at e
          | some a => simp [h3] at e; obtain ⟨rfl, rfl⟩ := e; exact ⟨c, ds, n, a, h1, rfl, h3, q⟩
        · cases e
  · refine fun h => h.mono fun d ρ1 hh => ?_
    obtain ⟨⟨z, h0⟩, h⟩ := hh
    have : WS (andThen j (putK i d)) ρ1 Q := by
      rw [WS_then]
      refine h.mono fun k ρ2 hh => ?_
      obtain ⟨c, ds, n, a, h1, h2, h3, q⟩ := hh
      subst h2
      exact ⟨.nx, _, by unfold putK; simp [h1, h3], trivial, q⟩
    obtain ⟨o, ρ', e, x, q⟩ := this
    exact ⟨o, ρ', by simp only [h0]; exact e, x, q⟩
@[simp] theorem WS_putRow {i ja jb : Nat} {m : M D} {Q : Out → Rho → Prop} : WS (sPutRow i ja jb m) ρ Q ↔ WM m ρ fun d ρ1 => ∃ dss na nb k ds a, o2At i ρ1 = some dss ∧ iVar ja ρ1 = some na ∧ iVar jb ρ1 = some nb ∧ ixN dss.length na = some k ∧ dss[k]? = some ds ∧ ixN ds.length nb = some a ∧ Q .nx (ρ1.set i (some (.o2 (dss.set k (ds.set a d))))) := by
  unfold sPutRow
  rw [WS_then]
  constructor
  · refine fun h => h.mono fun d ρ1 hh => ?_
    obtain ⟨o, ρ', e, x, q⟩ := hh
    unfold putRow at e
    split at e
    · cases e
    · rename_i k ds h1
      obtain ⟨dss, n, g1, g2, g3, g4⟩ := rowAt_some h1
      cases h3 : iVar jb ρ1 with
      | none => simp [h3] at e
      | some nb =>
        cases h4 : ixN ds.length nb with
        | none => simp [h3, h4] at e
        | some a =>
          simp [h3, h4, o2At_some g1] at e
          obtain ⟨rfl, rfl⟩ := e
          exact ⟨dss, n, nb, k, ds, a, g1, g2, rfl, g3, g4, h4, q⟩
  · refine fun h => h.mono fun d ρ1 hh => ?_
    obtain ⟨dss, na, nb, k, ds, a, h1, h2, h3, h4, h5, h6, q⟩ := hh
    refine ⟨.nx, _, ?_, trivial, q⟩
    have e : rowAt i ja ρ1 = some (k, ds) := by unfold rowAt; simp [h1, h2, h4, h5]
    unfold putRow
    simp [e, h3, h6, o2At_some h1]
@[simp] theorem WS_par {i j : Nat} {m : M (List D)} {Q : Out → Rho → Prop} : WS (sPar i j m) ρ Q ↔ WM m ρ fun ds ρ1 => ∃ d e ρ2 ρ3, ds = [d, e] ∧ putC i (.sh d) ρ1 = some ρ2 ∧ putC j (.sh e) ρ2 = some ρ3 ∧ Q .nx ρ3 := by
  unfold sPar
  rw [WS_then]
  constructor
  · refine fun h => h.mono fun ds ρ1 hh => ?_
    obtain ⟨o, ρ', e, x, q⟩ := hh
    dsimp only at e
    split at e
    · rename_i d e'
      unfold nxt at e
      cases h1 : putC i (.sh d) ρ1 with
      | none => simp [h1] at e
      | some ρ2 =>
        cases h2 : putC j (.sh e') ρ2 with
        | none => simp [h1, h2] at e
        | some ρ3 => simp [h1, h2] at e; obtain ⟨rfl, rfl⟩ := e; exact ⟨d, e', ρ2, ρ3, rfl, h1 ▸ rfl, h2, q⟩
    · cases e
  · refine fun h => h.mono fun ds ρ1 hh => ?_
    obtain ⟨d, e, ρ2, ρ3, h1, h2, h3, q⟩ := hh
    subst h1
    exact ⟨.nx, ρ3, by simp [h2, h3, nxt], trivial, q⟩
@[simp] theorem WS_aug {i : Nat} {w : Int → Int → Int} {m : M D} {Q : Out → Rho → Prop} : WS (sAug i w m) ρ Q ↔ ∃ a, ρ[i]? = some (some (.sh (.int a))) ∧ WM m ρ fun d ρ1 => ∃ b ρ2, d = .int b ∧ putC i (.sh (.int (w a b))) ρ1 = some ρ2 ∧ Q .nx ρ2 := by
  constructor
  · rintro ⟨o, ρ', e, x, q⟩
    unfold sAug at e
    split at e
    · rename_i a h0
      refine ⟨a, h0, (WS_then.mp ⟨o, ρ', e, x, q⟩).mono fun d ρ1 hh => ?_⟩
      obtain ⟨o, ρ', e, x, q⟩ := hh
      dsimp only at e
      split at e
      · rename_i b
        obtain ⟨ρ2, h, q⟩ := (WS_nxt (o := putC i (.sh (.int (w a b))))).mp ⟨o, ρ', e, x, q⟩
        exact ⟨b, ρ2, rfl, h, q⟩
      · cases e
    · cases e
  · rintro ⟨a, h0, h⟩
    have : WS (andThen m fun d ρ' => match d with
      | .int b => nxt (putC i (.sh (.int (w a b))) ρ')
      | _ => none) ρ Q := by
      rw [WS_then]
      refine h.mono fun d ρ1 hh => ?_
      obtain ⟨b, ρ2, h1, h2, q⟩ := hh
      subst h1
      exact ⟨.nx, ρ2, by simp [h2, nxt], trivial, q⟩
    obtain ⟨o, ρ', e, x, q⟩ := this
    exact ⟨o, ρ', by unfold sAug; rw [h0]; exact e, x, q⟩
end
end MD


set_option Elab.async false
set_option linter.all false
set_option autoImplicit false
set_option maxRecDepth 100000
set_option maxHeartbeats 1000000
namespace MD
open PySem PySem.Spec PyProof.Rows L2

section
variable {α β : Type} {ρ : Rho}
@[simp] theorem WM_itL {m : M D} {Q : List D → Rho → Prop} : WM (itL m) ρ Q ↔ WM m ρ fun d ρ1 => ∃ z, asL d = some z ∧ Q z ρ1 := by unfold itL; simp
@[simp] theorem WM_itT {m : M D} {Q : List D → Rho → Prop} : WM (itT m) ρ Q ↔ WM m ρ fun d ρ1 => ∃ z, asT d = some z ∧ Q z ρ1 := by unfold itT; simp
@[simp] theorem WM_rev {m : M D} {Q : Cel → Rho → Prop} : WM (mRev m) ρ Q ↔ WM m ρ fun d ρ1 => ∃ z, revOf d = some z ∧ Q z ρ1 := by unfold mRev; simp
@[simp] theorem WM_rep {f : M Cel} {g : M D} {Q : Cel → Rho → Prop} : WM (mRep f g) ρ Q ↔ WM f ρ fun c ρ1 => WM g ρ1 fun d ρ2 => ∃ z, repOf c d = some z ∧ Q z ρ2 := by unfold mRep; simp
@[simp] theorem WM_sortSet {m : M D} {Q : Cel → Rho → Prop} : WM (mSortSet m) ρ Q ↔ WM m ρ fun d ρ1 => ∃ z, onList pSortSet [d] = some z ∧ Q (.o1 z) ρ1 := by
  unfold mSortSet
  simp only [WM_bind, WM_opt, Option.map_eq_some_iff]
  constructor
  · exact fun h => h.mono fun a ρ1 ⟨c, ⟨z, h1, h2⟩, q⟩ => ⟨z, h1, by subst h2; exact q⟩
  · exact fun h => h.mono fun a ρ1 ⟨z, h1, q⟩ => ⟨_, ⟨z, h1, rfl⟩, q⟩
@[simp] theorem WM_lenSet {m : M D} {Q : D → Rho → Prop} : WM (mLenSet m) ρ Q ↔ WM m ρ fun d ρ1 => ∃ z, onList pLenSet [d] = some z ∧ Q z ρ1 := by unfold mLenSet; simp
@[simp] theorem WM_lstRg1 {m : M D} {Q : Cel → Rho → Prop} : WM (mLstRg1 m) ρ Q ↔ WM m ρ fun d ρ1 => ∃ z, lstRg (.int 0) d = some z ∧ Q z ρ1 := by unfold mLstRg1; simp
@[simp] theorem WM_lstRg2 {f g : M D} {Q : Cel → Rho → Prop} : WM (mLstRg2 f g) ρ Q ↔ WM f ρ fun d ρ1 => WM g ρ1 fun e ρ2 => ∃ z, lstRg d e = some z ∧ Q z ρ2 := by unfold mLstRg2; simp
/-- a bound of a slice -/
def WO (f : MO) (ρ : Rho) (Q : Option Int → Rho → Prop) : Prop := ∃ o ρ', f ρ = some (o, ρ') ∧ Q o ρ'
@[simp] theorem WO_none {Q : Option Int → Rho → Prop} : WO oNone ρ Q ↔ Q none ρ := by
  constructor
  · rintro ⟨o, ρ', e, q⟩; cases e; exact q
  · exact fun q => ⟨_, _, rfl, q⟩
@[simp] theorem WO_some {m : M D} {Q : Option Int → Rho → Prop} : WO (oSome m) ρ Q ↔ WM m ρ fun d ρ1 => ∃ i, d = .int i ∧ Q (some i) ρ1 := by
  unfold WO oSome
  constructor
  · rintro ⟨o, ρ', e, q⟩
    split at e
    · rename_i i ρ1 h1; cases e; exact ⟨_, _, h1, i, rfl, q⟩
    · cases e
  · rintro ⟨d, ρ1, h1, i, rfl, q⟩
    exact ⟨some i, ρ1, by simp [h1], q⟩
@[simp] theorem WM_cut {fl fh : MO} {ds : List D} {Q : Cel → Rho → Prop} : WM (mCut fl fh ds) ρ Q ↔ WO fl ρ fun l ρ1 => WO fh ρ1 fun h ρ2 => ds.length ≤ lim ∧ Q (.o1 (cutD ds l h)) ρ2 := by
  unfold WM mCut WO cutTo
  constructor
  · rintro ⟨c, ρ', e, q⟩
    split at e
    · cases e
    · rename_i l ρ1 h1
      split at e
      · cases e
      · rename_i h ρ2 h2
        split at e
        · rename_i h3; cases e; exact ⟨l, ρ1, h1, h, _, h2, h3, q⟩
        · cases e
  · rintro ⟨l, ρ1, h1, h, ρ2, h2, h3, q⟩
    exact ⟨_, _, by simp [h1, h2, h3], q⟩
@[simp] theorem WM_slice {m : M D} {fl fh : MO} {Q : Cel → Rho → Prop} : WM (mSlice m fl fh) ρ Q ↔ WM m ρ fun d ρ1 => ∃ ds, d = .list ds ∧ WO fl ρ1 fun l ρ1 => WO fh ρ1 fun h ρ2 => ds.length ≤ lim ∧ Q (.o1 (cutD ds l h)) ρ2 := by
  unfold mSlice
  rw [WM_bind]
  constructor
  · refine fun h => h.mono fun d ρ1 h => ?_
    cases d with
    | list ds => exact ⟨ds, rfl, WM_cut.mp h⟩
    | _ => obtain ⟨_, _, e, _⟩ := h; cases e
  · refine fun h => h.mono fun d ρ1 ⟨ds, e, h⟩ => ?_
    subst e
    exact WM_cut.mpr h
@[simp] theorem WM_sliceL {g : Rho → Option (List D)} {fl fh : MO} {Q : Cel → Rho → Prop} : WM (mSliceL g fl fh) ρ Q ↔ ∃ ds, g ρ = some ds ∧ WO fl ρ fun l ρ1 => WO fh ρ1 fun h ρ2 => ds.length ≤ lim ∧ Q (.o1 (cutD ds l h)) ρ2 := by
  constructor
  · rintro ⟨c, ρ', e, q⟩
    unfold mSliceL at e
    split at e
    · cases e
    · rename_i ds h1; exact ⟨ds, h1, WM_cut.mp ⟨c, ρ', e, q⟩⟩
  · rintro ⟨ds, h1, h⟩
    obtain ⟨c, ρ', e, q⟩ := WM_cut.mpr h
    exact ⟨c, ρ', by unfold mSliceL; simp [h1, e], q⟩
/-! ### loops -/
theorem WS_forN (enc : α → D) {g : D → Rho → Option Rho} {b : S} {xs : List α} {Q : Out → Rho → Prop} (I : List α → Rho → Prop) (h0 : I [] ρ)
    (hs : ∀ (done : List α) (a : α) (rest : List α) (ρ : Rho), xs = done ++ a :: rest → I done ρ → ∃ ρ1, g (enc a) ρ = some ρ1 ∧ WS b ρ1 fun o ρ2 => match o with | .nx => I (done ++ [a]) ρ2 | .ct => I (done ++ [a]) ρ2 | .bk => Q .nx ρ2 | o => Q o ρ2)
    (hd : ∀ ρ, I xs ρ → Q .nx ρ) : WS (forN g b (xs.map enc)) ρ Q := by
  have key : ∀ (rest done : List α) (ρ : Rho), xs = done ++ rest → I done ρ → WS (forN g b (rest.map enc)) ρ Q := by
    intro rest
    induction rest with
    | nil =>
      intro done ρ e i
      rw [List.append_nil] at e
      subst e
      exact ⟨.nx, ρ, rfl, trivial, hd ρ i⟩
    | cons a rest ih =>
      intro done ρ e i
      obtain ⟨ρ1, e1, o, ρ2, e2, x, q⟩ := hs done a rest ρ e i
      unfold WS
      rw [List.map_cons]
      unfold forN
      simp only [e1, e2]
      have e' : xs = (done ++ [a]) ++ rest := by rw [e, List.append_assoc]; rfl
      cases o with
      | nx => exact ih _ ρ2 e' q
      | ct => exact ih _ ρ2 e' q
      | bk => exact ⟨_, _, rfl, trivial, q⟩
      | rt c => exact ⟨_, _, rfl, trivial, q⟩
      | ex c => exact x.elim
  exact key xs [] ρ rfl h0
theorem WS_while {t : M Bool} {b : S} {Q : Out → Rho → Prop} (I : Nat → Rho → Prop) (n : Nat) (h0 : I n ρ)
    (hs : ∀ n ρ, I n ρ → WM t ρ fun c ρ1 => (c = true → WS b ρ1 fun o ρ2 => match o with | .nx => ∃ m, m < n ∧ I m ρ2 | .ct => ∃ m, m < n ∧ I m ρ2 | .bk => Q .nx ρ2 | o => Q o ρ2) ∧ (c = false → Q .nx ρ1)) : WS (sWhile t b) ρ Q := by
  have key : ∀ (n : Nat) (ρ : Rho), I n ρ → ∃ k o ρ', whileN t b k ρ = some (o, ρ') ∧ noX o ∧ Q o ρ' := by
    intro n
    induction n using Nat.strongRecOn with
    | ind n ih =>
      intro ρ i
      obtain ⟨c, ρ1, e, q1, q2⟩ := hs n ρ i
      cases c with
      | false => exact ⟨1, .nx, ρ1, by unfold whileN; simp [e], trivial, q2 rfl⟩
      | true =>
        obtain ⟨o, ρ2, e2, x, q⟩ := q1 rfl
        cases o with
        | nx =>
          obtain ⟨m, hm, im⟩ := q
          obtain ⟨k, o, ρ', e3, q3⟩ := ih m hm ρ2 im
          exact ⟨k + 1, o, ρ', by unfold whileN; simp [e, e2, e3], q3⟩
        | ct =>
          obtain ⟨m, hm, im⟩ := q
          obtain ⟨k, o, ρ', e3, q3⟩ := ih m hm ρ2 im
          exact ⟨k + 1, o, ρ', by unfold whileN; simp [e, e2, e3], q3⟩
        | bk => exact ⟨1, .nx, ρ2, by unfold whileN; simp [e, e2], trivial, q⟩
        | rt c => exact ⟨1, .rt c, ρ2, by unfold whileN; simp [e, e2], trivial, q⟩
        | ex c => exact x.elim
  obtain ⟨k, o, ρ', e, x, q⟩ := key n ρ h0
  exact ⟨o, ρ', sWhile_of e, x, q⟩
theorem back_wipe (ρ : Rho) : ∀ vs, back ρ (wipeR ρ vs) vs = ρ := by
  intro vs
  apply List.ext_getElem?
  intro i
  by_cases h : i ∈ vs
  · by_cases hl : i < ρ.length
    · rw [back_in h (by rw [wipeR_len]; exact hl), List.getElem?_eq_getElem hl]; rfl
    · rw [List.getElem?_eq_none (by rw [back_len, wipeR_len]; omega), List.getElem?_eq_none (by omega)]
  · rw [back_out h]
    have : ∀ vs, i ∉ vs → (wipeR ρ vs)[i]? = ρ[i]? := by
      intro vs
      induction vs with
      | nil => intro _; rfl
      | cons v vs ih =>
        intro h
        rw [List.mem_cons, not_or] at h
        unfold wipeR
        rw [List.getElem?_set_ne (Ne.symm h.1), ih h.2]
    exact this vs h
theorem lcN_pure (enc : α → D) (e : α → D) (p : α → Bool) {g : D → Rho → Option Rho} {test : M Bool} {elt : M D} {vs : List Nat} {ρw : Rho} : ∀ (xs : List α) (acc : List D), acc.length + xs.length ≤ lim →
    (∀ a, a ∈ xs → ∃ ρ1, g (enc a) ρw = some ρ1 ∧ WM test ρ1 fun b ρ2 => b = p a ∧ (p a = true → WM elt ρ2 fun z ρ3 => z = e a ∧ wipeR ρ3 vs = ρw) ∧ (p a = false → wipeR ρ2 vs = ρw)) →
    lcN g test elt vs (xs.map enc) ρw acc = some (acc ++ (xs.filter p).map e, ρw)
  | [], acc, _, _ => by simp [lcN]
  | a :: xs, acc, hl, h => by
    obtain ⟨ρ1, e1, b, ρ2, e2, hb, h1, h2⟩ := h a (by simp)
    rw [List.map_cons]
    unfold lcN
    simp only [e1, e2, hb]
    simp only [List.length_cons] at hl
    cases hp : p a with
    | true =>
      obtain ⟨z, ρ3, e3, hz, hw⟩ := h1 hp
      simp only [e3, hz, hw]
      rw [if_pos (by omega), lcN_pure enc e p xs (acc ++ [e a]) (by simp; omega) fun a ha => h a (List.mem_cons_of_mem _ ha)]
      simp [hp]
    | false =>
      simp only [h2 hp]
      rw [lcN_pure enc e p xs acc (by omega) fun a ha => h a (List.mem_cons_of_mem _ ha)]
      simp [hp]
/-- a comprehension whose turns leave the names as they are -/
theorem WM_lc (enc : α → D) (xs : List α) (e : α → D) (p : α → Bool) {f : M (List D)} {g : D → Rho → Option Rho} {test : M Bool} {elt : M D} {vs : List Nat} {Q : Cel → Rho → Prop}
    (h : WM f ρ fun ds ρ1 => ds = xs.map enc ∧ xs.length ≤ lim ∧ noOwn ρ1 vs = true ∧ (∀ a, a ∈ xs → ∃ ρ2, g (enc a) (wipeR ρ1 vs) = some ρ2 ∧ WM test ρ2 fun b ρ3 => b = p a ∧ (p a = true → WM elt ρ3 fun z ρ4 => z = e a ∧ wipeR ρ4 vs = wipeR ρ1 vs) ∧ (p a = false → wipeR ρ3 vs = wipeR ρ1 vs)) ∧ Q (.o1 ((xs.filter p).map e)) ρ1) :
    WM (mLc f vs g test elt) ρ Q := by
  unfold mLc
  rw [WM_bind]
  refine h.mono fun ds ρ1 ⟨h1, h2, h3, h4, q⟩ => ?_
  subst h1
  refine ⟨.o1 ((xs.filter p).map e), ρ1, ?_, q⟩
  dsimp only
  rw [if_pos h3, lcN_pure enc e p xs [] (by simpa using h2) h4]
  simp [back_wipe]
/-- .. without a test -/
theorem WM_lcA (enc : α → D) (xs : List α) (e : α → D) {f : M (List D)} {g : D → Rho → Option Rho} {elt : M D} {vs : List Nat} {Q : Cel → Rho → Prop}
    (h : WM f ρ fun ds ρ1 => ds = xs.map enc ∧ xs.length ≤ lim ∧ noOwn ρ1 vs = true ∧ (∀ a, a ∈ xs → ∃ ρ2, g (enc a) (wipeR ρ1 vs) = some ρ2 ∧ WM elt ρ2 fun z ρ4 => z = e a ∧ wipeR ρ4 vs = wipeR ρ1 vs) ∧ Q (.o1 (xs.map e)) ρ1) :
    WM (mLc f vs g (pureM true) elt) ρ Q := by
  refine WM_lc enc xs e (fun _ => true) (h.mono fun ds ρ1 ⟨h1, h2, h3, h4, q⟩ => ⟨h1, h2, h3, fun a ha => ?_, by rw [List.filter_eq_self.mpr (fun _ _ => rfl)]; exact q⟩)
  obtain ⟨ρ2, e2, w⟩ := h4 a ha
  exact ⟨ρ2, e2, by simp; exact w⟩
theorem lcN2_pure (enc : α → D) (e : α → List D) {g : D → Rho → Option Rho} {elt : M Cel} {vs : List Nat} {ρw : Rho} : ∀ (xs : List α) (acc : List (List D)), acc.length + xs.length ≤ lim →
    (∀ a, a ∈ xs → ∃ ρ1, g (enc a) ρw = some ρ1 ∧ WM elt ρ1 fun z ρ3 => z = .o1 (e a) ∧ wipeR ρ3 vs = ρw) →
    lcN2 g (pureM true) elt vs (xs.map enc) ρw acc = some (acc ++ xs.map e, ρw)
  | [], acc, _, _ => by simp [lcN2]
  | a :: xs, acc, hl, h => by
    obtain ⟨ρ1, e1, z, ρ3, e3, hz, hw⟩ := h a (by simp)
    rw [List.map_cons]
    unfold lcN2
    simp only [List.length_cons] at hl
    simp only [e1, pureM, e3, hz, hw]
    rw [if_pos (by omega)]
    have := lcN2_pure enc e (g := g) (elt := elt) (vs := vs) (ρw := ρw) xs (acc ++ [e a]) (by simp; omega) fun a ha => h a (List.mem_cons_of_mem _ ha)
    rw [this]
    simp
theorem WM_lc2 (enc : α → D) (xs : List α) (e : α → List D) {f : M (List D)} {g : D → Rho → Option Rho} {elt : M Cel} {vs : List Nat} {Q : Cel → Rho → Prop}
    (h : WM f ρ fun ds ρ1 => ds = xs.map enc ∧ xs.length ≤ lim ∧ noOwn ρ1 vs = true ∧ (∀ a, a ∈ xs → ∃ ρ2, g (enc a) (wipeR ρ1 vs) = some ρ2 ∧ WM elt ρ2 fun z ρ4 => z = .o1 (e a) ∧ wipeR ρ4 vs = wipeR ρ1 vs) ∧ Q (.o2 (xs.map e)) ρ1) :
    WM (mLc2 f vs g (pureM true) elt) ρ Q := by
  unfold mLc2
  rw [WM_bind]
  refine h.mono fun ds ρ1 ⟨h1, h2, h3, h4, q⟩ => ?_
  subst h1
  refine ⟨.o2 (xs.map e), ρ1, ?_, q⟩
  dsimp only
  rw [if_pos h3, lcN2_pure enc e xs [] (by simpa using h2) h4]
  simp [back_wipe]
/-- a comprehension whose turns change the names -/
theorem WM_lcS (enc : α → D) (xs : List α) {f : M (List D)} {g : D → Rho → Option Rho} {test : M Bool} {elt : M D} {vs : List Nat} {Q : Cel → Rho → Prop} (I : List α → List D → Rho → Prop)
    (h : WM f ρ fun ds ρ1 => ds = xs.map enc ∧ xs.length ≤ lim ∧ noOwn ρ1 vs = true ∧ I [] [] (wipeR ρ1 vs) ∧ (∀ done a rest acc ρ, xs = done ++ a :: rest → acc.length ≤ done.length → I done acc ρ → ∃ ρ2, g (enc a) ρ = some ρ2 ∧ WM test ρ2 fun b ρ3 => (b = true → WM elt ρ3 fun z ρ4 => I (done ++ [a]) (acc ++ [z]) (wipeR ρ4 vs)) ∧ (b = false → I (done ++ [a]) acc (wipeR ρ3 vs))) ∧ ∀ acc ρ2, acc.length ≤ xs.length → I xs acc ρ2 → Q (.o1 acc) (back ρ1 ρ2 vs)) :
    WM (mLc f vs g test elt) ρ Q := by
  unfold mLc
  rw [WM_bind]
  refine h.mono fun ds ρ1 ⟨h1, h2, h3, h0, hs, hd⟩ => ?_
  subst h1
  have key : ∀ (rest done : List α) (acc : List D) (ρ : Rho), xs = done ++ rest → acc.length ≤ done.length → I done acc ρ → ∃ out ρ2, lcN g test elt vs (rest.map enc) ρ acc = some (out, ρ2) ∧ out.length ≤ xs.length ∧ I xs out ρ2 := by
    intro rest
    induction rest with
    | nil => intro done acc ρ e hl i; rw [List.append_nil] at e; subst e; exact ⟨acc, ρ, by simp [lcN], hl, i⟩
    | cons a rest ih =>
      intro done acc ρ e hl i
      obtain ⟨ρ2, e2, b, ρ3, e3, q1, q2⟩ := hs done a rest acc ρ e hl i
      have e' : xs = (done ++ [a]) ++ rest := by rw [e, List.append_assoc]; rfl
      have hx : xs.length = done.length + (rest.length + 1) := by rw [e]; simp
      rw [List.map_cons]
      unfold lcN
      simp only [e2, e3]
      cases b with
      | true =>
        obtain ⟨z, ρ4, e4, i4⟩ := q1 rfl
        simp only [e4]
        rw [if_pos (by omega)]
        exact ih _ _ _ e' (by simp; omega) i4
      | false => exact ih _ _ _ e' (by simp; omega) (q2 rfl)
  obtain ⟨out, ρ2, e, hl, i⟩ := key xs [] [] _ rfl (by simp) h0
  exact ⟨.o1 out, _, by simp [h3, e], hd out ρ2 hl i⟩
theorem WS_cut {f g : S} {Q : Out → Rho → Prop} (Mid : Rho → Prop) (h1 : WS f ρ fun o ρ' => o = .nx ∧ Mid ρ') (h2 : ∀ ρ', Mid ρ' → WS g ρ' Q) : WS (sSeq f g) ρ Q := by
  rw [WS_seq]
  refine h1.mono fun o ρ' h => ?_
  obtain ⟨rfl, h⟩ := h
  exact h2 ρ' h
/-! ### a def -/
theorem FM_rt {n : Nat} {body : S} {cs cs' : List Cel} {c : Cel} (h : WS body (cs.map some ++ List.replicate n none) fun o ρ => o = .rt c ∧ outs cs ρ = some cs') : mDef n body cs = some (.ok c, cs') := by
  obtain ⟨o, ρ', e, _, rfl, q⟩ := h
  unfold mDef
  rw [e]
  simp [q]
theorem FM_nx {n : Nat} {body : S} {cs cs' : List Cel} (h : WS body (cs.map some ++ List.replicate n none) fun o ρ => o = .nx ∧ outs cs ρ = some cs') : mDef n body cs = some (.ok (.sh .none), cs') := by
  obtain ⟨o, ρ', e, _, rfl, q⟩ := h
  unfold mDef
  rw [e]
  simp [q]
/-- any outcome of a def without exceptions -/
theorem FM_ex {n : Nat} {body : S} {cs : List Cel} {R : Cel → List Cel → Prop} (h : WS body (cs.map some ++ List.replicate n none) fun o ρ => ∃ c cs', o = .rt c ∧ outs cs ρ = some cs' ∧ R c cs') : ∃ c cs', mDef n body cs = some (.ok c, cs') ∧ R c cs' := by
  obtain ⟨o, ρ', e, _, c, cs', rfl, q, r⟩ := h
  refine ⟨c, cs', ?_, r⟩
  unfold mDef
  rw [e]
  simp [q]
end
end MD


set_option Elab.async false
set_option linter.all false
set_option autoImplicit false
set_option maxRecDepth 100000
set_option maxHeartbeats 1000000
namespace MD
open PySem PySem.Spec PyProof.Rows L2
open Evl (Ex Ex.refl Ex.trans Ex.new ex_l ex_t ex_rd)
/-- what the law promises at a script -/
def spLaw (K : PySem.W.Frag) (n : Nat) : Sp := fun vs H Q _ => ∃ (a : Addr) (ns : List Int), vs = [.ref a] ∧ SqL K H a (ns.map V.int) ∧ ns.length ≤ n ∧ ∀ H', Q (.bl true) H'
theorem law_sp {K : PySem.W.Frag} {mg : Str → Option Value} {fm : FM} {n : Nat} (h : ∀ ns : List Int, ns.length ≤ n → ∃ cs, fm [.sh (.list (ns.map PyData.int))] = some (.ok (.sh (.bool true)), cs)) :
    ∀ vs H Q E, spLaw K n vs H Q E → SpOf K mg 1 fm vs H Q E := by
  rintro vs H Q E ⟨a, ns, rfl, hs, hl, q⟩
  obtain ⟨cs, e⟩ := h ns hl
  refine ⟨rfl, fun _ => none, H, fun _ => 0, [.sh (.list (ns.map PyData.int))], ⟨fun _ => [], ⟨rfl, Ex.refl _, fun _ _ e => (by cases e), fun i c e => ?_, fun i ds e => ?_, fun _ => List.nodup_nil, fun _ _ _ _ z => absurd z (by simp), fun _ _ z => absurd z (by simp)⟩⟩, ?_⟩
  · cases i with
    | zero => cases e; exact ⟨_, rfl, rfl, .lst hs (dpa_ints ns)⟩
    | succ i => simp at e
  · cases i with
    | zero => cases e
    | succ i => simp at e
  · rw [e]
    rintro v B' H' _ ⟨_, _, _, r, _⟩
    obtain ⟨_, r⟩ := r
    cases r
    exact q H'
end MD


set_option Elab.async false
set_option linter.all false
set_option autoImplicit false
set_option maxRecDepth 100000
set_option maxHeartbeats 1000000
namespace MD
open PySem PySem.Spec PyProof.Rows L2

/-! ### data's words, as they are met -/
@[simp] theorem pAdd_i (a b : Int) : pAdd (.int a) (.int b) = some (.int (a + b)) := rfl
@[simp] theorem pSub_i (a b : Int) : pSub (.int a) (.int b) = some (.int (a - b)) := rfl
@[simp] theorem pLt_i (a b : Int) : pLt (.int a) (.int b) = some (.bool (decide (a < b))) := rfl
@[simp] theorem pLe_i (a b : Int) : pLe (.int a) (.int b) = some (.bool (decide (a ≤ b))) := rfl
@[simp] theorem pGt_i (a b : Int) : pGt (.int a) (.int b) = some (.bool (decide (b < a))) := rfl
@[simp] theorem pGe_i (a b : Int) : pGe (.int a) (.int b) = some (.bool (decide (b ≤ a))) := rfl
@[simp] theorem pEq_i (a b : Int) : pEq (.int a) (.int b) = some (.bool (decide (a = b))) := rfl
@[simp] theorem pNe_i (a b : Int) : pNe (.int a) (.int b) = some (.bool (!decide (a = b))) := rfl
@[simp] theorem pIx_l (ds : List D) (i : Int) : pIx (.list ds) (.int i) = atI ds i := rfl
@[simp] theorem pIx_t (ds : List D) (i : Int) : pIx (.tuple ds) (.int i) = atI ds i := rfl
@[simp] theorem ixOf_i (ds : List D) (i : Int) : ixOf ds (.int i) = atI ds i := rfl
@[simp] theorem asB_b (b : Bool) : asB (.bool b) = some b := rfl
@[simp] theorem asI_i (b : Int) : asI (.int b) = some b := rfl
@[simp] theorem asL_l (ds : List D) : asL (.list ds) = some ds := rfl
@[simp] theorem asT_t (ds : List D) : asT (.tuple ds) = some ds := rfl
@[simp] theorem fz_sh (d : D) : (Cel.sh d).fz = some d := rfl
@[simp] theorem fz_o1 (d : List D) : (Cel.o1 d).fz = some (.list d) := rfl
@[simp] theorem fz_o2 (d : List (List D)) : (Cel.o2 d).fz = some (.list (d.map PyData.list)) := rfl
@[simp] theorem pNeg_i (a : Int) : pNeg (.int a) = some (.int (-a)) := rfl
@[simp] theorem pLen_l (ds : List D) : pLen [.list ds] = some (.int ds.length) := rfl
@[simp] theorem pLen_t (ds : List D) : pLen [.tuple ds] = some (.int ds.length) := rfl
@[simp] theorem pAbs_i (a : Int) : pAbs [.int a] = some (.int (if a < 0 then -a else a)) := rfl
@[simp] theorem pMax2_i (a b : Int) : pMax2 [.int a, .int b] = some (.int (if b > a then b else a)) := rfl
@[simp] theorem pMin2_i (a b : Int) : pMin2 [.int a, .int b] = some (.int (if b < a then b else a)) := rfl
@[simp] theorem pInt_b (b : Bool) : pInt [.bool b] = some (.int (if b then 1 else 0)) := rfl
@[simp] theorem pInt_i (b : Int) : pInt [.int b] = some (.int b) := rfl
def MulOk (a b : Int) : Prop := a.natAbs.log2 + b.natAbs.log2 < 1000000
def DivOk (b : Int) : Prop := b ≠ 0 ∧ b.natAbs.log2 < 9000
@[simp] theorem pMulI_i {a b : Int} {z : D} : pMulI (.int a) (.int b) = some z ↔ MulOk a b ∧ z = .int (a * b) := by
  show (if decide _ = true then some _ else none) = some z ↔ _
  unfold MulOk
  split
  · rename_i h
    have := of_decide_eq_true h
    simp [this, eq_comm]
  · rename_i h
    have : ¬ (a.natAbs.log2 + b.natAbs.log2 < 1000000) := fun z => h (decide_eq_true z)
    simp [this]
@[simp] theorem pFdiv_i {a b : Int} {z : D} : pFdiv (.int a) (.int b) = some z ↔ DivOk b ∧ z = .int (a.fdiv b) := by
  show (if decide _ = true then some _ else none) = some z ↔ _
  unfold DivOk
  split
  · rename_i h
    have := of_decide_eq_true h
    simp [this, eq_comm]
  · rename_i h
    have : ¬ (b ≠ 0 ∧ b.natAbs.log2 < 9000) := fun z => h (decide_eq_true z)
    simp [this]
@[simp] theorem pMod_i {a b : Int} {z : D} : pMod (.int a) (.int b) = some z ↔ b ≠ 0 ∧ z = .int (a.fmod b) := by
  show (if decide _ = true then some _ else none) = some z ↔ _
  split
  · rename_i h
    have := of_decide_eq_true h
    simp [this, eq_comm]
  · rename_i h
    have : ¬ (b ≠ 0) := fun z => h (decide_eq_true z)
    simp [this]
@[simp] theorem pPow_i {a b : Int} {z : D} : pPow (.int a) (.int b) = some z ↔ (0 ≤ b ∧ b ≤ 1000000 ∧ a.natAbs < 2 ^ 64) ∧ z = .int (a ^ b.toNat) := by
  show (if decide _ = true then some _ else none) = some z ↔ _
  split
  · rename_i h
    have := of_decide_eq_true h
    simp [this, eq_comm]
  · rename_i h
    have : ¬ (0 ≤ b ∧ b ≤ 1000000 ∧ a.natAbs < 2 ^ 64) := fun z => h (decide_eq_true z)
    simp [this]
/-! ### sizes -/
def Sz (k : Nat) (a : Int) : Prop := a.natAbs < 2 ^ k
theorem Sz.mono {k l : Nat} {a : Int} (h : Sz k a) (e : k ≤ l) : Sz l a := Nat.lt_of_lt_of_le h (Nat.pow_le_pow_right (by decide) e)
theorem Sz.log {k : Nat} {a : Int} (h : Sz k a) : a.natAbs.log2 ≤ k := by
  rcases Nat.eq_zero_or_pos a.natAbs with z | z
  · rw [z]; simp
  · exact Nat.le_of_lt ((Nat.log2_lt (by omega)).mpr h)
theorem Sz.mulOk {k l : Nat} {a b : Int} (h : Sz k a) (h2 : Sz l b) (e : k + l < 1000000 := by decide) : MulOk a b := by
  have := h.log
  have := h2.log
  unfold MulOk
  omega
theorem Sz.divOk {l : Nat} {b : Int} (h2 : Sz l b) (h0 : b ≠ 0) (e : l < 9000 := by decide) : DivOk b := ⟨h0, by have := h2.log; omega⟩
theorem Sz.add {k l : Nat} {a b : Int} (h : Sz k a) (h2 : Sz l b) : Sz (max k l + 1) (a + b) := by
  have h := h.mono (Nat.le_max_left k l)
  have h2 := h2.mono (Nat.le_max_right k l)
  unfold Sz at *
  have : (a + b).natAbs ≤ a.natAbs + b.natAbs := Int.natAbs_add_le a b
  rw [Nat.pow_succ]
  omega
theorem Sz.neg {k : Nat} {a : Int} (h : Sz k a) : Sz k (-a) := by unfold Sz at *; rw [Int.natAbs_neg]; exact h
theorem Sz.sub {k l : Nat} {a b : Int} (h : Sz k a) (h2 : Sz l b) : Sz (max k l + 1) (a - b) := by
  rw [Int.sub_eq_add_neg]
  exact h.add h2.neg
theorem Sz.mul {k l : Nat} {a b : Int} (h : Sz k a) (h2 : Sz l b) : Sz (k + l) (a * b) := by
  unfold Sz at *
  rw [Int.natAbs_mul, Nat.pow_add]
  exact Nat.lt_of_le_of_lt (Nat.mul_le_mul_left _ (Nat.le_of_lt h2)) (Nat.mul_lt_mul_of_pos_right h (Nat.two_pow_pos l))
theorem Sz.lit {k : Nat} {a : Int} (h : decide (a.natAbs < 2 ^ k) = true := by decide) : Sz k a := (of_decide_eq_true h : a.natAbs < 2 ^ k)
theorem Sz.below {k : Nat} {a m : Int} (h0 : 0 ≤ a) (h1 : a < m) (h : Sz k m) : Sz k a := by unfold Sz at *; omega
theorem Sz.below' {k : Nat} {a m : Int} (h : Sz k m) (h0 : 0 ≤ a) (h1 : a ≤ m) : Sz k a := by unfold Sz at *; omega
theorem fmod_pos {a m : Int} (h : 0 < m) : 0 ≤ a.fmod m ∧ a.fmod m < m := ⟨Int.fmod_nonneg_of_pos a h, Int.fmod_lt_of_pos a h⟩
theorem Sz.fmod {k : Nat} {a m : Int} (h : Sz k m) (h0 : 0 < m) : Sz k (a.fmod m) := .below (fmod_pos h0).1 (fmod_pos h0).2 h
theorem fdiv_nonneg {a m : Int} (h : 0 ≤ a) (h0 : 0 < m) : 0 ≤ a.fdiv m := Int.fdiv_nonneg h (by omega)
theorem Sz.fdivP {k : Nat} {a m : Int} (h : Sz k a) (ha : 0 ≤ a) (h0 : 0 < m) : Sz k (a.fdiv m) := by
  have h1 := fdiv_nonneg (m := m) ha h0
  have h2 : a.fdiv m ≤ a := by
    rw [Int.fdiv_eq_ediv_of_nonneg a (by omega)]
    exact Int.ediv_le_self m ha
  unfold Sz at *
  omega
/-! ### the names' cells, as they are met -/
@[simp] theorem lVar_eq (i : Nat) (ρ : Rho) : lVar i ρ = (ρ[i]?).bind fun o => o.bind Cel.lst := by
  unfold lVar
  split
  · rename_i c h; rw [h]; rfl
  · rename_i h
    cases q : ρ[i]? with
    | none => rfl
    | some o =>
      cases o with
      | none => rfl
      | some c => exact absurd q (h c)
@[simp] theorem rVar_eq (i : Nat) (ρ : Rho) : rVar i ρ = (ρ[i]?).bind fun o => o.map Cel.rd := by
  unfold rVar
  split
  · rename_i c h; rw [h]; rfl
  · rename_i h
    cases q : ρ[i]? with
    | none => rfl
    | some o =>
      cases o with
      | none => rfl
      | some c => exact absurd q (h c)
@[simp] theorem ownAt_eq (i : Nat) (ρ : Rho) : ownAt i ρ = (ρ[i]?).bind fun o => o.bind fun c => c.own.map fun ds => (c, ds) := by
  unfold ownAt
  split
  · rename_i c h; rw [h]; rfl
  · rename_i h
    cases q : ρ[i]? with
    | none => rfl
    | some o =>
      cases o with
      | none => rfl
      | some c => exact absurd q (h c)
@[simp] theorem lst_sh (ds : List D) : (Cel.sh (.list ds)).lst = some ds := rfl
@[simp] theorem lst_o1 (ds : List D) : (Cel.o1 ds).lst = some ds := rfl
@[simp] theorem lst_x1 (ds : List D) : (Cel.x1 ds).lst = some ds := rfl
@[simp] theorem own_o1 (ds : List D) : (Cel.o1 ds).own = some ds := rfl
@[simp] theorem own_x1 (ds : List D) : (Cel.x1 ds).own = some ds := rfl
@[simp] theorem own_sh (d : D) : (Cel.sh d).own = none := rfl
@[simp] theorem mk_o1 (ds es : List D) : (Cel.o1 ds).mk es = .o1 es := rfl
@[simp] theorem mk_x1 (ds es : List D) : (Cel.x1 ds).mk es = .x1 es := rfl
@[simp] theorem rd_sh (d : D) : (Cel.sh d).rd = d := rfl
@[simp] theorem rd_o1 (ds : List D) : (Cel.o1 ds).rd = .list ds := rfl
@[simp] theorem rd_x1 (ds : List D) : (Cel.x1 ds).rd = .list ds := rfl
@[simp] theorem putC_sh {i : Nat} {d : D} {ρ ρ2 : Rho} : putC i (.sh d) ρ = some ρ2 ↔ notX ρ[i]? = true ∧ ρ2 = ρ.set i (some (.sh d)) := by
  show (if notX ρ[i]? then some _ else none) = some ρ2 ↔ _
  cases notX ρ[i]? <;> simp [eq_comm]
@[simp] theorem putC_o1 {i : Nat} {d : List D} {ρ ρ2 : Rho} : putC i (.o1 d) ρ = some ρ2 ↔ notX ρ[i]? = true ∧ ρ2 = ρ.set i (some (.o1 d)) := by
  show (if notX ρ[i]? then some _ else none) = some ρ2 ↔ _
  cases notX ρ[i]? <;> simp [eq_comm]
@[simp] theorem putC_o2 {i : Nat} {d : List (List D)} {ρ ρ2 : Rho} : putC i (.o2 d) ρ = some ρ2 ↔ notX ρ[i]? = true ∧ ρ2 = ρ.set i (some (.o2 d)) := by
  show (if notX ρ[i]? then some _ else none) = some ρ2 ↔ _
  cases notX ρ[i]? <;> simp [eq_comm]
@[simp] theorem notX_n : notX none = true := rfl
@[simp] theorem notX_sn : notX (some none) = true := rfl
@[simp] theorem notX_sh (d : D) : notX (some (some (.sh d))) = true := rfl
@[simp] theorem notX_o1 (d : List D) : notX (some (some (.o1 d))) = true := rfl
@[simp] theorem notX_o2 (d : List (List D)) : notX (some (some (.o2 d))) = true := rfl
@[simp] theorem gN_eq {i : Nat} {d : D} {ρ ρ2 : Rho} : gN i d ρ = some ρ2 ↔ notX ρ[i]? = true ∧ ρ2 = ρ.set i (some (.sh d)) := putC_sh
@[simp] theorem fzTo_eq {i : Nat} {ρ ρ2 : Rho} {c : Cel} (h : ρ[i]? = some (some c)) : fzTo i ρ = some ρ2 ↔ ∃ d, c.fz = some d ∧ ρ2 = ρ.set i (some (.sh d)) := by
  unfold fzTo
  rw [h]
  cases q : c.fz <;> simp [q, eq_comm]
@[simp] theorem lstOf_eq {ds : List D} {c : Cel} : lstOf ds = some c ↔ ds.length ≤ lim ∧ c = .o1 ds := by
  unfold lstOf
  split <;> simp [*, eq_comm]
@[simp] theorem tupOf_eq {ds : List D} {c : D} : tupOf ds = some c ↔ ds.length ≤ lim ∧ c = .tuple ds := by
  unfold tupOf
  split <;> simp [*, eq_comm]
theorem lim_eq : lim = 100000 := rfl
@[simp] theorem gsNil_iff {ρ ρ2 : Rho} : gsNil [] ρ = some ρ2 ↔ ρ2 = ρ := by show some ρ = some ρ2 ↔ _; simp [eq_comm]
@[simp] theorem gsCons_iff {g : D → Rho → Option Rho} {h : List D → Rho → Option Rho} {d : D} {ds : List D} {ρ ρ2 : Rho} : gsCons g h (d :: ds) ρ = some ρ2 ↔ ∃ ρ1, g d ρ = some ρ1 ∧ h ds ρ1 = some ρ2 := by
  show (g d ρ).bind (h ds) = some ρ2 ↔ _
  cases g d ρ <;> simp
@[simp] theorem gTupD_iff {n : Nat} {h : List D → Rho → Option Rho} {ds : List D} {ρ ρ2 : Rho} : gTupD n h (.tuple ds) ρ = some ρ2 ↔ ds.length = n ∧ h ds ρ = some ρ2 := by
  show (if ds.length = n then h ds ρ else none) = some ρ2 ↔ _
  split <;> simp [*]
@[simp] theorem gLstD_iff {n : Nat} {h : List D → Rho → Option Rho} {ds : List D} {ρ ρ2 : Rho} : gLstD n h (.list ds) ρ = some ρ2 ↔ ds.length = n ∧ h ds ρ = some ρ2 := by
  show (if ds.length = n then h ds ρ else none) = some ρ2 ↔ _
  split <;> simp [*]
@[simp] theorem outs_nil (ρ : Rho) : outs [] ρ = some [] := rfl
@[simp] theorem outs_sh (d : D) (cs : List Cel) (x : Option Cel) (ρ : Rho) : outs (.sh d :: cs) (x :: ρ) = (outs cs ρ).map (.sh d :: ·) := rfl
@[simp] theorem outs_x1 (d es : List D) (cs : List Cel) (ρ : Rho) : outs (.x1 d :: cs) (some (.x1 es) :: ρ) = (outs cs ρ).map (.x1 es :: ·) := rfl
@[simp] theorem atI_0 {α : Type} (x : α) (xs : List α) : atI (x :: xs) 0 = some x := by unfold atI ixN; simp
@[simp] theorem atI_1 {α : Type} (x y : α) (xs : List α) : atI (x :: y :: xs) 1 = some y := by
  unfold atI ixN
  simp
  rw [if_pos (by omega)]
  rfl
@[simp] theorem atI_2 {α : Type} (x y z : α) (xs : List α) : atI (x :: y :: z :: xs) 2 = some z := by
  unfold atI ixN
  simp
  rw [if_pos (by omega)]
  rfl
@[simp] theorem atI_m1 {α : Type} (x : α) (xs : List α) : atI (xs ++ [x]) (-1) = some x := by
  unfold atI ixN
  simp
  rw [if_pos (by omega)]
  have : (-1 + ((xs.length : Int) + 1)).toNat = xs.length := by omega
  simp [this]
theorem atI_nat {α : Type} {xs : List α} {i : Int} {x : α} (h0 : 0 ≤ i) (h : xs[i.toNat]? = some x) : atI xs i = some x := by
  unfold atI ixN
  have : i.toNat < xs.length := (List.getElem?_eq_some_iff.mp h).1
  rw [if_pos h0, if_pos (by omega)]
  exact h
theorem atI_map {α β : Type} (f : α → β) (xs : List α) (i : Int) : atI (xs.map f) i = (atI xs i).map f := by
  unfold atI
  rw [List.length_map]
  cases ixN xs.length i with
  | none => rfl
  | some j => simp

theorem wAppend_iff {ds es : List D} {d z : D} : wAppend ds [d] = some (es, z) ↔ ds.length < lim ∧ es = ds ++ [d] ∧ z = .none := by
  show (if ds.length < lim then some (ds ++ [d], PyData.none) else none) = some (es, z) ↔ _
  split <;> simp [*, eq_comm]
end MD


set_option Elab.async false
set_option linter.all false
set_option autoImplicit false
set_option maxRecDepth 100000
set_option maxHeartbeats 1000000
namespace MD
open PySem PySem.Spec PyProof.Rows L2

/-! ### the greatest common divisor -/
theorem gcd_fmod (a b : Int) : Int.gcd b (a.fmod b) = Int.gcd a b := by
  have e : a.fmod b = a - b * a.fdiv b := by have := Int.mul_fdiv_add_fmod a b; omega
  apply Nat.dvd_antisymm
  · have h1 : ((Int.gcd b (a.fmod b) : Nat) : Int) ∣ b := Int.gcd_dvd_left ..
    have h2 : ((Int.gcd b (a.fmod b) : Nat) : Int) ∣ a.fmod b := Int.gcd_dvd_right ..
    refine Int.dvd_gcd_iff.mpr ⟨?_, h1⟩
    have h3 : ((Int.gcd b (a.fmod b) : Nat) : Int) ∣ a.fmod b + b * a.fdiv b := Int.dvd_add h2 (Int.dvd_trans h1 (Int.dvd_mul_right ..))
    have e2 : a.fmod b + b * a.fdiv b = a := by omega
    rw [e2] at h3
    exact h3
  · have h1 : ((Int.gcd a b : Nat) : Int) ∣ a := Int.gcd_dvd_left ..
    have h2 : ((Int.gcd a b : Nat) : Int) ∣ b := Int.gcd_dvd_right ..
    refine Int.dvd_gcd_iff.mpr ⟨h2, ?_⟩
    rw [e]
    exact Int.dvd_sub h1 (Int.dvd_trans h2 (Int.dvd_mul_right ..))
/-- while b != 0: a, b = b, a % b -/
theorem gcd_loop {i j : Nat} (hij : i ≠ j) {Q : Out → Rho → Prop} : ∀ (n : Nat) (ρ : Rho) (a b : Int), b.toNat = n → 0 ≤ b → ρ[i]? = some (some (.sh (.int a))) → ρ[j]? = some (some (.sh (.int b))) →
    (∀ c : Int, c.natAbs = Int.gcd a b → (0 ≤ a → 0 ≤ c) → (0 < b → 0 < c) → Q .nx ((ρ.set i (some (.sh (.int c)))).set j (some (.sh (.int 0))))) →
    WS (sWhile (mTest (op2 pNe (mVar j) (pureM (PyData.int 0)))) (sSeq (sPar i j (mCons (mVar j) (mCons (op2 pMod (mVar i) (mVar j)) mNil))) sNil)) ρ Q := by
  intro n ρ a b hn hb hi hj q
  refine WS_while (fun m ρ' => ∃ a' b' : Int, b'.toNat = m ∧ 0 ≤ b' ∧ ρ' = (ρ.set i (some (.sh (.int a')))).set j (some (.sh (.int b'))) ∧ Int.gcd a' b' = Int.gcd a b ∧ (0 ≤ a → 0 ≤ a') ∧ (0 < b → 0 < a' ∨ 0 < b')) n ⟨a, b, hn, hb, ?_, rfl, id, fun h => .inr h⟩ ?_
  · have h1 : ρ.set i (some (.sh (.int a))) = ρ := set_same hi
    rw [h1, set_same hj]
  · rintro m ρ' ⟨a', b', hm, hb', rfl, hg, ha, hp⟩
    have hil : i < ρ.length := (List.getElem?_eq_some_iff.mp hi).1
    have hjl : j < ρ.length := (List.getElem?_eq_some_iff.mp hj).1
    have g1 : ((ρ.set i (some (Cel.sh (.int a')))).set j (some (.sh (.int b'))))[j]? = some (some (.sh (.int b'))) := by rw [List.getElem?_set_self (by simpa using hjl)]
    have g0 : ((ρ.set i (some (Cel.sh (.int a')))).set j (some (.sh (.int b'))))[i]? = some (some (.sh (.int a'))) := by rw [List.getElem?_set_ne (Ne.symm hij), List.getElem?_set_self hil]
    simp only [WM_test, WM_op2, WM_var, WM_pure]

    refine ⟨_, _, g1, rfl, _, rfl, _, rfl, fun h => ?_, fun h => ?_⟩
    · have hb0 : b' ≠ 0 := by simpa using h
      have hb1 : 0 < b' := by omega
      rw [set_same g1]
      simp only [WS_seq, WS_par, WM_cons, WM_var, WM_op2, WM_nil, pMod_i]
      refine ⟨_, _, g1, rfl, _, _, by rw [set_same g1]; exact g0, rfl, _, _, by rw [set_same g1, set_same g0]; exact g1, rfl, _, pMod_i.mpr ⟨hb0, rfl⟩, ?_⟩
      rw [set_same g1, set_same g0, set_same g1]
      refine ⟨_, _, _, _, rfl, putC_sh.mpr ⟨by rw [g0]; rfl, rfl⟩, putC_sh.mpr ⟨?_, rfl⟩, ?_⟩
      · rw [List.getElem?_set_ne hij, g1]; rfl
      · simp only [WS_nil]
        refine ⟨(a'.fmod b').toNat, ?_, b', a'.fmod b', rfl, (fmod_pos hb1).1, ?_, by rw [gcd_fmod]; exact hg, fun _ => hb', fun _ => .inl hb1⟩
        · have := fmod_pos (a := a') hb1
          omega
        · apply List.ext_getElem?
          intro k
          by_cases hk : k = j
          · subst hk
            rw [List.getElem?_set_self (by simpa using hjl), List.getElem?_set_self (by simpa using hjl)]
          · rw [List.getElem?_set_ne (Ne.symm hk), List.getElem?_set_ne (Ne.symm hk)]
            by_cases hk2 : k = i
            · subst hk2
              rw [List.getElem?_set_self (by simpa using hil), List.getElem?_set_self hil]
            · rw [List.getElem?_set_ne (Ne.symm hk2), List.getElem?_set_ne (Ne.symm hk), List.getElem?_set_ne (Ne.symm hk2), List.getElem?_set_ne (Ne.symm hk2)]
    · have hb0 : b' = 0 := by simpa using h
      subst hb0
      rw [set_same g1]
      refine q a' (by rw [← hg]; simp) ha fun hb => ?_
      rcases hp hb with z | z
      · exact z
      · omega
/-! ### fractions -/
def encQ (q : Rat) : D := .tuple [.int q.num, .int q.den]
theorem divInt_parts {t b : Int} (hb : 0 < b) : (Rat.divInt t b).num = t.fdiv (Int.gcd t b) ∧ ((Rat.divInt t b).den : Int) = b.fdiv (Int.gcd t b) := by
  obtain ⟨n, rfl⟩ : ∃ n : Nat, b = (n : Int) := ⟨b.toNat, by omega⟩
  have hn : n ≠ 0 := by omega
  have e : Rat.divInt t (n : Int) = Rat.normalize t n hn := by
    show mkRat t n = _
    rw [Rat.mkRat_def, dif_neg hn]
  rw [e, Rat.normalize_eq]
  have hg : t.natAbs.gcd n = Int.gcd t (n : Int) := rfl
  dsimp only
  rw [hg]
  have h0 : (0 : Int) ≤ (Int.gcd t (n : Int) : Nat) := by omega
  exact ⟨by rw [Int.fdiv_eq_ediv_of_nonneg _ h0], by rw [Int.fdiv_eq_ediv_of_nonneg _ h0]; rfl⟩
theorem Sz.gcd {k : Nat} {t b : Int} (hb : 0 < b) (h : Sz k b) : Sz k (Int.gcd t b) := by
  unfold Sz at *
  have : Int.gcd t b ≤ b.natAbs := Nat.le_of_dvd (by omega) (Nat.gcd_dvd_right ..)
  simp
  omega
end MD


set_option Elab.async false
set_option linter.all false
set_option autoImplicit false
set_option maxRecDepth 100000
set_option maxHeartbeats 1000000
namespace MD
open PySem PySem.Spec PyProof.Rows L2

/-! ### values of one kind, as data -/
class Enc (α : Type) where
  enc : α → D
  dep : Nat
  lay : ∀ a, (enc a).canLay0 = true
  depth : ∀ a, (enc a).depth ≤ dep
  eqv : ∀ a b, PyData.eqv (enc a) (enc b) = true ↔ a = b
  alike : ∀ a b, PySem.W.alike (enc a) (enc b) = true
  non : ∀ a, enc a ≠ .none
abbrev enc {α : Type} [Enc α] (a : α) : D := Enc.enc a
instance : Enc Int := ⟨.int, 0, fun _ => by simp [PyData.canLay0], fun _ => by simp [PyData.depth], fun a b => by simp [PyData.eqv], fun _ _ => by simp [PySem.W.alike], fun _ h => by cases h⟩
section
variable {α β : Type} [Enc α] [Enc β]
theorem layAll (xs : List α) : PyData.canLayAll0 (xs.map enc) = true := by
  induction xs with
  | nil => simp [PyData.canLayAll0]
  | cons x xs ih => simp [PyData.canLayAll0, ih, Enc.lay x]
theorem depthAll_le (xs : List α) : PyData.depthAll (xs.map enc) ≤ Enc.dep α := by
  induction xs with
  | nil => simp [PyData.depthAll]
  | cons x xs ih => simp only [List.map_cons, PyData.depthAll]; exact Nat.max_le.mpr ⟨Enc.depth x, ih⟩
theorem eqvAll_iff : ∀ (xs ys : List α), PyData.eqvAll (xs.map enc) (ys.map enc) = true ↔ xs = ys
  | [], [] => by simp [PyData.eqvAll]
  | x :: xs, [] => by simp [PyData.eqvAll]
  | [], y :: ys => by simp [PyData.eqvAll]
  | x :: xs, y :: ys => by simp [PyData.eqvAll, eqvAll_iff xs ys, Enc.eqv]
theorem alikeAll_t : ∀ (xs ys : List α), PySem.W.alikeAll (xs.map enc) (ys.map enc) = true
  | [], _ => by simp [PySem.W.alikeAll]
  | x :: xs, [] => by simp [PySem.W.alikeAll]
  | x :: xs, y :: ys => by simp [PySem.W.alikeAll, alikeAll_t xs ys, Enc.alike]
instance : Enc (List α) := ⟨fun xs => .list (xs.map enc), Enc.dep α + 1, fun xs => by simp [PyData.canLay0]; exact layAll xs, fun xs => by simp [PyData.depth]; exact depthAll_le xs, fun a b => by simp [PyData.eqv]; exact eqvAll_iff a b, fun a b => by simp [PySem.W.alike]; exact alikeAll_t a b, fun _ h => by cases h⟩
instance : Enc (α × β) := ⟨fun p => .tuple [enc p.1, enc p.2], max (Enc.dep α) (Enc.dep β) + 1, fun p => by simp [PyData.canLay0, PyData.canLayAll0, Enc.lay], fun p => by
    have h1 : (enc p.1).depth ≤ Enc.dep α := Enc.depth p.1
    have h2 : (enc p.2).depth ≤ Enc.dep β := Enc.depth p.2
    simp only [PyData.depth, PyData.depthAll]; omega, fun a b => by simp [PyData.eqv, PyData.eqvAll, Enc.eqv, Prod.ext_iff], fun a b => by simp [PySem.W.alike, PySem.W.alikeAll, Enc.alike], fun _ h => by cases h⟩
instance : Enc Rat := ⟨encQ, 1, fun p => by simp [encQ, PyData.canLay0, PyData.canLayAll0], fun p => by simp [encQ, PyData.depth, PyData.depthAll], fun a b => by
    simp [encQ, PyData.eqv, PyData.eqvAll]
    constructor
    · rintro ⟨h1, h2⟩; exact Rat.ext h1 (by omega)
    · rintro rfl; exact ⟨rfl, rfl⟩, fun a b => by simp [encQ, PySem.W.alike, PySem.W.alikeAll], fun _ h => by cases h⟩
theorem enc_int (i : Int) : enc i = .int i := rfl
theorem enc_rat (q : Rat) : enc q = encQ q := rfl
theorem enc_list (xs : List α) : enc xs = .list (xs.map enc) := rfl
theorem enc_pair (a : α) (b : β) : enc (a, b) = .tuple [enc a, enc b] := rfl
theorem shaped_enc (a : α) (h : Enc.dep α ≤ 64 := by decide) : SeqAt.shaped (enc a) = true := by
  unfold SeqAt.shaped
  have := Enc.depth a
  simp [Enc.lay]
  exact Nat.le_trans this h
theorem eqD_enc (a b : α) [Decidable (a = b)] (h : Enc.dep α ≤ 64 := by decide) : eqD (enc a) (enc b) = some (decide (a = b)) := by
  have key : PyData.eqv (enc a) (enc b) = decide (a = b) := by
    by_cases e : a = b
    · rw [decide_eq_true e]; exact (Enc.eqv a b).mpr e
    · rw [decide_eq_false e]
      cases q : PyData.eqv (enc a) (enc b) with
      | false => rfl
      | true => exact absurd ((Enc.eqv a b).mp q) e
  unfold eqD
  split
  · rename_i i j h1 h2
    rw [← key]
    show some (decide (i = j)) = some (PyData.eqv (enc a) (enc b))
    rw [show enc a = .int i from h1, show enc b = .int j from h2]
    simp only [PyData.eqv]
    by_cases q : i = j
    · simp [q]
    · simp [q]
  · rw [if_pos (by rw [shaped_enc a h, shaped_enc b h]; rfl), key]
theorem pEq_enc (a b : α) [Decidable (a = b)] (h : Enc.dep α ≤ 64 := by decide) : pEq (enc a) (enc b) = some (.bool (decide (a = b))) := by unfold pEq; rw [eqD_enc a b h]; rfl
theorem pNe_enc (a b : α) [Decidable (a = b)] (h : Enc.dep α ≤ 64 := by decide) : pNe (enc a) (enc b) = some (.bool (!decide (a = b))) := by unfold pNe; rw [eqD_enc a b h]; rfl
theorem pEq_l (xs ys : List α) [Decidable (xs = ys)] (h : Enc.dep α ≤ 63 := by decide) : pEq (.list (xs.map enc)) (.list (ys.map enc)) = some (.bool (decide (xs = ys))) := pEq_enc xs ys (by show Enc.dep α + 1 ≤ 64; omega)
theorem pNe_l (xs ys : List α) [Decidable (xs = ys)] (h : Enc.dep α ≤ 63 := by decide) : pNe (.list (xs.map enc)) (.list (ys.map enc)) = some (.bool (!decide (xs = ys))) := pNe_enc xs ys (by show Enc.dep α + 1 ≤ 64; omega)
theorem memD_l (a : α) (xs : List α) [Decidable (a ∈ xs)] (h : Enc.dep α ≤ 63 := by decide) : memD (enc a) (.list (xs.map enc)) = some (decide (a ∈ xs)) := by
  unfold memD
  dsimp only
  rw [if_pos (by rw [shaped_enc a (by omega), Bool.true_and]; exact shaped_enc xs (by show Enc.dep α + 1 ≤ 64; omega))]
  congr 1
  by_cases e : a ∈ xs
  · rw [decide_eq_true e, List.any_eq_true]
    exact ⟨enc a, List.mem_map.mpr ⟨a, e, rfl⟩, (Enc.eqv a a).mpr rfl⟩
  · rw [decide_eq_false e, List.any_eq_false]
    rintro z hz q
    obtain ⟨b, hb, rfl⟩ := List.mem_map.mp hz
    exact e ((Enc.eqv b a).mp q ▸ hb)
theorem pIn_l (a : α) (xs : List α) [Decidable (a ∈ xs)] (h : Enc.dep α ≤ 63 := by decide) : pIn (enc a) (.list (xs.map enc)) = some (.bool (decide (a ∈ xs))) := by unfold pIn; rw [memD_l a xs h]; rfl
theorem pNotIn_l (a : α) (xs : List α) [Decidable (a ∈ xs)] (h : Enc.dep α ≤ 63 := by decide) : pNotIn (enc a) (.list (xs.map enc)) = some (.bool (!decide (a ∈ xs))) := by unfold pNotIn; rw [memD_l a xs h]; rfl
theorem bl2_of {w : D → D → Option D} {d e : D} {b : Bool} (h : w d e = some (.bool b)) : bl2 w d e = some b := by unfold bl2; rw [h]; rfl
theorem pAdd_l (xs ys : List D) (h : xs.length + ys.length ≤ lim) : pAdd (.list xs) (.list ys) = some (.list (xs ++ ys)) := if_pos h
/-! sorting -/
noncomputable def srtE (xs : List α) : List α := xs.mergeSort (PySem.W.dataLe false enc)
theorem srtE_perm (xs : List α) : (srtE xs).Perm xs := List.mergeSort_perm xs _
theorem srt_map : ∀ (xs : List α), srtD (xs.map enc) = (srtE xs).map enc := by
  intro xs
  unfold srtD srtE
  rw [List.map_mergeSort]
  intro a _ b _
  rfl
theorem pSorted_l (xs : List α) (hl : xs.length ≤ lim) (hk : (∀ a : α, tupNE (enc a) = true) ∨ ∀ a : α, keyOk (enc a) = true) (h : Enc.dep α ≤ 50 := by decide) : pSorted (xs.map enc) = some ((srtE xs).map enc) := by
  unfold pSorted
  rw [if_pos, srt_map]
  unfold srtOk
  simp only [Bool.and_eq_true, List.length_map, decide_eq_true_eq, List.all_eq_true, List.mem_map, Bool.or_eq_true]
  refine ⟨⟨⟨hl, ?_⟩, ?_⟩, ?_⟩
  · rintro _ ⟨a, _, rfl⟩ _ ⟨b, _, rfl⟩; exact Enc.alike a b
  · rcases hk with hk | hk
    · left; rintro _ ⟨a, _, rfl⟩; exact hk a
    · right; rintro _ ⟨a, _, rfl⟩; exact hk a
  · rintro _ ⟨a, _, rfl⟩; exact Nat.le_trans (Enc.depth a) h
theorem enc_prod (p : α × β) : enc p = .tuple [enc p.1, enc p.2] := rfl
theorem bl2_nilEq (xs : List α) (h : Enc.dep α ≤ 63 := by decide) : bl2 pEq (.list (xs.map enc)) (.list []) = some (decide (xs = [])) := bl2_of (pEq_l xs [] h)
theorem bl2_nilNe (xs : List α) (h : Enc.dep α ≤ 63 := by decide) : bl2 pNe (.list (xs.map enc)) (.list []) = some (!decide (xs = [])) := bl2_of (pNe_l xs [] h)
theorem pEq_nil (xs : List α) (h : Enc.dep α ≤ 63 := by decide) : pEq (.list (xs.map enc)) (.list []) = some (.bool (decide (xs = []))) := pEq_l xs [] h
theorem pNe_nil (xs : List α) (h : Enc.dep α ≤ 63 := by decide) : pNe (.list (xs.map enc)) (.list []) = some (.bool (!decide (xs = []))) := pNe_l xs [] h
theorem atI_last (xs : List α) (x : α) : atI ((xs ++ [x]).map enc) (-1) = some (enc x) := by simp
end
end MD


set_option Elab.async false
set_option linter.all false
set_option autoImplicit false
set_option maxRecDepth 100000
set_option maxHeartbeats 4000000
namespace K18
open PySem PySem.Spec PyProof.Rows L2 MD
def topS (i : Nat) : Stmt := PySem.Challenge.pw_farcuts_k18_whole_hung_cuts.main.body.getD i (.Pass ⟨0, 0, 0, 0⟩)
abbrev s__law_pool : Stmt := topS 18
abbrev s__law_take : Stmt := topS 19
abbrev s__law_once : Stmt := topS 23
abbrev s__law_lowest : Stmt := topS 20
abbrev s__law_figures : Stmt := topS 21
abbrev s__law_weight : Stmt := topS 22
abbrev s__law_cuts : Stmt := topS 24
abbrev s_cut_of : Stmt := topS 13
abbrev s__law_sides : Stmt := topS 25
abbrev s_common_of : Stmt := topS 6
abbrev s_fraction : Stmt := topS 7
abbrev s_plus : Stmt := topS 8
abbrev s__law_merged : Stmt := topS 26
abbrev s_hung_together : Stmt := topS 10
abbrev s_table_of : Stmt := topS 14
abbrev s_do_cross : Stmt := topS 15
abbrev s_first_crossing : Stmt := topS 16
abbrev s_law : Stmt := topS 27
theorem sc__law_pool : FnScope ["script", "k", "cell"] ["script", "k"] (defScope s__law_pool) := ⟨rfl, rfl, rfl, by decide +kernel, rfl, by decide +kernel, by decide +kernel⟩
theorem sc__law_take : FnScope ["pool", "many", "found", "step", "mark"] ["pool", "many"] (defScope s__law_take) := ⟨rfl, rfl, rfl, by decide +kernel, rfl, by decide +kernel, by decide +kernel⟩
theorem sc__law_once : FnScope ["cuts", "found", "cut", "weight"] ["cuts"] (defScope s__law_once) := ⟨rfl, rfl, rfl, by decide +kernel, rfl, by decide +kernel, by decide +kernel⟩
theorem sc__law_lowest : FnScope ["top", "bottom", "one", "other"] ["top", "bottom"] (defScope s__law_lowest) := ⟨rfl, rfl, rfl, by decide +kernel, rfl, by decide +kernel, by decide +kernel⟩
theorem sc__law_figures : FnScope ["pool", "found", "turn"] ["pool"] (defScope s__law_figures) := ⟨rfl, rfl, rfl, by decide +kernel, rfl, by decide +kernel, by decide +kernel⟩
theorem sc__law_weight : FnScope ["pool"] ["pool"] (defScope s__law_weight) := ⟨rfl, rfl, rfl, by decide +kernel, rfl, by decide +kernel, by decide +kernel⟩
theorem sc__law_cuts : FnScope ["pool", "many", "kind", "found", "turn", "cut", "point"] ["pool", "many"] (defScope s__law_cuts) := ⟨rfl, rfl, rfl, by decide +kernel, rfl, by decide +kernel, by decide +kernel⟩
theorem sc_cut_of : FnScope ["n", "points", "side", "point"] ["n", "points"] (defScope s_cut_of) := ⟨rfl, rfl, rfl, by decide +kernel, rfl, by decide +kernel, by decide +kernel⟩
theorem sc__law_sides : FnScope ["ones", "at", "many", "others", "to", "more", "places", "found", "cut", "weight", "side", "first", "k", "place", "point"] ["ones", "at", "many", "others", "to", "more"] (defScope s__law_sides) := ⟨rfl, rfl, rfl, by decide +kernel, rfl, by decide +kernel, by decide +kernel⟩
theorem sc_common_of : FnScope ["one", "other"] ["one", "other"] (defScope s_common_of) := ⟨rfl, rfl, rfl, by decide +kernel, rfl, by decide +kernel, by decide +kernel⟩
theorem sc_fraction : FnScope ["top", "bottom", "by"] ["top", "bottom"] (defScope s_fraction) := ⟨rfl, rfl, rfl, by decide +kernel, rfl, by decide +kernel, by decide +kernel⟩
theorem sc_plus : FnScope ["q", "r"] ["q", "r"] (defScope s_plus) := ⟨rfl, rfl, rfl, by decide +kernel, rfl, by decide +kernel, by decide +kernel⟩
theorem sc__law_merged : FnScope ["ones", "found", "cut", "weight"] ["ones"] (defScope s__law_merged) := ⟨rfl, rfl, rfl, by decide +kernel, rfl, by decide +kernel, by decide +kernel⟩
theorem sc_hung_together : FnScope ["table", "point", "other", "other_point", "there", "found", "row", "place", "ahead", "behind"] ["table", "point", "other", "other_point"] (defScope s_hung_together) := ⟨rfl, rfl, rfl, by decide +kernel, rfl, by decide +kernel, by decide +kernel⟩
theorem sc_table_of : FnScope ["n", "cuts", "found", "cut", "weight", "one", "other"] ["n", "cuts"] (defScope s_table_of) := ⟨rfl, rfl, rfl, by decide +kernel, rfl, by decide +kernel, by decide +kernel⟩
theorem sc_do_cross : FnScope ["one", "other", "both", "point"] ["one", "other"] (defScope s_do_cross) := ⟨rfl, rfl, rfl, by decide +kernel, rfl, by decide +kernel, by decide +kernel⟩
theorem sc_first_crossing : FnScope ["n", "cuts", "a", "b"] ["n", "cuts"] (defScope s_first_crossing) := ⟨rfl, rfl, rfl, by decide +kernel, rfl, by decide +kernel, by decide +kernel⟩
theorem sc_law : FnScope ["script", "k", "pool", "many", "more", "ones", "others", "at", "to", "parts", "whole", "both", "cut", "weight", "other", "weight_there", "pair", "due"] ["script"] (defScope s_law) := ⟨rfl, rfl, rfl, by decide +kernel, rfl, by decide +kernel, by decide +kernel⟩
abbrev k_NOUGHT : D := .tuple [.int 0, .int 1]
/-- what the top has written -/
structure Fx (K : PySem.W.Frag) (mg : Str → Option Value) where
  a__law_pool : Addr
  d__law_pool : FuncData
  F__law_pool : Fun K "_law_pool" "_law_pool" s__law_pool a__law_pool d__law_pool
  g__law_pool : mg "_law_pool" = some (.ref a__law_pool)
  b__law_pool : Binds K d__law_pool ["script", "k"] []
  a__law_take : Addr
  d__law_take : FuncData
  F__law_take : Fun K "_law_take" "_law_take" s__law_take a__law_take d__law_take
  g__law_take : mg "_law_take" = some (.ref a__law_take)
  b__law_take : Binds K d__law_take ["pool", "many"] []
  a__law_once : Addr
  d__law_once : FuncData
  F__law_once : Fun K "_law_once" "_law_once" s__law_once a__law_once d__law_once
  g__law_once : mg "_law_once" = some (.ref a__law_once)
  b__law_once : Binds K d__law_once ["cuts"] []
  a__law_lowest : Addr
  d__law_lowest : FuncData
  F__law_lowest : Fun K "_law_lowest" "_law_lowest" s__law_lowest a__law_lowest d__law_lowest
  g__law_lowest : mg "_law_lowest" = some (.ref a__law_lowest)
  b__law_lowest : Binds K d__law_lowest ["top", "bottom"] []
  a__law_figures : Addr
  d__law_figures : FuncData
  F__law_figures : Fun K "_law_figures" "_law_figures" s__law_figures a__law_figures d__law_figures
  g__law_figures : mg "_law_figures" = some (.ref a__law_figures)
  b__law_figures : Binds K d__law_figures ["pool"] []
  a__law_weight : Addr
  d__law_weight : FuncData
  F__law_weight : Fun K "_law_weight" "_law_weight" s__law_weight a__law_weight d__law_weight
  g__law_weight : mg "_law_weight" = some (.ref a__law_weight)
  b__law_weight : Binds K d__law_weight ["pool"] []
  a__law_cuts : Addr
  d__law_cuts : FuncData
  F__law_cuts : Fun K "_law_cuts" "_law_cuts" s__law_cuts a__law_cuts d__law_cuts
  g__law_cuts : mg "_law_cuts" = some (.ref a__law_cuts)
  b__law_cuts : Binds K d__law_cuts ["pool", "many"] []
  a_cut_of : Addr
  d_cut_of : FuncData
  F_cut_of : Fun K "cut_of" "cut_of" s_cut_of a_cut_of d_cut_of
  g_cut_of : mg "cut_of" = some (.ref a_cut_of)
  b_cut_of : Binds K d_cut_of ["n", "points"] []
  a__law_sides : Addr
  d__law_sides : FuncData
  F__law_sides : Fun K "_law_sides" "_law_sides" s__law_sides a__law_sides d__law_sides
  g__law_sides : mg "_law_sides" = some (.ref a__law_sides)
  b__law_sides : Binds K d__law_sides ["ones", "at", "many", "others", "to", "more"] []
  a_common_of : Addr
  d_common_of : FuncData
  F_common_of : Fun K "common_of" "common_of" s_common_of a_common_of d_common_of
  g_common_of : mg "common_of" = some (.ref a_common_of)
  b_common_of : Binds K d_common_of ["one", "other"] []
  a_fraction : Addr
  d_fraction : FuncData
  F_fraction : Fun K "fraction" "fraction" s_fraction a_fraction d_fraction
  g_fraction : mg "fraction" = some (.ref a_fraction)
  b_fraction : Binds K d_fraction ["top", "bottom"] []
  a_plus : Addr
  d_plus : FuncData
  F_plus : Fun K "plus" "plus" s_plus a_plus d_plus
  g_plus : mg "plus" = some (.ref a_plus)
  b_plus : Binds K d_plus ["q", "r"] []
  a__law_merged : Addr
  d__law_merged : FuncData
  F__law_merged : Fun K "_law_merged" "_law_merged" s__law_merged a__law_merged d__law_merged
  g__law_merged : mg "_law_merged" = some (.ref a__law_merged)
  b__law_merged : Binds K d__law_merged ["ones"] []
  a_hung_together : Addr
  d_hung_together : FuncData
  F_hung_together : Fun K "hung_together" "hung_together" s_hung_together a_hung_together d_hung_together
  g_hung_together : mg "hung_together" = some (.ref a_hung_together)
  b_hung_together : Binds K d_hung_together ["table", "point", "other", "other_point"] []
  a_table_of : Addr
  d_table_of : FuncData
  F_table_of : Fun K "table_of" "table_of" s_table_of a_table_of d_table_of
  g_table_of : mg "table_of" = some (.ref a_table_of)
  b_table_of : Binds K d_table_of ["n", "cuts"] []
  a_do_cross : Addr
  d_do_cross : FuncData
  F_do_cross : Fun K "do_cross" "do_cross" s_do_cross a_do_cross d_do_cross
  g_do_cross : mg "do_cross" = some (.ref a_do_cross)
  b_do_cross : Binds K d_do_cross ["one", "other"] []
  a_first_crossing : Addr
  d_first_crossing : FuncData
  F_first_crossing : Fun K "first_crossing" "first_crossing" s_first_crossing a_first_crossing d_first_crossing
  g_first_crossing : mg "first_crossing" = some (.ref a_first_crossing)
  b_first_crossing : Binds K d_first_crossing ["n", "cuts"] []
  a_law : Addr
  d_law : FuncData
  F_law : Fun K "law" "law" s_law a_law d_law
  g_law : mg "law" = some (.ref a_law)
  b_law : Binds K d_law ["script"] []
  n_abs : mg "abs" = none
  n_enumerate : mg "enumerate" = none
  n_int : mg "int" = none
  n_len : mg "len" = none
  n_list : mg "list" = none
  n_max : mg "max" = none
  n_min : mg "min" = none
  n_range : mg "range" = none
  n_set : mg "set" = none
  n_sorted : mg "sorted" = none
  c_NOUGHT : GlobD K mg "NOUGHT" k_NOUGHT
section
variable {P : Program} {w : World} {K : PySem.W.Frag} {mg : Str → Option Value} {base : Heap}
noncomputable def m__law_pool : FM := mDef 1 (sSeq (sSet 2 (mCel (pureM (PyData.int 0))))
      (sSeq (sIf (mTest (op2 pLt (mVar 1) (opA pLen (mCons (mVar 0) mNil)))) (sSeq (sSet 2 (mCel (op2 pIx (mVar 0) (mVar 1))))
      sNil) sNil)
      (sSeq (sIf (mTest (op2 pGe (mVar 2) (op2 pPow (pureM (PyData.int 10)) (pureM (PyData.int 18))))) (sSeq (sRet (bindM (mCons (op2 pSub (mVar 2) (op2 pPow (pureM (PyData.int 10)) (pureM (PyData.int 18)))) (mCons (pureM (PyData.int 1)) (mCons (pureM (PyData.int 0)) mNil))) fun ds => optM (lstOf ds)))
      sNil) sNil)
      (sSeq (sRet (bindM (mCons (mVar 2) (mCons (pureM (PyData.int 0)) (mCons (op2 pMulI (pureM (PyData.int 23)) (mVar 1)) mNil))) fun ds => optM (lstOf ds)))
      sNil))))
theorem ok__law_pool (Y : Fx K mg) : FnOk P w K mg base (L2.CX P w) 1 Y.a__law_pool Y.d__law_pool ["script", "k"] (SpOf K mg 2 m__law_pool) :=
  df_ok (k := 0) Y.F__law_pool sc__law_pool fun f cdv A outer s H E pa C =>
    (dss_cons (ds_set (i := 2) C.nd (DV.cel dv_int))
      (dss_cons (ds_if (dt_cmp op_lt od_lt (dv_var 1) (dv_callB call_lenA cd_len rfl Y.n_len boot_len (da_cons (dv_var 0) da_nil))) (dss_cons (ds_set (i := 2) C.nd (DV.cel (dv_ix ix_seq od_ix (dv_var 0) (dv_var 1))))
      dss_nil) dss_nil)
      (dss_cons (ds_if (dt_cmp op_ge od_ge (dv_var 2) (dv_op op_pow od_pow dv_int dv_int)) (dss_cons (ds_ret (de_lst (da_cons (dv_op op_sub od_sub (dv_var 2) (dv_op op_pow od_pow dv_int dv_int)) (da_cons dv_int (da_cons dv_int da_nil)))))
      dss_nil) dss_nil)
      (dss_cons (ds_ret (de_lst (da_cons (dv_var 2) (da_cons dv_int (da_cons (dv_op op_mulW od_mulI dv_int (dv_var 1)) da_nil)))))
      dss_nil))))
noncomputable def m__law_take : FM := mDef 3 (sSeq (sIf (mTest (op2 pEq (mIxL (lVar 0) (pureM (PyData.int 1))) (pureM (PyData.int 1)))) (sSeq (sSet 2 (mCel (op2 pMod (mIxL (lVar 0) (pureM (PyData.int 0))) (mVar 1))))
      (sSeq (sPutAt 0 (op2 pFdiv (mIxL (lVar 0) (pureM (PyData.int 0))) (mVar 1)) (pureM (PyData.int 0)))
      (sSeq (sRet (mCel (mVar 2)))
      sNil))) sNil)
      (sSeq (sPutAt 0 (op2 pAdd (mIxL (lVar 0) (pureM (PyData.int 2))) (pureM (PyData.int 1))) (pureM (PyData.int 2)))
      (sSeq (sSet 3 (mCel (mIxL (lVar 0) (pureM (PyData.int 2)))))
      (sSeq (sSet 4 (mCel (op2 pMulI (op2 pAdd (op2 pMod (mIxL (lVar 0) (pureM (PyData.int 0))) (pureM (PyData.int 9999999641))) (pureM (PyData.int 953))) (op2 pAdd (op2 pMulI (pureM (PyData.int 17)) (mVar 3)) (pureM (PyData.int 43))))))
      (sSeq (sSet 4 (mCel (op2 pAdd (mVar 4) (op2 pMulI (op2 pMulI (pureM (PyData.int 3413)) (mVar 3)) (mVar 3)))))
      (sSeq (sSet 4 (mCel (op2 pMod (op2 pMulI (mVar 4) (mVar 4)) (pureM (PyData.int 99999999683)))))
      (sSeq (sRet (mCel (op2 pMod (op2 pFdiv (op2 pMod (op2 pMulI (mVar 4) (op2 pAdd (mVar 4) (pureM (PyData.int 29)))) (pureM (PyData.int 99999999959))) (pureM (PyData.int 73))) (mVar 1))))
      sNil)))))))
theorem ok__law_take (Y : Fx K mg) : FnOk P w K mg base (L2.CX P w) 1 Y.a__law_take Y.d__law_take ["pool", "many"] (SpOf K mg 2 m__law_take) :=
  df_ok (k := 0) Y.F__law_take sc__law_take fun f cdv A outer s H E pa C =>
    (dss_cons (ds_if (dt_cmp (op_eqD (HU64 C.hu)) od_eq (dv_ixL (dl_var 0) dv_int) dv_int) (dss_cons (ds_set (i := 2) C.nd (DV.cel (dv_op op_modN od_mod (dv_ixL (dl_var 0) dv_int) (dv_var 1))))
      (dss_cons (ds_putAt (i := 0) (dv_op op_fdivA od_fdiv (dv_ixL (dl_var 0) dv_int) (dv_var 1)) dv_int)
      (dss_cons (ds_ret (DV.cel (dv_var 2)))
      dss_nil))) dss_nil)
      (dss_cons (ds_putAt (i := 0) (dv_op op_addD od_add (dv_ixL (dl_var 0) dv_int) dv_int) dv_int)
      (dss_cons (ds_set (i := 3) C.nd (DV.cel (dv_ixL (dl_var 0) dv_int)))
      (dss_cons (ds_set (i := 4) C.nd (DV.cel (dv_op op_mulW od_mulI (dv_op op_addD od_add (dv_op op_modN od_mod (dv_ixL (dl_var 0) dv_int) dv_int) dv_int) (dv_op op_addD od_add (dv_op op_mulW od_mulI dv_int (dv_var 3)) dv_int))))
      (dss_cons (ds_set (i := 4) C.nd (DV.cel (dv_op op_addD od_add (dv_var 4) (dv_op op_mulW od_mulI (dv_op op_mulW od_mulI dv_int (dv_var 3)) (dv_var 3)))))
      (dss_cons (ds_set (i := 4) C.nd (DV.cel (dv_op op_modN od_mod (dv_op op_mulW od_mulI (dv_var 4) (dv_var 4)) dv_int)))
      (dss_cons (ds_ret (DV.cel (dv_op op_modN od_mod (dv_op op_fdivA od_fdiv (dv_op op_modN od_mod (dv_op op_mulW od_mulI (dv_var 4) (dv_op op_addD od_add (dv_var 4) dv_int)) dv_int) dv_int) (dv_var 1))))
      dss_nil)))))))
noncomputable def m__law_once : FM := mDef 3 (sSeq (sSet 1 (bindM mNil fun ds => optM (lstOf ds)))
      (sSeq (sFz 1 (sFor (gTupD 2 (gsCons (gN 2) (gsCons (gN 3) gsNil))) (itL (mVal (opA (fun ds => (onList pSorted ds).map Cel.o1) (mCons (mVar 0) mNil)))) (sSeq (sIf (mOr (mCmpB1 pEq (rVar 1) (mVal (bindM mNil fun ds => optM (lstOf ds)))) (mTest (op2 pNe (op2 pIx (mIxL (lVar 1) (op1 pNeg (pureM (PyData.int 1)))) (pureM (PyData.int 0))) (mVar 2)))) (sSeq (sDrop (mCel (mMeth 1 wAppend (mCons (bindM (mCons (mVar 2) (mCons (mVar 3) mNil)) fun ds => optM (tupOf ds)) mNil))))
      sNil) sNil)
      sNil)))
      (sSeq (sRet (mCel (mVar 1)))
      sNil)))
theorem ok__law_once (Y : Fx K mg) : FnOk P w K mg base (L2.CX P w) 1 Y.a__law_once Y.d__law_once ["cuts"] (SpOf K mg 1 m__law_once) :=
  df_ok (k := 0) Y.F__law_once sc__law_once fun f cdv A outer s H E pa C =>
    (dss_cons (ds_set (i := 1) C.nd (de_lst da_nil))
      (dss_cons (ds_fz 1 (ds_for C.own C.calm (di_list (DE.val (de_callB (cr_sortedD C.hu) (ListLD.call ld_sorted) rfl Y.n_sorted boot_sorted (da_cons (dv_var 0) da_nil)))) (dg_tup C.calm (dgs_cons (dg_name 2 C.nd) (dgs_cons (dg_name 3 C.nd) dgs_nil))) (dss_cons (ds_if (DW.dt (dw_or (dt_cmpB1 (op_eqD (HU64 C.hu)) od_eq (db_var 1) (DE.val (de_lst da_nil))) (dw_or1 (dt_cmp (op_neD (HU64 C.hu)) od_ne (dv_ix ix_seq od_ix (dv_ixL (dl_var 1) (dv_neg dv_int)) dv_int) (dv_var 2))))) (dss_cons (ds_expr (DV.cel (dv_meth (i := 1) F.plainAttrs_list F.slot_list_append F.type_list_append mt_append md_append (da_cons (dv_tup (da_cons (dv_var 2) (da_cons (dv_var 3) da_nil))) da_nil))))
      dss_nil) dss_nil)
      dss_nil)))
      (dss_cons (ds_ret (DV.cel (dv_var 1)))
      dss_nil)))
noncomputable def m__law_lowest : FM := mDef 2 (sSeq (sSet 2 (mCel (opA pAbs (mCons (mVar 0) mNil))))
      (sSeq (sSet 3 (mCel (opA pAbs (mCons (mVar 1) mNil))))
      (sSeq (sWhile (mTest (op2 pNe (mVar 3) (pureM (PyData.int 0)))) (sSeq (sPar 2 3 (mCons (mVar 3) (mCons (op2 pMod (mVar 2) (mVar 3)) mNil)))
      sNil))
      (sSeq (sIf (mTest (op2 pLt (mVar 1) (pureM (PyData.int 0)))) (sSeq (sSet 2 (mCel (op2 pSub (pureM (PyData.int 0)) (mVar 2))))
      sNil) sNil)
      (sSeq (sRet (mCel (bindM (mCons (op2 pFdiv (mVar 0) (mVar 2)) (mCons (op2 pFdiv (mVar 1) (mVar 2)) mNil)) fun ds => optM (tupOf ds))))
      sNil)))))
theorem ok__law_lowest (Y : Fx K mg) : FnOk P w K mg base (L2.CX P w) 1 Y.a__law_lowest Y.d__law_lowest ["top", "bottom"] (SpOf K mg 2 m__law_lowest) :=
  df_ok (k := 0) Y.F__law_lowest sc__law_lowest fun f cdv A outer s H E pa C =>
    (dss_cons (ds_set (i := 2) C.nd (DV.cel (dv_callB call_abs cd_abs rfl Y.n_abs boot_abs (da_cons (dv_var 0) da_nil))))
      (dss_cons (ds_set (i := 3) C.nd (DV.cel (dv_callB call_abs cd_abs rfl Y.n_abs boot_abs (da_cons (dv_var 1) da_nil))))
      (dss_cons (ds_while C.own (dt_cmp (op_neD (HU64 C.hu)) od_ne (dv_var 3) dv_int) (dss_cons (ds_par (i := 2) (j := 3) C.calm C.nd (da_cons (dv_var 3) (da_cons (dv_op op_modN od_mod (dv_var 2) (dv_var 3)) da_nil)))
      dss_nil))
      (dss_cons (ds_if (dt_cmp op_lt od_lt (dv_var 1) dv_int) (dss_cons (ds_set (i := 2) C.nd (DV.cel (dv_op op_sub od_sub dv_int (dv_var 2))))
      dss_nil) dss_nil)
      (dss_cons (ds_ret (DV.cel (dv_tup (da_cons (dv_op op_fdivA od_fdiv (dv_var 0) (dv_var 2)) (da_cons (dv_op op_fdivA od_fdiv (dv_var 1) (dv_var 2)) da_nil)))))
      dss_nil)))))
noncomputable def m__law_figures : FM := mDef 2 (sSeq (sSet 1 (mCel (pureM (PyData.int 0))))
      (sSeq (sFor (gN 2) (opA rng1 (mCons (op2 pIx (mVal (bindM (mCons (pureM (PyData.int 1)) (mCons (pureM (PyData.int 2)) (mCons (pureM (PyData.int 3)) (mCons (pureM (PyData.int 5)) mNil)))) fun ds => optM (lstOf ds))) (mVal (mCallO m__law_take 0 (mCons (pureM (PyData.int 4)) mNil)))) mNil)) (sSeq (sSet 1 (mCel (op2 pAdd (op2 pMulI (mVar 1) (op2 pPow (pureM (PyData.int 10)) (pureM (PyData.int 9)))) (mVal (mCallO m__law_take 0 (mCons (op2 pPow (pureM (PyData.int 10)) (pureM (PyData.int 9))) mNil))))))
      sNil))
      (sSeq (sRet (mCel (op2 pMod (mVar 1) (op2 pPow (pureM (PyData.int 10)) (pureM (PyData.int 40))))))
      sNil)))
theorem ok__law_figures (Y : Fx K mg) : FnOk P w K mg base (L2.CX P w) 2 Y.a__law_figures Y.d__law_figures ["pool"] (SpOf K mg 1 m__law_figures) :=
  df_ok (k := 1) Y.F__law_figures sc__law_figures fun f cdv A outer s H E pa C =>
    (dss_cons (ds_set (i := 1) C.nd (DV.cel dv_int))
      (dss_cons (ds_for C.own C.calm (di_range1 rfl Y.n_range (da_cons (dv_ix ix_seq od_ix (DE.val (de_lst (da_cons dv_int (da_cons dv_int (da_cons dv_int (da_cons dv_int da_nil)))))) (DE.val (de_callO (i := 0) C.tk (ok__law_take Y) C.room (by decide) rfl Y.g__law_take Y.F__law_take.kp Y.b__law_take (da_cons dv_int da_nil)))) da_nil)) (dg_name 2 C.nd) (dss_cons (ds_set (i := 1) C.nd (DV.cel (dv_op op_addD od_add (dv_op op_mulW od_mulI (dv_var 1) (dv_op op_pow od_pow dv_int dv_int)) (DE.val (de_callO (i := 0) C.tk (ok__law_take Y) C.room (by decide) rfl Y.g__law_take Y.F__law_take.kp Y.b__law_take (da_cons (dv_op op_pow od_pow dv_int dv_int) da_nil))))))
      dss_nil))
      (dss_cons (ds_ret (DV.cel (dv_op op_modN od_mod (dv_var 1) (dv_op op_pow od_pow dv_int dv_int))))
      dss_nil)))
noncomputable def m__law_weight : FM := mDef 0 (sSeq (sIf (mTest (op2 pGt (mVal (mCallO m__law_take 0 (mCons (pureM (PyData.int 7)) mNil))) (pureM (PyData.int 0)))) (sSeq (sRet (bindM (mCons (op2 pAdd (pureM (PyData.int 1)) (mVal (mCallO m__law_take 0 (mCons (pureM (PyData.int 9)) mNil)))) (mCons (op2 pIx (mVal (bindM (mCons (pureM (PyData.int 1)) (mCons (pureM (PyData.int 1)) (mCons (pureM (PyData.int 2)) (mCons (pureM (PyData.int 3)) mNil)))) fun ds => optM (lstOf ds))) (mVal (mCallO m__law_take 0 (mCons (pureM (PyData.int 4)) mNil)))) mNil)) (callM m__law_lowest)))
      sNil) sNil)
      (sSeq (sRet (bindM (mCons (op2 pAdd (pureM (PyData.int 1)) (op2 pMod (mVal (mCallO m__law_figures 0 mNil)) (op2 pPow (pureM (PyData.int 10)) (pureM (PyData.int 39))))) (mCons (op2 pAdd (pureM (PyData.int 1)) (mVal (mCallO m__law_take 0 (mCons (pureM (PyData.int 9)) mNil)))) mNil)) (callM m__law_lowest)))
      sNil))
theorem ok__law_weight (Y : Fx K mg) : FnOk P w K mg base (L2.CX P w) 3 Y.a__law_weight Y.d__law_weight ["pool"] (SpOf K mg 1 m__law_weight) :=
  df_ok (k := 2) Y.F__law_weight sc__law_weight fun f cdv A outer s H E pa C =>
    (dss_cons (ds_if (dt_cmp op_gt od_gt (DE.val (de_callO (i := 0) C.tk (ok__law_take Y) C.room (by decide) rfl Y.g__law_take Y.F__law_take.kp Y.b__law_take (da_cons dv_int da_nil))) dv_int) (dss_cons (ds_ret (de_call C.tk (ok__law_lowest Y) C.room (by decide) rfl Y.g__law_lowest Y.F__law_lowest.kp Y.b__law_lowest (da_cons (dv_op op_addD od_add dv_int (DE.val (de_callO (i := 0) C.tk (ok__law_take Y) C.room (by decide) rfl Y.g__law_take Y.F__law_take.kp Y.b__law_take (da_cons dv_int da_nil)))) (da_cons (dv_ix ix_seq od_ix (DE.val (de_lst (da_cons dv_int (da_cons dv_int (da_cons dv_int (da_cons dv_int da_nil)))))) (DE.val (de_callO (i := 0) C.tk (ok__law_take Y) C.room (by decide) rfl Y.g__law_take Y.F__law_take.kp Y.b__law_take (da_cons dv_int da_nil)))) da_nil))))
      dss_nil) dss_nil)
      (dss_cons (ds_ret (de_call C.tk (ok__law_lowest Y) C.room (by decide) rfl Y.g__law_lowest Y.F__law_lowest.kp Y.b__law_lowest (da_cons (dv_op op_addD od_add dv_int (dv_op op_modN od_mod (DE.val (de_callO (i := 0) C.tk (ok__law_figures Y) C.room (by decide) rfl Y.g__law_figures Y.F__law_figures.kp Y.b__law_figures da_nil)) (dv_op op_pow od_pow dv_int dv_int))) (da_cons (dv_op op_addD od_add dv_int (DE.val (de_callO (i := 0) C.tk (ok__law_take Y) C.room (by decide) rfl Y.g__law_take Y.F__law_take.kp Y.b__law_take (da_cons dv_int da_nil)))) da_nil))))
      dss_nil))
noncomputable def m__law_cuts : FM := mDef 5 (sSeq (sFz 2 (sSet 2 (mCallO m__law_take 0 (mCons (pureM (PyData.int 6)) mNil))))
      (sSeq (sSet 3 (bindM mNil fun ds => optM (lstOf ds)))
      (sSeq (sIf (mAnd (mTest (op2 pGt (mVar 1) (pureM (PyData.int 1)))) (mTest (op2 pEq (mVar 2) (pureM (PyData.int 0))))) (sSeq (sSet 3 (mLc (opA rng2 (mCons (pureM (PyData.int 1)) (mCons (mVar 1) mNil))) [6] (gN 6) (pureM true) (bindM (mCons (mVal (bindM (mCons (mVar 6) mNil) fun ds => optM (lstOf ds))) (mCons (mVal (mCallO m__law_weight 0 mNil)) mNil)) fun ds => optM (tupOf ds))))
      sNil) sNil)
      (sSeq (sIf (mAnd (mTest (op2 pGt (mVar 1) (pureM (PyData.int 1)))) (mTest (op2 pEq (mVar 2) (pureM (PyData.int 1))))) (sSeq (sSet 3 (mLc (opA rng2 (mCons (pureM (PyData.int 1)) (mCons (mVar 1) mNil))) [6] (gN 6) (pureM true) (bindM (mCons (mVal (mLstRg2 (mVar 6) (mVar 1))) (mCons (mVal (mCallO m__law_weight 0 mNil)) mNil)) fun ds => optM (tupOf ds))))
      sNil) sNil)
      (sSeq (sFz 3 (sFor (gN 4) (opA rng1 (mCons (op2 pIx (mVal (bindM (mCons (mVal (mCallO m__law_take 0 (mCons (pureM (PyData.int 4)) mNil))) (mCons (mVal (mCallO m__law_take 0 (mCons (pureM (PyData.int 12)) mNil))) mNil)) fun ds => optM (lstOf ds))) (opA pInt (mCons (op2 pEq (mVal (mCallO m__law_take 0 (mCons (pureM (PyData.int 3)) mNil))) (pureM (PyData.int 0))) mNil))) mNil)) (sSeq (sFz 5 (sSet 5 (mLc (opA rng2 (mCons (pureM (PyData.int 1)) (mCons (mVar 1) mNil))) [6] (gN 6) (mTest (op2 pEq (mVal (mCallO m__law_take 0 (mCons (pureM (PyData.int 2)) mNil))) (pureM (PyData.int 0)))) (mVar 6))))
      (sSeq (sIf (mTest (op2 pNe (mVar 5) (mVal (bindM mNil fun ds => optM (lstOf ds))))) (sSeq (sDrop (mCel (mMeth 3 wAppend (mCons (bindM (mCons (mVar 5) (mCons (mVal (mCallO m__law_weight 0 mNil)) mNil)) fun ds => optM (tupOf ds)) mNil))))
      sNil) sNil)
      sNil))))
      (sSeq (sRet (bindM (mCons (mVar 3) mNil) (callM m__law_once)))
      sNil))))))
theorem ok__law_cuts (Y : Fx K mg) : FnOk P w K mg base (L2.CX P w) 4 Y.a__law_cuts Y.d__law_cuts ["pool", "many"] (SpOf K mg 2 m__law_cuts) :=
  df_ok (k := 3) Y.F__law_cuts sc__law_cuts fun f cdv A outer s H E pa C =>
    (dss_cons (ds_fz 2 (ds_set (i := 2) C.nd (de_callO (i := 0) C.tk (ok__law_take Y) C.room (by decide) rfl Y.g__law_take Y.F__law_take.kp Y.b__law_take (da_cons dv_int da_nil))))
      (dss_cons (ds_set (i := 3) C.nd (de_lst da_nil))
      (dss_cons (ds_if (DW.dt (dw_and (dt_cmp op_gt od_gt (dv_var 1) dv_int) (dw_and1 (dt_cmp (op_eqD (HU64 C.hu)) od_eq (dv_var 2) dv_int)))) (dss_cons (ds_setLc (i := 3) (own := [("point", 6)]) C.calm C.nd (by kernel_rfl) (di_range2 rfl Y.n_range (da_cons dv_int (da_cons (dv_var 1) da_nil))) (fun b => (dg_name 6 (C.bk _ b).nd)) (fun b => dts_nil) (fun b => (dv_tup (da_cons (DE.val (de_lst (da_cons (dv_var 6) da_nil))) (da_cons (DE.val (de_callO (i := 0) (C.bk _ b).tk (ok__law_weight Y) (C.bk _ b).room (by decide) rfl Y.g__law_weight Y.F__law_weight.kp Y.b__law_weight da_nil)) da_nil)))))
      dss_nil) dss_nil)
      (dss_cons (ds_if (DW.dt (dw_and (dt_cmp op_gt od_gt (dv_var 1) dv_int) (dw_and1 (dt_cmp (op_eqD (HU64 C.hu)) od_eq (dv_var 2) dv_int)))) (dss_cons (ds_setLc (i := 3) (own := [("point", 6)]) C.calm C.nd (by kernel_rfl) (di_range2 rfl Y.n_range (da_cons dv_int (da_cons (dv_var 1) da_nil))) (fun b => (dg_name 6 (C.bk _ b).nd)) (fun b => dts_nil) (fun b => (dv_tup (da_cons (DE.val (de_listRg2 (C.bk _ b).calm rfl Y.n_list rfl Y.n_range (dv_var 6) (dv_var 1))) (da_cons (DE.val (de_callO (i := 0) (C.bk _ b).tk (ok__law_weight Y) (C.bk _ b).room (by decide) rfl Y.g__law_weight Y.F__law_weight.kp Y.b__law_weight da_nil)) da_nil)))))
      dss_nil) dss_nil)
      (dss_cons (ds_fz 3 (ds_for C.own C.calm (di_range1 rfl Y.n_range (da_cons (dv_ix ix_seq od_ix (DE.val (de_lst (da_cons (DE.val (de_callO (i := 0) C.tk (ok__law_take Y) C.room (by decide) rfl Y.g__law_take Y.F__law_take.kp Y.b__law_take (da_cons dv_int da_nil))) (da_cons (DE.val (de_callO (i := 0) C.tk (ok__law_take Y) C.room (by decide) rfl Y.g__law_take Y.F__law_take.kp Y.b__law_take (da_cons dv_int da_nil))) da_nil)))) (dv_callTy call_int1 cd_int rfl Y.n_int boot_int (da_cons (dv_cmp (op_eqD (HU64 C.hu)) od_eq (DE.val (de_callO (i := 0) C.tk (ok__law_take Y) C.room (by decide) rfl Y.g__law_take Y.F__law_take.kp Y.b__law_take (da_cons dv_int da_nil))) dv_int) da_nil))) da_nil)) (dg_name 4 C.nd) (dss_cons (ds_fz 5 (ds_setLc (i := 5) (own := [("point", 6)]) C.calm C.nd (by kernel_rfl) (di_range2 rfl Y.n_range (da_cons dv_int (da_cons (dv_var 1) da_nil))) (fun b => (dg_name 6 (C.bk _ b).nd)) (fun b => (dts_one (dt_cmp (op_eqD (HU64 (C.bk _ b).hu)) od_eq (DE.val (de_callO (i := 0) (C.bk _ b).tk (ok__law_take Y) (C.bk _ b).room (by decide) rfl Y.g__law_take Y.F__law_take.kp Y.b__law_take (da_cons dv_int da_nil))) dv_int))) (fun b => (dv_var 6))))
      (dss_cons (ds_if (dt_cmp (op_neD (HU64 C.hu)) od_ne (dv_var 5) (DE.val (de_lst da_nil))) (dss_cons (ds_expr (DV.cel (dv_meth (i := 3) F.plainAttrs_list F.slot_list_append F.type_list_append mt_append md_append (da_cons (dv_tup (da_cons (dv_var 5) (da_cons (DE.val (de_callO (i := 0) C.tk (ok__law_weight Y) C.room (by decide) rfl Y.g__law_weight Y.F__law_weight.kp Y.b__law_weight da_nil)) da_nil))) da_nil))))
      dss_nil) dss_nil)
      dss_nil))))
      (dss_cons (ds_ret (de_call C.tk (ok__law_once Y) C.room (by decide) rfl Y.g__law_once Y.F__law_once.kp Y.b__law_once (da_cons (dv_var 3) da_nil)))
      dss_nil))))))
noncomputable def m_cut_of : FM := mDef 2 (sSeq (sIf (mTest (op2 pNe (mVal (mLc (itL (mVar 1)) [3] (gN 3) (mNot (mTest (mChain pLe pLt (pureM (PyData.int 0)) (mVar 3) (mVar 0)))) (mVar 3))) (mVal (bindM mNil fun ds => optM (lstOf ds))))) (sSeq (fun _ => none)
      sNil) sNil)
      (sSeq (sFz 2 (sSet 2 (mSortSet (mVar 1))))
      (sSeq (sIf (mTest (op2 pIn (pureM (PyData.int 0)) (mVar 2))) (sSeq (sFz 2 (sSet 2 (mLc (opA rng1 (mCons (mVar 0) mNil)) [3] (gN 3) (mTest (op2 pNotIn (mVar 3) (mVar 2))) (mVar 3))))
      sNil) sNil)
      (sSeq (sIf (mOr (mTest (op2 pEq (mVar 2) (mVal (bindM mNil fun ds => optM (lstOf ds))))) (mTest (op2 pEq (opA pLen (mCons (mVar 2) mNil)) (mVar 0)))) (sSeq (fun _ => none)
      sNil) sNil)
      (sSeq (sRet (mCel (mVar 2)))
      sNil)))))
theorem ok_cut_of (Y : Fx K mg) : FnOk P w K mg base (L2.CX P w) 1 Y.a_cut_of Y.d_cut_of ["n", "points"] (SpOf K mg 2 m_cut_of) :=
  df_ok (k := 0) Y.F_cut_of sc_cut_of fun f cdv A outer s H E pa C =>
    (dss_cons (ds_if (dt_cmp (op_neD (HU64 C.hu)) od_ne (DE.val (de_lc (own := [("point", 3)]) C.calm C.nd (by kernel_rfl) (di_list (dv_var 1)) (fun b => (dg_name 3 (C.bk _ b).nd)) (fun b => (dts_one (dt_not (dt_chain op_le od_le op_lt od_lt dv_int (dv_var 3) (dv_var 0))))) (fun b => (dv_var 3)))) (DE.val (de_lst da_nil))) (dss_cons ds_none
      dss_nil) dss_nil)
      (dss_cons (ds_fz 2 (ds_set (i := 2) C.nd (de_sortSet C.calm (dv_var 1) rfl Y.n_sorted rfl Y.n_set)))
      (dss_cons (ds_if (dt_cmp (op_inA C.hu) od_in dv_int (dv_var 2)) (dss_cons (ds_fz 2 (ds_set (i := 2) C.nd (de_lc (own := [("point", 3)]) C.calm C.nd (by kernel_rfl) (di_range1 rfl Y.n_range (da_cons (dv_var 0) da_nil)) (fun b => (dg_name 3 (C.bk _ b).nd)) (fun b => (dts_one (dt_cmp (op_notInA (C.bk _ b).hu) od_notIn (dv_var 3) (dv_var 2)))) (fun b => (dv_var 3)))))
      dss_nil) dss_nil)
      (dss_cons (ds_if (DW.dt (dw_or (dt_cmp (op_eqD (HU64 C.hu)) od_eq (dv_var 2) (DE.val (de_lst da_nil))) (dw_or1 (dt_cmp (op_eqD (HU64 C.hu)) od_eq (dv_callB call_lenA cd_len rfl Y.n_len boot_len (da_cons (dv_var 2) da_nil)) (dv_var 0))))) (dss_cons ds_none
      dss_nil) dss_nil)
      (dss_cons (ds_ret (DV.cel (dv_var 2)))
      dss_nil)))))
noncomputable def m__law_sides : FM := mDef 9 (sSeq (sSet 6 (mLc (opA rng1 (mCons (mVar 5) mNil)) [12] (gN 12) (pureM true) (op2 pSub (op2 pAdd (mVar 2) (mVar 12)) (opA pInt (mCons (op2 pGt (mVar 12) (mVar 4)) mNil)))))
      (sSeq (sFz 6 (sPutAt 6 (mVar 1) (mVar 4)))
      (sSeq (sSet 7 (bindM mNil fun ds => optM (lstOf ds)))
      (sSeq (sFor (gTupD 2 (gsCons (gN 8) (gsCons (gN 9) gsNil))) (itL (mVar 0)) (sSeq (sSet 10 (mCel (op2 pAdd (mVar 8) (mVal (mLc (opA pEnum (mCons (mVar 6) mNil)) [12, 13] (gTupD 2 (gsCons (gN 12) (gsCons (gN 13) gsNil))) (mAnd (mTest (op2 pNe (mVar 12) (mVar 4))) (mTest (op2 pIn (mVar 1) (mVar 8)))) (mVar 13))))))
      (sSeq (sDrop (mCel (mMeth 7 wAppend (mCons (bindM (mCons (mVal (bindM (mCons (op2 pSub (op2 pAdd (mVar 2) (mVar 5)) (pureM (PyData.int 1))) (mCons (mVar 10) mNil)) (callM m_cut_of))) (mCons (mVar 9) mNil)) fun ds => optM (tupOf ds)) mNil))))
      sNil)))
      (sSeq (sSet 11 (mCel (mRead (lVar 7) fun ds => some (.int ds.length))))
      (sSeq (sFz 7 (sFor (gTupD 2 (gsCons (gN 8) (gsCons (gN 9) gsNil))) (itL (mVar 3)) (sSeq (sSet 10 (mCel (op2 pAdd (mVal (mLc (itL (mVar 8)) [12] (gN 12) (pureM true) (op2 pIx (mVar 6) (mVar 12)))) (mVal (mLc (opA rng1 (mCons (mVar 2) mNil)) [14] (gN 14) (mAnd (mTest (op2 pNe (mVar 14) (mVar 1))) (mTest (op2 pIn (mVar 4) (mVar 8)))) (mVar 14))))))
      (sSeq (sDrop (mCel (mMeth 7 wAppend (mCons (bindM (mCons (mVal (bindM (mCons (op2 pSub (op2 pAdd (mVar 2) (mVar 5)) (pureM (PyData.int 1))) (mCons (mVar 10) mNil)) (callM m_cut_of))) (mCons (mVar 9) mNil)) fun ds => optM (tupOf ds)) mNil))))
      sNil))))
      (sSeq (sRet (bindM (mCons (mVal (mSlice (mVar 7) oNone (oSome (mVar 11)))) (mCons (mVal (mSlice (mVar 7) (oSome (mVar 11)) oNone)) mNil)) fun ds => optM (lstOf ds)))
      sNil)))))))
theorem ok__law_sides (Y : Fx K mg) : FnOk P w K mg base (L2.CX P w) 2 Y.a__law_sides Y.d__law_sides ["ones", "at", "many", "others", "to", "more"] (SpOf K mg 6 m__law_sides) :=
  df_ok (k := 1) Y.F__law_sides sc__law_sides fun f cdv A outer s H E pa C =>
    (dss_cons (ds_set (i := 6) C.nd (de_lc (own := [("k", 12)]) C.calm C.nd (by kernel_rfl) (di_range1 rfl Y.n_range (da_cons (dv_var 5) da_nil)) (fun b => (dg_name 12 (C.bk _ b).nd)) (fun b => dts_nil) (fun b => (dv_op op_sub od_sub (dv_op op_addD od_add (dv_var 2) (dv_var 12)) (dv_callTy call_int1 cd_int rfl Y.n_int boot_int (da_cons (dv_cmp op_gt od_gt (dv_var 12) (dv_var 4)) da_nil))))))
      (dss_cons (ds_fz 6 (ds_putAt (i := 6) (dv_var 1) (dv_var 4)))
      (dss_cons (ds_set (i := 7) C.nd (de_lst da_nil))
      (dss_cons (ds_for C.own C.calm (di_list (dv_var 0)) (dg_tup C.calm (dgs_cons (dg_name 8 C.nd) (dgs_cons (dg_name 9 C.nd) dgs_nil))) (dss_cons (ds_set (i := 10) C.nd (DV.cel (dv_op op_addD od_add (dv_var 8) (DE.val (de_lc (own := [("k", 12), ("place", 13)]) C.calm C.nd (by kernel_rfl) (di_enum rfl Y.n_enumerate (da_cons (dv_var 6) da_nil)) (fun b => (dg_tup (C.bk _ b).calm (dgs_cons (dg_name 12 (C.bk _ b).nd) (dgs_cons (dg_name 13 (C.bk _ b).nd) dgs_nil)))) (fun b => (dts_one (DW.dt (dw_and (dt_cmp (op_neD (HU64 (C.bk _ b).hu)) od_ne (dv_var 12) (dv_var 4)) (dw_and1 (dt_cmp (op_inA (C.bk _ b).hu) od_in (dv_var 1) (dv_var 8))))))) (fun b => (dv_var 13)))))))
      (dss_cons (ds_expr (DV.cel (dv_meth (i := 7) F.plainAttrs_list F.slot_list_append F.type_list_append mt_append md_append (da_cons (dv_tup (da_cons (DE.val (de_call C.tk (ok_cut_of Y) C.room (by decide) rfl Y.g_cut_of Y.F_cut_of.kp Y.b_cut_of (da_cons (dv_op op_sub od_sub (dv_op op_addD od_add (dv_var 2) (dv_var 5)) dv_int) (da_cons (dv_var 10) da_nil)))) (da_cons (dv_var 9) da_nil))) da_nil))))
      dss_nil)))
      (dss_cons (ds_set (i := 11) C.nd (DV.cel (dv_callBL call_len_seq ld_len rfl Y.n_len boot_len (dl_var 7))))
      (dss_cons (ds_fz 7 (ds_for C.own C.calm (di_list (dv_var 3)) (dg_tup C.calm (dgs_cons (dg_name 8 C.nd) (dgs_cons (dg_name 9 C.nd) dgs_nil))) (dss_cons (ds_set (i := 10) C.nd (DV.cel (dv_op op_addD od_add (DE.val (de_lc (own := [("k", 12)]) C.calm C.nd (by kernel_rfl) (di_list (dv_var 8)) (fun b => (dg_name 12 (C.bk _ b).nd)) (fun b => dts_nil) (fun b => (dv_ix ix_seq od_ix (dv_var 6) (dv_var 12))))) (DE.val (de_lc (own := [("point", 14)]) C.calm C.nd (by kernel_rfl) (di_range1 rfl Y.n_range (da_cons (dv_var 2) da_nil)) (fun b => (dg_name 14 (C.bk _ b).nd)) (fun b => (dts_one (DW.dt (dw_and (dt_cmp (op_neD (HU64 (C.bk _ b).hu)) od_ne (dv_var 14) (dv_var 1)) (dw_and1 (dt_cmp (op_inA (C.bk _ b).hu) od_in (dv_var 4) (dv_var 8))))))) (fun b => (dv_var 14)))))))
      (dss_cons (ds_expr (DV.cel (dv_meth (i := 7) F.plainAttrs_list F.slot_list_append F.type_list_append mt_append md_append (da_cons (dv_tup (da_cons (DE.val (de_call C.tk (ok_cut_of Y) C.room (by decide) rfl Y.g_cut_of Y.F_cut_of.kp Y.b_cut_of (da_cons (dv_op op_sub od_sub (dv_op op_addD od_add (dv_var 2) (dv_var 5)) dv_int) (da_cons (dv_var 10) da_nil)))) (da_cons (dv_var 9) da_nil))) da_nil))))
      dss_nil))))
      (dss_cons (ds_ret (de_lst (da_cons (DE.val (de_slice (dv_var 7) do_none (do_some (dv_var 11)))) (da_cons (DE.val (de_slice (dv_var 7) (do_some (dv_var 11)) do_none)) da_nil))))
      dss_nil)))))))
noncomputable def m_common_of : FM := mDef 0 (sSeq (sWhile (mTest (op2 pNe (mVar 1) (pureM (PyData.int 0)))) (sSeq (sPar 0 1 (mCons (mVar 1) (mCons (op2 pMod (mVar 0) (mVar 1)) mNil)))
      sNil))
      (sSeq (sRet (mCel (opA pAbs (mCons (mVar 0) mNil))))
      sNil))
theorem ok_common_of (Y : Fx K mg) : FnOk P w K mg base (L2.CX P w) 1 Y.a_common_of Y.d_common_of ["one", "other"] (SpOf K mg 2 m_common_of) :=
  df_ok (k := 0) Y.F_common_of sc_common_of fun f cdv A outer s H E pa C =>
    (dss_cons (ds_while C.own (dt_cmp (op_neD (HU64 C.hu)) od_ne (dv_var 1) dv_int) (dss_cons (ds_par (i := 0) (j := 1) C.calm C.nd (da_cons (dv_var 1) (da_cons (dv_op op_modN od_mod (dv_var 0) (dv_var 1)) da_nil)))
      dss_nil))
      (dss_cons (ds_ret (DV.cel (dv_callB call_abs cd_abs rfl Y.n_abs boot_abs (da_cons (dv_var 0) da_nil))))
      dss_nil))
noncomputable def m_fraction : FM := mDef 1 (sSeq (sIf (mTest (op2 pEq (mVar 1) (pureM (PyData.int 0)))) (sSeq (fun _ => none)
      sNil) sNil)
      (sSeq (sFz 2 (sSet 2 (bindM (mCons (mVar 0) (mCons (mVar 1) mNil)) (callM m_common_of))))
      (sSeq (sIf (mTest (op2 pLt (mVar 1) (pureM (PyData.int 0)))) (sSeq (sSet 2 (mCel (op2 pSub (pureM (PyData.int 0)) (mVar 2))))
      sNil) sNil)
      (sSeq (sRet (mCel (bindM (mCons (op2 pFdiv (mVar 0) (mVar 2)) (mCons (op2 pFdiv (mVar 1) (mVar 2)) mNil)) fun ds => optM (tupOf ds))))
      sNil))))
theorem ok_fraction (Y : Fx K mg) : FnOk P w K mg base (L2.CX P w) 2 Y.a_fraction Y.d_fraction ["top", "bottom"] (SpOf K mg 2 m_fraction) :=
  df_ok (k := 1) Y.F_fraction sc_fraction fun f cdv A outer s H E pa C =>
    (dss_cons (ds_if (dt_cmp (op_eqD (HU64 C.hu)) od_eq (dv_var 1) dv_int) (dss_cons ds_none
      dss_nil) dss_nil)
      (dss_cons (ds_fz 2 (ds_set (i := 2) C.nd (de_call C.tk (ok_common_of Y) C.room (by decide) rfl Y.g_common_of Y.F_common_of.kp Y.b_common_of (da_cons (dv_var 0) (da_cons (dv_var 1) da_nil)))))
      (dss_cons (ds_if (dt_cmp op_lt od_lt (dv_var 1) dv_int) (dss_cons (ds_set (i := 2) C.nd (DV.cel (dv_op op_sub od_sub dv_int (dv_var 2))))
      dss_nil) dss_nil)
      (dss_cons (ds_ret (DV.cel (dv_tup (da_cons (dv_op op_fdivA od_fdiv (dv_var 0) (dv_var 2)) (da_cons (dv_op op_fdivA od_fdiv (dv_var 1) (dv_var 2)) da_nil)))))
      dss_nil))))
noncomputable def m_plus : FM := mDef 0 (sSeq (sRet (bindM (mCons (op2 pAdd (op2 pMulI (op2 pIx (mVar 0) (pureM (PyData.int 0))) (op2 pIx (mVar 1) (pureM (PyData.int 1)))) (op2 pMulI (op2 pIx (mVar 1) (pureM (PyData.int 0))) (op2 pIx (mVar 0) (pureM (PyData.int 1))))) (mCons (op2 pMulI (op2 pIx (mVar 0) (pureM (PyData.int 1))) (op2 pIx (mVar 1) (pureM (PyData.int 1)))) mNil)) (callM m_fraction)))
      sNil)
theorem ok_plus (Y : Fx K mg) : FnOk P w K mg base (L2.CX P w) 3 Y.a_plus Y.d_plus ["q", "r"] (SpOf K mg 2 m_plus) :=
  df_ok (k := 2) Y.F_plus sc_plus fun f cdv A outer s H E pa C =>
    (dss_cons (ds_ret (de_call C.tk (ok_fraction Y) C.room (by decide) rfl Y.g_fraction Y.F_fraction.kp Y.b_fraction (da_cons (dv_op op_addD od_add (dv_op op_mulW od_mulI (dv_ix ix_seq od_ix (dv_var 0) dv_int) (dv_ix ix_seq od_ix (dv_var 1) dv_int)) (dv_op op_mulW od_mulI (dv_ix ix_seq od_ix (dv_var 1) dv_int) (dv_ix ix_seq od_ix (dv_var 0) dv_int))) (da_cons (dv_op op_mulW od_mulI (dv_ix ix_seq od_ix (dv_var 0) dv_int) (dv_ix ix_seq od_ix (dv_var 1) dv_int)) da_nil))))
      dss_nil)
noncomputable def m__law_merged : FM := mDef 3 (sSeq (sSet 1 (bindM mNil fun ds => optM (lstOf ds)))
      (sSeq (sFz 1 (sFor (gTupD 2 (gsCons (gN 2) (gsCons (gN 3) gsNil))) (itL (mVal (opA (fun ds => (onList pSorted ds).map Cel.o1) (mCons (mVar 0) mNil)))) (sSeq (sIf (mAnd (mCmpB1 pNe (rVar 1) (mVal (bindM mNil fun ds => optM (lstOf ds)))) (mTest (op2 pEq (op2 pIx (mIxL (lVar 1) (op1 pNeg (pureM (PyData.int 1)))) (pureM (PyData.int 0))) (mVar 2)))) (sSeq (sPutAt 1 (bindM (mCons (mVar 2) (mCons (mVal (bindM (mCons (op2 pIx (mIxL (lVar 1) (op1 pNeg (pureM (PyData.int 1)))) (pureM (PyData.int 1))) (mCons (mVar 3) mNil)) (callM m_plus))) mNil)) fun ds => optM (tupOf ds)) (op1 pNeg (pureM (PyData.int 1))))
      sNil) (sSeq (sDrop (mCel (mMeth 1 wAppend (mCons (bindM (mCons (mVar 2) (mCons (mVar 3) mNil)) fun ds => optM (tupOf ds)) mNil))))
      sNil))
      sNil)))
      (sSeq (sRet (mCel (mVar 1)))
      sNil)))
theorem ok__law_merged (Y : Fx K mg) : FnOk P w K mg base (L2.CX P w) 4 Y.a__law_merged Y.d__law_merged ["ones"] (SpOf K mg 1 m__law_merged) :=
  df_ok (k := 3) Y.F__law_merged sc__law_merged fun f cdv A outer s H E pa C =>
    (dss_cons (ds_set (i := 1) C.nd (de_lst da_nil))
      (dss_cons (ds_fz 1 (ds_for C.own C.calm (di_list (DE.val (de_callB (cr_sortedD C.hu) (ListLD.call ld_sorted) rfl Y.n_sorted boot_sorted (da_cons (dv_var 0) da_nil)))) (dg_tup C.calm (dgs_cons (dg_name 2 C.nd) (dgs_cons (dg_name 3 C.nd) dgs_nil))) (dss_cons (ds_if (DW.dt (dw_and (dt_cmpB1 (op_neD (HU64 C.hu)) od_ne (db_var 1) (DE.val (de_lst da_nil))) (dw_and1 (dt_cmp (op_eqD (HU64 C.hu)) od_eq (dv_ix ix_seq od_ix (dv_ixL (dl_var 1) (dv_neg dv_int)) dv_int) (dv_var 2))))) (dss_cons (ds_putAt (i := 1) (dv_tup (da_cons (dv_var 2) (da_cons (DE.val (de_call C.tk (ok_plus Y) C.room (by decide) rfl Y.g_plus Y.F_plus.kp Y.b_plus (da_cons (dv_ix ix_seq od_ix (dv_ixL (dl_var 1) (dv_neg dv_int)) dv_int) (da_cons (dv_var 3) da_nil)))) da_nil))) (dv_neg dv_int))
      dss_nil) (dss_cons (ds_expr (DV.cel (dv_meth (i := 1) F.plainAttrs_list F.slot_list_append F.type_list_append mt_append md_append (da_cons (dv_tup (da_cons (dv_var 2) (da_cons (dv_var 3) da_nil))) da_nil))))
      dss_nil))
      dss_nil)))
      (dss_cons (ds_ret (DV.cel (dv_var 1)))
      dss_nil)))
noncomputable def m_hung_together : FM := mDef 6 (sSeq (sIf (mOr (mNot (mTest (mChain pLe pLt (pureM (PyData.int 0)) (mVar 1) (opA pLen (mCons (mVar 0) mNil))))) (mNot (mTest (mChain pLe pLt (pureM (PyData.int 0)) (mVar 3) (opA pLen (mCons (mVar 2) mNil)))))) (sSeq (fun _ => none)
      sNil) sNil)
      (sSeq (sFz 4 (sSet 4 (mLc (opA rng1 (mCons (opA pLen (mCons (mVar 2) mNil)) mNil)) [7] (gN 7) (mTest (op2 pNe (mVar 7) (mVar 3))) (mVar 7))))
      (sSeq (sSet 5 (bindM mNil fun ds => optM (lstOf ds)))
      (sSeq (sFor (gN 6) (itL (mVar 0)) (sSeq (sDrop (mCel (mMeth 5 wAppend (mCons (op2 pAdd (mVar 6) (mVal (mLc (itL (mVar 4)) [7] (gN 7) (pureM true) (mVal (bindM (mCons (op2 pIx (mVar 6) (mVar 1)) (mCons (op2 pIx (op2 pIx (mVar 2) (mVar 7)) (mVar 3)) mNil)) (callM m_plus)))))) mNil))))
      sNil))
      (sSeq (sFz 5 (sFor (gN 7) (itL (mVar 4)) (sSeq (sFz 8 (sSet 8 (mLc (itL (mVar 0)) [6] (gN 6) (pureM true) (mVal (bindM (mCons (op2 pIx (mVar 6) (mVar 1)) (mCons (op2 pIx (op2 pIx (mVar 2) (mVar 7)) (mVar 3)) mNil)) (callM m_plus))))))
      (sSeq (sDrop (mCel (mMeth 5 wAppend (mCons (op2 pAdd (mVar 8) (mVal (mLc (itL (mVar 4)) [9] (gN 9) (pureM true) (op2 pIx (op2 pIx (mVar 2) (mVar 7)) (mVar 9))))) mNil))))
      sNil))))
      (sSeq (sRet (mCel (mVar 5)))
      sNil))))))
theorem ok_hung_together (Y : Fx K mg) : FnOk P w K mg base (L2.CX P w) 4 Y.a_hung_together Y.d_hung_together ["table", "point", "other", "other_point"] (SpOf K mg 4 m_hung_together) :=
  df_ok (k := 3) Y.F_hung_together sc_hung_together fun f cdv A outer s H E pa C =>
    (dss_cons (ds_if (DW.dt (dw_or (dt_not (dt_chain op_le od_le op_lt od_lt dv_int (dv_var 1) (dv_callB call_lenA cd_len rfl Y.n_len boot_len (da_cons (dv_var 0) da_nil)))) (dw_or1 (dt_not (dt_chain op_le od_le op_lt od_lt dv_int (dv_var 3) (dv_callB call_lenA cd_len rfl Y.n_len boot_len (da_cons (dv_var 2) da_nil))))))) (dss_cons ds_none
      dss_nil) dss_nil)
      (dss_cons (ds_fz 4 (ds_setLc (i := 4) (own := [("place", 7)]) C.calm C.nd (by kernel_rfl) (di_range1 rfl Y.n_range (da_cons (dv_callB call_lenA cd_len rfl Y.n_len boot_len (da_cons (dv_var 2) da_nil)) da_nil)) (fun b => (dg_name 7 (C.bk _ b).nd)) (fun b => (dts_one (dt_cmp (op_neD (HU64 (C.bk _ b).hu)) od_ne (dv_var 7) (dv_var 3)))) (fun b => (dv_var 7))))
      (dss_cons (ds_set (i := 5) C.nd (de_lst da_nil))
      (dss_cons (ds_for C.own C.calm (di_list (dv_var 0)) (dg_name 6 C.nd) (dss_cons (ds_expr (DV.cel (dv_meth (i := 5) F.plainAttrs_list F.slot_list_append F.type_list_append mt_append md_append (da_cons (dv_op op_addD od_add (dv_var 6) (DE.val (de_lc (own := [("place", 7)]) C.calm C.nd (by kernel_rfl) (di_list (dv_var 4)) (fun b => (dg_name 7 (C.bk _ b).nd)) (fun b => dts_nil) (fun b => (DE.val (de_call (C.bk _ b).tk (ok_plus Y) (C.bk _ b).room (by decide) rfl Y.g_plus Y.F_plus.kp Y.b_plus (da_cons (dv_ix ix_seq od_ix (dv_var 6) (dv_var 1)) (da_cons (dv_ix ix_seq od_ix (dv_ix ix_seq od_ix (dv_var 2) (dv_var 7)) (dv_var 3)) da_nil)))))))) da_nil))))
      dss_nil))
      (dss_cons (ds_fz 5 (ds_for C.own C.calm (di_list (dv_var 4)) (dg_name 7 C.nd) (dss_cons (ds_fz 8 (ds_setLc (i := 8) (own := [("row", 6)]) C.calm C.nd (by kernel_rfl) (di_list (dv_var 0)) (fun b => (dg_name 6 (C.bk _ b).nd)) (fun b => dts_nil) (fun b => (DE.val (de_call (C.bk _ b).tk (ok_plus Y) (C.bk _ b).room (by decide) rfl Y.g_plus Y.F_plus.kp Y.b_plus (da_cons (dv_ix ix_seq od_ix (dv_var 6) (dv_var 1)) (da_cons (dv_ix ix_seq od_ix (dv_ix ix_seq od_ix (dv_var 2) (dv_var 7)) (dv_var 3)) da_nil)))))))
      (dss_cons (ds_expr (DV.cel (dv_meth (i := 5) F.plainAttrs_list F.slot_list_append F.type_list_append mt_append md_append (da_cons (dv_op op_addD od_add (dv_var 8) (DE.val (de_lc (own := [("behind", 9)]) C.calm C.nd (by kernel_rfl) (di_list (dv_var 4)) (fun b => (dg_name 9 (C.bk _ b).nd)) (fun b => dts_nil) (fun b => (dv_ix ix_seq od_ix (dv_ix ix_seq od_ix (dv_var 2) (dv_var 7)) (dv_var 9)))))) da_nil))))
      dss_nil))))
      (dss_cons (ds_ret (DV.cel (dv_var 5)))
      dss_nil))))))
noncomputable def m_table_of : FM := mDef 5 (sSeq (sSet 2 (mLc2 (opA rng1 (mCons (mVar 0) mNil)) [5] (gN 5) (pureM true) (mLc (opA rng1 (mCons (mVar 0) mNil)) [6] (gN 6) (pureM true) (pureM k_NOUGHT))))
      (sSeq (sFz 2 (sFor (gTupD 2 (gsCons (gN 3) (gsCons (gN 4) gsNil))) (itL (mVar 1)) (sSeq (sFor (gN 5) (opA rng1 (mCons (mVar 0) mNil)) (sSeq (sFor (gN 6) (opA rng1 (mCons (mVar 0) mNil)) (sSeq (sIf (mTest (op2 pNe (op2 pIn (mVar 5) (mVar 3)) (op2 pIn (mVar 6) (mVar 3)))) (sSeq (sPutRow 2 5 6 (mVal (bindM (mCons (mIxL (lRow 2 5) (mVar 6)) (mCons (mVar 4) mNil)) (callM m_plus))))
      sNil) sNil)
      sNil))
      sNil))
      sNil)))
      (sSeq (sRet (mCel (mVar 2)))
      sNil)))
theorem ok_table_of (Y : Fx K mg) : FnOk P w K mg base (L2.CX P w) 4 Y.a_table_of Y.d_table_of ["n", "cuts"] (SpOf K mg 2 m_table_of) :=
  df_ok (k := 3) Y.F_table_of sc_table_of fun f cdv A outer s H E pa C =>
    (dss_cons (ds_setLc2 (i := 2) (own := [("one", 5)]) C.calm C.nd (by kernel_rfl) (di_range1 rfl Y.n_range (da_cons (dv_var 0) da_nil)) (fun b => (dg_name 5 (C.bk _ b).nd)) (fun b => dts_nil) (fun b => (de_lc (own := [("other", 6)]) (C.bk _ b).calm (C.bk _ b).nd (by kernel_rfl) (di_range1 rfl Y.n_range (da_cons (dv_var 0) da_nil)) (fun b => (dg_name 6 ((C.bk _ b).bk _ b).nd)) (fun b => dts_nil) (fun b => (dv_glob rfl Y.c_NOUGHT.g Y.c_NOUGHT.r Y.c_NOUGHT.d)))))
      (dss_cons (ds_fz 2 (ds_for C.own C.calm (di_list (dv_var 1)) (dg_tup C.calm (dgs_cons (dg_name 3 C.nd) (dgs_cons (dg_name 4 C.nd) dgs_nil))) (dss_cons (ds_for C.own C.calm (di_range1 rfl Y.n_range (da_cons (dv_var 0) da_nil)) (dg_name 5 C.nd) (dss_cons (ds_for C.own C.calm (di_range1 rfl Y.n_range (da_cons (dv_var 0) da_nil)) (dg_name 6 C.nd) (dss_cons (ds_if (dt_cmp (op_neD (HU64 C.hu)) od_ne (dv_cmp (op_inA C.hu) od_in (dv_var 5) (dv_var 3)) (dv_cmp (op_inA C.hu) od_in (dv_var 6) (dv_var 3))) (dss_cons (ds_putRow 2 5 6 (DE.val (de_call C.tk (ok_plus Y) C.room (by decide) rfl Y.g_plus Y.F_plus.kp Y.b_plus (da_cons (dv_ixL (dl_row 2 5) (dv_var 6)) (da_cons (dv_var 4) da_nil)))))
      dss_nil) dss_nil)
      dss_nil))
      dss_nil))
      dss_nil)))
      (dss_cons (ds_ret (DV.cel (dv_var 2)))
      dss_nil)))
noncomputable def m_do_cross : FM := mDef 2 (sSeq (sFz 2 (sSet 2 (mLc (itL (mVar 0)) [3] (gN 3) (mTest (op2 pIn (mVar 3) (mVar 1))) (mVar 3))))
      (sSeq (sRet (mCel (mAndV (op2 pNe (mVar 2) (mVal (bindM mNil fun ds => optM (lstOf ds)))) (mAndV (op2 pLt (opA pLen (mCons (mVar 2) mNil)) (opA pLen (mCons (mVar 0) mNil))) (op2 pLt (opA pLen (mCons (mVar 2) mNil)) (opA pLen (mCons (mVar 1) mNil)))))))
      sNil))
theorem ok_do_cross (Y : Fx K mg) : FnOk P w K mg base (L2.CX P w) 1 Y.a_do_cross Y.d_do_cross ["one", "other"] (SpOf K mg 2 m_do_cross) :=
  df_ok (k := 0) Y.F_do_cross sc_do_cross fun f cdv A outer s H E pa C =>
    (dss_cons (ds_fz 2 (ds_setLc (i := 2) (own := [("point", 3)]) C.calm C.nd (by kernel_rfl) (di_list (dv_var 0)) (fun b => (dg_name 3 (C.bk _ b).nd)) (fun b => (dts_one (dt_cmp (op_inA (C.bk _ b).hu) od_in (dv_var 3) (dv_var 1)))) (fun b => (dv_var 3))))
      (dss_cons (ds_ret (DV.cel (dv_and (dv_cmp (op_neD (HU64 C.hu)) od_ne (dv_var 2) (DE.val (de_lst da_nil))) (dv_and (dv_cmp op_lt od_lt (dv_callB call_lenA cd_len rfl Y.n_len boot_len (da_cons (dv_var 2) da_nil)) (dv_callB call_lenA cd_len rfl Y.n_len boot_len (da_cons (dv_var 0) da_nil))) (dv_one (dv_cmp op_lt od_lt (dv_callB call_lenA cd_len rfl Y.n_len boot_len (da_cons (dv_var 2) da_nil)) (dv_callB call_lenA cd_len rfl Y.n_len boot_len (da_cons (dv_var 1) da_nil))))))))
      dss_nil))
noncomputable def m_first_crossing : FM := mDef 2 (sSeq (sFor (gN 2) (opA rng1 (mCons (opA pLen (mCons (mVar 1) mNil)) mNil)) (sSeq (sFor (gN 3) (opA rng2 (mCons (op2 pAdd (mVar 2) (pureM (PyData.int 1))) (mCons (opA pLen (mCons (mVar 1) mNil)) mNil))) (sSeq (sIf (mTest (mVal (bindM (mCons (op2 pIx (op2 pIx (mVar 1) (mVar 2)) (pureM (PyData.int 0))) (mCons (op2 pIx (op2 pIx (mVar 1) (mVar 3)) (pureM (PyData.int 0))) mNil)) (callM m_do_cross)))) (sSeq (sRet (mCel (bindM (mCons (mVar 2) (mCons (mVar 3) mNil)) fun ds => optM (tupOf ds))))
      sNil) sNil)
      sNil))
      sNil))
      (sSeq (sRet (mCel (pureM PyData.none)))
      sNil))
theorem ok_first_crossing (Y : Fx K mg) : FnOk P w K mg base (L2.CX P w) 2 Y.a_first_crossing Y.d_first_crossing ["n", "cuts"] (SpOf K mg 2 m_first_crossing) :=
  df_ok (k := 1) Y.F_first_crossing sc_first_crossing fun f cdv A outer s H E pa C =>
    (dss_cons (ds_for C.own C.calm (di_range1 rfl Y.n_range (da_cons (dv_callB call_lenA cd_len rfl Y.n_len boot_len (da_cons (dv_var 1) da_nil)) da_nil)) (dg_name 2 C.nd) (dss_cons (ds_for C.own C.calm (di_range2 rfl Y.n_range (da_cons (dv_op op_addD od_add (dv_var 2) dv_int) (da_cons (dv_callB call_lenA cd_len rfl Y.n_len boot_len (da_cons (dv_var 1) da_nil)) da_nil))) (dg_name 3 C.nd) (dss_cons (ds_if (dt_val (DE.val (de_call C.tk (ok_do_cross Y) C.room (by decide) rfl Y.g_do_cross Y.F_do_cross.kp Y.b_do_cross (da_cons (dv_ix ix_seq od_ix (dv_ix ix_seq od_ix (dv_var 1) (dv_var 2)) dv_int) (da_cons (dv_ix ix_seq od_ix (dv_ix ix_seq od_ix (dv_var 1) (dv_var 3)) dv_int) da_nil))))) (dss_cons (ds_ret (DV.cel (dv_tup (da_cons (dv_var 2) (da_cons (dv_var 3) da_nil)))))
      dss_nil) dss_nil)
      dss_nil))
      dss_nil))
      (dss_cons (ds_ret (DV.cel dv_non))
      dss_nil))
noncomputable def m_law : FM := mDef 17 (sSeq (sFor (gN 1) (opA rng1 (mCons (opA pMax2 (mCons (pureM (PyData.int 1)) (mCons (opA pMin2 (mCons (pureM (PyData.int 5)) (mCons (opA pLen (mCons (mVar 0) mNil)) mNil))) mNil))) mNil)) (sSeq (sSet 2 (bindM (mCons (mVar 0) (mCons (mVar 1) mNil)) (callM m__law_pool)))
      (sSeq (sSet 3 (mCel (op2 pAdd (pureM (PyData.int 1)) (mVal (mCallO m__law_take 2 (mCons (pureM (PyData.int 6)) mNil))))))
      (sSeq (sSet 4 (mCel (op2 pAdd (pureM (PyData.int 1)) (mVal (mCallO m__law_take 2 (mCons (pureM (PyData.int 5)) mNil))))))
      (sSeq (sFz 5 (sSet 5 (mCallO m__law_cuts 2 (mCons (mVar 3) mNil))))
      (sSeq (sFz 6 (sSet 6 (mCallO m__law_cuts 2 (mCons (mVar 4) mNil))))
      (sSeq (sFz 7 (sSet 7 (mCallO m__law_take 2 (mCons (mVar 3) mNil))))
      (sSeq (sFz 8 (sFz 2 (sSet 8 (mCallO m__law_take 2 (mCons (mVar 4) mNil)))))
      (sSeq (sFz 9 (sSet 9 (bindM (mCons (mVar 5) (mCons (mVar 7) (mCons (mVar 3) (mCons (mVar 6) (mCons (mVar 8) (mCons (mVar 4) mNil)))))) (callM m__law_sides))))
      (sSeq (sSet 10 (mCel (op2 pSub (op2 pAdd (mVar 3) (mVar 4)) (pureM (PyData.int 1)))))
      (sSeq (sFz 11 (sSet 11 (bindM (mCons (op2 pAdd (op2 pIx (mVar 9) (pureM (PyData.int 0))) (op2 pIx (mVar 9) (pureM (PyData.int 1)))) mNil) (callM m__law_merged))))
      (sSeq (sIf (mTest (op2 pNe (mVal (bindM (mCons (mVal (bindM (mCons (mVar 3) (mCons (mVar 5) mNil)) (callM m_table_of))) (mCons (mVar 7) (mCons (mVal (bindM (mCons (mVar 4) (mCons (mVar 6) mNil)) (callM m_table_of))) (mCons (mVar 8) mNil)))) (callM m_hung_together))) (mVal (bindM (mCons (mVar 10) (mCons (mVar 11) mNil)) (callM m_table_of))))) (sSeq (sRet (mCel (pureM (PyData.bool false))))
      sNil) sNil)
      (sSeq (sFor (gTupD 2 (gsCons (gN 12) (gsCons (gN 13) gsNil))) (itL (op2 pIx (mVar 9) (pureM (PyData.int 0)))) (sSeq (sFor (gTupD 2 (gsCons (gN 14) (gsCons (gN 15) gsNil))) (itL (op2 pIx (mVar 9) (pureM (PyData.int 1)))) (sSeq (sFz 16 (sSet 16 (opA (fun ds => (onList pSorted ds).map Cel.o1) (mCons (mVal (bindM (mCons (bindM (mCons (mVar 12) (mCons (mVar 13) mNil)) fun ds => optM (tupOf ds)) (mCons (bindM (mCons (mVar 14) (mCons (mVar 15) mNil)) fun ds => optM (tupOf ds)) mNil)) fun ds => optM (lstOf ds))) mNil))))
      (sSeq (sIf (mAnd (mTest (op2 pNe (mVar 12) (mVar 14))) (mTest (op2 pNotN (mVal (bindM (mCons (mVar 10) (mCons (mVar 16) mNil)) (callM m_first_crossing))) (pureM PyData.none)))) (sSeq (sRet (mCel (pureM (PyData.bool false))))
      sNil) sNil)
      sNil)))
      sNil))
      (sSeq (sSet 17 (mCel (mAndV (op2 pIsN (mVal (bindM (mCons (mVar 3) (mCons (mVar 5) mNil)) (callM m_first_crossing))) (pureM PyData.none)) (op2 pIsN (mVal (bindM (mCons (mVar 4) (mCons (mVar 6) mNil)) (callM m_first_crossing))) (pureM PyData.none)))))
      (sSeq (sIf (mTest (op2 pNe (op2 pIsN (mVal (bindM (mCons (mVar 10) (mCons (mVar 11) mNil)) (callM m_first_crossing))) (pureM PyData.none)) (mVar 17))) (sSeq (sRet (mCel (pureM (PyData.bool false))))
      sNil) sNil)
      sNil)))))))))))))))
      (sSeq (sRet (mCel (pureM (PyData.bool true))))
      sNil))
theorem ok_law (Y : Fx K mg) : FnOk P w K mg base (L2.CX P w) 5 Y.a_law Y.d_law ["script"] (SpOf K mg 1 m_law) :=
  df_ok (k := 4) Y.F_law sc_law fun f cdv A outer s H E pa C =>
    (dss_cons (ds_for C.own C.calm (di_range1 rfl Y.n_range (da_cons (dv_callB (call_max2 C.calm) cd_max2 rfl Y.n_max boot_max (da_cons dv_int (da_cons (dv_callB (call_min2 C.calm) cd_min2 rfl Y.n_min boot_min (da_cons dv_int (da_cons (dv_callB call_lenA cd_len rfl Y.n_len boot_len (da_cons (dv_var 0) da_nil)) da_nil))) da_nil))) da_nil)) (dg_name 1 C.nd) (dss_cons (ds_set (i := 2) C.nd (de_call C.tk (ok__law_pool Y) C.room (by decide) rfl Y.g__law_pool Y.F__law_pool.kp Y.b__law_pool (da_cons (dv_var 0) (da_cons (dv_var 1) da_nil))))
      (dss_cons (ds_set (i := 3) C.nd (DV.cel (dv_op op_addD od_add dv_int (DE.val (de_callO (i := 2) C.tk (ok__law_take Y) C.room (by decide) rfl Y.g__law_take Y.F__law_take.kp Y.b__law_take (da_cons dv_int da_nil))))))
      (dss_cons (ds_set (i := 4) C.nd (DV.cel (dv_op op_addD od_add dv_int (DE.val (de_callO (i := 2) C.tk (ok__law_take Y) C.room (by decide) rfl Y.g__law_take Y.F__law_take.kp Y.b__law_take (da_cons dv_int da_nil))))))
      (dss_cons (ds_fz 5 (ds_set (i := 5) C.nd (de_callO (i := 2) C.tk (ok__law_cuts Y) C.room (by decide) rfl Y.g__law_cuts Y.F__law_cuts.kp Y.b__law_cuts (da_cons (dv_var 3) da_nil))))
      (dss_cons (ds_fz 6 (ds_set (i := 6) C.nd (de_callO (i := 2) C.tk (ok__law_cuts Y) C.room (by decide) rfl Y.g__law_cuts Y.F__law_cuts.kp Y.b__law_cuts (da_cons (dv_var 4) da_nil))))
      (dss_cons (ds_fz 7 (ds_set (i := 7) C.nd (de_callO (i := 2) C.tk (ok__law_take Y) C.room (by decide) rfl Y.g__law_take Y.F__law_take.kp Y.b__law_take (da_cons (dv_var 3) da_nil))))
      (dss_cons (ds_fz 8 (ds_fz 2 (ds_set (i := 8) C.nd (de_callO (i := 2) C.tk (ok__law_take Y) C.room (by decide) rfl Y.g__law_take Y.F__law_take.kp Y.b__law_take (da_cons (dv_var 4) da_nil)))))
      (dss_cons (ds_fz 9 (ds_set (i := 9) C.nd (de_call C.tk (ok__law_sides Y) C.room (by decide) rfl Y.g__law_sides Y.F__law_sides.kp Y.b__law_sides (da_cons (dv_var 5) (da_cons (dv_var 7) (da_cons (dv_var 3) (da_cons (dv_var 6) (da_cons (dv_var 8) (da_cons (dv_var 4) da_nil)))))))))
      (dss_cons (ds_set (i := 10) C.nd (DV.cel (dv_op op_sub od_sub (dv_op op_addD od_add (dv_var 3) (dv_var 4)) dv_int)))
      (dss_cons (ds_fz 11 (ds_set (i := 11) C.nd (de_call C.tk (ok__law_merged Y) C.room (by decide) rfl Y.g__law_merged Y.F__law_merged.kp Y.b__law_merged (da_cons (dv_op op_addD od_add (dv_ix ix_seq od_ix (dv_var 9) dv_int) (dv_ix ix_seq od_ix (dv_var 9) dv_int)) da_nil))))
      (dss_cons (ds_if (dt_cmp (op_neD (HU64 C.hu)) od_ne (DE.val (de_call C.tk (ok_hung_together Y) C.room (by decide) rfl Y.g_hung_together Y.F_hung_together.kp Y.b_hung_together (da_cons (DE.val (de_call C.tk (ok_table_of Y) C.room (by decide) rfl Y.g_table_of Y.F_table_of.kp Y.b_table_of (da_cons (dv_var 3) (da_cons (dv_var 5) da_nil)))) (da_cons (dv_var 7) (da_cons (DE.val (de_call C.tk (ok_table_of Y) C.room (by decide) rfl Y.g_table_of Y.F_table_of.kp Y.b_table_of (da_cons (dv_var 4) (da_cons (dv_var 6) da_nil)))) (da_cons (dv_var 8) da_nil)))))) (DE.val (de_call C.tk (ok_table_of Y) C.room (by decide) rfl Y.g_table_of Y.F_table_of.kp Y.b_table_of (da_cons (dv_var 10) (da_cons (dv_var 11) da_nil))))) (dss_cons (ds_ret (DV.cel dv_bl))
      dss_nil) dss_nil)
      (dss_cons (ds_for C.own C.calm (di_list (dv_ix ix_seq od_ix (dv_var 9) dv_int)) (dg_tup C.calm (dgs_cons (dg_name 12 C.nd) (dgs_cons (dg_name 13 C.nd) dgs_nil))) (dss_cons (ds_for C.own C.calm (di_list (dv_ix ix_seq od_ix (dv_var 9) dv_int)) (dg_tup C.calm (dgs_cons (dg_name 14 C.nd) (dgs_cons (dg_name 15 C.nd) dgs_nil))) (dss_cons (ds_fz 16 (ds_set (i := 16) C.nd (de_callB (cr_sortedD C.hu) (ListLD.call ld_sorted) rfl Y.n_sorted boot_sorted (da_cons (DE.val (de_lst (da_cons (dv_tup (da_cons (dv_var 12) (da_cons (dv_var 13) da_nil))) (da_cons (dv_tup (da_cons (dv_var 14) (da_cons (dv_var 15) da_nil))) da_nil)))) da_nil))))
      (dss_cons (ds_if (DW.dt (dw_and (dt_cmp (op_neD (HU64 C.hu)) od_ne (dv_var 12) (dv_var 14)) (dw_and1 (dt_cmp op_notN od_notN (DE.val (de_call C.tk (ok_first_crossing Y) C.room (by decide) rfl Y.g_first_crossing Y.F_first_crossing.kp Y.b_first_crossing (da_cons (dv_var 10) (da_cons (dv_var 16) da_nil)))) dv_non)))) (dss_cons (ds_ret (DV.cel dv_bl))
      dss_nil) dss_nil)
      dss_nil)))
      dss_nil))
      (dss_cons (ds_set (i := 17) C.nd (DV.cel (dv_and (dv_cmp op_isN od_isN (DE.val (de_call C.tk (ok_first_crossing Y) C.room (by decide) rfl Y.g_first_crossing Y.F_first_crossing.kp Y.b_first_crossing (da_cons (dv_var 3) (da_cons (dv_var 5) da_nil)))) dv_non) (dv_one (dv_cmp op_isN od_isN (DE.val (de_call C.tk (ok_first_crossing Y) C.room (by decide) rfl Y.g_first_crossing Y.F_first_crossing.kp Y.b_first_crossing (da_cons (dv_var 4) (da_cons (dv_var 6) da_nil)))) dv_non)))))
      (dss_cons (ds_if (dt_cmp (op_neD (HU64 C.hu)) od_ne (dv_cmp op_isN od_isN (DE.val (de_call C.tk (ok_first_crossing Y) C.room (by decide) rfl Y.g_first_crossing Y.F_first_crossing.kp Y.b_first_crossing (da_cons (dv_var 10) (da_cons (dv_var 11) da_nil)))) dv_non) (dv_var 17)) (dss_cons (ds_ret (DV.cel dv_bl))
      dss_nil) dss_nil)
      dss_nil)))))))))))))))
      (dss_cons (ds_ret (DV.cel dv_bl))
      dss_nil))
end
end K18


set_option Elab.async false
set_option linter.all false
set_option autoImplicit false
set_option maxRecDepth 100000
set_option maxHeartbeats 4000000
namespace K18
open PySem PySem.Spec PyProof.Rows L2 MD
theorem common_ok (a b : Int) (hb : 0 ≤ b) : m_common_of [.sh (.int a), .sh (.int b)] = some (.ok (.sh (.int (Int.gcd a b))), [.sh (.int a), .sh (.int b)]) := by
  refine FM_rt ?_
  simp only [WS_seq]
  refine gcd_loop (by decide) b.toNat _ a b rfl hb rfl rfl fun c hc _ _ => ?_
  simp [← hc]
  split <;> omega
theorem fraction_ok (t b : Int) (hb : 0 < b) (hs : Sz 8000 b) : m_fraction [.sh (.int t), .sh (.int b)] = some (.ok (.sh (encQ (Rat.divInt t b))), [.sh (.int t), .sh (.int b)]) := by
  have g0 : (Int.gcd t b : Int) ≠ 0 := by have : Int.gcd t b ≠ 0 := fun h => by rw [Int.gcd_eq_zero_iff] at h; omega
                                          omega
  obtain ⟨h1, h2⟩ := divInt_parts (t := t) hb
  refine FM_rt ?_
  simp [common_ok t b (by omega), and_assoc, encQ, h1, h2, show ¬ b = 0 by omega, show ¬ b < 0 by omega, (Sz.gcd (t := t) hb hs).divOk g0, lim_eq]
theorem plus_ok (q r : Rat) (h1 : Sz 3000 q.num) (h2 : Sz 3000 q.den) (h3 : Sz 3000 r.num) (h4 : Sz 3000 r.den) : m_plus [.sh (encQ q), .sh (encQ r)] = some (.ok (.sh (encQ (q + r))), [.sh (encQ q), .sh (encQ r)]) := by
  have hp : (0 : Int) < q.den * r.den := Int.mul_pos (by have := q.den_pos; omega) (by have := r.den_pos; omega)
  have e : q + r = Rat.divInt (q.num * r.den + r.num * q.den) (q.den * r.den) := by
    conv => lhs; rw [← Rat.num_divInt_den q, ← Rat.num_divInt_den r]
    exact Rat.divInt_add_divInt _ _ (by have := q.den_pos; omega) (by have := r.den_pos; omega)
  rw [e]
  refine FM_rt ?_
  simp [encQ, and_assoc, h1.mulOk h4, h3.mulOk h2, h2.mulOk h4]
  have := fraction_ok (q.num * r.den + r.num * q.den) _ hp ((h2.mul h4).mono (by decide))
  simp [this, encQ]
/-! the pool -/
def PL (n : Int) (ps : List D) : Prop := ∃ a b c : Int, ps = [.int a, .int b, .int c] ∧ 0 ≤ c ∧ c ≤ n
theorem PL.mono {n m : Int} {ps : List D} (h : PL n ps) (e : n ≤ m) : PL m ps := by
  obtain ⟨a, b, c, h1, h2, h3⟩ := h
  exact ⟨a, b, c, h1, h2, by omega⟩
theorem pool_ok (ns : List Int) (k : Int) (h0 : 0 ≤ k) (h1 : k ≤ 100) : ∃ ps, PL 10000 ps ∧ m__law_pool [.sh (.list (ns.map PyData.int)), .sh (.int k)] = some (.ok (.o1 ps), [.sh (.list (ns.map PyData.int)), .sh (.int k)]) := by
  have h23 : MulOk 23 k := (Sz.lit (k := 5)).mulOk (Sz.below (m := 128) h0 (by omega) (Sz.lit (k := 8)))
  have key : ∃ c0 cs', m__law_pool [.sh (.list (ns.map PyData.int)), .sh (.int k)] = some (.ok c0, cs') ∧ ∃ ps, PL 10000 ps ∧ c0 = .o1 ps ∧ cs' = [.sh (.list (ns.map PyData.int)), .sh (.int k)] := by
    refine FM_ex ?_
    simp (config := {maxSteps := 4000000}) [and_assoc, lim_eq, h23, atI_map]
    by_cases hk : k < ns.length
    · have e : atI ns k = some ns[k.toNat] := atI_nat h0 (List.getElem?_eq_getElem (by omega))
      simp [hk, e]
      by_cases hc : ns[k.toNat] < 1000000000000000000
      · exact .inr (.inl ⟨hc, _, 0, 23 * k, rfl, by omega, by omega⟩)
      · exact .inr (.inr ⟨by omega, _, 1, 0, rfl, by omega, by omega⟩)
    · simp [hk]
      exact ⟨by omega, _, 0, 23 * k, rfl, by omega, by omega⟩
  obtain ⟨c0, cs', e, ps, h, rfl, rfl⟩ := key
  exact ⟨ps, h, e⟩
theorem take_ok {n : Int} {ps : List D} (hp : PL n ps) (hn : n ≤ 2 ^ 60) (m : Int) (hm : 0 < m) (hs : m ≤ 2 ^ 60) : ∃ (r : Int) (ps' : List D), 0 ≤ r ∧ r < m ∧ PL (n + 1) ps' ∧ m__law_take [.x1 ps, .sh (.int m)] = some (.ok (.sh (.int r)), [.x1 ps', .sh (.int m)]) := by
  obtain ⟨a, b, c, rfl, hc0, hc1⟩ := hp
  have key : ∃ c0 cs', m__law_take [.x1 [.int a, .int b, .int c], .sh (.int m)] = some (.ok c0, cs') ∧ ∃ (r : Int) (ps' : List D), 0 ≤ r ∧ r < m ∧ PL (n + 1) ps' ∧ c0 = .sh (.int r) ∧ cs' = [.x1 ps', .sh (.int m)] := by
    refine FM_ex ?_
    have sc : Sz 61 (c + 1) := Sz.below (m := 2 ^ 60 + 2) (by omega) (by omega) Sz.lit
    have sm : Sz 61 m := Sz.below (m := 2 ^ 60 + 2) (by omega) (by omega) Sz.lit
    have s1 : Sz 40 (a.fmod 9999999641 + 953) := (((Sz.lit (k := 34)).fmod (by omega)).add (Sz.lit (k := 10))).mono (by decide)
    have s2 : Sz 70 (17 * (c + 1) + 43) := (((Sz.lit (k := 5)).mul sc).add (Sz.lit (k := 6))).mono (by decide)
    have s3 : Sz 75 (3413 * (c + 1)) := ((Sz.lit (k := 12)).mul sc).mono (by decide)
    have s4 := ((s1.mul s2).add (s3.mul sc)).mono (l := 200) (by decide)
    have s5 := (Sz.lit (k := 40) (a := 99999999683)).fmod (a := ((a.fmod 9999999641 + 953) * (17 * (c + 1) + 43) + 3413 * (c + 1) * (c + 1)) * ((a.fmod 9999999641 + 953) * (17 * (c + 1) + 43) + 3413 * (c + 1) * (c + 1))) (by omega)
    have s6 := (s5.add (Sz.lit (k := 5) (a := 29))).mono (l := 60) (by decide)
    simp (config := {maxSteps := 4000000}) [and_assoc, ixN, (Sz.lit (k := 5) (a := 17)).mulOk sc, s1.mulOk s2, (Sz.lit (k := 12) (a := 3413)).mulOk sc, s3.mulOk sc, s4.mulOk s4, s5.mulOk s6, (Sz.lit (k := 12) (a := 73)).divOk (by decide), sm.divOk (show m ≠ 0 by omega), show ¬ m = 0 by omega, fmod_pos hm]
    by_cases hb : b = 1
    · simp [hb]
      exact ⟨_, (fmod_pos hm).1, (fmod_pos hm).2, ⟨_, _, _, rfl, hc0, by omega⟩, rfl⟩
    · simp [hb]
      exact ⟨_, (fmod_pos hm).1, (fmod_pos hm).2, ⟨_, _, _, rfl, by omega, by omega⟩, rfl⟩
  obtain ⟨c0, cs', e, r, ps', h1, h2, h3, rfl, rfl⟩ := key
  exact ⟨r, ps', h1, h2, h3, e⟩
theorem lowest_ok (t b : Int) (ht : 0 ≤ t) (hb : 0 < b) (hs : Sz 8000 b) : m__law_lowest [.sh (.int t), .sh (.int b)] = some (.ok (.sh (encQ (Rat.divInt t b))), [.sh (.int t), .sh (.int b)]) := by
  have g0 : (Int.gcd t b : Int) ≠ 0 := by have : Int.gcd t b ≠ 0 := fun h => by rw [Int.gcd_eq_zero_iff] at h; omega
                                          omega
  obtain ⟨h1, h2⟩ := divInt_parts (t := t) hb
  refine FM_rt ?_
  simp (config := {maxSteps := 4000000}) [and_assoc, show ¬ t < 0 by omega, show ¬ b < 0 by omega]
  refine gcd_loop (by decide) b.toNat _ t b rfl (by omega) rfl rfl fun c hc hc0 _ => ?_
  have ec : c = (Int.gcd t b : Int) := by have := hc0 ht; omega
  subst ec
  simp (config := {maxSteps := 4000000}) [and_assoc, encQ, h1, h2, show ¬ b < 0 by omega, (Sz.gcd (t := t) hb hs).divOk g0, lim_eq]
end K18


set_option Elab.async false
set_option linter.all false
set_option autoImplicit false
set_option maxRecDepth 100000
set_option maxHeartbeats 4000000
namespace K18
open PySem PySem.Spec PyProof.Rows L2 MD
noncomputable def tkR (ps : List D) (m : Int) : Int := match m__law_take [.x1 ps, .sh (.int m)] with
  | some (.ok (.sh (.int r)), _) => r
  | _ => 0
noncomputable def tkP (ps : List D) (m : Int) : List D := match m__law_take [.x1 ps, .sh (.int m)] with
  | some (_, .x1 es :: _) => es
  | _ => []
theorem take_eq {n : Int} {ps : List D} (hp : PL n ps) (m : Int) (hn : n ≤ 2 ^ 60 := by omega) (hm : 0 < m := by omega) (hs : m ≤ 2 ^ 60 := by omega) : m__law_take [.x1 ps, .sh (.int m)] = some (.ok (.sh (.int (tkR ps m))), [.x1 (tkP ps m), .sh (.int m)]) ∧ 0 ≤ tkR ps m ∧ tkR ps m < m ∧ PL (n + 1) (tkP ps m) := by
  obtain ⟨r, ps', h1, h2, h3, e⟩ := take_ok hp hn m hm hs
  have e1 : tkR ps m = r := by unfold tkR; rw [e]
  have e2 : tkP ps m = ps' := by unfold tkP; rw [e]
  rw [e1, e2]
  exact ⟨e, h1, h2, h3⟩
theorem pow9 {i : Nat} (h : i ≤ 5) : (1000000000 : Int) ^ i ≤ 1000000000 ^ 5 := by
  have : i = 0 ∨ i = 1 ∨ i = 2 ∨ i = 3 ∨ i = 4 ∨ i = 5 := by omega
  rcases this with h | h | h | h | h | h <;> rw [h] <;> decide
theorem figures_ok {n : Int} {ps : List D} (hp : PL n ps) (hn : n ≤ 2 ^ 50) : ∃ (r : Int) (ps' : List D), 0 ≤ r ∧ r < 10 ^ 40 ∧ PL (n + 6) ps' ∧ m__law_figures [.x1 ps] = some (.ok (.sh (.int r)), [.x1 ps']) := by
  have key : ∃ c0 cs', m__law_figures [.x1 ps] = some (.ok c0, cs') ∧ ∃ (r : Int) (ps' : List D), 0 ≤ r ∧ r < 10 ^ 40 ∧ PL (n + 6) ps' ∧ c0 = .sh (.int r) ∧ cs' = [.x1 ps'] := by
    refine FM_ex ?_
    obtain ⟨e1, a1, a2, a3⟩ := take_eq hp 4
    have hk : ∃ k : Nat, k ≤ 5 ∧ atI [PyData.int 1, PyData.int 2, PyData.int 3, PyData.int 5] (tkR ps 4) = some (.int k) := by
      have : tkR ps 4 = 0 ∨ tkR ps 4 = 1 ∨ tkR ps 4 = 2 ∨ tkR ps 4 = 3 := by omega
      rcases this with h | h | h | h <;> rw [h]
      · exact ⟨1, by decide, rfl⟩
      · exact ⟨2, by decide, rfl⟩
      · exact ⟨3, by decide, rfl⟩
      · exact ⟨5, by decide, rfl⟩
    obtain ⟨k, hk5, ek⟩ := hk
    simp (config := {maxSteps := 4000000}) [and_assoc, lim_eq, e1, ek, rng1, big, show ((-4611686018427387904 : Int) ≤ k) by omega, show ((k : Int) < 4611686018427387904) by omega]
    unfold rngD
    refine WS_forN (fun k => .int (0 + ((k : Nat) : Int))) (fun done ρ => ∃ (f : Int) (ps' : List D) (j : Option Cel), notX (some j) = true ∧ 0 ≤ f ∧ f < 1000000000 ^ done.length ∧ PL (n + 1 + done.length) ps' ∧ ρ = [some (.x1 ps'), some (.sh (.int f)), j]) ⟨0, _, none, rfl, by omega, by decide, by simpa using a3, rfl⟩ ?_ ?_
    · rintro done a rest ρ hd ⟨f, ps', j, hj, h0, h1, hp', rfl⟩
      have hl : done.length < k := by have := congrArg List.length hd; simp at this; omega
      refine ⟨_, gN_eq.mpr ⟨by simpa using hj, rfl⟩, ?_⟩
      obtain ⟨e2, b1, b2, b3⟩ := take_eq hp' 1000000000
      have hf : f < 1000000000 ^ 5 := Int.lt_of_lt_of_le h1 (pow9 (by omega))
      have sf : Sz 200 f := Sz.below h0 hf Sz.lit
      simp (config := {maxSteps := 4000000}) [and_assoc, e2, sf.mulOk (Sz.lit (k := 40) (a := 1000000000))]
      exact ⟨_, _, _, rfl, by omega, by rw [Int.pow_succ]; omega, b3.mono (by omega), rfl, rfl, rfl⟩
    · rintro ρ ⟨f, ps', j, hj, h0, h1, hp', rfl⟩
      have hl : (List.range k).length = k := by simp
      simp (config := {maxSteps := 4000000}) [and_assoc]
      refine ⟨_, fmod_pos (by decide) |>.1, fmod_pos (by decide) |>.2, hp'.mono (by rw [hl]; omega), rfl⟩
  obtain ⟨c0, cs', e, r, ps', h1, h2, h3, rfl, rfl⟩ := key
  exact ⟨r, ps', h1, h2, h3, e⟩
/-- the weights that are drawn: over 2520, not great -/
def Wt (w : Rat) : Prop := ∃ t b : Int, w = Rat.divInt t b ∧ 0 < t ∧ t ≤ 10 ^ 39 ∧ 0 < b ∧ b ≤ 9
theorem weight_ok {n : Int} {ps : List D} (hp : PL n ps) (hn : n ≤ 2 ^ 49) : ∃ (w : Rat) (ps' : List D), Wt w ∧ PL (n + 9) ps' ∧ m__law_weight [.x1 ps] = some (.ok (.sh (enc w)), [.x1 ps']) := by
  have key : ∃ c0 cs', m__law_weight [.x1 ps] = some (.ok c0, cs') ∧ ∃ (w : Rat) (ps' : List D), Wt w ∧ PL (n + 9) ps' ∧ c0 = .sh (enc w) ∧ cs' = [.x1 ps'] := by
    refine FM_ex ?_
    obtain ⟨e1, a1, a2, a3⟩ := take_eq hp 7
    obtain ⟨e2, b1, b2, b3⟩ := take_eq a3 9
    obtain ⟨e3, c1, c2, c3⟩ := take_eq b3 4
    obtain ⟨f, ps1, f1, f2, f3, e4⟩ := figures_ok a3 (by omega)
    obtain ⟨e5, d1, d2, d3⟩ := take_eq f3 9
    have hk : ∃ b : Int, 0 < b ∧ b ≤ 9 ∧ atI [PyData.int 1, PyData.int 1, PyData.int 2, PyData.int 3] (tkR (tkP (tkP ps 7) 9) 4) = some (.int b) := by
      have : tkR (tkP (tkP ps 7) 9) 4 = 0 ∨ tkR (tkP (tkP ps 7) 9) 4 = 1 ∨ tkR (tkP (tkP ps 7) 9) 4 = 2 ∨ tkR (tkP (tkP ps 7) 9) 4 = 3 := by omega
      rcases this with h | h | h | h <;> rw [h]
      · exact ⟨1, by decide, by decide, rfl⟩
      · exact ⟨1, by decide, by decide, rfl⟩
      · exact ⟨2, by decide, by decide, rfl⟩
      · exact ⟨3, by decide, by decide, rfl⟩
    obtain ⟨b, hb0, hb9, eb⟩ := hk
    have l1 := lowest_ok (1 + tkR (tkP ps 7) 9) b (by omega) hb0 ((Sz.below (m := 16) (by omega) (by omega) (Sz.lit (k := 5))).mono (by decide))
    have l2 := lowest_ok (1 + f.fmod (10 ^ 39)) (1 + tkR ps1 9) (by have := fmod_pos (a := f) (m := 10 ^ 39) (by decide); omega) (by omega) ((Sz.below (m := 16) (by omega) (by omega) (Sz.lit (k := 5))).mono (by decide))
    have g := fmod_pos (a := f) (m := 10 ^ 39) (by decide)
    simp only [Int.reducePow] at l2 g
    simp (config := {maxSteps := 4000000}) [and_assoc, lim_eq, e1, e2, e3, e4, e5, eb, l1, l2, enc_rat]
    by_cases h0 : 0 < tkR ps 7
    · simp [h0]
      exact .inr ⟨_, ⟨_, _, rfl, by omega, by omega, hb0, hb9⟩, c3.mono (by omega), rfl⟩
    · simp [h0]
      exact ⟨by omega, _, ⟨_, _, rfl, by omega, by omega, by omega, by omega⟩, d3.mono (by omega), rfl⟩
  obtain ⟨c0, cs', e, r, ps', h1, h2, rfl, rfl⟩ := key
  exact ⟨r, ps', h1, h2, e⟩
end K18


set_option Elab.async false
set_option linter.all false
set_option autoImplicit false
set_option maxRecDepth 100000
set_option maxHeartbeats 4000000
namespace K18
open PySem PySem.Spec PyProof.Rows L2 MD
abbrev CW := List Int × Rat
theorem once_ok (cs : List CW) (hl : cs.length ≤ 1000) : ∃ out : List CW, (∀ p ∈ out, p ∈ cs) ∧ out.length ≤ cs.length ∧ m__law_once [.sh (enc cs)] = some (.ok (.sh (enc out)), [.sh (enc cs)]) := by
  have key : ∃ c0 cs', m__law_once [.sh (enc cs)] = some (.ok c0, cs') ∧ ∃ out : List CW, (∀ p ∈ out, p ∈ cs) ∧ out.length ≤ cs.length ∧ c0 = .sh (enc out) ∧ cs' = [.sh (enc cs)] := by
    refine FM_ex ?_
    have es := pSorted_l cs (by rw [lim_eq]; omega) (.inl fun a => rfl)
    have pm := srtE_perm cs
    simp (config := {maxSteps := 4000000}) [and_assoc, lim_eq, enc_list, onList, es]
    refine WS_forN (fun p : CW => enc p) (fun done ρ => ∃ (out : List CW) (j1 j2 : Option Cel), notX (some j1) = true ∧ notX (some j2) = true ∧ (∀ p ∈ out, p ∈ done) ∧ out.length ≤ done.length ∧ ρ = [some (.sh (.list (cs.map enc))), some (.o1 (out.map enc)), j1, j2]) ⟨[], none, none, rfl, rfl, by simp, by simp, rfl⟩ ?_ ?_
    · rintro done a rest ρ hd ⟨out, j1, j2, hj1, hj2, hin, hlen, rfl⟩
      have hdl : done.length < 1000 := by have := congrArg List.length hd; simp [pm.length_eq] at this; omega
      rw [enc_prod]
      simp (config := {maxSteps := 4000000}) [and_assoc, hj1, hj2, bl2_nilEq out, wAppend_iff, lim_eq]
      have new : ∃ out_1 : List CW, ∃ j1 : Option Cel, notX (some j1) = true ∧ ∃ x : Option Cel, notX (some x) = true ∧ (∀ (a_1 : List Int) (b : Rat), (a_1, b) ∈ out_1 → (a_1, b) ∈ done ∨ (a_1, b) = a) ∧ out_1.length ≤ done.length + 1 ∧ List.map enc out ++ [PyData.tuple [enc a.fst, enc a.snd]] = List.map enc out_1 ∧ some (Cel.sh (enc a.fst)) = j1 ∧ some (Cel.sh (enc a.snd)) = x :=
        ⟨out ++ [a], _, rfl, _, rfl, fun c w hm => by rcases List.mem_append.mp hm with h | h; exact .inl (hin _ h); exact .inr (List.mem_singleton.mp h), by simpa using hlen, by rw [List.map_append]; rfl, rfl, rfl⟩
      by_cases ho : out = []
      · exact .inr ⟨ho, by omega, new⟩
      · refine .inl ⟨ho, ?_⟩
        obtain ⟨init, p, rfl⟩ : ∃ init p, out = init ++ [p] := ⟨out.dropLast, out.getLast ho, (List.dropLast_concat_getLast ho).symm⟩
        refine ⟨_, atI_last init p, _, rfl, _, pNe_enc p.1 a.1, ?_⟩
        by_cases he : p.1 = a.1
        · exact .inl ⟨by simp [he], init ++ [p], _, rfl, _, rfl, fun c w hm => .inl (hin _ hm), by omega, rfl, rfl, rfl⟩
        · exact .inr ⟨by simp [he], by omega, new⟩
    · rintro ρ ⟨out, j1, j2, hj1, hj2, hin, hlen, rfl⟩
      simp (config := {maxSteps := 4000000}) [and_assoc]
      exact ⟨out, fun c w hm => pm.mem_iff.mp (hin _ hm), by rw [← pm.length_eq]; exact hlen, rfl⟩
  obtain ⟨c0, cs', e, out, h1, h2, rfl, rfl⟩ := key
  exact ⟨out, h1, h2, e⟩
end K18


set_option Elab.async false
set_option linter.all false
set_option autoImplicit false
set_option maxRecDepth 100000
set_option maxHeartbeats 4000000
namespace K18
open PySem PySem.Spec PyProof.Rows L2 MD
structure GoodC (n : Int) (c : List Int) : Prop where
  ne : c ≠ []
  rg : ∀ x ∈ c, 1 ≤ x ∧ x < n
  nd : c.Nodup
structure Good (n : Int) (p : CW) : Prop where
  c : GoodC n p.1
  wt : Wt p.2
/-- the points from lo to below hi -/
def pts (lo hi : Int) : List Int := (List.range (hi - lo).toNat).map fun k => lo + (k : Nat)
theorem pts_mem {lo hi x : Int} : x ∈ pts lo hi ↔ lo ≤ x ∧ x < hi := by
  unfold pts
  rw [List.mem_map]
  constructor
  · rintro ⟨k, hk, rfl⟩; rw [List.mem_range] at hk; omega
  · rintro ⟨h1, h2⟩; exact ⟨(x - lo).toNat, by rw [List.mem_range]; omega, by omega⟩
theorem pts_nodup (lo hi : Int) : (pts lo hi).Nodup := by
  unfold pts
  exact List.pairwise_map.mpr (List.nodup_range.imp fun h e => h (by omega))
theorem pts_len (lo hi : Int) : (pts lo hi).length = (hi - lo).toNat := by simp [pts]
theorem rngD_pts (lo hi : Int) : rngD lo (hi - lo).toNat = (pts lo hi).map enc := by unfold rngD pts; rw [List.map_map]; rfl
theorem rng2_pts {lo hi : Int} (h1 : -100000 ≤ lo) (h2 : hi ≤ 100000) (h3 : lo ≤ 100000) (h4 : -100000 ≤ hi) : rng2 [.int lo, .int hi] = some ((pts lo hi).map enc) := by
  show (if big lo && big hi then some (rngD lo (hi - lo).toNat) else none) = _
  rw [if_pos (by unfold big; simp; omega), rngD_pts]
theorem rng1_pts {hi : Int} (h2 : hi ≤ 100000) (h4 : -100000 ≤ hi) : rng1 [.int hi] = some ((pts 0 hi).map enc) := by
  show (if big hi then some (rngD 0 hi.toNat) else none) = _
  rw [if_pos (by unfold big; simp; omega)]
  have := rngD_pts 0 hi
  rw [Int.sub_zero] at this
  rw [this]
theorem cut_pts {lo hi : Int} {done rest : List Int} {a : Int} (h : pts lo hi = done ++ a :: rest) : lo ≤ a ∧ a < hi ∧ done.length < (hi - lo).toNat := by
  have hm : a ∈ pts lo hi := by rw [h]; simp
  have hl := congrArg List.length h
  rw [pts_len] at hl
  simp at hl
  exact ⟨(pts_mem.mp hm).1, (pts_mem.mp hm).2, by omega⟩
theorem drawn_ok {n : Int} {ps : List D} (hp : PL n ps) (hn : n ≤ 2 ^ 41) {many kind : Int} (h10 : many ≤ 10) (h1 : 1 ≤ many) (eltc : M D) (cutf : Int → List Int)
    (hcut : ∀ (ps' : List D) (x : Int), 1 ≤ x → x < many → WM eltc [some (.x1 ps'), some (.sh (.int many)), some (.sh (.int kind)), some (.o1 []), none, none, some (.sh (.int x))] fun d ρ' => d = enc (cutf x) ∧ ρ' = [some (.x1 ps'), some (.sh (.int many)), some (.sh (.int kind)), some (.o1 []), none, none, some (.sh (.int x))])
    (hg : ∀ x, 1 ≤ x → x < many → GoodC many (cutf x)) :
    WM (mLc (opA rng2 (mCons (pureM (PyData.int 1)) (mCons (mVar 1) mNil))) [6] (gN 6) (pureM true) (MD.bindM (mCons eltc (mCons (mVal (mCallO m__law_weight 0 mNil)) mNil)) fun ds => optM (tupOf ds)))
      [some (.x1 ps), some (.sh (.int many)), some (.sh (.int kind)), some (.o1 []), none, none, none] fun c ρ' => ∃ (ps' : List D) (out : List CW), PL (n + 90) ps' ∧ (∀ p ∈ out, Good many p) ∧ out.length ≤ 10 ∧ c = .o1 (out.map enc) ∧ ρ' = [some (.x1 ps'), some (.sh (.int many)), some (.sh (.int kind)), some (.o1 []), none, none, none] := by
  refine WM_lcS enc (pts 1 many) (fun done acc ρ => ∃ (ps' : List D) (out : List CW), PL (n + 9 * done.length) ps' ∧ (∀ p ∈ out, Good many p) ∧ acc = out.map enc ∧ ρ = [some (.x1 ps'), some (.sh (.int many)), some (.sh (.int kind)), some (.o1 []), none, none, none]) ?_
  simp (config := {maxSteps := 4000000}) [and_assoc, rng2_pts (lo := 1) (hi := many) (by omega) (by omega) (by omega) (by omega), pts_len, lim_eq, noOwn, wipeR]
  refine ⟨by omega, ⟨ps, hp, [], fun _ _ h => (by cases h), rfl, rfl⟩, ?_, ?_⟩
  · rintro done a rest acc ρ hd hl ps' hp' out hout rfl rfl
    obtain ⟨q1, q2, q3⟩ := cut_pts hd
    obtain ⟨w, ps2, hw, hp2, ew⟩ := weight_ok hp' (by omega)
    simp (config := {maxSteps := 4000000}) [and_assoc, enc_int]
    refine (hcut ps' a q1 q2).mono ?_
    rintro d ρ' ⟨rfl, rfl⟩
    simp (config := {maxSteps := 4000000}) [and_assoc, ew, lim_eq, wipeR]
    refine ⟨ps2, hp2.mono (by omega), out ++ [(cutf a, w)], fun c w' hm => ?_, ?_, rfl⟩
    · rcases List.mem_append.mp hm with h | h
      · exact hout _ _ h
      · have h := List.mem_singleton.mp h
        cases h
        exact ⟨hg a q1 q2, hw⟩
    · rw [List.map_append]; rfl
  · rintro acc ρ2 hl ps' hp' out hout rfl rfl
    refine ⟨ps', hp'.mono (by omega), out, hout, by simp at hl; omega, rfl, by simp [back]⟩
theorem cuts_ok {n : Int} {ps : List D} (hp : PL n ps) (hn : n ≤ 2 ^ 40) (many : Int) (h1 : 1 ≤ many) (h10 : many ≤ 10) : ∃ (out : List CW) (ps' : List D), (∀ p ∈ out, Good many p) ∧ out.length ≤ 30 ∧ PL (n + 1000) ps' ∧ m__law_cuts [.x1 ps, .sh (.int many)] = some (.ok (.sh (enc out)), [.x1 ps', .sh (.int many)]) := by
  have key : ∃ c0 cs', m__law_cuts [.x1 ps, .sh (.int many)] = some (.ok c0, cs') ∧ ∃ (out : List CW) (ps' : List D), (∀ p ∈ out, Good many p) ∧ out.length ≤ 30 ∧ PL (n + 1000) ps' ∧ c0 = .sh (enc out) ∧ cs' = [.x1 ps', .sh (.int many)] := by
    refine FM_ex ?_
    obtain ⟨e1, a1, a2, a3⟩ := take_eq hp 6
    generalize hk : tkR ps 6 = kind at *
    generalize hq : tkP ps 6 = ps1 at *
    refine WS_cut (fun ρ => ρ = [some (.x1 ps1), some (.sh (.int many)), some (.sh (.int kind)), none, none, none, none]) ?_ ?_
    · simp (config := {maxSteps := 4000000}) [and_assoc, e1]
    rintro _ rfl
    refine WS_cut (fun ρ => ρ = [some (.x1 ps1), some (.sh (.int many)), some (.sh (.int kind)), some (.o1 []), none, none, none]) ?_ ?_
    · simp (config := {maxSteps := 4000000}) [and_assoc, lim_eq]
    rintro _ rfl
    refine WS_cut (fun ρ => ∃ (ps' : List D) (out : List CW), PL (n + 91) ps' ∧ (∀ p ∈ out, Good many p) ∧ out.length ≤ 10 ∧ (kind = 1 → out = []) ∧ (kind = 1 → PL (n + 1) ps') ∧ ρ = [some (.x1 ps'), some (.sh (.int many)), some (.sh (.int kind)), some (.o1 (out.map enc)), none, none, none]) ?_ ?_
    · simp (config := {maxSteps := 4000000}) [and_assoc]
      by_cases hc : 1 < many
      · refine .inr ⟨hc, ?_⟩
        by_cases h0 : kind = 0
        · refine .inr ⟨h0, ?_⟩
          refine (drawn_ok a3 (by omega) h10 h1 _ (fun x => [x]) ?_ ?_).mono ?_
          · intro ps' x _ _
            simp (config := {maxSteps := 4000000}) [and_assoc, lim_eq, enc_list, enc_int]
          · exact fun x hx hy => ⟨by simp, fun y hm => by rw [List.mem_singleton.mp hm]; exact ⟨hx, hy⟩, by simp⟩
          · rintro c ρ' ⟨ps', out, k1, k2, k3, rfl, rfl⟩
            simp (config := {maxSteps := 4000000}) [and_assoc]
            exact ⟨ps', k1.mono (by omega), out, fun a b => k2 (a, b), k3, fun z => by omega, fun z => by omega, rfl, rfl⟩
        · exact .inl ⟨h0, ps1, a3.mono (by omega), [], (fun _ _ z => by cases z), by simp, fun _ => rfl, fun _ => a3, rfl, rfl⟩
      · exact .inl ⟨by omega, ps1, a3.mono (by omega), [], (fun _ _ z => by cases z), by simp, fun _ => rfl, fun _ => a3, rfl, rfl⟩
    rintro _ ⟨ps2, out2, p2, g2, l2, n2, p2', rfl⟩
    refine WS_cut (fun ρ => ∃ (ps' : List D) (out : List CW), PL (n + 91) ps' ∧ (∀ p ∈ out, Good many p) ∧ out.length ≤ 10 ∧ ρ = [some (.x1 ps'), some (.sh (.int many)), some (.sh (.int kind)), some (.o1 (out.map enc)), none, none, none]) ?_ ?_
    · simp (config := {maxSteps := 4000000}) [and_assoc]
      by_cases hc : 1 < many
      · refine .inr ⟨hc, ?_⟩
        by_cases h0 : kind = 1
        · refine .inr ⟨h0, ?_⟩
          rw [n2 h0]
          refine (drawn_ok (p2' h0) (by omega) h10 h1 _ (fun x => pts x many) ?_ ?_).mono ?_
          · intro ps' x hx hy
            simp (config := {maxSteps := 4000000}) [and_assoc, lim_eq, enc_list]
            refine ⟨.o1 ((pts x many).map enc), ?_, rfl⟩
            unfold lstRg
            dsimp only
            rw [if_pos (by unfold big; simp; omega), rngD_pts]
          · exact fun x hx hy => ⟨fun z => by have := pts_len x many; rw [z] at this; simp at this; omega, fun y hm => by have := pts_mem.mp hm; omega, pts_nodup _ _⟩
          · rintro c ρ' ⟨ps', out, k1, k2, k3, rfl, rfl⟩
            simp (config := {maxSteps := 4000000}) [and_assoc]
            exact ⟨ps', k1.mono (by omega), out, fun a b => k2 (a, b), k3, rfl, rfl⟩
        · exact .inl ⟨h0, ps2, p2, out2, fun a b => g2 (a, b), l2, rfl, rfl⟩
      · exact .inl ⟨by omega, ps2, p2, out2, fun a b => g2 (a, b), l2, rfl, rfl⟩
    rintro _ ⟨ps3, out3, p3, g3, l3, rfl⟩
    refine WS_cut (fun ρ => ∃ (ps' : List D) (out : List CW) (j4 j5 : Option Cel), PL (n + 900) ps' ∧ (∀ p ∈ out, Good many p) ∧ out.length ≤ 30 ∧ ρ = [some (.x1 ps'), some (.sh (.int many)), some (.sh (.int kind)), some (.sh (enc out)), j4, j5, none]) ?_ ?_
    · obtain ⟨e2, b1, b2, b3⟩ := take_eq p3 4
      obtain ⟨e3, c1, c2, c3⟩ := take_eq b3 12
      obtain ⟨e4, d1, d2, d3⟩ := take_eq c3 3
      have hx : ∃ k : Int, 0 ≤ k ∧ k ≤ 11 ∧ atI [PyData.int (tkR ps3 4), PyData.int (tkR (tkP ps3 4) 12)] (if tkR (tkP (tkP ps3 4) 12) 3 = 0 then 1 else 0) = some (.int k) := by
        split
        · exact ⟨_, c1, by omega, atI_1 _ _ _⟩
        · exact ⟨_, b1, by omega, atI_0 _ _⟩
      obtain ⟨k, k0, k11, ek⟩ := hx
      simp (config := {maxSteps := 4000000}) [and_assoc, lim_eq, e2, e3, e4, ek, rng1_pts (hi := k) (by omega) (by omega)]
      generalize tkP (tkP (tkP ps3 4) 12) 3 = ps4 at *
      refine WS_forN enc (fun done ρ => ∃ (ps' : List D) (out : List CW) (j4 j5 : Option Cel), notX (some j4) = true ∧ notX (some j5) = true ∧ PL (n + 94 + 20 * done.length) ps' ∧ (∀ p ∈ out, Good many p) ∧ out.length ≤ 10 + done.length ∧ ρ = [some (.x1 ps'), some (.sh (.int many)), some (.sh (.int kind)), some (.o1 (out.map enc)), j4, j5, none]) ⟨ps4, out3, none, none, rfl, rfl, d3.mono (by omega), g3, by simpa using l3, rfl⟩ ?_ ?_
      · rintro done a rest ρ hd ⟨ps', out, j4, j5, h4, h5, hp', hg', hl', rfl⟩
        obtain ⟨q1, q2, q3⟩ := cut_pts hd
        refine ⟨_, gN_eq.mpr ⟨by simpa using h4, rfl⟩, ?_⟩
        simp only [List.set_cons_succ, List.set_cons_zero]
        refine WS_cut (fun ρ => ∃ (ps2 : List D) (cut : List Int), PL (n + 94 + 20 * done.length + 10) ps2 ∧ (∀ x ∈ cut, 1 ≤ x ∧ x < many) ∧ cut.Nodup ∧ ρ = [some (.x1 ps2), some (.sh (.int many)), some (.sh (.int kind)), some (.o1 (out.map enc)), some (.sh (enc a)), some (.sh (enc cut)), none]) ?_ ?_
        · rw [WS_fz, WS_set]
          refine WM_lcS enc (pts 1 many) (fun done' acc ρ => ∃ (ps2 : List D) (cut : List Int), PL (n + 94 + 20 * done.length + done'.length) ps2 ∧ cut.Sublist done' ∧ acc = cut.map enc ∧ ρ = [some (.x1 ps2), some (.sh (.int many)), some (.sh (.int kind)), some (.o1 (out.map enc)), some (.sh (enc a)), j5, none]) ?_
          simp (config := {maxSteps := 4000000}) [and_assoc, rng2_pts (lo := 1) (hi := many) (by omega) (by omega) (by omega) (by omega), pts_len, lim_eq, noOwn, wipeR]
          refine ⟨by omega, ?_, ?_, ?_⟩
          · exact hp'
          · rintro done' x rest' acc ρ hd' hl2 ps2 hp2 cut hs rfl rfl
            obtain ⟨r1, r2, r3⟩ := cut_pts hd'
            obtain ⟨e5, f1, f2, f3⟩ := take_eq hp2 2
            simp (config := {maxSteps := 4000000}) [and_assoc, enc_int, e5, wipeR]
            have s1 : cut.Sublist (done' ++ [x]) := hs.trans (List.sublist_append_left _ _)
            have s2 : (cut ++ [x]).Sublist (done' ++ [x]) := hs.append (List.Sublist.refl _)
            by_cases hb : tkR ps2 2 = 0
            · exact .inr ⟨hb, _, f3.mono (by omega), cut ++ [x], s2, by rw [List.map_append]; rfl, rfl⟩
            · exact .inl ⟨hb, _, f3.mono (by omega), cut, s1, rfl, rfl⟩
          · rintro acc ρ2 hl2 ps2 hp2 cut hs rfl rfl
            simp (config := {maxSteps := 4000000}) [and_assoc, back, h5, enc_list]
            exact ⟨ps2, hp2.mono (by omega), cut, fun x hx => by have := pts_mem.mp (hs.subset hx); omega, hs.nodup (pts_nodup _ _), rfl, rfl⟩
        · rintro _ ⟨ps2, cut, hp2, hr, hn2, rfl⟩
          obtain ⟨w, ps5, hw, hp5, ew⟩ := weight_ok hp2 (by omega)
          simp (config := {maxSteps := 4000000}) [and_assoc, enc_list, pNe_nil cut, ew, lim_eq, wAppend_iff]
          by_cases hc : cut = []
          · exact .inl ⟨hc, _, out, _, rfl, _, rfl, hp2.mono (by omega), fun a b => hg' (a, b), by omega, rfl, rfl, rfl, rfl⟩
          · refine .inr ⟨hc, by omega, _, out ++ [(cut, w)], _, rfl, _, rfl, hp5.mono (by omega), fun c w' hm => ?_, by simp; omega, rfl, by rw [List.map_append]; rfl, rfl, rfl⟩
            rcases List.mem_append.mp hm with h | h
            · exact hg' _ h
            · have h := List.mem_singleton.mp h
              cases h
              exact ⟨⟨hc, hr, hn2⟩, hw⟩
      · rintro ρ ⟨ps', out, j4, j5, h4, h5, hp', hg', hl', rfl⟩
        rw [pts_len] at hp' hl'
        simp (config := {maxSteps := 4000000}) [and_assoc, enc_list]
        exact ⟨ps', hp'.mono (by omega), out, fun a b => hg' (a, b), by omega, rfl, rfl⟩
    · rintro _ ⟨ps4, out4, j4, j5, p4, g4, l4, rfl⟩
      obtain ⟨out, k1, k2, k3⟩ := once_ok out4 (by omega)
      simp (config := {maxSteps := 4000000}) [and_assoc, k3]
      exact ⟨out, fun a b hm => g4 _ (k1 _ hm), by omega, p4.mono (by omega), rfl⟩
  obtain ⟨c0, cs', e, out, ps', h1, h2, h3, rfl, rfl⟩ := key
  exact ⟨out, ps', h1, h2, h3, e⟩
end K18


set_option Elab.async false
set_option linter.all false
set_option autoImplicit false
set_option maxRecDepth 100000
set_option maxHeartbeats 4000000
namespace K18
open PySem PySem.Spec PyProof.Rows L2 MD
/-! sides -/
theorem len_sub {α : Type} [DecidableEq α] : ∀ {l m : List α}, l.Nodup → (∀ x ∈ l, x ∈ m) → l.length ≤ m.length
  | [], _, _, _ => Nat.zero_le _
  | x :: l, m, nd, h => by
    obtain ⟨n1, n2⟩ := List.nodup_cons.mp nd
    have hx : x ∈ m := h x (by simp)
    have := len_sub (l := l) (m := m.erase x) n2 fun y hy => (List.mem_erase_of_ne (fun e => n1 (by rw [← e]; exact hy))).mpr (h y (List.mem_cons_of_mem _ hy))
    rw [List.length_erase_of_mem hx] at this
    have := List.length_pos_of_mem hx
    simp only [List.length_cons]
    omega
def cutOf (n : Int) (side : List Int) : List Int := if 0 ∈ side then (pts 0 n).filter fun x => !decide (x ∈ sortU side) else sortU side
theorem mem_cutOf {n : Int} {side : List Int} (hr : ∀ x ∈ side, 0 ≤ x ∧ x < n) {x : Int} : x ∈ cutOf n side ↔ 0 ≤ x ∧ x < n ∧ ((0 ∈ side ∧ x ∉ side) ∨ (0 ∉ side ∧ x ∈ side)) := by
  unfold cutOf
  split
  · rename_i h
    simp [pts_mem, sortU_mem, h]
    constructor
    · rintro ⟨⟨h1, h2⟩, h3⟩; exact ⟨h1, h2, h3⟩
    · rintro ⟨h1, h2, h3⟩; exact ⟨⟨h1, h2⟩, h3⟩
  · rename_i h
    simp [sortU_mem, h]
    exact ⟨fun h2 => ⟨(hr x h2).1, (hr x h2).2, h2⟩, fun h2 => h2.2.2⟩
theorem nodup_cutOf (n : Int) (side : List Int) : (cutOf n side).Nodup := by
  unfold cutOf
  split
  · exact (pts_nodup 0 n).filter _
  · exact sortU_nodup side
theorem cut_of_ok (n : Int) (side : List Int) (hn : n ≤ 100) (hr : ∀ x ∈ side, 0 ≤ x ∧ x < n) (hl : side.length < 64) (x y : Int) (hx : x ∈ side) (hy0 : 0 ≤ y) (hyn : y < n) (hy : y ∉ side) :
    m_cut_of [.sh (.int n), .sh (enc side)] = some (.ok (.sh (enc (cutOf n side))), [.sh (.int n), .sh (enc side)]) := by
  have h0x := hr x hx
  refine FM_rt ?_
  refine WS_cut (fun ρ => ρ = [some (.sh (.int n)), some (.sh (enc side)), none, none]) ?_ ?_
  · simp (config := {maxSteps := 4000000}) [and_assoc, lim_eq]
    refine WM_lc enc side enc (fun x => !(decide (0 ≤ x) && decide (x < n))) ?_
    simp (config := {maxSteps := 4000000}) [and_assoc, lim_eq, enc_list, noOwn, wipeR, enc_int]
    refine ⟨by omega, fun a ha => ?_, ?_⟩
    · have := hr a ha
      simp [this.1, this.2]
    · have : side.filter (fun x => !decide (0 ≤ x) || !decide (x < n)) = [] := by
        rw [List.filter_eq_nil_iff]
        intro a ha
        have := hr a ha
        simp; omega
      rw [this]
      exact ⟨_, pNe_nil ([] : List Int), .inl rfl⟩
  rintro _ rfl
  have e1 : pSortSet (side.map enc) = some ((sortU side).map enc) := by
    unfold pSortSet
    rw [show side.map enc = side.map PyData.int from rfl, intsOf_map]
    show (if side.length < 64 then some ((sortU side).map PyData.int) else none) = _
    rw [if_pos hl]
    rfl
  have hs1 : ¬ sortU side = [] := fun z => by have := sortU_mem.mpr hx; rw [z] at this; cases this
  have big : ∀ l : List Int, l.Nodup → (∀ z ∈ l, 0 ≤ z ∧ z < n) → (∃ y, 0 ≤ y ∧ y < n ∧ y ∉ l) → ¬ (l.length : Int) = n := by
    rintro l nd hl ⟨y, h1, h2, h3⟩ e
    have := len_sub (l := y :: l) (m := pts 0 n) (List.nodup_cons.mpr ⟨h3, nd⟩) fun z hz => by
      rcases List.mem_cons.mp hz with e | e
      · rw [e]; exact pts_mem.mpr ⟨h1, h2⟩
      · exact pts_mem.mpr (hl z e)
    rw [pts_len] at this
    simp at this
    omega
  have rg : ∀ z ∈ cutOf n side, 0 ≤ z ∧ z < n := fun z hz => by have := (mem_cutOf hr).mp hz; omega
  have ne1 : ¬ cutOf n side = [] := fun z => by
    by_cases h0 : 0 ∈ side
    · have := (mem_cutOf hr).mpr ⟨hy0, hyn, .inl ⟨h0, hy⟩⟩
      rw [z] at this; cases this
    · have := (mem_cutOf hr).mpr ⟨h0x.1, h0x.2, .inr ⟨h0, hx⟩⟩
      rw [z] at this; cases this
  have ne2 : ¬ ((cutOf n side).length : Int) = n := big _ (nodup_cutOf _ _) rg (by
    by_cases h0 : 0 ∈ side
    · exact ⟨x, h0x.1, h0x.2, fun hm => by have := (mem_cutOf hr).mp hm; rcases this.2.2 with h | h; exact h.2 hx; exact h.1 h0⟩
    · exact ⟨y, hy0, hyn, fun hm => by have := (mem_cutOf hr).mp hm; rcases this.2.2 with h | h; exact h0 h.1; exact hy h.2⟩)
  refine WS_cut (fun ρ => ρ = [some (.sh (.int n)), some (.sh (enc side)), some (.sh (enc (sortU side))), none]) ?_ ?_
  · simp (config := {maxSteps := 4000000}) [and_assoc, enc_list, onList, e1]
  rintro _ rfl
  refine WS_cut (fun ρ => ρ = [some (.sh (.int n)), some (.sh (enc side)), some (.sh (enc (cutOf n side))), none]) ?_ ?_
  · have e2 := pIn_l (0 : Int) (sortU side)
    rw [enc_int] at e2
    simp (config := {maxSteps := 4000000}) [and_assoc, enc_list, e2]
    by_cases h0 : 0 ∈ side
    · refine .inr ⟨sortU_mem.mpr h0, ?_⟩
      refine WM_lc enc (pts 0 n) enc (fun x => !decide (x ∈ sortU side)) ?_
      simp (config := {maxSteps := 4000000}) [and_assoc, lim_eq, enc_list, noOwn, wipeR, rng1_pts (hi := n) (by omega) (by omega), pts_len]
      refine ⟨by omega, fun a ha => ?_, ?_⟩
      · have e3 := pNotIn_l a (sortU side)
        simp [e3]
        exact Classical.em _
      · unfold cutOf; rw [if_pos h0]
    · refine .inl ⟨fun h => h0 (sortU_mem.mp h), ?_⟩
      unfold cutOf; rw [if_neg h0]
  rintro _ rfl
  simp (config := {maxSteps := 4000000}) [and_assoc, enc_list, pEq_nil (cutOf n side), ne1, ne2]
end K18


set_option Elab.async false
set_option linter.all false
set_option autoImplicit false
set_option maxRecDepth 100000
set_option maxHeartbeats 4000000
namespace K18
open PySem PySem.Spec PyProof.Rows L2 MD
/-! sums of weights -/
def Q2 (B : Int) (q : Rat) : Prop := ∃ n : Int, q = Rat.divInt n 2520 ∧ 0 ≤ n ∧ n ≤ B
theorem Q2.zero : Q2 0 0 := ⟨0, by rw [Rat.divInt_eq_div]; simp [Rat.div_def], by omega, by omega⟩
theorem Q2.mono {B C : Int} {q : Rat} (h : Q2 B q) (e : B ≤ C) : Q2 C q := by obtain ⟨n, h1, h2, h3⟩ := h; exact ⟨n, h1, h2, by omega⟩
theorem Q2.add {B C : Int} {q r : Rat} (h : Q2 B q) (k : Q2 C r) : Q2 (B + C) (q + r) := by
  obtain ⟨n, rfl, h2, h3⟩ := h
  obtain ⟨m, rfl, k2, k3⟩ := k
  refine ⟨n + m, ?_, by omega, by omega⟩
  rw [Rat.divInt_add_divInt _ _ (by decide) (by decide), ← Int.add_mul, Rat.divInt_mul_right (by decide)]
theorem Q2.sz {B : Int} {q : Rat} (h : Q2 B q) {k : Nat} (hB : Sz k B) (hk : 12 ≤ k) : Sz k q.num ∧ Sz k (q.den : Int) := by
  obtain ⟨n, rfl, h2, h3⟩ := h
  obtain ⟨e1, e2⟩ := divInt_parts (t := n) (b := 2520) (by decide)
  have g0 : (0 : Int) < (Int.gcd n 2520 : Int) := by
    have : Int.gcd n 2520 ≠ 0 := fun h => by rw [Int.gcd_eq_zero_iff] at h; omega
    omega
  rw [e1, e2]
  exact ⟨(hB.below' h2 h3).fdivP h2 g0, ((Sz.lit (k := 12) (a := 2520)).fdivP (by decide) g0).mono hk⟩
theorem Wt.q2 {w : Rat} (h : Wt w) : Q2 (10 ^ 39 * 2520) w := by
  obtain ⟨t, b, rfl, h1, h2, h3, h4⟩ := h
  have hb : b = 1 ∨ b = 2 ∨ b = 3 ∨ b = 4 ∨ b = 5 ∨ b = 6 ∨ b = 7 ∨ b = 8 ∨ b = 9 := by omega
  have key : ∀ c : Int, c ≠ 0 → 0 ≤ c → c ≤ 2520 → b * c = 2520 → Q2 (10 ^ 39 * 2520) (Rat.divInt t b) := fun c hc h0 hle e => ⟨t * c, by rw [← e, Rat.divInt_mul_right hc], Int.mul_nonneg (by omega) h0, Int.le_trans (Int.mul_le_mul_of_nonneg_left hle (by omega)) (Int.mul_le_mul_of_nonneg_right h2 (by decide))⟩
  rcases hb with h | h | h | h | h | h | h | h | h <;> subst h
  · exact key 2520 (by decide) (by decide) (by decide) rfl
  · exact key 1260 (by decide) (by decide) (by decide) rfl
  · exact key 840 (by decide) (by decide) (by decide) rfl
  · exact key 630 (by decide) (by decide) (by decide) rfl
  · exact key 504 (by decide) (by decide) (by decide) rfl
  · exact key 420 (by decide) (by decide) (by decide) rfl
  · exact key 360 (by decide) (by decide) (by decide) rfl
  · exact key 315 (by decide) (by decide) (by decide) rfl
  · exact key 280 (by decide) (by decide) (by decide) rfl
def sep (c : List Int) (i j : Int) : Bool := decide (i ∈ c) != decide (j ∈ c)
def dist : List CW → Int → Int → Rat
  | [], _, _ => 0
  | p :: r, i, j => (if sep p.1 i j then p.2 else 0) + dist r i j
theorem dist_append (xs ys : List CW) (i j : Int) : dist (xs ++ ys) i j = dist xs i j + dist ys i j := by
  induction xs with
  | nil => simp [dist, Rat.zero_add]
  | cons p r ih => simp [dist, ih, Rat.add_assoc]
theorem dist_snoc (xs : List CW) (p : CW) (i j : Int) : dist (xs ++ [p]) i j = dist xs i j + (if sep p.1 i j then p.2 else 0) := by rw [dist_append]; simp [dist, Rat.add_zero]
theorem dist_q2 {M : Int} (h0 : 0 ≤ M) : ∀ {xs : List CW} (i j : Int), (∀ p ∈ xs, Q2 M p.2) → Q2 (xs.length * M) (dist xs i j)
  | [], _, _, _ => by simpa [dist] using Q2.zero
  | p :: r, i, j, h => by
    have ih := dist_q2 h0 i j fun q hq => h q (List.mem_cons_of_mem _ hq)
    have hp := h p (by simp)
    have : Q2 M (if sep p.1 i j then p.2 else 0) := by
      split
      · exact hp
      · exact Q2.zero.mono h0
    have e : ((p :: r).length : Int) * M = M + r.length * M := by simp [Int.add_mul]; omega
    rw [e]
    exact this.add ih
/-! tables -/
def mat (n : Int) (F : Int → Int → Rat) : List (List Rat) := (pts 0 n).map fun i => (pts 0 n).map fun j => F i j
theorem pts_at {n i : Int} (h0 : 0 ≤ i) (h : i < n) : (pts 0 n)[i.toNat]? = some i := by
  unfold pts
  rw [List.getElem?_map, List.getElem?_range (by omega)]
  simp
  omega
theorem map_pts_at {α : Type} {n i : Int} (f : Int → α) (h0 : 0 ≤ i) (h : i < n) : ((pts 0 n).map f)[i.toNat]? = some (f i) := by rw [List.getElem?_map, pts_at h0 h]; rfl
theorem map_pts_set {α : Type} {n i : Int} (f : Int → α) (v : α) (h0 : 0 ≤ i) (h : i < n) : ((pts 0 n).map f).set i.toNat v = (pts 0 n).map fun k => if k = i then v else f k := by
  apply List.ext_getElem?
  intro k
  by_cases hk : (k : Int) < n
  · have e : k = (k : Int).toNat := by omega
    by_cases hki : k = i.toNat
    · subst hki
      rw [List.getElem?_set_self (by rw [List.length_map, pts_len]; omega), map_pts_at _ h0 h]
      simp
    · rw [List.getElem?_set_ne (Ne.symm hki)]
      rw [e, map_pts_at f (by omega) hk, map_pts_at _ (by omega) hk]
      rw [if_neg (by omega)]
  · rw [List.getElem?_eq_none (by rw [List.length_set, List.length_map, pts_len]; omega), List.getElem?_eq_none (by rw [List.length_map, pts_len]; omega)]
theorem atI_pts {α : Type} {n i : Int} (f : Int → α) (h0 : 0 ≤ i) (h : i < n) : atI ((pts 0 n).map f) i = some (f i) := atI_nat h0 (map_pts_at f h0 h)
theorem ixN_pts {α : Type} {n i : Int} (f : Int → α) (h0 : 0 ≤ i) (h : i < n) : ixN ((pts 0 n).map f).length i = some i.toNat := by
  unfold ixN
  rw [List.length_map, pts_len, if_pos h0, if_pos (by omega)]
end K18


set_option Elab.async false
set_option linter.all false
set_option autoImplicit false
set_option maxRecDepth 100000
set_option maxHeartbeats 4000000
namespace K18
open PySem PySem.Spec PyProof.Rows L2 MD
theorem pNe_b (a b : Bool) : pNe (.bool a) (.bool b) = some (.bool (a != b)) := by
  cases a <;> cases b <;> simp [pNe, eqD, SeqAt.shaped, PyData.canLay0, PyData.depth, PyData.eqv]
def ematR (n : Int) (F : Int → Int → Rat) : List (List D) := (pts 0 n).map fun i => (pts 0 n).map fun j => enc (F i j)
theorem emat_set {n i j : Int} (F : Int → Int → Rat) (v : Rat) (hi0 : 0 ≤ i) (hi : i < n) (hj0 : 0 ≤ j) (hj : j < n) : (ematR n F).set i.toNat (((pts 0 n).map fun j => enc (F i j)).set j.toNat (enc v)) = ematR n fun a b => if a = i ∧ b = j then v else F a b := by
  unfold ematR
  rw [map_pts_set _ _ hi0 hi, map_pts_set _ _ hj0 hj]
  refine List.map_congr_left fun a _ => ?_
  by_cases ha : a = i
  · subst ha
    rw [if_pos rfl]
    refine List.map_congr_left fun b _ => ?_
    by_cases hb : b = j <;> simp [hb]
  · rw [if_neg ha]
    refine List.map_congr_left fun b _ => ?_
    simp [ha]
theorem emat_eq (n : Int) (F : Int → Int → Rat) : PyData.list ((ematR n F).map PyData.list) = enc (mat n F) := by
  rw [enc_list]
  unfold ematR mat
  rw [List.map_map, List.map_map]
  congr 1
  refine List.map_congr_left fun i _ => ?_
  simp [enc_list, Function.comp_def]
theorem ematR_congr {n : Int} {F G : Int → Int → Rat} (h : ∀ a b, 0 ≤ a → a < n → 0 ≤ b → b < n → F a b = G a b) : ematR n F = ematR n G := by
  unfold ematR
  refine List.map_congr_left fun a ha => List.map_congr_left fun b hb => ?_
  obtain ⟨h1, h2⟩ := pts_mem.mp ha
  obtain ⟨h3, h4⟩ := pts_mem.mp hb
  rw [h a b h1 h2 h3 h4]
theorem inner_ok {n : Int} (hn : n ≤ 100) {cs : List CW} {c : List Int} {w : Rat} {i : Int} (hi0 : 0 ≤ i) (hi : i < n) (F : Int → Int → Rat) (j6 : Option Cel) (h6 : notX (some j6) = true) (hsz : ∀ a b, Sz 3000 (F a b).num ∧ Sz 3000 ((F a b).den : Int)) (hw : Sz 3000 w.num ∧ Sz 3000 (w.den : Int)) (Q : Out → Rho → Prop)
    (hQ : ∀ j, notX (some j) = true → Q .nx [some (.sh (.int n)), some (.sh (enc cs)), some (.o2 (ematR n fun a b => if a = i then F a b + (if sep c a b then w else 0) else F a b)), some (.sh (enc c)), some (.sh (enc w)), some (.sh (.int i)), j]) :
    WS (forN (gN 6) (sSeq (sIf (mTest (op2 pNe (op2 pIn (mVar 5) (mVar 3)) (op2 pIn (mVar 6) (mVar 3)))) (sSeq (sPutRow 2 5 6 (mVal (MD.bindM (mCons (mIxL (lRow 2 5) (mVar 6)) (mCons (mVar 4) mNil)) (callM m_plus)))) sNil) sNil) sNil) ((pts 0 n).map enc))
      [some (.sh (.int n)), some (.sh (enc cs)), some (.o2 (ematR n F)), some (.sh (enc c)), some (.sh (enc w)), some (.sh (.int i)), j6] Q := by
  refine WS_forN enc (fun done ρ => ∃ j, notX (some j) = true ∧ ρ = [some (.sh (.int n)), some (.sh (enc cs)), some (.o2 (ematR n fun a b => if a = i ∧ b ∈ done then F a b + (if sep c a b then w else 0) else F a b)), some (.sh (enc c)), some (.sh (enc w)), some (.sh (.int i)), j]) ⟨j6, h6, by simp⟩ ?_ ?_
  · rintro done b rest ρ hd ⟨j, hj, rfl⟩
    obtain ⟨q1, q2, q3⟩ := cut_pts hd
    have nd := pts_nodup 0 n
    rw [hd] at nd
    have hbn : b ∉ done := fun h => (List.nodup_append.mp nd).2.2 b h b (by simp) rfl
    refine ⟨_, gN_eq.mpr ⟨by simpa using hj, rfl⟩, ?_⟩
    have e1 := pIn_l i c
    have e2 := pIn_l b c
    rw [enc_int] at e1 e2
    have ep := plus_ok (F i b) w (hsz i b).1 (hsz i b).2 hw.1 hw.2
    generalize hG : (fun a b => if a = i ∧ b ∈ done then F a b + (if sep c a b then w else 0) else F a b) = G
    have g1 : G i b = F i b := by rw [← hG]; simp [hbn]
    have r1 : ixN (ematR n G).length i = some i.toNat := ixN_pts _ hi0 hi
    have r2 : (ematR n G)[i.toNat]? = some ((pts 0 n).map fun j => enc (G i j)) := map_pts_at _ hi0 hi
    have r3 : atI ((pts 0 n).map fun j => enc (G i j)) b = some (enc (F i b)) := by rw [atI_pts _ q1 q2, g1]
    have r4 : ixN ((pts 0 n).map fun j => enc (G i j)).length b = some b.toNat := ixN_pts _ q1 q2
    simp (config := {maxSteps := 4000000}) [and_assoc, enc_list, enc_int, e1, e2, pNe_b, lRow, rowAt, o2At, iVar, r1, r2, r3, r4, enc_rat, ep]
    have sepb : sep c i b = true ↔ ¬ (i ∈ c ↔ b ∈ c) := by unfold sep; by_cases h1 : i ∈ c <;> by_cases h2 : b ∈ c <;> simp [h1, h2]
    by_cases hs : i ∈ c ↔ b ∈ c
    · refine .inl ⟨hs, ?_⟩
      have hf : sep c i b = false := by cases h : sep c i b with | false => rfl | true => exact absurd hs (sepb.mp h)
      rw [← hG]
      congr 1
      funext a b1
      by_cases ha : a = i
      · subst ha
        by_cases hb : b1 = b
        · subst hb; simp [hf, Rat.add_zero]
        · simp [hb]
      · simp [ha]
    · refine .inr ⟨hs, ?_⟩
      have ht : sep c i b = true := sepb.mpr hs
      have r3' : atI (List.map (fun j => encQ (G i j)) (pts 0 n)) b = some (encQ (F i b)) := r3
      have r4' : ixN (pts 0 n).length b = some b.toNat := by rw [List.length_map] at r4; exact r4
      refine ⟨_, r3', _, ⟨_, ep⟩, _, rfl, _, r4', ?_⟩
      have := emat_set G (F i b + w) hi0 hi q1 q2
      refine this.trans ?_
      rw [← hG]
      congr 1
      funext a b1
      by_cases ha : a = i
      · subst ha
        by_cases hb : b1 = b
        · subst hb; simp [ht]
        · simp [hb]
      · simp [ha]
  · rintro ρ ⟨j, hj, rfl⟩
    have q := hQ j hj
    rw [ematR_congr (G := fun a b => if a = i then F a b + (if sep c a b then w else 0) else F a b) fun a b h1 h2 h3 h4 => by simp [pts_mem, h3, h4]]
    exact q
theorem table_ok {n : Int} (h1 : 1 ≤ n) (hn : n ≤ 100) (cs : List CW) (M : Int) (hM : 0 ≤ M) (hM2 : Sz 1000 M) (hw : ∀ p ∈ cs, Q2 M p.2) (hl : cs.length ≤ 100) :
    m_table_of [.sh (.int n), .sh (enc cs)] = some (.ok (.sh (enc (mat n (dist cs)))), [.sh (.int n), .sh (enc cs)]) := by
  refine FM_rt ?_
  refine WS_cut (fun ρ => ρ = [some (.sh (.int n)), some (.sh (enc cs)), some (.o2 (ematR n fun _ _ => 0)), none, none, none, none]) ?_ ?_
  · rw [WS_set]
    refine WM_lc2 enc (pts 0 n) (fun _ => (pts 0 n).map fun _ => enc (0 : Rat)) ?_
    simp (config := {maxSteps := 4000000}) [and_assoc, rng1_pts (hi := n) (by omega) (by omega), pts_len, lim_eq, noOwn, wipeR]
    refine ⟨by omega, fun a ha => ?_, rfl⟩
    refine WM_lcA enc (pts 0 n) (fun _ => enc (0 : Rat)) ?_
    simp (config := {maxSteps := 4000000}) [and_assoc, rng1_pts (hi := n) (by omega) (by omega), pts_len, lim_eq, noOwn, wipeR]
    exact ⟨by omega, fun _ _ => rfl⟩
  rintro _ rfl
  refine WS_cut (fun ρ => ∃ j3 j4 j5 j6, ρ = [some (.sh (.int n)), some (.sh (enc cs)), some (.sh (enc (mat n (dist cs)))), j3, j4, j5, j6]) ?_ ?_
  · simp (config := {maxSteps := 4000000}) [and_assoc, enc_list]
    refine WS_forN enc (fun done ρ => ∃ j3 j4 j5 j6, notX (some j3) = true ∧ notX (some j4) = true ∧ notX (some j5) = true ∧ notX (some j6) = true ∧ ρ = [some (.sh (.int n)), some (.sh (enc cs)), some (.o2 (ematR n (dist done))), j3, j4, j5, j6]) ⟨none, none, none, none, rfl, rfl, rfl, rfl, rfl⟩ ?_ ?_
    · rintro done p rest ρ hd ⟨j3, j4, j5, j6, k3, k4, k5, k6, rfl⟩
      have hp : p ∈ cs := by rw [hd]; simp
      have hdone : ∀ q ∈ done, Q2 M q.2 := fun q hq => hw q (by rw [hd]; simp [hq])
      have hdl : done.length ≤ 100 := by have := congrArg List.length hd; simp at this; omega
      rw [enc_prod]
      simp (config := {maxSteps := 4000000}) [and_assoc, k3, k4, rng1_pts (hi := n) (by omega) (by omega)]
      have szM : Sz 2000 ((100 : Int) * M) := ((Sz.lit (k := 7) (a := 100)).mul hM2).mono (by decide)
      have bnd : (done.length : Int) * M ≤ 100 * M := Int.mul_le_mul_of_nonneg_right (by omega) hM
      have sd : ∀ a b, Sz 3000 (dist done a b).num ∧ Sz 3000 ((dist done a b).den : Int) := fun a b => by
        have := ((dist_q2 hM a b hdone).mono bnd).sz szM (by decide)
        exact ⟨this.1.mono (by decide), this.2.mono (by decide)⟩
      have sw : Sz 3000 p.2.num ∧ Sz 3000 (p.2.den : Int) := by
        have := (hw p hp).sz hM2 (by decide)
        exact ⟨this.1.mono (by decide), this.2.mono (by decide)⟩
      have ss : ∀ a b, Sz 3000 (dist (done ++ [p]) a b).num ∧ Sz 3000 ((dist (done ++ [p]) a b).den : Int) := fun a b => by
        have h1 : ∀ q ∈ done ++ [p], Q2 M q.2 := fun q hq => by
          rcases List.mem_append.mp hq with h | h
          · exact hdone q h
          · rw [List.mem_singleton.mp h]; exact hw p hp
        have b2 : ((done ++ [p]).length : Int) * M ≤ 101 * M := Int.mul_le_mul_of_nonneg_right (by simp; omega) hM
        have szM2 : Sz 2000 ((101 : Int) * M) := ((Sz.lit (k := 7) (a := 101)).mul hM2).mono (by decide)
        have := ((dist_q2 hM a b h1).mono b2).sz szM2 (by decide)
        exact ⟨this.1.mono (by decide), this.2.mono (by decide)⟩
      refine WS_forN enc (fun done1 ρ => ∃ j5 j6, notX (some j5) = true ∧ notX (some j6) = true ∧ ρ = [some (.sh (.int n)), some (.sh (enc cs)), some (.o2 (ematR n fun a b => if a ∈ done1 then dist (done ++ [p]) a b else dist done a b)), some (.sh (enc p.1)), some (.sh (enc p.2)), j5, j6]) ⟨j5, j6, k5, k6, by simp [enc_list]⟩ ?_ ?_
      · rintro done1 i rest1 ρ hd1 ⟨j5, j6, k5, k6, rfl⟩
        obtain ⟨q1, q2, q3⟩ := cut_pts hd1
        have nd := pts_nodup 0 n
        rw [hd1] at nd
        have hin : i ∉ done1 := fun h => (List.nodup_append.mp nd).2.2 i h i (by simp) rfl
        refine ⟨_, gN_eq.mpr ⟨by simpa using k5, rfl⟩, ?_⟩
        simp (config := {maxSteps := 4000000}) [and_assoc, rng1_pts (hi := n) (by omega) (by omega), enc_int]
        refine inner_ok hn (cs := cs) (c := p.1) (w := p.2) q1 q2 _ j6 k6 (fun a b => ?_) sw _ ?_
        · split
          · exact ss a b
          · exact sd a b
        · intro j hj
          refine ⟨some (.sh (.int i)), rfl, j, hj, ?_⟩
          simp only [List.cons.injEq, true_and, and_true, Option.some.injEq, Cel.o2.injEq]
          refine ematR_congr fun a b _ _ _ _ => ?_
          by_cases ha : a = i
          · subst ha
            simp [hin, dist_snoc]
          · simp [ha]
      · rintro ρ ⟨j5, j6, k5, k6, rfl⟩
        rw [ematR_congr (G := dist (done ++ [p])) fun a b h1 h2 h3 h4 => by simp [pts_mem, h1, h2]]
        exact ⟨some (.sh (enc p.1)), rfl, some (.sh (enc p.2)), rfl, j5, k5, j6, k6, rfl⟩
    · rintro ρ ⟨j3, j4, j5, j6, k3, k4, k5, k6, rfl⟩
      simp (config := {maxSteps := 4000000}) [and_assoc, enc_list]
      exact PyData.list.inj (emat_eq n (dist cs))
  rintro _ ⟨j3, j4, j5, j6, rfl⟩
  simp (config := {maxSteps := 4000000}) [and_assoc]
end K18


set_option Elab.async false
set_option linter.all false
set_option autoImplicit false
set_option maxRecDepth 100000
set_option maxHeartbeats 4000000
namespace K18
open PySem PySem.Spec PyProof.Rows L2 MD
/-! crossing -/
def both (c d : List Int) : List Int := c.filter fun x => decide (x ∈ d)
def crossB (c d : List Int) : Bool := !decide (both c d = []) && (decide ((both c d).length < c.length) && decide ((both c d).length < d.length))
theorem do_cross_ok (c d : List Int) (hl : c.length ≤ 1000) : m_do_cross [.sh (enc c), .sh (enc d)] = some (.ok (.sh (.bool (crossB c d))), [.sh (enc c), .sh (enc d)]) := by
  refine FM_rt ?_
  refine WS_cut (fun ρ => ρ = [some (.sh (enc c)), some (.sh (enc d)), some (.sh (enc (both c d))), none]) ?_ ?_
  · rw [WS_fz, WS_set]
    refine WM_lc enc c enc (fun x => decide (x ∈ d)) ?_
    simp (config := {maxSteps := 4000000}) [and_assoc, lim_eq, enc_list, noOwn, wipeR, both]
    refine ⟨by omega, fun a ha => ?_⟩
    have e := pIn_l a d
    simp [e]
    exact (Classical.em _).symm
  rintro _ rfl
  simp (config := {maxSteps := 4000000}) [and_assoc, enc_list, pNe_nil (both c d)]
  unfold crossB
  by_cases h1 : both c d = []
  · simp [h1]
  · by_cases h2 : (both c d).length < c.length
    · simp [h1, h2]
    · simp [h1, h2]; omega
def noCross (cs : List CW) : Prop := ∀ (a b : Nat) (p q : CW), a < b → cs[a]? = some p → cs[b]? = some q → crossB p.1 q.1 = false
theorem first_ok (n : D) (cs : List CW) (hl : cs.length ≤ 100) (hc : ∀ p ∈ cs, p.1.length ≤ 1000) : ∃ r : D, m_first_crossing [.sh n, .sh (enc cs)] = some (.ok (.sh r), [.sh n, .sh (enc cs)]) ∧ ((r = .none ∧ noCross cs) ∨ (∃ i j : Int, r = .tuple [.int i, .int j] ∧ ¬ noCross cs)) := by
  have key : ∃ c0 cs', m_first_crossing [.sh n, .sh (enc cs)] = some (.ok c0, cs') ∧ ∃ r : D, c0 = .sh r ∧ cs' = [.sh n, .sh (enc cs)] ∧ ((r = .none ∧ noCross cs) ∨ (∃ i j : Int, r = .tuple [.int i, .int j] ∧ ¬ noCross cs)) := by
    refine FM_ex ?_
    rw [WS_seq, WS_for]
    simp (config := {maxSteps := 4000000}) [and_assoc, enc_list, rng1_pts (hi := (cs.length : Int)) (by omega) (by omega)]
    refine WS_forN enc (fun done ρ => ∃ j2 j3, notX (some j2) = true ∧ notX (some j3) = true ∧ ρ = [some (.sh n), some (.sh (enc cs)), j2, j3] ∧ ∀ (a b : Nat) (p q : CW), (a : Int) ∈ done → a < b → cs[a]? = some p → cs[b]? = some q → crossB p.1 q.1 = false) ⟨none, none, rfl, rfl, rfl, fun _ _ _ _ z => by cases z⟩ ?_ ?_
    · rintro done i rest ρ hd ⟨j2, j3, k2, k3, rfl, hno⟩
      obtain ⟨q1, q2, q3⟩ := cut_pts hd
      refine ⟨_, gN_eq.mpr ⟨by simpa using k2, rfl⟩, ?_⟩
      simp (config := {maxSteps := 4000000}) [and_assoc, enc_list, enc_int, rng2_pts (lo := i + 1) (hi := (cs.length : Int)) (by omega) (by omega) (by omega) (by omega)]
      refine WS_forN enc (fun done1 ρ => ∃ j3, notX (some j3) = true ∧ ρ = [some (.sh n), some (.sh (enc cs)), some (.sh (.int i)), j3] ∧ ∀ (b : Nat) (p q : CW), (b : Int) ∈ done1 → cs[i.toNat]? = some p → cs[b]? = some q → crossB p.1 q.1 = false) ⟨j3, k3, by simp [enc_list], fun _ _ _ z => by cases z⟩ ?_ ?_
      · rintro done1 j rest1 ρ hd1 ⟨j3, k3, rfl, hno1⟩
        obtain ⟨r1, r2, r3⟩ := cut_pts hd1
        refine ⟨_, gN_eq.mpr ⟨by simpa using k3, rfl⟩, ?_⟩
        have hi : cs[i.toNat]? = some cs[i.toNat] := List.getElem?_eq_getElem (by omega)
        have hj : cs[j.toNat]? = some cs[j.toNat] := List.getElem?_eq_getElem (by omega)
        have e1 : atI (cs.map enc) i = some (enc cs[i.toNat]) := by rw [atI_map, atI_nat q1 hi]; rfl
        have e2 : atI (cs.map enc) j = some (enc cs[j.toNat]) := by rw [atI_map, atI_nat (by omega) hj]; rfl
        have ed := do_cross_ok cs[i.toNat].1 cs[j.toNat].1 (hc _ (List.getElem_mem ..))
        simp (config := {maxSteps := 4000000}) [and_assoc, enc_list, enc_int, e1, e2, enc_prod, lim_eq]
        rw [enc_list, enc_list] at ed
        refine ⟨_, ⟨_, ed⟩, _, rfl, ?_⟩
        cases hcr : crossB cs[i.toNat].1 cs[j.toNat].1 with
        | false =>
          refine .inl ⟨rfl, some (.sh (.int j)), rfl, rfl, fun b c w c' w' hb hp hq => ?_⟩
          rw [hi] at hp
          rcases hb with hb | hb
          · exact hno1 b (c, w) (c', w') hb (by rw [hi]; exact hp) hq
          · have : b = j.toNat := by omega
            subst this
            rw [hj] at hq
            have h1 := Option.some.inj hp
            have h2 := Option.some.inj hq
            rw [h1, h2] at hcr
            exact hcr
        | true =>
          refine .inr ⟨rfl, fun h => ?_⟩
          have := h i.toNat j.toNat _ _ (by omega) hi hj
          rw [hcr] at this
          cases this
      · rintro ρ ⟨j3, k3, rfl, hno1⟩
        refine ⟨some (.sh (.int i)), rfl, j3, k3, rfl, fun a b c w c' w' ha hab hp hq => ?_⟩
        rcases ha with h | h
        · exact hno a b (c, w) (c', w') h hab hp hq
        · have h : (a : Int) = i := h
          have : a = i.toNat := by omega
          subst this
          have hb : b < cs.length := (List.getElem?_eq_some_iff.mp hq).1
          exact hno1 b (c, w) (c', w') (pts_mem.mpr ⟨by omega, by omega⟩) hp hq
    · rintro ρ ⟨j2, j3, k2, k3, rfl, hno⟩
      simp (config := {maxSteps := 4000000}) [and_assoc, enc_list]
      refine fun a b p q hab hp hq => hno a b p q (pts_mem.mpr ⟨by omega, ?_⟩) hab hp hq
      have := (List.getElem?_eq_some_iff.mp hp).1
      omega
  obtain ⟨c0, cs', e, r, rfl, rfl, h⟩ := key
  exact ⟨r, e, h⟩
end K18


set_option Elab.async false
set_option linter.all false
set_option autoImplicit false
set_option maxRecDepth 100000
set_option maxHeartbeats 4000000
namespace K18
open PySem PySem.Spec PyProof.Rows L2 MD
theorem dist_perm {xs ys : List CW} (h : xs.Perm ys) (i j : Int) : dist xs i j = dist ys i j := by
  induction h with
  | nil => rfl
  | cons p _ ih => simp [dist, ih]
  | swap p q r => simp only [dist]; grind
  | trans _ _ ih1 ih2 => exact ih1.trans ih2
structure Merged (M : Int) (xs out : List CW) : Prop where
  d : ∀ i j, dist out i j = dist xs i j
  sub : ∀ p ∈ out, ∃ q ∈ xs, p.1 = q.1
  sup : ∀ q ∈ xs, ∃ p ∈ out, p.1 = q.1
  len : out.length ≤ xs.length
  wt : ∀ p ∈ out, Q2 (xs.length * M) p.2
theorem merged_ok (xs : List CW) (hl : xs.length ≤ 100) (M : Int) (hM : 0 ≤ M) (hM2 : Sz 1000 M) (hw : ∀ p ∈ xs, Q2 M p.2) : ∃ out, Merged M xs out ∧ m__law_merged [.sh (enc xs)] = some (.ok (.sh (enc out)), [.sh (enc xs)]) := by
  have key : ∃ c0 cs', m__law_merged [.sh (enc xs)] = some (.ok c0, cs') ∧ ∃ out : List CW, Merged M (srtE xs) out ∧ c0 = .sh (enc out) ∧ cs' = [.sh (enc xs)] := by
    refine FM_ex ?_
    have es := pSorted_l xs (by rw [lim_eq]; omega) (.inl fun a => rfl)
    have pm := srtE_perm xs
    simp (config := {maxSteps := 4000000}) [and_assoc, lim_eq, enc_list, onList, es]
    refine WS_forN (fun p : CW => enc p) (fun done ρ => ∃ (out : List CW) (j1 j2 : Option Cel), notX (some j1) = true ∧ notX (some j2) = true ∧ Merged M done out ∧ ρ = [some (.sh (.list (xs.map enc))), some (.o1 (out.map enc)), j1, j2]) ⟨[], none, none, rfl, rfl, ⟨fun _ _ => rfl, by simp, by simp, by simp, by simp⟩, rfl⟩ ?_ ?_
    · rintro done a rest ρ hd ⟨out, j1, j2, hj1, hj2, hm, rfl⟩
      have hdl : done.length < 100 := by have := congrArg List.length hd; simp [pm.length_eq] at this; omega
      have ha : a ∈ xs := pm.mem_iff.mp (by rw [hd]; simp)
      have hlen := hm.len
      have qa : Q2 (((done ++ [a]).length : Int) * M) a.2 := (hw a ha).mono (by
        have : (1 : Int) * M ≤ ((done ++ [a]).length : Int) * M := Int.mul_le_mul_of_nonneg_right (by simp; omega) hM
        omega)
      have qo : ∀ p ∈ out, Q2 (((done ++ [a]).length : Int) * M) p.2 := fun p hp => (hm.wt p hp).mono (Int.mul_le_mul_of_nonneg_right (by simp; omega) hM)
      rw [enc_prod]
      have new : Merged M (done ++ [a]) (out ++ [a]) := by
        refine ⟨fun i j => by rw [dist_append, dist_append, hm.d], fun p hp => ?_, fun q hq => ?_, by simp; omega, fun p hp => ?_⟩
        · rcases List.mem_append.mp hp with h | h
          · obtain ⟨q, h1, h2⟩ := hm.sub p h; exact ⟨q, by simp [h1], h2⟩
          · exact ⟨a, by simp, by rw [List.mem_singleton.mp h]⟩
        · rcases List.mem_append.mp hq with h | h
          · obtain ⟨p, h1, h2⟩ := hm.sup q h; exact ⟨p, by simp [h1], h2⟩
          · exact ⟨a, by simp, by rw [List.mem_singleton.mp h]⟩
        · rcases List.mem_append.mp hp with h | h
          · exact qo p h
          · rw [List.mem_singleton.mp h]; exact qa
      simp (config := {maxSteps := 4000000}) [and_assoc, hj1, hj2, bl2_nilNe out, wAppend_iff, lim_eq]
      by_cases ho : out = []
      · refine .inl ⟨ho, by omega, out ++ [a], some (.sh (enc a.1)), rfl, some (.sh (enc a.2)), rfl, new, by rw [List.map_append]; rfl, rfl, rfl⟩
      · refine .inr ⟨ho, ?_⟩
        obtain ⟨init, p, rfl⟩ : ∃ init p, out = init ++ [p] := ⟨out.dropLast, out.getLast ho, (List.dropLast_concat_getLast ho).symm⟩
        refine ⟨_, atI_last init p, _, rfl, _, pEq_enc p.1 a.1, ?_⟩
        by_cases he : p.1 = a.1
        · refine .inr ⟨by simp [he], ?_⟩
          have sz : ∀ {q : Rat}, Q2 (((done ++ [a]).length : Int) * M) q → Sz 3000 q.num ∧ Sz 3000 (q.den : Int) := fun h => by
            have szM : Sz 2000 ((100 : Int) * M) := ((Sz.lit (k := 7) (a := 100)).mul hM2).mono (by decide)
            have := (h.mono (C := 100 * M) (Int.mul_le_mul_of_nonneg_right (by simp; omega) hM)).sz szM (by decide)
            exact ⟨this.1.mono (by decide), this.2.mono (by decide)⟩
          have s1 := sz (qo p (by simp))
          have s2 := sz qa
          have ep := plus_ok p.2 a.2 s1.1 s1.2 s2.1 s2.2
          have hix : ixN (init ++ [p]).length (-1) = some init.length := by
            unfold ixN
            simp
            omega
          have hset : (List.map enc (init ++ [p])).set init.length (PyData.tuple [enc a.1, enc (p.2 + a.2)]) = List.map enc (init ++ [((a.1, p.2 + a.2) : CW)]) := by
            rw [List.map_append, List.map_append, List.set_append_right _ _ (by simp)]
            simp [enc_pair]
          refine ⟨_, atI_last init p, _, atI_1 _ _ _, _, ⟨_, ep⟩, _, rfl, _, hix, init ++ [(a.1, p.2 + a.2)], some (.sh (enc a.1)), rfl, some (.sh (enc a.2)), rfl, ?_, hset, rfl, rfl⟩
          refine ⟨fun i j => ?_, fun q hq => ?_, fun q hq => ?_, ?_, fun q hq => ?_⟩
          rotate_left 3
          · simp at hlen ⊢; omega
          rotate_left 1
          · have h1 := hm.d i j
            rw [dist_append] at h1
            rw [dist_append, dist_append, ← h1]
            simp only [dist, he]
            split <;> grind
          · rcases List.mem_append.mp hq with h | h
            · obtain ⟨q', h1, h2⟩ := hm.sub q (by simp [h]); exact ⟨q', by simp [h1], h2⟩
            · exact ⟨a, by simp, by rw [List.mem_singleton.mp h]⟩
          · rcases List.mem_append.mp hq with h | h
            · obtain ⟨p', h1, h2⟩ := hm.sup q h
              rcases List.mem_append.mp h1 with h3 | h3
              · exact ⟨p', by simp [h3], h2⟩
              · exact ⟨(a.1, p.2 + a.2), by simp, by rw [← h2, List.mem_singleton.mp h3, he]⟩
            · exact ⟨(a.1, p.2 + a.2), by simp, by rw [List.mem_singleton.mp h]⟩
          · rcases List.mem_append.mp hq with h | h
            · exact qo q (by simp [h])
            · rw [List.mem_singleton.mp h]
              have e : (((done ++ [a]).length : Int) * M) = done.length * M + M := by simp [Int.add_mul]
              rw [e]
              exact (hm.wt p (by simp)).add (hw a ha)
        · refine .inl ⟨by simp [he], by omega, init ++ [p] ++ [a], some (.sh (enc a.1)), rfl, some (.sh (enc a.2)), rfl, new, by rw [List.map_append (l₁ := init ++ [p])]; rfl, rfl, rfl⟩
    · rintro ρ ⟨out, j1, j2, hj1, hj2, hm, rfl⟩
      simp (config := {maxSteps := 4000000}) [and_assoc]
      exact ⟨out, hm, rfl⟩
  obtain ⟨c0, cs', e, out, h, rfl, rfl⟩ := key
  have pm := srtE_perm xs
  exact ⟨out, ⟨fun i j => (h.d i j).trans (dist_perm pm i j), fun p hp => by obtain ⟨q, h1, h2⟩ := h.sub p hp; exact ⟨q, pm.mem_iff.mp h1, h2⟩, fun q hq => h.sup q (pm.mem_iff.mpr hq), by rw [← pm.length_eq]; exact h.len, by rw [← pm.length_eq]; exact h.wt⟩, e⟩
end K18


set_option Elab.async false
set_option linter.all false
set_option autoImplicit false
set_option maxRecDepth 100000
set_option maxHeartbeats 4000000
namespace K18
open PySem PySem.Spec PyProof.Rows L2 MD
def row (n : Int) (F : Int → Int → Rat) (i : Int) : List Rat := (pts 0 n).map fun j => F i j
theorem mat_enc (n : Int) (F : Int → Int → Rat) : (mat n F).map enc = (pts 0 n).map fun i => enc (row n F i) := by unfold mat row; rw [List.map_map]; rfl
theorem mat_len (n : Int) (F : Int → Int → Rat) : (mat n F).length = n.toNat := by simp [mat, pts_len]
theorem mat_at {n i : Int} (F : Int → Int → Rat) (h0 : 0 ≤ i) (h : i < n) : atI ((mat n F).map enc) i = some (enc (row n F i)) := by rw [mat_enc]; exact atI_pts _ h0 h
theorem row_at {n i j : Int} (F : Int → Int → Rat) (h0 : 0 ≤ j) (h : j < n) : atI ((row n F i).map enc) j = some (enc (F i j)) := by
  unfold row
  rw [List.map_map]
  exact atI_pts _ h0 h
def there (more to : Int) : List Int := (pts 0 more).filter fun x => decide (x ≠ to)
def top (many more at_ to : Int) (FA FB : Int → Int → Rat) (i : Int) : List Rat := row many FA i ++ (there more to).map fun q => FA i at_ + FB q to
def low (many more at_ to : Int) (FA FB : Int → Int → Rat) (p : Int) : List Rat := ((pts 0 many).map fun i => FA i at_ + FB p to) ++ (there more to).map fun q => FB p q
def hungL (many more at_ to : Int) (FA FB : Int → Int → Rat) : List (List Rat) := (pts 0 many).map (top many more at_ to FA FB) ++ (there more to).map (low many more at_ to FA FB)
theorem there_mem {more to x : Int} : x ∈ there more to ↔ 0 ≤ x ∧ x < more ∧ x ≠ to := by
  unfold there
  simp [pts_mem, and_assoc]
theorem there_len {more to : Int} : (there more to).length ≤ more.toNat := by
  unfold there
  exact Nat.le_trans (List.length_filter_le _ _) (by rw [pts_len]; omega)
theorem hung_ok {many more at_ to : Int} (hm : many ≤ 50) (hm2 : more ≤ 50) (ha0 : 0 ≤ at_) (ha : at_ < many) (ht0 : 0 ≤ to) (ht : to < more) (FA FB : Int → Int → Rat) (sA : ∀ a b, Sz 3000 (FA a b).num ∧ Sz 3000 ((FA a b).den : Int)) (sB : ∀ a b, Sz 3000 (FB a b).num ∧ Sz 3000 ((FB a b).den : Int)) :
    m_hung_together [.sh (enc (mat many FA)), .sh (.int at_), .sh (enc (mat more FB)), .sh (.int to)] = some (.ok (.sh (enc (hungL many more at_ to FA FB))), [.sh (enc (mat many FA)), .sh (.int at_), .sh (enc (mat more FB)), .sh (.int to)]) := by
  have sum_ok : ∀ i p, m_plus [.sh (enc (FA i at_)), .sh (enc (FB p to))] = some (.ok (.sh (enc (FA i at_ + FB p to))), [.sh (enc (FA i at_)), .sh (enc (FB p to))]) := fun i p => plus_ok _ _ (sA i at_).1 (sA i at_).2 (sB p to).1 (sB p to).2
  refine FM_rt ?_
  refine WS_cut (fun ρ => ρ = [some (.sh (enc (mat many FA))), some (.sh (.int at_)), some (.sh (enc (mat more FB))), some (.sh (.int to)), none, none, none, none, none, none]) ?_ ?_
  · simp (config := {maxSteps := 4000000}) [and_assoc, enc_list, mat_len]
    omega
  rintro _ rfl
  refine WS_cut (fun ρ => ρ = [some (.sh (enc (mat many FA))), some (.sh (.int at_)), some (.sh (enc (mat more FB))), some (.sh (.int to)), some (.sh (enc (there more to))), none, none, none, none, none]) ?_ ?_
  · rw [WS_fz, WS_set]
    refine WM_lc enc (pts 0 more) enc (fun x => decide (x ≠ to)) ?_
    simp (config := {maxSteps := 4000000}) [and_assoc, enc_list, mat_len, rng1_pts (hi := more) (by omega) (by omega), noOwn, wipeR, lim_eq, pts_len, enc_int, show (more.toNat : Int) = more by omega, there]
    exact ⟨by omega, fun a _ => Classical.em _⟩
  rintro _ rfl
  refine WS_cut (fun ρ => ρ = [some (.sh (enc (mat many FA))), some (.sh (.int at_)), some (.sh (enc (mat more FB))), some (.sh (.int to)), some (.sh (enc (there more to))), some (.o1 []), none, none, none, none]) ?_ ?_
  · simp (config := {maxSteps := 4000000}) [and_assoc, lim_eq]
  rintro _ rfl
  have tl := there_len (more := more) (to := to)
  refine WS_cut (fun ρ => ∃ j6, notX (some j6) = true ∧ noOwn [none, none, none, none, none, none, j6] [6] = true ∧ ρ = [some (.sh (enc (mat many FA))), some (.sh (.int at_)), some (.sh (enc (mat more FB))), some (.sh (.int to)), some (.sh (enc (there more to))), some (.o1 (((pts 0 many).map (top many more at_ to FA FB)).map enc)), j6, none, none, none]) ?_ ?_
  · rw [WS_for]
    simp (config := {maxSteps := 4000000}) [and_assoc, enc_list]
    rw [mat_enc]
    refine WS_forN (fun i => enc (row many FA i)) (fun done ρ => ∃ j6, notX (some j6) = true ∧ noOwn [none, none, none, none, none, none, j6] [6] = true ∧ ρ = [some (.sh (enc (mat many FA))), some (.sh (.int at_)), some (.sh (enc (mat more FB))), some (.sh (.int to)), some (.sh (enc (there more to))), some (.o1 ((done.map (top many more at_ to FA FB)).map enc)), j6, none, none, none]) ⟨none, rfl, rfl, by simp [enc_list, mat_enc]⟩ ?_ ?_
    · rintro done i rest ρ hd ⟨j6, k6, k7, rfl⟩
      obtain ⟨q1, q2, q3⟩ := cut_pts hd
      refine ⟨_, gN_eq.mpr ⟨by simpa using k6, rfl⟩, ?_⟩
      simp (config := {maxSteps := 4000000}) [and_assoc, enc_list]
      refine WM_lcA enc (there more to) (fun q => enc (FA i at_ + FB q to)) ?_
      simp (config := {maxSteps := 4000000}) [and_assoc, enc_list, noOwn, wipeR, lim_eq, enc_int, row_at FA ha0 ha]
      refine ⟨by omega, fun p hp => ?_, ?_⟩
      · obtain ⟨p1, p2, p3⟩ := there_mem.mp hp
        exact ⟨_, mat_at FB p1 p2, _, row_at FB ht0 ht, _, ⟨_, sum_ok i p⟩, rfl⟩
      · refine ⟨_, pAdd_l _ _ (by rw [lim_eq]; simp [row, pts_len]; omega), ?_⟩
        simp (config := {maxSteps := 4000000}) [and_assoc, wAppend_iff, lim_eq]
        refine ⟨by omega, some (.sh (enc (row many FA i))), rfl, rfl, ?_, rfl⟩
        unfold top
        rw [List.map_append, List.map_map]
        rfl
    · rintro ρ ⟨j6, k6, k7, rfl⟩
      refine ⟨rfl, j6, k6, k7, ?_⟩
      simp [enc_list, mat_enc]
  rintro _ ⟨j6, k6, k7, rfl⟩
  refine WS_cut (fun ρ => ∃ j7 j8, ρ = [some (.sh (enc (mat many FA))), some (.sh (.int at_)), some (.sh (enc (mat more FB))), some (.sh (.int to)), some (.sh (enc (there more to))), some (.sh (enc (hungL many more at_ to FA FB))), j6, j7, j8, none]) ?_ ?_
  · rw [WS_fz, WS_for]
    simp (config := {maxSteps := 4000000}) [and_assoc, enc_list]
    refine WS_forN enc (fun done ρ => ∃ j7 j8, notX (some j7) = true ∧ notX (some j8) = true ∧ ρ = [some (.sh (enc (mat many FA))), some (.sh (.int at_)), some (.sh (enc (mat more FB))), some (.sh (.int to)), some (.sh (enc (there more to))), some (.o1 (((pts 0 many).map (top many more at_ to FA FB) ++ done.map (low many more at_ to FA FB)).map enc)), j6, j7, j8, none]) ⟨none, none, rfl, rfl, by simp [enc_list]⟩ ?_ ?_
    · rintro done p rest ρ hd ⟨j7, j8, k8, k9, rfl⟩
      have hp : p ∈ there more to := by rw [hd]; simp
      obtain ⟨p1, p2, p3⟩ := there_mem.mp hp
      have hdl : done.length ≤ 50 := by have := congrArg List.length hd; simp at this; omega
      refine ⟨_, gN_eq.mpr ⟨by simpa using k8, rfl⟩, ?_⟩
      simp only [List.set_cons_succ, List.set_cons_zero]
      refine WS_cut (fun ρ => ρ = [some (.sh (enc (mat many FA))), some (.sh (.int at_)), some (.sh (enc (mat more FB))), some (.sh (.int to)), some (.sh (enc (there more to))), some (.o1 (((pts 0 many).map (top many more at_ to FA FB) ++ done.map (low many more at_ to FA FB)).map enc)), j6, some (.sh (enc p)), some (.sh (enc ((pts 0 many).map fun i => FA i at_ + FB p to))), none]) ?_ ?_
      · rw [WS_fz, WS_set]
        refine WM_lcA (fun i => enc (row many FA i)) (pts 0 many) (fun i => enc (FA i at_ + FB p to)) ?_
        simp (config := {maxSteps := 4000000}) [and_assoc, enc_list, wipeR, lim_eq, mat_enc, pts_len, enc_int]
        refine ⟨by omega, by simpa [noOwn] using k7, fun i hi => ?_, ?_⟩
        · exact ⟨_, row_at FA ha0 ha, _, atI_pts _ p1 p2, _, row_at FB ht0 ht, _, ⟨_, sum_ok i p⟩, rfl⟩
        · simp [k9, enc_list, Function.comp_def]
      rintro _ rfl
      simp (config := {maxSteps := 4000000}) [and_assoc, enc_list]
      refine WM_lcA enc (there more to) (fun q => enc (FB p q)) ?_
      simp (config := {maxSteps := 4000000}) [and_assoc, enc_list, noOwn, wipeR, lim_eq, enc_int]
      refine ⟨by omega, fun q hq => ?_, ?_⟩
      · obtain ⟨r1, r2, r3⟩ := there_mem.mp hq
        exact ⟨_, mat_at FB p1 p2, row_at FB r1 r2⟩
      · refine ⟨_, pAdd_l _ _ (by rw [lim_eq]; simp [pts_len]; omega), ?_⟩
        simp (config := {maxSteps := 4000000}) [and_assoc, wAppend_iff, lim_eq, pts_len]
        refine ⟨by omega, some (.sh (.int p)), rfl, some (.sh (enc ((pts 0 many).map fun i => FA i at_ + FB p to))), rfl, ?_, rfl, ?_⟩
        · unfold low
          rw [List.map_append, List.map_map, List.map_map]
          rfl
        · rw [enc_list, List.map_map]
    · rintro ρ ⟨j7, j8, k8, k9, rfl⟩
      simp (config := {maxSteps := 4000000}) [and_assoc, enc_list, hungL]
  rintro _ ⟨j7, j8, rfl⟩
  simp (config := {maxSteps := 4000000}) [and_assoc]
end K18


set_option Elab.async false
set_option linter.all false
set_option autoImplicit false
set_option maxRecDepth 100000
set_option maxHeartbeats 4000000
namespace K18
open PySem PySem.Spec PyProof.Rows L2 MD
def place (many at_ to k : Int) : Int := if k = to then at_ else many + k - (if to < k then 1 else 0)
def side1 (many more at_ to : Int) (c : List Int) : List Int := c ++ ((pts 0 more).filter fun k => decide (k ≠ to) && decide (at_ ∈ c)).map (place many at_ to)
def side2 (many at_ to : Int) (c : List Int) : List Int := c.map (place many at_ to) ++ (pts 0 many).filter fun x => decide (x ≠ at_) && decide (to ∈ c)
theorem mem_side1 {many more at_ to : Int} (ht0 : 0 ≤ to) (ht : to < more) {c : List Int} (hc : GoodC many c) {x : Int} : x ∈ side1 many more at_ to c ↔ x ∈ c ∨ (at_ ∈ c ∧ many ≤ x ∧ x < many + more - 1) := by
  unfold side1
  rw [List.mem_append, List.mem_map]
  constructor
  · rintro (h | ⟨k, hk, rfl⟩)
    · exact .inl h
    · simp [pts_mem] at hk
      obtain ⟨⟨h1, h2⟩, h3, h4⟩ := hk
      refine .inr ⟨h4, ?_⟩
      unfold place
      rw [if_neg h3]
      split <;> omega
  · rintro (h | ⟨h1, h2, h3⟩)
    · exact .inl h
    · by_cases h : to < x - many + 1
      · refine .inr ⟨x - many + 1, by simp [pts_mem, h1]; omega, ?_⟩
        unfold place
        rw [if_neg (by omega), if_pos h]; omega
      · refine .inr ⟨x - many, by simp [pts_mem, h1]; omega, ?_⟩
        unfold place
        rw [if_neg (by omega), if_neg (by omega)]; omega
/-- a point's place among the first ones, among the others -/
def pr1 (many at_ x : Int) : Int := if x < many then x else at_
def pr2 (many to x : Int) : Int := if x < many then to else if x - many < to then x - many else x - many + 1
theorem sep_side1 {many more at_ to : Int} (ht0 : 0 ≤ to) (ht : to < more) {c : List Int} (hc : GoodC many c) {x : Int} (hx : 0 ≤ x) (hx2 : x < many + more - 1) : x ∈ side1 many more at_ to c ↔ pr1 many at_ x ∈ c := by
  rw [mem_side1 ht0 ht hc]
  unfold pr1
  split
  · constructor
    · rintro (h | h)
      · exact h
      · omega
    · exact .inl
  · constructor
    · rintro (h | h)
      · have := hc.rg x h; omega
      · exact h.1
    · exact fun h => .inr ⟨h, by omega, hx2⟩
theorem sep_side2 {many more at_ to : Int} (ha0 : 0 ≤ at_) (ha : at_ < many) (ht0 : 0 ≤ to) {c : List Int} (hc : GoodC more c) {x : Int} (hx : 0 ≤ x) : x ∈ side2 many at_ to c ↔ pr2 many to x ∈ c := by
  unfold side2
  rw [List.mem_append, List.mem_map]
  simp only [List.mem_filter, pts_mem, Bool.and_eq_true, decide_eq_true_eq]
  constructor
  · rintro (⟨k, hk, rfl⟩ | ⟨⟨h1, h2⟩, h3, h4⟩)
    · have := hc.rg k hk
      unfold place pr2
      by_cases e : k = to
      · rw [if_pos e, if_pos ha, ← e]; exact hk
      · rw [if_neg e]
        split
        · rename_i h
          rw [if_neg (by omega), if_neg (by omega)]
          have : many + k - 1 - many + 1 = k := by omega
          rw [this]; exact hk
        · rw [if_neg (by omega), if_pos (by omega)]
          have : many + k - 0 - many = k := by omega
          rw [this]; exact hk
    · unfold pr2
      rw [if_pos h2]
      exact h4
  · unfold pr2
    split
    · intro h
      by_cases e : x = at_
      · exact .inl ⟨to, h, by unfold place; rw [if_pos rfl, e]⟩
      · exact .inr ⟨⟨hx, by assumption⟩, e, h⟩
    · split
      · exact fun h => .inl ⟨_, h, by unfold place; rw [if_neg (by omega), if_neg (by omega)]; omega⟩
      · exact fun h => .inl ⟨_, h, by unfold place; rw [if_neg (by omega), if_pos (by omega)]; omega⟩
def part1 (many more at_ to : Int) (p : CW) : CW := (cutOf (many + more - 1) (side1 many more at_ to p.1), p.2)
def part2 (many more at_ to : Int) (p : CW) : CW := (cutOf (many + more - 1) (side2 many at_ to p.1), p.2)
theorem rg_side1 {many more at_ to : Int} (hm : 1 ≤ more) (ht0 : 0 ≤ to) (ht : to < more) {c : List Int} (hc : GoodC many c) : ∀ x ∈ side1 many more at_ to c, 0 ≤ x ∧ x < many + more - 1 := fun x h => by
  rcases (mem_side1 ht0 ht hc).mp h with h | h
  · have := hc.rg x h; omega
  · have : ∃ y, y ∈ c := by cases hcc : c with | nil => exact absurd hcc hc.ne | cons y _ => exact ⟨y, by simp⟩
    obtain ⟨y, hy⟩ := this
    have := hc.rg y hy
    omega
theorem rg_side2 {many more at_ to : Int} (hm : 1 ≤ more) (ha0 : 0 ≤ at_) (ha : at_ < many) (ht0 : 0 ≤ to) (ht : to < more) {c : List Int} (hc : GoodC more c) : ∀ x ∈ side2 many at_ to c, 0 ≤ x ∧ x < many + more - 1 := fun x h => by
  unfold side2 at h
  rw [List.mem_append, List.mem_map] at h
  rcases h with ⟨k, hk, rfl⟩ | h
  · have := hc.rg k hk
    unfold place
    split
    · omega
    · split <;> omega
  · simp [pts_mem] at h
    omega
theorem len_good {n : Int} {c : List Int} (hc : GoodC n c) : c.length ≤ n.toNat := by
  have := len_sub (m := pts 0 n) hc.nd fun x hx => pts_mem.mpr (by have := hc.rg x hx; omega)
  rw [pts_len] at this
  simpa using this
theorem cut1_ok {many more at_ to : Int} (h1 : 1 ≤ many) (h10 : many ≤ 10) (hm : 1 ≤ more) (hm10 : more ≤ 10) (ht0 : 0 ≤ to) (ht : to < more) {c : List Int} (hc : GoodC many c) :
    m_cut_of [.sh (.int (many + more - 1)), .sh (enc (side1 many more at_ to c))] = some (.ok (.sh (enc (cutOf (many + more - 1) (side1 many more at_ to c)))), [.sh (.int (many + more - 1)), .sh (enc (side1 many more at_ to c))]) := by
  obtain ⟨y, hy⟩ : ∃ y, y ∈ c := by cases hcc : c with | nil => exact absurd hcc hc.ne | cons y _ => exact ⟨y, by simp⟩
  have hl := len_good hc
  refine cut_of_ok _ _ (by omega) (rg_side1 hm ht0 ht hc) ?_ y 0 ((mem_side1 ht0 ht hc).mpr (.inl hy)) (by omega) (by omega) fun h => ?_
  · unfold side1
    have := List.length_filter_le (fun k => decide (k ≠ to) && decide (at_ ∈ c)) (pts 0 more)
    rw [pts_len] at this
    rw [List.length_append, List.length_map]
    omega
  · rcases (mem_side1 ht0 ht hc).mp h with h | h
    · have := hc.rg 0 h; omega
    · omega
theorem cut2_ok {many more at_ to : Int} (h1 : 1 ≤ many) (h10 : many ≤ 10) (hm : 1 ≤ more) (hm10 : more ≤ 10) (ha0 : 0 ≤ at_) (ha : at_ < many) (ht0 : 0 ≤ to) (ht : to < more) {c : List Int} (hc : GoodC more c) :
    m_cut_of [.sh (.int (many + more - 1)), .sh (enc (side2 many at_ to c))] = some (.ok (.sh (enc (cutOf (many + more - 1) (side2 many at_ to c)))), [.sh (.int (many + more - 1)), .sh (enc (side2 many at_ to c))]) := by
  obtain ⟨y, hy⟩ : ∃ y, y ∈ c := by cases hcc : c with | nil => exact absurd hcc hc.ne | cons y _ => exact ⟨y, by simp⟩
  have hl := len_good hc
  have hyr := hc.rg y hy
  refine cut_of_ok _ _ (by omega) (rg_side2 hm ha0 ha ht0 ht hc) ?_ (place many at_ to y) (place many at_ to 0) ?_ ?_ ?_ ?_
  · unfold side2
    have := List.length_filter_le (fun x => decide (x ≠ at_) && decide (to ∈ c)) (pts 0 many)
    rw [pts_len] at this
    rw [List.length_append, List.length_map]
    omega
  · exact List.mem_append_left _ (List.mem_map.mpr ⟨y, hy, rfl⟩)
  · unfold place; split
    · omega
    · split <;> omega
  · unfold place; split
    · omega
    · split <;> omega
  · intro h
    have h2 := (sep_side2 ha0 ha ht0 hc (by unfold place; split; omega; split <;> omega)).mp h
    have : pr2 many to (place many at_ to 0) = 0 := by
      by_cases e : (0 : Int) = to
      · unfold place pr2
        rw [if_pos e, if_pos ha]; omega
      · unfold place pr2
        rw [if_neg e, if_neg (by omega : ¬ to < 0), if_neg (by omega), if_pos (by omega)]; omega
    rw [this] at h2
    have := hc.rg 0 h2
    omega
end K18


set_option Elab.async false
set_option linter.all false
set_option autoImplicit false
set_option maxRecDepth 100000
set_option maxHeartbeats 4000000
namespace K18
open PySem PySem.Spec PyProof.Rows L2 MD
theorem enum_pts (g : Int → D) : ∀ (m s : Nat), enumD (s : Int) ((List.range' s m).map fun k => g (k : Nat)) = (List.range' s m).map fun k => .tuple [.int (k : Nat), g (k : Nat)]
  | 0, s => rfl
  | m + 1, s => by
    rw [List.range'_succ, List.map_cons, List.map_cons]
    show PyData.tuple [.int (s : Int), g s] :: enumD ((s : Int) + 1) _ = _
    have := enum_pts g m (s + 1)
    rw [show ((s + 1 : Nat) : Int) = (s : Int) + 1 by omega] at this
    rw [this]
theorem enum_pts0 (n : Int) (g : Int → D) : enumD 0 ((pts 0 n).map g) = (pts 0 n).map fun k => .tuple [.int k, g k] := by
  unfold pts
  rw [List.map_map, List.map_map, List.range_eq_range']
  have := enum_pts g (n - 0).toNat 0
  have e1 : (g ∘ fun k : Nat => (0 : Int) + (k : Nat)) = fun k : Nat => g (k : Nat) := by funext k; simp
  have e2 : ((fun k : Int => PyData.tuple [.int k, g k]) ∘ fun k : Nat => (0 : Int) + (k : Nat)) = fun k : Nat => PyData.tuple [.int (k : Nat), g (k : Nat)] := by funext k; simp
  rw [e1, e2]
  exact this
theorem places_eq (many more at_ to : Int) (ht0 : 0 ≤ to) (ht : to < more) : ((pts 0 more).map fun k => enc (many + k - (if to < k then 1 else 0))).set to.toNat (.int at_) = ((pts 0 more).map (place many at_ to)).map enc := by
  rw [show PyData.int at_ = enc at_ from rfl, map_pts_set _ _ ht0 ht, List.map_map]
  refine List.map_congr_left fun k _ => ?_
  show _ = enc (place many at_ to k)
  unfold place
  by_cases h : k = to
  · rw [if_pos h, if_pos h]
  · rw [if_neg h, if_neg h]
theorem cut_front (xs ys : List D) : MD.cutD (xs ++ ys) none (some (xs.length : Nat)) = xs := by
  unfold MD.cutD
  rw [HT.sIx_nat, HT.sIx_none]
  simp
theorem cut_back (xs ys : List D) : MD.cutD (xs ++ ys) (some (xs.length : Nat)) none = ys := by
  unfold MD.cutD
  rw [HT.sIx_nat, HT.sIx_none]
  simp
theorem sides_ok {many more at_ to : Int} (h1 : 1 ≤ many) (h10 : many ≤ 10) (hm : 1 ≤ more) (hm10 : more ≤ 10) (ha0 : 0 ≤ at_) (ha : at_ < many) (ht0 : 0 ≤ to) (ht : to < more) (ones others : List CW) (g1 : ∀ p ∈ ones, Good many p) (g2 : ∀ p ∈ others, Good more p) (l1 : ones.length ≤ 30) (l2 : others.length ≤ 30) :
    m__law_sides [.sh (enc ones), .sh (.int at_), .sh (.int many), .sh (enc others), .sh (.int to), .sh (.int more)] = some (.ok (.o1 [enc (ones.map (part1 many more at_ to)), enc (others.map (part2 many more at_ to))]), [.sh (enc ones), .sh (.int at_), .sh (.int many), .sh (enc others), .sh (.int to), .sh (.int more)]) := by
  refine FM_rt ?_
  refine WS_cut (fun ρ => ρ = [some (.sh (enc ones)), some (.sh (.int at_)), some (.sh (.int many)), some (.sh (enc others)), some (.sh (.int to)), some (.sh (.int more)), some (.o1 ((pts 0 more).map fun k => enc (many + k - (if to < k then 1 else 0)))), none, none, none, none, none, none, none, none]) ?_ ?_
  · rw [WS_set]
    refine WM_lcA enc (pts 0 more) (fun k => enc (many + k - (if to < k then 1 else 0))) ?_
    simp (config := {maxSteps := 4000000}) [and_assoc, enc_int, rng1_pts (hi := more) (by omega) (by omega), pts_len, lim_eq, noOwn, wipeR]
    omega
  rintro _ rfl
  refine WS_cut (fun ρ => ρ = [some (.sh (enc ones)), some (.sh (.int at_)), some (.sh (.int many)), some (.sh (enc others)), some (.sh (.int to)), some (.sh (.int more)), some (.sh (enc ((pts 0 more).map (place many at_ to)))), none, none, none, none, none, none, none, none]) ?_ ?_
  · simp (config := {maxSteps := 4000000}) [and_assoc]
    have r4 : ixN (pts 0 more).length to = some to.toNat := by have := ixN_pts (n := more) (fun k => k) ht0 ht; simpa using this
    refine ⟨_, r4, ?_⟩
    rw [places_eq many more at_ to ht0 ht]
    exact enc_list _
  rintro _ rfl
  refine WS_cut (fun ρ => ρ = [some (.sh (enc ones)), some (.sh (.int at_)), some (.sh (.int many)), some (.sh (enc others)), some (.sh (.int to)), some (.sh (.int more)), some (.sh (enc ((pts 0 more).map (place many at_ to)))), some (.o1 []), none, none, none, none, none, none, none]) ?_ ?_
  · simp (config := {maxSteps := 4000000}) [and_assoc, lim_eq]
  rintro _ rfl
  refine WS_cut (fun ρ => ∃ j8 j9 j10, notX (some j8) = true ∧ notX (some j9) = true ∧ notX (some j10) = true ∧ ρ = [some (.sh (enc ones)), some (.sh (.int at_)), some (.sh (.int many)), some (.sh (enc others)), some (.sh (.int to)), some (.sh (.int more)), some (.sh (enc ((pts 0 more).map (place many at_ to)))), some (.o1 ((ones.map (part1 many more at_ to)).map enc)), j8, j9, j10, none, none, none, none]) ?_ ?_
  · rw [WS_for]
    simp (config := {maxSteps := 4000000}) [and_assoc, enc_list]
    refine WS_forN enc (fun done ρ => ∃ j8 j9 j10, notX (some j8) = true ∧ notX (some j9) = true ∧ notX (some j10) = true ∧ ρ = [some (.sh (enc ones)), some (.sh (.int at_)), some (.sh (.int many)), some (.sh (enc others)), some (.sh (.int to)), some (.sh (.int more)), some (.sh (enc ((pts 0 more).map (place many at_ to)))), some (.o1 ((done.map (part1 many more at_ to)).map enc)), j8, j9, j10, none, none, none, none]) ⟨none, none, none, rfl, rfl, rfl, by simp [enc_list]⟩ ?_ ?_
    · rintro done p rest ρ hd ⟨j8, j9, j10, k8, k9, k10, rfl⟩
      have hp := g1 p (by rw [hd]; simp)
      have hdl : done.length ≤ 30 := by have := congrArg List.length hd; simp at this; omega
      have lg := len_good hp.c
      rw [enc_prod]
      simp (config := {maxSteps := 4000000}) [and_assoc, k8, k9, enc_list]
      refine WM_lc (fun k => PyData.tuple [.int k, enc (place many at_ to k)]) (pts 0 more) (fun k => enc (place many at_ to k)) (fun k => decide (k ≠ to) && decide (at_ ∈ p.1)) ?_
      have en : pEnum [.list (((pts 0 more).map (place many at_ to)).map enc)] = some ((pts 0 more).map fun k => PyData.tuple [.int k, enc (place many at_ to k)]) := by
        show some (enumD 0 _) = _
        rw [List.map_map, enum_pts0]
        rfl
      rw [List.map_map] at en
      have e2 := pIn_l at_ p.1
      rw [enc_int] at e2
      simp (config := {maxSteps := 4000000}) [and_assoc, en, pts_len, lim_eq, noOwn, wipeR, enc_int, e2]
      have hs : PyData.list (p.1.map enc ++ ((pts 0 more).filter fun k => !decide (k = to) && decide (at_ ∈ p.1)).map fun k => PyData.int (place many at_ to k)) = enc (side1 many more at_ to p.1) := by
        rw [enc_list]
        unfold side1
        rw [List.map_append, List.map_map]
        congr 2
        simp
        exact fun a _ _ _ => rfl
      have ec := cut1_ok h1 h10 hm hm10 (at_ := at_) ht0 ht hp.c
      refine ⟨by omega, fun a _ => ?_, _, pAdd_l _ _ ?_, k10, ?_⟩
      · by_cases q1 : a = to <;> by_cases q2 : at_ ∈ p.1 <;> simp [q1, q2]
      · have := List.length_filter_le (fun k => !decide (k = to) && decide (at_ ∈ p.1)) (pts 0 more)
        rw [pts_len] at this
        rw [lim_eq, List.length_map, List.length_map]
        omega
      · rw [hs]
        refine ⟨_, ⟨_, ec⟩, _, rfl, _, ⟨_, wAppend_iff.mpr ⟨by rw [lim_eq, List.length_map]; omega, rfl, rfl⟩⟩, some (.sh (enc p.1)), rfl, some (.sh (enc p.2)), rfl, some (.sh (enc (side1 many more at_ to p.1))), rfl, rfl, rfl, rfl, rfl⟩
    · rintro ρ ⟨j8, j9, j10, k8, k9, k10, rfl⟩
      exact ⟨rfl, j8, k8, j9, k9, j10, k10, by simp; exact ⟨rfl, rfl, by rw [enc_list, List.map_map]⟩⟩
  rintro _ ⟨j8, j9, j10, k8, k9, k10, rfl⟩
  refine WS_cut (fun ρ => ρ = [some (.sh (enc ones)), some (.sh (.int at_)), some (.sh (.int many)), some (.sh (enc others)), some (.sh (.int to)), some (.sh (.int more)), some (.sh (enc ((pts 0 more).map (place many at_ to)))), some (.o1 ((ones.map (part1 many more at_ to)).map enc)), j8, j9, j10, some (.sh (.int (ones.length : Nat))), none, none, none]) ?_ ?_
  · simp (config := {maxSteps := 4000000}) [and_assoc]
  rintro _ rfl
  refine WS_cut (fun ρ => ∃ j8 j9 j10, ρ = [some (.sh (enc ones)), some (.sh (.int at_)), some (.sh (.int many)), some (.sh (enc others)), some (.sh (.int to)), some (.sh (.int more)), some (.sh (enc ((pts 0 more).map (place many at_ to)))), some (.sh (enc (ones.map (part1 many more at_ to) ++ others.map (part2 many more at_ to)))), j8, j9, j10, some (.sh (.int (ones.length : Nat))), none, none, none]) ?_ ?_
  · rw [WS_fz, WS_for]
    simp (config := {maxSteps := 4000000}) [and_assoc, enc_list]
    refine WS_forN enc (fun done ρ => ∃ j8 j9 j10, notX (some j8) = true ∧ notX (some j9) = true ∧ notX (some j10) = true ∧ ρ = [some (.sh (enc ones)), some (.sh (.int at_)), some (.sh (.int many)), some (.sh (enc others)), some (.sh (.int to)), some (.sh (.int more)), some (.sh (enc ((pts 0 more).map (place many at_ to)))), some (.o1 ((ones.map (part1 many more at_ to) ++ done.map (part2 many more at_ to)).map enc)), j8, j9, j10, some (.sh (.int (ones.length : Nat))), none, none, none]) ⟨j8, j9, j10, k8, k9, k10, by simp [enc_list]⟩ ?_ ?_
    · rintro done p rest ρ hd ⟨j8, j9, j10, k8, k9, k10, rfl⟩
      have hp := g2 p (by rw [hd]; simp)
      have hdl : done.length ≤ 30 := by have := congrArg List.length hd; simp at this; omega
      have lg := len_good hp.c
      have lgm : p.1.length ≤ 10 := by omega
      rw [enc_prod]
      simp (config := {maxSteps := 4000000}) [and_assoc, k8, k9, enc_list]
      refine WM_lcA enc p.1 (fun k => enc (place many at_ to k)) ?_
      simp (config := {maxSteps := 4000000}) [and_assoc, lim_eq, noOwn, wipeR, enc_int]
      refine ⟨by omega, fun k hk => ?_, ?_⟩
      · have := hp.c.rg k hk
        have e := atI_pts (n := more) (fun k => enc (place many at_ to k)) (i := k) (by omega) (by omega)
        exact e
      · refine WM_lc enc (pts 0 many) enc (fun x => decide (x ≠ at_) && decide (to ∈ p.1)) ?_
        have e2 := pIn_l to p.1
        rw [enc_int] at e2
        simp (config := {maxSteps := 4000000}) [and_assoc, rng1_pts (hi := many) (by omega) (by omega), pts_len, lim_eq, noOwn, wipeR, enc_int, e2]
        have hs : PyData.list ((p.1.map fun k => PyData.int (place many at_ to k)) ++ ((pts 0 many).filter fun x => !decide (x = at_) && decide (to ∈ p.1)).map enc) = enc (side2 many at_ to p.1) := by
          rw [enc_list]
          unfold side2
          rw [List.map_append, List.map_map]
          congr 2
          simp
        have ec := cut2_ok h1 h10 hm hm10 ha0 ha ht0 ht hp.c
        refine ⟨by omega, fun a _ => ?_, _, pAdd_l _ _ ?_, k10, ?_⟩
        · by_cases q1 : a = at_ <;> by_cases q2 : to ∈ p.1 <;> simp [q1, q2]
        · have := List.length_filter_le (fun x => !decide (x = at_) && decide (to ∈ p.1)) (pts 0 many)
          rw [pts_len] at this
          rw [lim_eq, List.length_map, List.length_map]
          omega
        · rw [hs]
          refine ⟨_, ⟨_, ec⟩, _, rfl, _, ⟨_, wAppend_iff.mpr ⟨by rw [lim_eq]; simp; omega, rfl, rfl⟩⟩, some (.sh (enc p.1)), rfl, some (.sh (enc p.2)), rfl, some (.sh (enc (side2 many at_ to p.1))), rfl, ?_, rfl, rfl, rfl⟩
          simp
          rfl
    · rintro ρ ⟨j8, j9, j10, k8, k9, k10, rfl⟩
      simp (config := {maxSteps := 4000000}) [and_assoc, enc_list]
  rintro _ ⟨j8, j9, j10, rfl⟩
  simp (config := {maxSteps := 4000000}) [and_assoc, lim_eq, enc_list]
  refine ⟨by omega, ?_, ?_⟩
  · have := cut_front (ones.map (enc ∘ part1 many more at_ to)) (others.map (enc ∘ part2 many more at_ to))
    rw [List.length_map] at this
    exact this
  · have := cut_back (ones.map (enc ∘ part1 many more at_ to)) (others.map (enc ∘ part2 many more at_ to))
    rw [List.length_map] at this
    exact this
end K18


set_option Elab.async false
set_option linter.all false
set_option autoImplicit false
set_option maxRecDepth 100000
set_option maxHeartbeats 4000000
namespace K18
open PySem PySem.Spec PyProof.Rows L2 MD
/-! the hung table is the table of the cuts of both -/
theorem pts_append {lo mid hi : Int} (h1 : lo ≤ mid) (h2 : mid ≤ hi) : pts lo hi = pts lo mid ++ pts mid hi := by
  unfold pts
  have e : (hi - lo).toNat = (mid - lo).toNat + (hi - mid).toNat := by omega
  rw [e, List.range_add, List.map_append, List.map_map]
  congr 1
  refine List.map_congr_left fun k _ => ?_
  show lo + ((((mid - lo).toNat + k : Nat)) : Int) = mid + (k : Int)
  omega
theorem pts_shift (lo hi d : Int) : (pts lo hi).map (fun k => k + d) = pts (lo + d) (hi + d) := by
  unfold pts
  rw [List.map_map, show hi + d - (lo + d) = hi - lo by omega]
  refine List.map_congr_left fun k _ => ?_
  show lo + (k : Int) + d = lo + d + (k : Int)
  omega
theorem there_eq {more to : Int} (ht0 : 0 ≤ to) (ht : to < more) : there more to = pts 0 to ++ pts (to + 1) more := by
  unfold there
  rw [pts_append (lo := 0) (mid := to) (hi := more) ht0 (by omega), pts_append (lo := to) (mid := to + 1) (hi := more) (by omega) (by omega), List.filter_append, List.filter_append]
  have e1 : (pts 0 to).filter (fun x => decide (x ≠ to)) = pts 0 to := List.filter_eq_self.mpr fun a ha => by have := pts_mem.mp ha; simp; omega
  have e2 : (pts to (to + 1)).filter (fun x => decide (x ≠ to)) = [] := List.filter_eq_nil_iff.mpr fun a ha => by have := pts_mem.mp ha; simp; omega
  have e3 : (pts (to + 1) more).filter (fun x => decide (x ≠ to)) = pts (to + 1) more := List.filter_eq_self.mpr fun a ha => by have := pts_mem.mp ha; simp; omega
  rw [e1, e2, e3]
  simp
theorem pts_place {many more at_ to : Int} (ht0 : 0 ≤ to) (ht : to < more) : pts many (many + more - 1) = (there more to).map (place many at_ to) := by
  rw [there_eq ht0 ht, List.map_append, pts_append (lo := many) (mid := many + to) (hi := many + more - 1) (by omega) (by omega)]
  congr 1
  · have := pts_shift 0 to many
    rw [show (0 : Int) + many = many by omega, show to + many = many + to by omega] at this
    rw [← this]
    refine List.map_congr_left fun k hk => ?_
    have := pts_mem.mp hk
    unfold place
    rw [if_neg (by omega), if_neg (by omega)]
    omega
  · have := pts_shift (to + 1) more (many - 1)
    rw [show to + 1 + (many - 1) = many + to by omega, show more + (many - 1) = many + more - 1 by omega] at this
    rw [← this]
    refine List.map_congr_left fun k hk => ?_
    have := pts_mem.mp hk
    unfold place
    rw [if_neg (by omega), if_pos (by omega)]
    omega
theorem pr_place {many more at_ to q : Int} (ht0 : 0 ≤ to) (hq : q ∈ there more to) : pr1 many at_ (place many at_ to q) = at_ ∧ pr2 many to (place many at_ to q) = q ∧ many ≤ place many at_ to q := by
  obtain ⟨h1, h2, h3⟩ := there_mem.mp hq
  unfold place
  rw [if_neg h3]
  by_cases h : to < q
  · rw [if_pos h]
    unfold pr1 pr2
    exact ⟨by rw [if_neg (by omega)], by rw [if_neg (by omega), if_neg (by omega)]; omega, by omega⟩
  · rw [if_neg h]
    unfold pr1 pr2
    exact ⟨by rw [if_neg (by omega)], by rw [if_neg (by omega), if_pos (by omega)]; omega, by omega⟩
def TT (many more at_ to : Int) (ones others : List CW) (x y : Int) : Rat := dist ones (pr1 many at_ x) (pr1 many at_ y) + dist others (pr2 many to x) (pr2 many to y)
theorem sep_self (c : List Int) (i : Int) : sep c i i = false := by unfold sep; simp
theorem sep_comm (c : List Int) (i j : Int) : sep c i j = sep c j i := by unfold sep; cases decide (i ∈ c) <;> cases decide (j ∈ c) <;> rfl
theorem dist_self (cs : List CW) (i : Int) : dist cs i i = 0 := by
  induction cs with
  | nil => rfl
  | cons p r ih => simp [dist, sep_self, ih, Rat.add_zero]
theorem dist_comm (cs : List CW) (i j : Int) : dist cs i j = dist cs j i := by
  induction cs with
  | nil => rfl
  | cons p r ih => simp [dist, sep_comm p.1 i j, ih]
theorem hung_eq {many more at_ to : Int} (h1 : 1 ≤ many) (hm : 1 ≤ more) (ha0 : 0 ≤ at_) (ha : at_ < many) (ht0 : 0 ≤ to) (ht : to < more) (ones others : List CW) :
    hungL many more at_ to (dist ones) (dist others) = mat (many + more - 1) (TT many more at_ to ones others) := by
  have split : ∀ {α : Type} (G : Int → α), (pts 0 (many + more - 1)).map G = (pts 0 many).map G ++ (there more to).map fun q => G (place many at_ to q) := fun G => by
    rw [pts_append (lo := 0) (mid := many) (hi := many + more - 1) (by omega) (by omega), List.map_append, pts_place (at_ := at_) ht0 ht, List.map_map]
    rfl
  have lo1 : ∀ {i : Int}, i ∈ pts 0 many → pr1 many at_ i = i ∧ pr2 many to i = to := fun hi => by have := pts_mem.mp hi; unfold pr1 pr2; rw [if_pos (by omega), if_pos (by omega)]; exact ⟨rfl, rfl⟩
  unfold mat hungL
  rw [split]
  congr 1
  · refine List.map_congr_left fun i hi => ?_
    rw [split]
    unfold top row
    congr 1
    · refine List.map_congr_left fun j hj => ?_
      unfold TT
      rw [(lo1 hi).1, (lo1 hi).2, (lo1 hj).1, (lo1 hj).2, dist_self others, Rat.add_zero]
    · refine List.map_congr_left fun q hq => ?_
      unfold TT
      rw [(lo1 hi).1, (lo1 hi).2, (pr_place ht0 hq).1, (pr_place ht0 hq).2.1, dist_comm others to q]
  · refine List.map_congr_left fun p hp => ?_
    rw [split]
    unfold low
    congr 1
    · refine List.map_congr_left fun i hi => ?_
      unfold TT
      rw [(lo1 hi).1, (lo1 hi).2, (pr_place ht0 hp).1, (pr_place ht0 hp).2.1, dist_comm ones at_ i]
    · refine List.map_congr_left fun q hq => ?_
      unfold TT
      rw [(pr_place ht0 hp).1, (pr_place ht0 hp).2.1, (pr_place ht0 hq).1, (pr_place ht0 hq).2.1, dist_self ones, Rat.zero_add]
theorem sep_cutOf {n : Int} {s : List Int} (hr : ∀ x ∈ s, 0 ≤ x ∧ x < n) {x y : Int} (hx : 0 ≤ x) (hx2 : x < n) (hy : 0 ≤ y) (hy2 : y < n) : sep (cutOf n s) x y = sep s x y := by
  have e1 := mem_cutOf hr (x := x)
  have e2 := mem_cutOf hr (x := y)
  unfold sep
  by_cases h0 : 0 ∈ s <;> by_cases h1 : x ∈ s <;> by_cases h2 : y ∈ s <;> simp [h0, h1, h2, hx, hx2, hy, hy2] at e1 e2 <;> simp [e1, e2, h1, h2]
theorem sep_iff {c d : List Int} {x y x' y' : Int} (h1 : x ∈ c ↔ x' ∈ d) (h2 : y ∈ c ↔ y' ∈ d) : sep c x y = sep d x' y' := by
  unfold sep
  by_cases q1 : x ∈ c <;> by_cases q2 : y ∈ c <;> simp [q1, q2] at h1 h2 <;> simp [q1, q2, h1, h2]
theorem dist_part1 {many more at_ to : Int} (hm : 1 ≤ more) (ht0 : 0 ≤ to) (ht : to < more) {x y : Int} (hx : 0 ≤ x) (hx2 : x < many + more - 1) (hy : 0 ≤ y) (hy2 : y < many + more - 1) : ∀ {ones : List CW}, (∀ p ∈ ones, Good many p) → dist (ones.map (part1 many more at_ to)) x y = dist ones (pr1 many at_ x) (pr1 many at_ y)
  | [], _ => rfl
  | p :: r, h => by
    have hp := (h p (by simp)).c
    have ih := dist_part1 (at_ := at_) hm ht0 ht hx hx2 hy hy2 (ones := r) fun q hq => h q (List.mem_cons_of_mem _ hq)
    have e : sep (part1 many more at_ to p).1 x y = sep p.1 (pr1 many at_ x) (pr1 many at_ y) := by
      unfold part1
      rw [sep_cutOf (rg_side1 hm ht0 ht hp) hx hx2 hy hy2]
      exact sep_iff (sep_side1 ht0 ht hp hx hx2) (sep_side1 ht0 ht hp hy hy2)
    rw [List.map_cons]
    unfold dist
    rw [e, ih]
    rfl
theorem dist_part2 {many more at_ to : Int} (hm : 1 ≤ more) (ha0 : 0 ≤ at_) (ha : at_ < many) (ht0 : 0 ≤ to) (ht : to < more) {x y : Int} (hx : 0 ≤ x) (hx2 : x < many + more - 1) (hy : 0 ≤ y) (hy2 : y < many + more - 1) : ∀ {others : List CW}, (∀ p ∈ others, Good more p) → dist (others.map (part2 many more at_ to)) x y = dist others (pr2 many to x) (pr2 many to y)
  | [], _ => rfl
  | p :: r, h => by
    have hp := (h p (by simp)).c
    have ih := dist_part2 hm ha0 ha ht0 ht hx hx2 hy hy2 (others := r) fun q hq => h q (List.mem_cons_of_mem _ hq)
    have e : sep (part2 many more at_ to p).1 x y = sep p.1 (pr2 many to x) (pr2 many to y) := by
      unfold part2
      rw [sep_cutOf (rg_side2 hm ha0 ha ht0 ht hp) hx hx2 hy hy2]
      exact sep_iff (sep_side2 ha0 ha ht0 hp hx) (sep_side2 ha0 ha ht0 hp hy)
    rw [List.map_cons]
    unfold dist
    rw [e, ih]
    rfl
end K18


set_option Elab.async false
set_option linter.all false
set_option autoImplicit false
set_option maxRecDepth 100000
set_option maxHeartbeats 4000000
namespace K18
open PySem PySem.Spec PyProof.Rows L2 MD
/-! crossing cuts -/
def Cr (c d : List Int) : Prop := (∃ x ∈ c, x ∈ d) ∧ (∃ x ∈ c, x ∉ d) ∧ ∃ x ∈ d, x ∉ c
theorem crossB_iff {c d : List Int} (hc : c.Nodup) (hd : d.Nodup) : crossB c d = true ↔ Cr c d := by
  unfold crossB Cr
  simp only [Bool.and_eq_true, Bool.not_eq_true', decide_eq_false_iff_not, decide_eq_true_eq]
  have hb : ∀ x, x ∈ both c d ↔ x ∈ c ∧ x ∈ d := fun x => by unfold both; simp
  have nb : (both c d).Nodup := hc.filter _
  constructor
  · rintro ⟨h1, h2, h3⟩
    refine ⟨?_, ?_, ?_⟩
    · cases e : both c d with
      | nil => exact absurd e h1
      | cons x r => exact ⟨x, (hb x).mp (by rw [e]; simp)⟩
    · apply Classical.byContradiction
      intro h
      have := len_sub hc (m := both c d) fun x hx => (hb x).mpr ⟨hx, Classical.byContradiction fun z => h ⟨x, hx, z⟩⟩
      omega
    · apply Classical.byContradiction
      intro h
      have := len_sub hd (m := both c d) fun x hx => (hb x).mpr ⟨Classical.byContradiction fun z => h ⟨x, hx, z⟩, hx⟩
      omega
  · rintro ⟨⟨x, x1, x2⟩, ⟨y, y1, y2⟩, ⟨z, z1, z2⟩⟩
    refine ⟨fun e => ?_, ?_, ?_⟩
    · have := (hb x).mpr ⟨x1, x2⟩
      rw [e] at this; cases this
    · have := len_sub (l := y :: both c d) (m := c) (List.nodup_cons.mpr ⟨fun h => y2 ((hb y).mp h).2, nb⟩) fun w hw => by
        rcases List.mem_cons.mp hw with e | e
        · rw [e]; exact y1
        · exact ((hb w).mp e).1
      simp at this; omega
    · have := len_sub (l := z :: both c d) (m := d) (List.nodup_cons.mpr ⟨fun h => z2 ((hb z).mp h).1, nb⟩) fun w hw => by
        rcases List.mem_cons.mp hw with e | e
        · rw [e]; exact z1
        · exact ((hb w).mp e).2
      simp at this; omega
theorem Cr.symm {c d : List Int} (h : Cr c d) : Cr d c := ⟨let ⟨x, a, b⟩ := h.1; ⟨x, b, a⟩, h.2.2, h.2.1⟩
theorem Cr.irr {c : List Int} (h : Cr c c) : False := let ⟨_, a, b⟩ := h.2.1; b a
def NC (cs : List CW) : Prop := ∀ p ∈ cs, ∀ q ∈ cs, ¬ Cr p.1 q.1
theorem noCross_iff {cs : List CW} (hn : ∀ p ∈ cs, p.1.Nodup) : noCross cs ↔ NC cs := by
  constructor
  · intro h p hp q hq hc
    obtain ⟨a, ha⟩ := List.mem_iff_getElem?.mp hp
    obtain ⟨b, hb⟩ := List.mem_iff_getElem?.mp hq
    rcases Nat.lt_trichotomy a b with l | l | l
    · have := h a b p q l ha hb
      rw [(crossB_iff (hn p hp) (hn q hq)).mpr hc] at this; cases this
    · subst l
      rw [ha] at hb
      cases hb
      exact hc.irr
    · have := h b a q p l hb ha
      rw [(crossB_iff (hn q hq) (hn p hp)).mpr hc.symm] at this; cases this
  · intro h a b p q _ ha hb
    have hp := List.mem_of_getElem? ha
    have hq := List.mem_of_getElem? hb
    cases e : crossB p.1 q.1 with
    | false => rfl
    | true => exact absurd ((crossB_iff (hn p hp) (hn q hq)).mp e) (h p hp q hq)
/-- all four kinds of points are there -/
def Pat (n : Int) (S T : Int → Prop) : Prop := (∃ x, 0 ≤ x ∧ x < n ∧ S x ∧ T x) ∧ (∃ x, 0 ≤ x ∧ x < n ∧ S x ∧ ¬ T x) ∧ (∃ x, 0 ≤ x ∧ x < n ∧ ¬ S x ∧ T x) ∧ ∃ x, 0 ≤ x ∧ x < n ∧ ¬ S x ∧ ¬ T x
theorem Pat.congr {n : Int} {S T S' T' : Int → Prop} (h1 : ∀ x, 0 ≤ x → x < n → (S' x ↔ S x)) (h2 : ∀ x, 0 ≤ x → x < n → (T' x ↔ T x)) : Pat n S' T' ↔ Pat n S T := by
  have key : ∀ {S T S' T' : Int → Prop}, (∀ x, 0 ≤ x → x < n → (S' x ↔ S x)) → (∀ x, 0 ≤ x → x < n → (T' x ↔ T x)) → Pat n S' T' → Pat n S T := by
    rintro S T S' T' h1 h2 ⟨⟨x, a, b, c, d⟩, ⟨x2, a2, b2, c2, d2⟩, ⟨x3, a3, b3, c3, d3⟩, ⟨x4, a4, b4, c4, d4⟩⟩
    exact ⟨⟨x, a, b, (h1 x a b).mp c, (h2 x a b).mp d⟩, ⟨x2, a2, b2, (h1 x2 a2 b2).mp c2, fun z => d2 ((h2 x2 a2 b2).mpr z)⟩, ⟨x3, a3, b3, fun z => c3 ((h1 x3 a3 b3).mpr z), (h2 x3 a3 b3).mp d3⟩, ⟨x4, a4, b4, fun z => c4 ((h1 x4 a4 b4).mpr z), fun z => d4 ((h2 x4 a4 b4).mpr z)⟩⟩
  exact ⟨key h1 h2, key (fun x a b => (h1 x a b).symm) fun x a b => (h2 x a b).symm⟩
theorem Pat.not1 {n : Int} {S T : Int → Prop} : Pat n (fun x => ¬ S x) T ↔ Pat n S T := by
  unfold Pat
  constructor
  · rintro ⟨h1, h2, ⟨x, a, b, c, d⟩, ⟨y, e, f, g, h⟩⟩
    exact ⟨⟨x, a, b, Classical.not_not.mp c, d⟩, ⟨y, e, f, Classical.not_not.mp g, h⟩, h1, h2⟩
  · rintro ⟨⟨x, a, b, c, d⟩, ⟨y, e, f, g, h⟩, h3, h4⟩
    exact ⟨h3, h4, ⟨x, a, b, fun z => z c, d⟩, ⟨y, e, f, fun z => z g, h⟩⟩
theorem Pat.swap {n : Int} {S T : Int → Prop} : Pat n S T ↔ Pat n T S := by
  unfold Pat
  constructor <;> rintro ⟨⟨x, a, b, c, d⟩, ⟨x2, a2, b2, c2, d2⟩, ⟨x3, a3, b3, c3, d3⟩, ⟨x4, a4, b4, c4, d4⟩⟩ <;> exact ⟨⟨x, a, b, d, c⟩, ⟨x3, a3, b3, d3, c3⟩, ⟨x2, a2, b2, d2, c2⟩, ⟨x4, a4, b4, d4, c4⟩⟩
theorem pat_cutOf {n : Int} {s : List Int} (hr : ∀ x ∈ s, 0 ≤ x ∧ x < n) {T : Int → Prop} : Pat n (fun x => x ∈ cutOf n s) T ↔ Pat n (fun x => x ∈ s) T := by
  by_cases h0 : 0 ∈ s
  · rw [Pat.congr (S := fun x => ¬ x ∈ s) (T := T) (fun x a b => by rw [mem_cutOf hr]; simp [a, b, h0]) fun _ _ _ => Iff.rfl]
    exact Pat.not1
  · exact Pat.congr (fun x a b => by rw [mem_cutOf hr]; simp [a, b, h0]) fun _ _ _ => Iff.rfl
theorem cr_pat {n : Int} (hn : 0 < n) {c d : List Int} (hc : ∀ x ∈ c, 1 ≤ x ∧ x < n) (hd : ∀ x ∈ d, 1 ≤ x ∧ x < n) : Cr c d ↔ Pat n (fun x => x ∈ c) fun x => x ∈ d := by
  constructor
  · rintro ⟨⟨x, a, b⟩, ⟨y, e, f⟩, ⟨z, g, h⟩⟩
    have := hc x a; have := hc y e; have := hd z g
    exact ⟨⟨x, by omega, by omega, a, b⟩, ⟨y, by omega, by omega, e, f⟩, ⟨z, by omega, by omega, h, g⟩, ⟨0, by omega, hn, fun z => by have := hc 0 z; omega, fun z => by have := hd 0 z; omega⟩⟩
  · rintro ⟨⟨x, _, _, a, b⟩, ⟨y, _, _, e, f⟩, ⟨z, _, _, h, g⟩, _⟩
    exact ⟨⟨x, a, b⟩, ⟨y, e, f⟩, ⟨z, g, h⟩⟩
theorem rg_cutOf {n : Int} {s : List Int} (hr : ∀ x ∈ s, 0 ≤ x ∧ x < n) : ∀ x ∈ cutOf n s, 1 ≤ x ∧ x < n := fun x hx => by
  have h := (mem_cutOf hr).mp hx
  refine ⟨?_, h.2.1⟩
  by_cases e : x = 0
  · subst e
    rcases h.2.2 with z | z
    · exact absurd z.1 z.2
    · exact absurd z.2 z.1
  · omega
theorem cr_cutOf {n : Int} (hn : 0 < n) {s t : List Int} (hs : ∀ x ∈ s, 0 ≤ x ∧ x < n) (ht : ∀ x ∈ t, 0 ≤ x ∧ x < n) : Cr (cutOf n s) (cutOf n t) ↔ Pat n (fun x => x ∈ s) fun x => x ∈ t := by
  rw [cr_pat hn (rg_cutOf hs) (rg_cutOf ht), pat_cutOf hs, Pat.swap, pat_cutOf ht, Pat.swap]
/-- by a map onto -/
theorem pat_map {n m : Int} {f : Int → Int} (hf : ∀ x, 0 ≤ x → x < n → 0 ≤ f x ∧ f x < m) (hs : ∀ y, 0 ≤ y → y < m → ∃ x, 0 ≤ x ∧ x < n ∧ f x = y) {S T : Int → Prop} : Pat n (fun x => S (f x)) (fun x => T (f x)) ↔ Pat m S T := by
  constructor
  · rintro ⟨⟨x, a, b, c⟩, ⟨y, a2, b2, c2⟩, ⟨z, a3, b3, c3⟩, ⟨w, a4, b4, c4⟩⟩
    exact ⟨⟨f x, (hf x a b).1, (hf x a b).2, c⟩, ⟨f y, (hf y a2 b2).1, (hf y a2 b2).2, c2⟩, ⟨f z, (hf z a3 b3).1, (hf z a3 b3).2, c3⟩, ⟨f w, (hf w a4 b4).1, (hf w a4 b4).2, c4⟩⟩
  · rintro ⟨⟨x, a, b, c⟩, ⟨y, a2, b2, c2⟩, ⟨z, a3, b3, c3⟩, ⟨w, a4, b4, c4⟩⟩
    obtain ⟨x', p1, p2, rfl⟩ := hs x a b
    obtain ⟨y', q1, q2, rfl⟩ := hs y a2 b2
    obtain ⟨z', r1, r2, rfl⟩ := hs z a3 b3
    obtain ⟨w', s1, s2, rfl⟩ := hs w a4 b4
    exact ⟨⟨x', p1, p2, c⟩, ⟨y', q1, q2, c2⟩, ⟨z', r1, r2, c3⟩, ⟨w', s1, s2, c4⟩⟩
end K18


set_option Elab.async false
set_option linter.all false
set_option autoImplicit false
set_option maxRecDepth 100000
set_option maxHeartbeats 8000000
namespace K18
open PySem PySem.Spec PyProof.Rows L2 MD
section
variable {many more at_ to : Int}
theorem cr_part1 (h1 : 1 ≤ many) (hm : 1 ≤ more) (ha0 : 0 ≤ at_) (ha : at_ < many) (ht0 : 0 ≤ to) (ht : to < more) {p q : CW} (hp : Good many p) (hq : Good many q) : Cr (part1 many more at_ to p).1 (part1 many more at_ to q).1 ↔ Cr p.1 q.1 := by
  unfold part1
  rw [cr_cutOf (by omega) (rg_side1 hm ht0 ht hp.c) (rg_side1 hm ht0 ht hq.c), Pat.congr (fun x a b => sep_side1 ht0 ht hp.c a b) (fun x a b => sep_side1 ht0 ht hq.c a b),
    pat_map (f := pr1 many at_) (m := many) (S := fun x => x ∈ p.1) (T := fun x => x ∈ q.1) (fun x a b => by unfold pr1; split <;> omega) (fun y a b => ⟨y, a, by omega, by unfold pr1; rw [if_pos b]⟩), cr_pat (by omega) hp.c.rg hq.c.rg]
theorem cr_part2 (h1 : 1 ≤ many) (hm : 1 ≤ more) (ha0 : 0 ≤ at_) (ha : at_ < many) (ht0 : 0 ≤ to) (ht : to < more) {p q : CW} (hp : Good more p) (hq : Good more q) : Cr (part2 many more at_ to p).1 (part2 many more at_ to q).1 ↔ Cr p.1 q.1 := by
  unfold part2
  rw [cr_cutOf (by omega) (rg_side2 hm ha0 ha ht0 ht hp.c) (rg_side2 hm ha0 ha ht0 ht hq.c), Pat.congr (fun x a b => sep_side2 ha0 ha ht0 hp.c a) (fun x a b => sep_side2 ha0 ha ht0 hq.c a),
    pat_map (f := pr2 many to) (m := more) (S := fun x => x ∈ p.1) (T := fun x => x ∈ q.1) (fun x a b => by unfold pr2; split; omega; split <;> omega) (fun y a b => ?_), cr_pat (by omega) hp.c.rg hq.c.rg]
  by_cases e : y = to
  · exact ⟨at_, ha0, by omega, by unfold pr2; rw [if_pos ha, e]⟩
  · have hy : y ∈ there more to := there_mem.mpr ⟨a, b, e⟩
    refine ⟨place many at_ to y, by have := (pr_place (many := many) (at_ := at_) ht0 hy).2.2; omega, ?_, (pr_place ht0 hy).2.1⟩
    unfold place
    rw [if_neg e]
    split <;> omega
theorem cr_no (h1 : 1 ≤ many) (hm : 1 ≤ more) (ha0 : 0 ≤ at_) (ha : at_ < many) (ht0 : 0 ≤ to) (ht : to < more) {p q : CW} (hp : Good many p) (hq : Good more q) : ¬ Cr (part1 many more at_ to p).1 (part2 many more at_ to q).1 := by
  unfold part1 part2
  rw [cr_cutOf (by omega) (rg_side1 hm ht0 ht hp.c) (rg_side2 hm ha0 ha ht0 ht hq.c), Pat.congr (fun x a b => sep_side1 ht0 ht hp.c a b) (fun x a b => sep_side2 ha0 ha ht0 hq.c a)]
  have low : ∀ x, x < many → pr2 many to x = to := fun x h => by unfold pr2; rw [if_pos h]
  have hi : ∀ x, ¬ x < many → pr1 many at_ x = at_ := fun x h => by unfold pr1; rw [if_neg h]
  rintro ⟨⟨x, _, _, x1, x2⟩, ⟨y, _, _, y1, y2⟩, ⟨z, _, _, z1, z2⟩, ⟨w, _, _, w1, w2⟩⟩
  dsimp only at x1 x2 y1 y2 z1 z2 w1 w2
  by_cases hat : at_ ∈ p.1
  · have hz : z < many := Classical.byContradiction fun h => z1 (by rw [hi z h]; exact hat)
    have hw : w < many := Classical.byContradiction fun h => w1 (by rw [hi w h]; exact hat)
    rw [low z hz] at z2
    rw [low w hw] at w2
    exact w2 z2
  · have hx : x < many := Classical.byContradiction fun h => hat (by rw [← hi x h]; exact x1)
    have hy : y < many := Classical.byContradiction fun h => hat (by rw [← hi y h]; exact y1)
    rw [low x hx] at x2
    rw [low y hy] at y2
    exact y2 x2
end
theorem law_true (ns : List Int) (hns : ns.length ≤ 63) : ∃ cs, m_law [.sh (.list (ns.map PyData.int))] = some (.ok (.sh (.bool true)), cs) := by
  refine ⟨[.sh (.list (ns.map PyData.int))], FM_rt ?_⟩
  refine WS_cut (fun ρ => ∃ js, ρ = some (.sh (.list (ns.map PyData.int))) :: js) ?_ ?_
  · have hK : ∃ K : Int, 0 ≤ K ∧ K ≤ 5 ∧ pMax2 [.int 1, .int (if ((ns.length : Nat) : Int) < 5 then ns.length else 5)] = some (.int K) := by
      refine ⟨_, ?_, ?_, rfl⟩
      · split <;> split <;> omega
      · split <;> split <;> omega
    obtain ⟨K, K0, K5, eK⟩ := hK
    rw [pMax2_i] at eK
    have eK := PyData.int.inj (Option.some.inj eK)
    rw [WS_for]
    simp (config := {maxSteps := 4000000}) [and_assoc, eK, rng1_pts (hi := K) (by omega) (by omega)]
    refine WS_forN enc (fun done ρ => ∃ j1 j2 j3 j4 j5 j6 j7 j8 j9 j10 j11 j12 j13 j14 j15 j16 j17 : Option Cel, notX (some j1) = true ∧ notX (some j2) = true ∧ notX (some j3) = true ∧ notX (some j4) = true ∧ notX (some j5) = true ∧ notX (some j6) = true ∧ notX (some j7) = true ∧ notX (some j8) = true ∧ notX (some j9) = true ∧ notX (some j10) = true ∧ notX (some j11) = true ∧ notX (some j12) = true ∧ notX (some j13) = true ∧ notX (some j14) = true ∧ notX (some j15) = true ∧ notX (some j16) = true ∧ notX (some j17) = true ∧ ρ = [some (.sh (.list (ns.map PyData.int))), j1, j2, j3, j4, j5, j6, j7, j8, j9, j10, j11, j12, j13, j14, j15, j16, j17]) ⟨none, none, none, none, none, none, none, none, none, none, none, none, none, none, none, none, none, rfl, rfl, rfl, rfl, rfl, rfl, rfl, rfl, rfl, rfl, rfl, rfl, rfl, rfl, rfl, rfl, rfl, rfl⟩ ?_ ?_
    · rintro done k rest ρ hd ⟨j1, j2, j3, j4, j5, j6, j7, j8, j9, j10, j11, j12, j13, j14, j15, j16, j17, k1, k2, k3, k4, k5, k6, k7, k8, k9, k10, k11, k12, k13, k14, k15, k16, k17, rfl⟩
      obtain ⟨q1, q2, q3⟩ := cut_pts hd
      refine ⟨_, gN_eq.mpr ⟨by simpa using k1, rfl⟩, ?_⟩
      simp only [List.set_cons_succ, List.set_cons_zero, enc_int]
      obtain ⟨ps, hps, ep⟩ := pool_ok ns k q1 (by omega)
      refine WS_cut (fun ρ => ρ = [some (.sh (.list (ns.map PyData.int))), some (.sh (.int k)), some (.o1 ps), j3, j4, j5, j6, j7, j8, j9, j10, j11, j12, j13, j14, j15, j16, j17]) ?_ ?_
      · simp (config := {maxSteps := 4000000}) [and_assoc, k2, ep]
      rintro _ rfl
      obtain ⟨e3, a1, a2, a3⟩ := take_eq hps 6
      generalize h3 : tkP ps 6 = ps3 at *
      obtain ⟨many, hmany⟩ : ∃ many, many = 1 + tkR ps 6 := ⟨_, rfl⟩
      refine WS_cut (fun ρ => ρ = [some (.sh (.list (ns.map PyData.int))), some (.sh (.int k)), some (.o1 ps3), some (.sh (.int many)), j4, j5, j6, j7, j8, j9, j10, j11, j12, j13, j14, j15, j16, j17]) ?_ ?_
      · simp (config := {maxSteps := 4000000}) [and_assoc, k3, e3, hmany]
      rintro _ rfl
      obtain ⟨e4, b1, b2, b3⟩ := take_eq a3 5
      generalize h4 : tkP ps3 5 = ps4 at *
      obtain ⟨more, hmore⟩ : ∃ more, more = 1 + tkR ps3 5 := ⟨_, rfl⟩
      refine WS_cut (fun ρ => ρ = [some (.sh (.list (ns.map PyData.int))), some (.sh (.int k)), some (.o1 ps4), some (.sh (.int many)), some (.sh (.int more)), j5, j6, j7, j8, j9, j10, j11, j12, j13, j14, j15, j16, j17]) ?_ ?_
      · simp (config := {maxSteps := 4000000}) [and_assoc, k4, e4, hmore]
      rintro _ rfl
      obtain ⟨ones, ps5, g1, l1, c3, e5⟩ := cuts_ok b3 (by omega) many (by omega) (by omega)
      refine WS_cut (fun ρ => ρ = [some (.sh (.list (ns.map PyData.int))), some (.sh (.int k)), some (.o1 ps5), some (.sh (.int many)), some (.sh (.int more)), some (.sh (enc ones)), j6, j7, j8, j9, j10, j11, j12, j13, j14, j15, j16, j17]) ?_ ?_
      · simp (config := {maxSteps := 4000000}) [and_assoc, k5, e5]
      rintro _ rfl
      obtain ⟨others, ps6, g2, l2, d3, e6⟩ := cuts_ok c3 (by omega) more (by omega) (by omega)
      refine WS_cut (fun ρ => ρ = [some (.sh (.list (ns.map PyData.int))), some (.sh (.int k)), some (.o1 ps6), some (.sh (.int many)), some (.sh (.int more)), some (.sh (enc ones)), some (.sh (enc others)), j7, j8, j9, j10, j11, j12, j13, j14, j15, j16, j17]) ?_ ?_
      · simp (config := {maxSteps := 4000000}) [and_assoc, k6, e6]
      rintro _ rfl
      obtain ⟨e7, f1, f2, f3⟩ := take_eq d3 many
      generalize h7 : tkP ps6 many = ps7 at *
      generalize h7' : tkR ps6 many = at_ at *
      refine WS_cut (fun ρ => ρ = [some (.sh (.list (ns.map PyData.int))), some (.sh (.int k)), some (.o1 ps7), some (.sh (.int many)), some (.sh (.int more)), some (.sh (enc ones)), some (.sh (enc others)), some (.sh (.int at_)), j8, j9, j10, j11, j12, j13, j14, j15, j16, j17]) ?_ ?_
      · simp (config := {maxSteps := 4000000}) [and_assoc, k7, e7]
      rintro _ rfl
      obtain ⟨e8, i1, i2, i3⟩ := take_eq f3 more
      generalize h8 : tkP ps7 more = ps8 at *
      generalize h8' : tkR ps7 more = to at *
      refine WS_cut (fun ρ => ρ = [some (.sh (.list (ns.map PyData.int))), some (.sh (.int k)), some (.sh (.list ps8)), some (.sh (.int many)), some (.sh (.int more)), some (.sh (enc ones)), some (.sh (enc others)), some (.sh (.int at_)), some (.sh (.int to)), j9, j10, j11, j12, j13, j14, j15, j16, j17]) ?_ ?_
      · simp (config := {maxSteps := 4000000}) [and_assoc, k8, e8]
      rintro _ rfl
      have m1 : 1 ≤ many := by omega
      have m10 : many ≤ 10 := by omega
      have r1 : 1 ≤ more := by omega
      have r10 : more ≤ 10 := by omega
      have es := sides_ok m1 m10 r1 r10 f1 f2 i1 i2 ones others g1 g2 l1 l2
      refine WS_cut (fun ρ => ρ = [some (.sh (.list (ns.map PyData.int))), some (.sh (.int k)), some (.sh (.list ps8)), some (.sh (.int many)), some (.sh (.int more)), some (.sh (enc ones)), some (.sh (enc others)), some (.sh (.int at_)), some (.sh (.int to)), some (.sh (.list [enc (ones.map (part1 many more at_ to)), enc (others.map (part2 many more at_ to))])), j10, j11, j12, j13, j14, j15, j16, j17]) ?_ ?_
      · simp (config := {maxSteps := 4000000}) [and_assoc, k9, es]
      rintro _ rfl
      refine WS_cut (fun ρ => ρ = [some (.sh (.list (ns.map PyData.int))), some (.sh (.int k)), some (.sh (.list ps8)), some (.sh (.int many)), some (.sh (.int more)), some (.sh (enc ones)), some (.sh (enc others)), some (.sh (.int at_)), some (.sh (.int to)), some (.sh (.list [enc (ones.map (part1 many more at_ to)), enc (others.map (part2 many more at_ to))])), some (.sh (.int (many + more - 1))), j11, j12, j13, j14, j15, j16, j17]) ?_ ?_
      · simp (config := {maxSteps := 4000000}) [and_assoc, k10]
      rintro _ rfl
      have w1 : ∀ p ∈ ones, Q2 (10 ^ 39 * 2520) p.2 := fun p hp => (g1 p hp).wt.q2
      have w2 : ∀ p ∈ others, Q2 (10 ^ 39 * 2520) p.2 := fun p hp => (g2 p hp).wt.q2
      obtain ⟨parts, hparts⟩ : ∃ parts, parts = ones.map (part1 many more at_ to) ++ others.map (part2 many more at_ to) := ⟨_, rfl⟩
      have lp : parts.length ≤ 60 := by rw [hparts]; simp; omega
      have wp : ∀ p ∈ parts, Q2 (10 ^ 39 * 2520) p.2 := fun p hp => by
        rw [hparts] at hp
        rcases List.mem_append.mp hp with h | h
        · obtain ⟨q, hq, rfl⟩ := List.mem_map.mp h; exact w1 q hq
        · obtain ⟨q, hq, rfl⟩ := List.mem_map.mp h; exact w2 q hq
      obtain ⟨bothL, hb, e11⟩ := merged_ok parts (by omega) (10 ^ 39 * 2520) (by decide) (Sz.lit (k := 200) |>.mono (by decide)) wp
      refine WS_cut (fun ρ => ρ = [some (.sh (.list (ns.map PyData.int))), some (.sh (.int k)), some (.sh (.list ps8)), some (.sh (.int many)), some (.sh (.int more)), some (.sh (enc ones)), some (.sh (enc others)), some (.sh (.int at_)), some (.sh (.int to)), some (.sh (.list [enc (ones.map (part1 many more at_ to)), enc (others.map (part2 many more at_ to))])), some (.sh (.int (many + more - 1))), some (.sh (enc bothL)), j12, j13, j14, j15, j16, j17]) ?_ ?_
      · have ea : pAdd (enc (ones.map (part1 many more at_ to))) (enc (others.map (part2 many more at_ to))) = some (enc parts) := by
          rw [enc_list, enc_list, pAdd_l _ _ (by rw [lim_eq]; simp; omega), hparts, enc_list, List.map_append]
        simp (config := {maxSteps := 4000000}) [and_assoc, k11, ea, e11]
      rintro _ rfl
      have lb := hb.len
      have szW : Sz 1000 (10 ^ 39 * 2520 : Int) := (Sz.lit (k := 200)).mono (by decide)
      have szW2 : Sz 1000 ((parts.length : Int) * (10 ^ 39 * 2520)) := Sz.below' (m := 60 * (10 ^ 39 * 2520)) ((Sz.lit (k := 200)).mono (by decide)) (by omega) (by omega)
      have t1 := table_ok (n := many) m1 (by omega) ones _ (by decide) szW w1 (by omega)
      have t2 := table_ok (n := more) r1 (by omega) others _ (by decide) szW w2 (by omega)
      have t3 := table_ok (n := many + more - 1) (by omega) (by omega) bothL _ (by omega) szW2 hb.wt (by omega)
      have sD : ∀ {cs : List CW}, (∀ p ∈ cs, Q2 (10 ^ 39 * 2520) p.2) → cs.length ≤ 30 → ∀ a b, Sz 3000 (dist cs a b).num ∧ Sz 3000 ((dist cs a b).den : Int) := fun hw hl a b => by
        have := ((dist_q2 (by decide) a b hw).mono (C := 30 * (10 ^ 39 * 2520)) (by omega)).sz (k := 200) Sz.lit (by decide)
        exact ⟨this.1.mono (by decide), this.2.mono (by decide)⟩
      have t4 := hung_ok (many := many) (more := more) (by omega) (by omega) f1 f2 i1 i2 (dist ones) (dist others) (sD w1 l1) (sD w2 l2)
      have tEq : hungL many more at_ to (dist ones) (dist others) = mat (many + more - 1) (dist bothL) := by
        rw [hung_eq m1 r1 f1 f2 i1 i2]
        unfold mat
        refine List.map_congr_left fun x hx => List.map_congr_left fun y hy => ?_
        have hx := pts_mem.mp hx
        have hy := pts_mem.mp hy
        unfold TT
        rw [hb.d, hparts, dist_append, dist_part1 r1 i1 i2 hx.1 hx.2 hy.1 hy.2 g1, dist_part2 r1 f1 f2 i1 i2 hx.1 hx.2 hy.1 hy.2 g2]
      refine WS_cut (fun ρ => ρ = [some (.sh (.list (ns.map PyData.int))), some (.sh (.int k)), some (.sh (.list ps8)), some (.sh (.int many)), some (.sh (.int more)), some (.sh (enc ones)), some (.sh (enc others)), some (.sh (.int at_)), some (.sh (.int to)), some (.sh (.list [enc (ones.map (part1 many more at_ to)), enc (others.map (part2 many more at_ to))])), some (.sh (.int (many + more - 1))), some (.sh (enc bothL)), j12, j13, j14, j15, j16, j17]) ?_ ?_
      · have ne := pNe_enc (mat (many + more - 1) (dist bothL)) (mat (many + more - 1) (dist bothL))
        simp (config := {maxSteps := 4000000}) [and_assoc, t1, t2, t3, t4, tEq, ne]
      rintro _ rfl
      have n1 : ∀ p : CW, (part1 many more at_ to p).1.Nodup := fun p => nodup_cutOf _ _
      have n2 : ∀ p : CW, (part2 many more at_ to p).1.Nodup := fun p => nodup_cutOf _ _
      have ln1 : ∀ p ∈ ones, (part1 many more at_ to p).1.length ≤ 1000 := fun p hp => by
        have := len_sub (n1 p) (m := pts 0 (many + more - 1)) fun x hx => by
          have := rg_cutOf (rg_side1 r1 i1 i2 (g1 p hp).c) x hx
          exact pts_mem.mpr ⟨by omega, this.2⟩
        rw [pts_len] at this
        omega
      have ln2 : ∀ p ∈ others, (part2 many more at_ to p).1.length ≤ 1000 := fun p hp => by
        have := len_sub (n2 p) (m := pts 0 (many + more - 1)) fun x hx => by
          have := rg_cutOf (rg_side2 r1 f1 f2 i1 i2 (g2 p hp).c) x hx
          exact pts_mem.mpr ⟨by omega, this.2⟩
        rw [pts_len] at this
        omega
      refine WS_cut (fun ρ => ∃ j12 j13 j14 j15 j16, notX (some j12) = true ∧ notX (some j13) = true ∧ notX (some j14) = true ∧ notX (some j15) = true ∧ notX (some j16) = true ∧ ρ = [some (.sh (.list (ns.map PyData.int))), some (.sh (.int k)), some (.sh (.list ps8)), some (.sh (.int many)), some (.sh (.int more)), some (.sh (enc ones)), some (.sh (enc others)), some (.sh (.int at_)), some (.sh (.int to)), some (.sh (.list [enc (ones.map (part1 many more at_ to)), enc (others.map (part2 many more at_ to))])), some (.sh (.int (many + more - 1))), some (.sh (enc bothL)), j12, j13, j14, j15, j16, j17]) ?_ ?_
      · rw [WS_for]
        simp (config := {maxSteps := 4000000}) [and_assoc]
        rw [enc_list]
        simp only [asL_l, Option.some.injEq]
        refine ⟨_, rfl, ?_⟩
        refine WS_forN enc (fun done ρ => ∃ j12 j13 j14 j15 j16, notX (some j12) = true ∧ notX (some j13) = true ∧ notX (some j14) = true ∧ notX (some j15) = true ∧ notX (some j16) = true ∧ ρ = [some (.sh (.list (ns.map PyData.int))), some (.sh (.int k)), some (.sh (.list ps8)), some (.sh (.int many)), some (.sh (.int more)), some (.sh (enc ones)), some (.sh (enc others)), some (.sh (.int at_)), some (.sh (.int to)), some (.sh (.list [enc (ones.map (part1 many more at_ to)), enc (others.map (part2 many more at_ to))])), some (.sh (.int (many + more - 1))), some (.sh (enc bothL)), j12, j13, j14, j15, j16, j17]) ⟨j12, j13, j14, j15, j16, k12, k13, k14, k15, k16, rfl⟩ ?_ ?_
        · rintro done p rest ρ hd2 ⟨j12, j13, j14, j15, j16, k12, k13, k14, k15, k16, rfl⟩
          obtain ⟨p0, hp0, rfl⟩ := List.mem_map.mp (show p ∈ ones.map (part1 many more at_ to) by rw [hd2]; simp)
          generalize hp : part1 many more at_ to p0 = p at *
          rw [enc_prod]
          simp (config := {maxSteps := 4000000}) [and_assoc, k12, k13]
          refine ⟨_, by rw [enc_list]; rfl, ?_⟩
          refine WS_forN enc (fun done ρ => ∃ j14 j15 j16, notX (some j14) = true ∧ notX (some j15) = true ∧ notX (some j16) = true ∧ ρ = [some (.sh (.list (ns.map PyData.int))), some (.sh (.int k)), some (.sh (.list ps8)), some (.sh (.int many)), some (.sh (.int more)), some (.sh (enc ones)), some (.sh (enc others)), some (.sh (.int at_)), some (.sh (.int to)), some (.sh (.list [enc (ones.map (part1 many more at_ to)), enc (others.map (part2 many more at_ to))])), some (.sh (.int (many + more - 1))), some (.sh (enc bothL)), some (.sh (enc p.1)), some (.sh (enc p.2)), j14, j15, j16, j17]) ⟨j14, j15, j16, k14, k15, k16, rfl⟩ ?_ ?_
          · rintro done2 q rest2 ρ hd3 ⟨j14, j15, j16, k14, k15, k16, rfl⟩
            obtain ⟨q0, hq0, rfl⟩ := List.mem_map.mp (show q ∈ others.map (part2 many more at_ to) by rw [hd3]; simp)
            have hno : ¬ Cr p.1 (part2 many more at_ to q0).1 := by rw [← hp]; exact cr_no m1 r1 f1 f2 i1 i2 (g1 p0 hp0) (g2 q0 hq0)
            have hln : (part2 many more at_ to q0).1.length ≤ 1000 := ln2 q0 hq0
            have hnd : (part2 many more at_ to q0).1.Nodup := n2 q0
            have hln' : p.1.length ≤ 1000 := by rw [← hp]; exact ln1 p0 hp0
            have hnd' : p.1.Nodup := by rw [← hp]; exact n1 p0
            generalize part2 many more at_ to q0 = q at *
            refine ⟨[some (.sh (.list (ns.map PyData.int))), some (.sh (.int k)), some (.sh (.list ps8)), some (.sh (.int many)), some (.sh (.int more)), some (.sh (enc ones)), some (.sh (enc others)), some (.sh (.int at_)), some (.sh (.int to)), some (.sh (.list [enc (ones.map (part1 many more at_ to)), enc (others.map (part2 many more at_ to))])), some (.sh (.int (many + more - 1))), some (.sh (enc bothL)), some (.sh (enc p.1)), some (.sh (enc p.2)), some (.sh (enc q.1)), some (.sh (enc q.2)), j16, j17], by rw [enc_prod]; simp [k14, k15], ?_⟩
            have pm := srtE_perm [p, q]
            have mem : ∀ x ∈ srtE [p, q], x = p ∨ x = q := fun x hx => by have := pm.mem_iff.mp hx; simpa using this
            refine WS_cut (fun ρ => ρ = [some (.sh (.list (ns.map PyData.int))), some (.sh (.int k)), some (.sh (.list ps8)), some (.sh (.int many)), some (.sh (.int more)), some (.sh (enc ones)), some (.sh (enc others)), some (.sh (.int at_)), some (.sh (.int to)), some (.sh (.list [enc (ones.map (part1 many more at_ to)), enc (others.map (part2 many more at_ to))])), some (.sh (.int (many + more - 1))), some (.sh (enc bothL)), some (.sh (enc p.1)), some (.sh (enc p.2)), some (.sh (enc q.1)), some (.sh (enc q.2)), some (.sh (enc (srtE [p, q]))), j17]) ?_ ?_
            · have es := pSorted_l [p, q] (by rw [lim_eq]; show 2 ≤ 100000; decide) (.inl fun a => rfl)
              simp only [List.map_cons, List.map_nil] at es
              rw [enc_prod, enc_prod] at es
              simp (config := {maxSteps := 4000000}) [and_assoc, k16, onList, es, lim_eq]
              rfl
            rintro _ rfl
            obtain ⟨r, er, hr⟩ := first_ok (.int (many + more - 1)) (srtE [p, q]) (by rw [pm.length_eq]; show 2 ≤ 100; decide) fun x hx => by
              rcases mem x hx with e | e <;> rw [e] <;> assumption
            have nc : noCross (srtE [p, q]) := (noCross_iff fun x hx => by rcases mem x hx with e | e <;> rw [e] <;> assumption).mpr fun x hx y hy hc => by
              rcases mem x hx with e | e <;> rcases mem y hy with e' | e' <;> rw [e, e'] at hc
              · exact hc.irr
              · exact hno hc
              · exact hno hc.symm
              · exact hc.irr
            have hrn : r = .none := by
              rcases hr with h | ⟨_, _, _, h⟩
              · exact h.1
              · exact absurd nc h
            subst hrn
            have ne := pNe_enc p.1 q.1
            simp (config := {maxSteps := 4000000}) [and_assoc, ne, er, pNotN, MD.isNon]
            by_cases hpq : p.1 = q.1
            · exact .inl ⟨hpq, some (.sh (enc q.1)), rfl, some (.sh (enc q.2)), rfl, some (.sh (enc (srtE [p, q]))), rfl, rfl, rfl, rfl⟩
            · exact .inr ⟨hpq, some (.sh (enc q.1)), rfl, some (.sh (enc q.2)), rfl, some (.sh (enc (srtE [p, q]))), rfl, rfl, rfl, rfl⟩
          · rintro ρ ⟨j14, j15, j16, k14, k15, k16, rfl⟩
            exact ⟨some (.sh (enc p.1)), rfl, some (.sh (enc p.2)), rfl, j14, k14, j15, k15, j16, k16, rfl⟩
        · rintro ρ ⟨j12, j13, j14, j15, j16, k12, k13, k14, k15, k16, rfl⟩
          exact ⟨rfl, j12, k12, j13, k13, j14, k14, j15, k15, j16, k16, rfl⟩
      rintro _ ⟨j12, j13, j14, j15, j16, k12, k13, k14, k15, k16, rfl⟩
      have lg1 : ∀ p ∈ ones, p.1.length ≤ 1000 := fun p hp => by have := len_good (g1 p hp).c; omega
      have lg2 : ∀ p ∈ others, p.1.length ≤ 1000 := fun p hp => by have := len_good (g2 p hp).c; omega
      have bothN : ∀ p ∈ bothL, p.1.Nodup ∧ p.1.length ≤ 1000 := fun p hp => by
        obtain ⟨q, hq, e⟩ := hb.sub p hp
        rw [e]
        rw [hparts] at hq
        rcases List.mem_append.mp hq with h | h
        · obtain ⟨z, hz, rfl⟩ := List.mem_map.mp h; exact ⟨n1 z, ln1 z hz⟩
        · obtain ⟨z, hz, rfl⟩ := List.mem_map.mp h; exact ⟨n2 z, ln2 z hz⟩
      obtain ⟨ra, ea, ha⟩ := first_ok (.int many) ones (by omega) lg1
      obtain ⟨rb, eb, hb2⟩ := first_ok (.int more) others (by omega) lg2
      obtain ⟨rc, ec, hc⟩ := first_ok (.int (many + more - 1)) bothL (by omega) fun p hp => (bothN p hp).2
      have non_iff : ∀ {cs : List CW} {r : D}, ((r = .none ∧ noCross cs) ∨ (∃ i j : Int, r = .tuple [.int i, .int j] ∧ ¬ noCross cs)) → (MD.isNon r = true ↔ noCross cs) := fun h => by
        rcases h with ⟨rfl, h⟩ | ⟨i, j, rfl, h⟩
        · exact ⟨fun _ => h, fun _ => rfl⟩
        · exact ⟨fun z => (by cases z), fun z => absurd z h⟩
      have key : MD.isNon rc = (MD.isNon ra && MD.isNon rb) := by
        have e1 := (non_iff ha).trans (noCross_iff fun p hp => (g1 p hp).c.nd)
        have e2 := (non_iff hb2).trans (noCross_iff fun p hp => (g2 p hp).c.nd)
        have e3 := (non_iff hc).trans (noCross_iff fun p hp => (bothN p hp).1)
        have e4 : NC bothL ↔ NC ones ∧ NC others := by
          constructor
          · intro h
            constructor
            · intro p hp q hq hcr
              obtain ⟨p', hp', e⟩ := hb.sup (part1 many more at_ to p) (by rw [hparts]; exact List.mem_append_left _ (List.mem_map.mpr ⟨p, hp, rfl⟩))
              obtain ⟨q', hq', e'⟩ := hb.sup (part1 many more at_ to q) (by rw [hparts]; exact List.mem_append_left _ (List.mem_map.mpr ⟨q, hq, rfl⟩))
              exact h p' hp' q' hq' (by rw [e, e']; exact (cr_part1 m1 r1 f1 f2 i1 i2 (g1 p hp) (g1 q hq)).mpr hcr)
            · intro p hp q hq hcr
              obtain ⟨p', hp', e⟩ := hb.sup (part2 many more at_ to p) (by rw [hparts]; exact List.mem_append_right _ (List.mem_map.mpr ⟨p, hp, rfl⟩))
              obtain ⟨q', hq', e'⟩ := hb.sup (part2 many more at_ to q) (by rw [hparts]; exact List.mem_append_right _ (List.mem_map.mpr ⟨q, hq, rfl⟩))
              exact h p' hp' q' hq' (by rw [e, e']; exact (cr_part2 m1 r1 f1 f2 i1 i2 (g2 p hp) (g2 q hq)).mpr hcr)
          · rintro ⟨h1, h2⟩ p hp q hq hcr
            obtain ⟨p', hp', e⟩ := hb.sub p hp
            obtain ⟨q', hq', e'⟩ := hb.sub q hq
            rw [e, e'] at hcr
            rw [hparts] at hp' hq'
            rcases List.mem_append.mp hp' with h | h <;> rcases List.mem_append.mp hq' with h' | h' <;> obtain ⟨x, hx, rfl⟩ := List.mem_map.mp h <;> obtain ⟨y, hy, rfl⟩ := List.mem_map.mp h'
            · exact h1 x hx y hy ((cr_part1 m1 r1 f1 f2 i1 i2 (g1 x hx) (g1 y hy)).mp hcr)
            · exact cr_no m1 r1 f1 f2 i1 i2 (g1 x hx) (g2 y hy) hcr
            · exact cr_no m1 r1 f1 f2 i1 i2 (g1 y hy) (g2 x hx) hcr.symm
            · exact h2 x hx y hy ((cr_part2 m1 r1 f1 f2 i1 i2 (g2 x hx) (g2 y hy)).mp hcr)
        rw [Bool.eq_iff_iff, Bool.and_eq_true, e1, e2, e3, e4]
      have pn : ∀ r, pIsN r .none = some (.bool (MD.isNon r)) := fun r => rfl
      refine WS_cut (fun ρ => ρ = [some (.sh (.list (ns.map PyData.int))), some (.sh (.int k)), some (.sh (.list ps8)), some (.sh (.int many)), some (.sh (.int more)), some (.sh (enc ones)), some (.sh (enc others)), some (.sh (.int at_)), some (.sh (.int to)), some (.sh (.list [enc (ones.map (part1 many more at_ to)), enc (others.map (part2 many more at_ to))])), some (.sh (.int (many + more - 1))), some (.sh (enc bothL)), j12, j13, j14, j15, j16, some (.sh (.bool (MD.isNon ra && MD.isNon rb)))]) ?_ ?_
      · simp (config := {maxSteps := 4000000}) [and_assoc, ea, eb, pn, k17]
        cases MD.isNon ra <;> simp
      rintro _ rfl
      refine WS_cut (fun ρ => ρ = [some (.sh (.list (ns.map PyData.int))), some (.sh (.int k)), some (.sh (.list ps8)), some (.sh (.int many)), some (.sh (.int more)), some (.sh (enc ones)), some (.sh (enc others)), some (.sh (.int at_)), some (.sh (.int to)), some (.sh (.list [enc (ones.map (part1 many more at_ to)), enc (others.map (part2 many more at_ to))])), some (.sh (.int (many + more - 1))), some (.sh (enc bothL)), j12, j13, j14, j15, j16, some (.sh (.bool (MD.isNon ra && MD.isNon rb)))]) ?_ ?_
      · simp (config := {maxSteps := 4000000}) [and_assoc, ec, pn, key, pNe_b]
      rintro _ rfl
      rw [WS_nil]
      exact ⟨some (.sh (.int k)), some (.sh (.list ps8)), some (.sh (.int many)), some (.sh (.int more)), some (.sh (enc ones)), some (.sh (enc others)), some (.sh (.int at_)), some (.sh (.int to)), some (.sh (.list [enc (ones.map (part1 many more at_ to)), enc (others.map (part2 many more at_ to))])), some (.sh (.int (many + more - 1))), some (.sh (enc bothL)), j12, j13, j14, j15, j16, some (.sh (.bool (MD.isNon ra && MD.isNon rb))), rfl, rfl, rfl, rfl, rfl, rfl, rfl, rfl, rfl, rfl, rfl, k12, k13, k14, k15, k16, rfl, rfl⟩
    · rintro ρ ⟨j1, j2, j3, j4, j5, j6, j7, j8, j9, j10, j11, j12, j13, j14, j15, j16, j17, k1, k2, k3, k4, k5, k6, k7, k8, k9, k10, k11, k12, k13, k14, k15, k16, k17, rfl⟩
      exact ⟨rfl, _, rfl⟩
  rintro _ ⟨js, rfl⟩
  simp (config := {maxSteps := 4000000}) [and_assoc]
end K18


set_option Elab.async false
set_option linter.all false
set_option maxRecDepth 100000
set_option maxHeartbeats 4000000
namespace K18
open PySem PySem.Spec PyProof.Rows L2 MD
theorem all_mk {l : PySem.W.OpenLaw} {w : World} {K : PySem.W.Frag} {h : Heap} {mg : Str → Option Value} {fa : Addr} (X : K.In h) (G : h.Ns mainGlobals mg) (hfa : mg "law" = some (.ref fa))
    {f__law_pool : Addr} {od__law_pool an__law_pool : Option Addr} {sl__law_pool : Array (Option Value)} {oc__law_pool kV__law_pool dc__law_pool pm__law_pool cd__law_pool ct__law_pool : Value}
    (a__law_pool : PySem.W.nsIn K mainGlobals "_law_pool" = some (some (.ref f__law_pool))) (l__law_pool : K.lookup f__law_pool = some ⟨oc__law_pool, od__law_pool, .func (PySem.W.fnOf "_law_pool" "_law_pool" (defArgs s__law_pool) (defBody s__law_pool) (defScope s__law_pool) .none kV__law_pool dc__law_pool pm__law_pool an__law_pool cd__law_pool ct__law_pool), sl__law_pool⟩) (c__law_pool : PySem.W.codeIn K cd__law_pool "_law_pool" = true) (k__law_pool : PySem.W.keepIn K (.ref f__law_pool) = true)
    {f__law_take : Addr} {od__law_take an__law_take : Option Addr} {sl__law_take : Array (Option Value)} {oc__law_take kV__law_take dc__law_take pm__law_take cd__law_take ct__law_take : Value}
    (a__law_take : PySem.W.nsIn K mainGlobals "_law_take" = some (some (.ref f__law_take))) (l__law_take : K.lookup f__law_take = some ⟨oc__law_take, od__law_take, .func (PySem.W.fnOf "_law_take" "_law_take" (defArgs s__law_take) (defBody s__law_take) (defScope s__law_take) .none kV__law_take dc__law_take pm__law_take an__law_take cd__law_take ct__law_take), sl__law_take⟩) (c__law_take : PySem.W.codeIn K cd__law_take "_law_take" = true) (k__law_take : PySem.W.keepIn K (.ref f__law_take) = true)
    {f__law_once : Addr} {od__law_once an__law_once : Option Addr} {sl__law_once : Array (Option Value)} {oc__law_once kV__law_once dc__law_once pm__law_once cd__law_once ct__law_once : Value}
    (a__law_once : PySem.W.nsIn K mainGlobals "_law_once" = some (some (.ref f__law_once))) (l__law_once : K.lookup f__law_once = some ⟨oc__law_once, od__law_once, .func (PySem.W.fnOf "_law_once" "_law_once" (defArgs s__law_once) (defBody s__law_once) (defScope s__law_once) .none kV__law_once dc__law_once pm__law_once an__law_once cd__law_once ct__law_once), sl__law_once⟩) (c__law_once : PySem.W.codeIn K cd__law_once "_law_once" = true) (k__law_once : PySem.W.keepIn K (.ref f__law_once) = true)
    {f__law_lowest : Addr} {od__law_lowest an__law_lowest : Option Addr} {sl__law_lowest : Array (Option Value)} {oc__law_lowest kV__law_lowest dc__law_lowest pm__law_lowest cd__law_lowest ct__law_lowest : Value}
    (a__law_lowest : PySem.W.nsIn K mainGlobals "_law_lowest" = some (some (.ref f__law_lowest))) (l__law_lowest : K.lookup f__law_lowest = some ⟨oc__law_lowest, od__law_lowest, .func (PySem.W.fnOf "_law_lowest" "_law_lowest" (defArgs s__law_lowest) (defBody s__law_lowest) (defScope s__law_lowest) .none kV__law_lowest dc__law_lowest pm__law_lowest an__law_lowest cd__law_lowest ct__law_lowest), sl__law_lowest⟩) (c__law_lowest : PySem.W.codeIn K cd__law_lowest "_law_lowest" = true) (k__law_lowest : PySem.W.keepIn K (.ref f__law_lowest) = true)
    {f__law_figures : Addr} {od__law_figures an__law_figures : Option Addr} {sl__law_figures : Array (Option Value)} {oc__law_figures kV__law_figures dc__law_figures pm__law_figures cd__law_figures ct__law_figures : Value}
    (a__law_figures : PySem.W.nsIn K mainGlobals "_law_figures" = some (some (.ref f__law_figures))) (l__law_figures : K.lookup f__law_figures = some ⟨oc__law_figures, od__law_figures, .func (PySem.W.fnOf "_law_figures" "_law_figures" (defArgs s__law_figures) (defBody s__law_figures) (defScope s__law_figures) .none kV__law_figures dc__law_figures pm__law_figures an__law_figures cd__law_figures ct__law_figures), sl__law_figures⟩) (c__law_figures : PySem.W.codeIn K cd__law_figures "_law_figures" = true) (k__law_figures : PySem.W.keepIn K (.ref f__law_figures) = true)
    {f__law_weight : Addr} {od__law_weight an__law_weight : Option Addr} {sl__law_weight : Array (Option Value)} {oc__law_weight kV__law_weight dc__law_weight pm__law_weight cd__law_weight ct__law_weight : Value}
    (a__law_weight : PySem.W.nsIn K mainGlobals "_law_weight" = some (some (.ref f__law_weight))) (l__law_weight : K.lookup f__law_weight = some ⟨oc__law_weight, od__law_weight, .func (PySem.W.fnOf "_law_weight" "_law_weight" (defArgs s__law_weight) (defBody s__law_weight) (defScope s__law_weight) .none kV__law_weight dc__law_weight pm__law_weight an__law_weight cd__law_weight ct__law_weight), sl__law_weight⟩) (c__law_weight : PySem.W.codeIn K cd__law_weight "_law_weight" = true) (k__law_weight : PySem.W.keepIn K (.ref f__law_weight) = true)
    {f__law_cuts : Addr} {od__law_cuts an__law_cuts : Option Addr} {sl__law_cuts : Array (Option Value)} {oc__law_cuts kV__law_cuts dc__law_cuts pm__law_cuts cd__law_cuts ct__law_cuts : Value}
    (a__law_cuts : PySem.W.nsIn K mainGlobals "_law_cuts" = some (some (.ref f__law_cuts))) (l__law_cuts : K.lookup f__law_cuts = some ⟨oc__law_cuts, od__law_cuts, .func (PySem.W.fnOf "_law_cuts" "_law_cuts" (defArgs s__law_cuts) (defBody s__law_cuts) (defScope s__law_cuts) .none kV__law_cuts dc__law_cuts pm__law_cuts an__law_cuts cd__law_cuts ct__law_cuts), sl__law_cuts⟩) (c__law_cuts : PySem.W.codeIn K cd__law_cuts "_law_cuts" = true) (k__law_cuts : PySem.W.keepIn K (.ref f__law_cuts) = true)
    {f_cut_of : Addr} {od_cut_of an_cut_of : Option Addr} {sl_cut_of : Array (Option Value)} {oc_cut_of kV_cut_of dc_cut_of pm_cut_of cd_cut_of ct_cut_of : Value}
    (a_cut_of : PySem.W.nsIn K mainGlobals "cut_of" = some (some (.ref f_cut_of))) (l_cut_of : K.lookup f_cut_of = some ⟨oc_cut_of, od_cut_of, .func (PySem.W.fnOf "cut_of" "cut_of" (defArgs s_cut_of) (defBody s_cut_of) (defScope s_cut_of) .none kV_cut_of dc_cut_of pm_cut_of an_cut_of cd_cut_of ct_cut_of), sl_cut_of⟩) (c_cut_of : PySem.W.codeIn K cd_cut_of "cut_of" = true) (k_cut_of : PySem.W.keepIn K (.ref f_cut_of) = true)
    {f__law_sides : Addr} {od__law_sides an__law_sides : Option Addr} {sl__law_sides : Array (Option Value)} {oc__law_sides kV__law_sides dc__law_sides pm__law_sides cd__law_sides ct__law_sides : Value}
    (a__law_sides : PySem.W.nsIn K mainGlobals "_law_sides" = some (some (.ref f__law_sides))) (l__law_sides : K.lookup f__law_sides = some ⟨oc__law_sides, od__law_sides, .func (PySem.W.fnOf "_law_sides" "_law_sides" (defArgs s__law_sides) (defBody s__law_sides) (defScope s__law_sides) .none kV__law_sides dc__law_sides pm__law_sides an__law_sides cd__law_sides ct__law_sides), sl__law_sides⟩) (c__law_sides : PySem.W.codeIn K cd__law_sides "_law_sides" = true) (k__law_sides : PySem.W.keepIn K (.ref f__law_sides) = true)
    {f_common_of : Addr} {od_common_of an_common_of : Option Addr} {sl_common_of : Array (Option Value)} {oc_common_of kV_common_of dc_common_of pm_common_of cd_common_of ct_common_of : Value}
    (a_common_of : PySem.W.nsIn K mainGlobals "common_of" = some (some (.ref f_common_of))) (l_common_of : K.lookup f_common_of = some ⟨oc_common_of, od_common_of, .func (PySem.W.fnOf "common_of" "common_of" (defArgs s_common_of) (defBody s_common_of) (defScope s_common_of) .none kV_common_of dc_common_of pm_common_of an_common_of cd_common_of ct_common_of), sl_common_of⟩) (c_common_of : PySem.W.codeIn K cd_common_of "common_of" = true) (k_common_of : PySem.W.keepIn K (.ref f_common_of) = true)
    {f_fraction : Addr} {od_fraction an_fraction : Option Addr} {sl_fraction : Array (Option Value)} {oc_fraction kV_fraction dc_fraction pm_fraction cd_fraction ct_fraction : Value}
    (a_fraction : PySem.W.nsIn K mainGlobals "fraction" = some (some (.ref f_fraction))) (l_fraction : K.lookup f_fraction = some ⟨oc_fraction, od_fraction, .func (PySem.W.fnOf "fraction" "fraction" (defArgs s_fraction) (defBody s_fraction) (defScope s_fraction) .none kV_fraction dc_fraction pm_fraction an_fraction cd_fraction ct_fraction), sl_fraction⟩) (c_fraction : PySem.W.codeIn K cd_fraction "fraction" = true) (k_fraction : PySem.W.keepIn K (.ref f_fraction) = true)
    {f_plus : Addr} {od_plus an_plus : Option Addr} {sl_plus : Array (Option Value)} {oc_plus kV_plus dc_plus pm_plus cd_plus ct_plus : Value}
    (a_plus : PySem.W.nsIn K mainGlobals "plus" = some (some (.ref f_plus))) (l_plus : K.lookup f_plus = some ⟨oc_plus, od_plus, .func (PySem.W.fnOf "plus" "plus" (defArgs s_plus) (defBody s_plus) (defScope s_plus) .none kV_plus dc_plus pm_plus an_plus cd_plus ct_plus), sl_plus⟩) (c_plus : PySem.W.codeIn K cd_plus "plus" = true) (k_plus : PySem.W.keepIn K (.ref f_plus) = true)
    {f__law_merged : Addr} {od__law_merged an__law_merged : Option Addr} {sl__law_merged : Array (Option Value)} {oc__law_merged kV__law_merged dc__law_merged pm__law_merged cd__law_merged ct__law_merged : Value}
    (a__law_merged : PySem.W.nsIn K mainGlobals "_law_merged" = some (some (.ref f__law_merged))) (l__law_merged : K.lookup f__law_merged = some ⟨oc__law_merged, od__law_merged, .func (PySem.W.fnOf "_law_merged" "_law_merged" (defArgs s__law_merged) (defBody s__law_merged) (defScope s__law_merged) .none kV__law_merged dc__law_merged pm__law_merged an__law_merged cd__law_merged ct__law_merged), sl__law_merged⟩) (c__law_merged : PySem.W.codeIn K cd__law_merged "_law_merged" = true) (k__law_merged : PySem.W.keepIn K (.ref f__law_merged) = true)
    {f_hung_together : Addr} {od_hung_together an_hung_together : Option Addr} {sl_hung_together : Array (Option Value)} {oc_hung_together kV_hung_together dc_hung_together pm_hung_together cd_hung_together ct_hung_together : Value}
    (a_hung_together : PySem.W.nsIn K mainGlobals "hung_together" = some (some (.ref f_hung_together))) (l_hung_together : K.lookup f_hung_together = some ⟨oc_hung_together, od_hung_together, .func (PySem.W.fnOf "hung_together" "hung_together" (defArgs s_hung_together) (defBody s_hung_together) (defScope s_hung_together) .none kV_hung_together dc_hung_together pm_hung_together an_hung_together cd_hung_together ct_hung_together), sl_hung_together⟩) (c_hung_together : PySem.W.codeIn K cd_hung_together "hung_together" = true) (k_hung_together : PySem.W.keepIn K (.ref f_hung_together) = true)
    {f_table_of : Addr} {od_table_of an_table_of : Option Addr} {sl_table_of : Array (Option Value)} {oc_table_of kV_table_of dc_table_of pm_table_of cd_table_of ct_table_of : Value}
    (a_table_of : PySem.W.nsIn K mainGlobals "table_of" = some (some (.ref f_table_of))) (l_table_of : K.lookup f_table_of = some ⟨oc_table_of, od_table_of, .func (PySem.W.fnOf "table_of" "table_of" (defArgs s_table_of) (defBody s_table_of) (defScope s_table_of) .none kV_table_of dc_table_of pm_table_of an_table_of cd_table_of ct_table_of), sl_table_of⟩) (c_table_of : PySem.W.codeIn K cd_table_of "table_of" = true) (k_table_of : PySem.W.keepIn K (.ref f_table_of) = true)
    {f_do_cross : Addr} {od_do_cross an_do_cross : Option Addr} {sl_do_cross : Array (Option Value)} {oc_do_cross kV_do_cross dc_do_cross pm_do_cross cd_do_cross ct_do_cross : Value}
    (a_do_cross : PySem.W.nsIn K mainGlobals "do_cross" = some (some (.ref f_do_cross))) (l_do_cross : K.lookup f_do_cross = some ⟨oc_do_cross, od_do_cross, .func (PySem.W.fnOf "do_cross" "do_cross" (defArgs s_do_cross) (defBody s_do_cross) (defScope s_do_cross) .none kV_do_cross dc_do_cross pm_do_cross an_do_cross cd_do_cross ct_do_cross), sl_do_cross⟩) (c_do_cross : PySem.W.codeIn K cd_do_cross "do_cross" = true) (k_do_cross : PySem.W.keepIn K (.ref f_do_cross) = true)
    {f_first_crossing : Addr} {od_first_crossing an_first_crossing : Option Addr} {sl_first_crossing : Array (Option Value)} {oc_first_crossing kV_first_crossing dc_first_crossing pm_first_crossing cd_first_crossing ct_first_crossing : Value}
    (a_first_crossing : PySem.W.nsIn K mainGlobals "first_crossing" = some (some (.ref f_first_crossing))) (l_first_crossing : K.lookup f_first_crossing = some ⟨oc_first_crossing, od_first_crossing, .func (PySem.W.fnOf "first_crossing" "first_crossing" (defArgs s_first_crossing) (defBody s_first_crossing) (defScope s_first_crossing) .none kV_first_crossing dc_first_crossing pm_first_crossing an_first_crossing cd_first_crossing ct_first_crossing), sl_first_crossing⟩) (c_first_crossing : PySem.W.codeIn K cd_first_crossing "first_crossing" = true) (k_first_crossing : PySem.W.keepIn K (.ref f_first_crossing) = true)
    {f_law : Addr} {od_law an_law : Option Addr} {sl_law : Array (Option Value)} {oc_law kV_law dc_law pm_law cd_law ct_law : Value}
    (a_law : PySem.W.nsIn K mainGlobals "law" = some (some (.ref f_law))) (l_law : K.lookup f_law = some ⟨oc_law, od_law, .func (PySem.W.fnOf "law" "law" (defArgs s_law) (defBody s_law) (defScope s_law) .none kV_law dc_law pm_law an_law cd_law ct_law), sl_law⟩) (c_law : PySem.W.codeIn K cd_law "law" = true) (k_law : PySem.W.keepIn K (.ref f_law) = true)
    (z_abs : PySem.W.nsIn K mainGlobals "abs" = some none)
    (z_enumerate : PySem.W.nsIn K mainGlobals "enumerate" = some none)
    (z_int : PySem.W.nsIn K mainGlobals "int" = some none)
    (z_len : PySem.W.nsIn K mainGlobals "len" = some none)
    (z_list : PySem.W.nsIn K mainGlobals "list" = some none)
    (z_max : PySem.W.nsIn K mainGlobals "max" = some none)
    (z_min : PySem.W.nsIn K mainGlobals "min" = some none)
    (z_range : PySem.W.nsIn K mainGlobals "range" = some none)
    (z_set : PySem.W.nsIn K mainGlobals "set" = some none)
    (z_sorted : PySem.W.nsIn K mainGlobals "sorted" = some none)
    {f_NOUGHT : Addr} {od_NOUGHT : Option Addr} {n_NOUGHT : Nat} {sl_NOUGHT : Array (Option Value)} {u_NOUGHT0 u_NOUGHT1 : Tok} (a_NOUGHT : PySem.W.nsIn K mainGlobals "NOUGHT" = some (some (.ref f_NOUGHT))) (l_NOUGHT : K.lookup f_NOUGHT = some ⟨.type "tuple", od_NOUGHT, .seq #[.int 0 u_NOUGHT0, .int 1 u_NOUGHT1] n_NOUGHT, sl_NOUGHT⟩)
    : ∃ fd : FuncData, (∀ (s : Shared) (v : Value), BindsTo s fd ⟨[v], []⟩ [("script", v)]) ∧ ∀ base : Heap, K.In base → base.Ns mainGlobals mg → FnOk l.prog w K mg base (L2.CX l.prog w) 5 fa fd ["script"] (spLaw K 63) := by
  have e := hfa.symm.trans (PySem.W.mg_of X G a_law)
  cases e
  have F__law_pool := fun_mk (st := s__law_pool) l__law_pool c__law_pool k__law_pool
  have b__law_pool := F__law_pool.binds (ps := ["script", "k"]) fun _ _ _ _ _ _ us hl => match us, hl with | [_, _], _ => rfl
  have F__law_take := fun_mk (st := s__law_take) l__law_take c__law_take k__law_take
  have b__law_take := F__law_take.binds (ps := ["pool", "many"]) fun _ _ _ _ _ _ us hl => match us, hl with | [_, _], _ => rfl
  have F__law_once := fun_mk (st := s__law_once) l__law_once c__law_once k__law_once
  have b__law_once := F__law_once.binds (ps := ["cuts"]) fun _ _ _ _ _ _ us hl => match us, hl with | [_], _ => rfl
  have F__law_lowest := fun_mk (st := s__law_lowest) l__law_lowest c__law_lowest k__law_lowest
  have b__law_lowest := F__law_lowest.binds (ps := ["top", "bottom"]) fun _ _ _ _ _ _ us hl => match us, hl with | [_, _], _ => rfl
  have F__law_figures := fun_mk (st := s__law_figures) l__law_figures c__law_figures k__law_figures
  have b__law_figures := F__law_figures.binds (ps := ["pool"]) fun _ _ _ _ _ _ us hl => match us, hl with | [_], _ => rfl
  have F__law_weight := fun_mk (st := s__law_weight) l__law_weight c__law_weight k__law_weight
  have b__law_weight := F__law_weight.binds (ps := ["pool"]) fun _ _ _ _ _ _ us hl => match us, hl with | [_], _ => rfl
  have F__law_cuts := fun_mk (st := s__law_cuts) l__law_cuts c__law_cuts k__law_cuts
  have b__law_cuts := F__law_cuts.binds (ps := ["pool", "many"]) fun _ _ _ _ _ _ us hl => match us, hl with | [_, _], _ => rfl
  have F_cut_of := fun_mk (st := s_cut_of) l_cut_of c_cut_of k_cut_of
  have b_cut_of := F_cut_of.binds (ps := ["n", "points"]) fun _ _ _ _ _ _ us hl => match us, hl with | [_, _], _ => rfl
  have F__law_sides := fun_mk (st := s__law_sides) l__law_sides c__law_sides k__law_sides
  have b__law_sides := F__law_sides.binds (ps := ["ones", "at", "many", "others", "to", "more"]) fun _ _ _ _ _ _ us hl => match us, hl with | [_, _, _, _, _, _], _ => rfl
  have F_common_of := fun_mk (st := s_common_of) l_common_of c_common_of k_common_of
  have b_common_of := F_common_of.binds (ps := ["one", "other"]) fun _ _ _ _ _ _ us hl => match us, hl with | [_, _], _ => rfl
  have F_fraction := fun_mk (st := s_fraction) l_fraction c_fraction k_fraction
  have b_fraction := F_fraction.binds (ps := ["top", "bottom"]) fun _ _ _ _ _ _ us hl => match us, hl with | [_, _], _ => rfl
  have F_plus := fun_mk (st := s_plus) l_plus c_plus k_plus
  have b_plus := F_plus.binds (ps := ["q", "r"]) fun _ _ _ _ _ _ us hl => match us, hl with | [_, _], _ => rfl
  have F__law_merged := fun_mk (st := s__law_merged) l__law_merged c__law_merged k__law_merged
  have b__law_merged := F__law_merged.binds (ps := ["ones"]) fun _ _ _ _ _ _ us hl => match us, hl with | [_], _ => rfl
  have F_hung_together := fun_mk (st := s_hung_together) l_hung_together c_hung_together k_hung_together
  have b_hung_together := F_hung_together.binds (ps := ["table", "point", "other", "other_point"]) fun _ _ _ _ _ _ us hl => match us, hl with | [_, _, _, _], _ => rfl
  have F_table_of := fun_mk (st := s_table_of) l_table_of c_table_of k_table_of
  have b_table_of := F_table_of.binds (ps := ["n", "cuts"]) fun _ _ _ _ _ _ us hl => match us, hl with | [_, _], _ => rfl
  have F_do_cross := fun_mk (st := s_do_cross) l_do_cross c_do_cross k_do_cross
  have b_do_cross := F_do_cross.binds (ps := ["one", "other"]) fun _ _ _ _ _ _ us hl => match us, hl with | [_, _], _ => rfl
  have F_first_crossing := fun_mk (st := s_first_crossing) l_first_crossing c_first_crossing k_first_crossing
  have b_first_crossing := F_first_crossing.binds (ps := ["n", "cuts"]) fun _ _ _ _ _ _ us hl => match us, hl with | [_, _], _ => rfl
  have F_law := fun_mk (st := s_law) l_law c_law k_law
  have b_law := F_law.binds (ps := ["script"]) fun _ _ _ _ _ _ us hl => match us, hl with | [_], _ => rfl
  let Y : Fx K mg := {
    a__law_pool := _, d__law_pool := _, F__law_pool := F__law_pool, g__law_pool := PySem.W.mg_of X G a__law_pool, b__law_pool := b__law_pool,
    a__law_take := _, d__law_take := _, F__law_take := F__law_take, g__law_take := PySem.W.mg_of X G a__law_take, b__law_take := b__law_take,
    a__law_once := _, d__law_once := _, F__law_once := F__law_once, g__law_once := PySem.W.mg_of X G a__law_once, b__law_once := b__law_once,
    a__law_lowest := _, d__law_lowest := _, F__law_lowest := F__law_lowest, g__law_lowest := PySem.W.mg_of X G a__law_lowest, b__law_lowest := b__law_lowest,
    a__law_figures := _, d__law_figures := _, F__law_figures := F__law_figures, g__law_figures := PySem.W.mg_of X G a__law_figures, b__law_figures := b__law_figures,
    a__law_weight := _, d__law_weight := _, F__law_weight := F__law_weight, g__law_weight := PySem.W.mg_of X G a__law_weight, b__law_weight := b__law_weight,
    a__law_cuts := _, d__law_cuts := _, F__law_cuts := F__law_cuts, g__law_cuts := PySem.W.mg_of X G a__law_cuts, b__law_cuts := b__law_cuts,
    a_cut_of := _, d_cut_of := _, F_cut_of := F_cut_of, g_cut_of := PySem.W.mg_of X G a_cut_of, b_cut_of := b_cut_of,
    a__law_sides := _, d__law_sides := _, F__law_sides := F__law_sides, g__law_sides := PySem.W.mg_of X G a__law_sides, b__law_sides := b__law_sides,
    a_common_of := _, d_common_of := _, F_common_of := F_common_of, g_common_of := PySem.W.mg_of X G a_common_of, b_common_of := b_common_of,
    a_fraction := _, d_fraction := _, F_fraction := F_fraction, g_fraction := PySem.W.mg_of X G a_fraction, b_fraction := b_fraction,
    a_plus := _, d_plus := _, F_plus := F_plus, g_plus := PySem.W.mg_of X G a_plus, b_plus := b_plus,
    a__law_merged := _, d__law_merged := _, F__law_merged := F__law_merged, g__law_merged := PySem.W.mg_of X G a__law_merged, b__law_merged := b__law_merged,
    a_hung_together := _, d_hung_together := _, F_hung_together := F_hung_together, g_hung_together := PySem.W.mg_of X G a_hung_together, b_hung_together := b_hung_together,
    a_table_of := _, d_table_of := _, F_table_of := F_table_of, g_table_of := PySem.W.mg_of X G a_table_of, b_table_of := b_table_of,
    a_do_cross := _, d_do_cross := _, F_do_cross := F_do_cross, g_do_cross := PySem.W.mg_of X G a_do_cross, b_do_cross := b_do_cross,
    a_first_crossing := _, d_first_crossing := _, F_first_crossing := F_first_crossing, g_first_crossing := PySem.W.mg_of X G a_first_crossing, b_first_crossing := b_first_crossing,
    a_law := _, d_law := _, F_law := F_law, g_law := PySem.W.mg_of X G a_law, b_law := b_law,
    n_abs := PySem.W.mg_none_of X G z_abs,
    n_enumerate := PySem.W.mg_none_of X G z_enumerate,
    n_int := PySem.W.mg_none_of X G z_int,
    n_len := PySem.W.mg_none_of X G z_len,
    n_list := PySem.W.mg_none_of X G z_list,
    n_max := PySem.W.mg_none_of X G z_max,
    n_min := PySem.W.mg_none_of X G z_min,
    n_range := PySem.W.mg_none_of X G z_range,
    n_set := PySem.W.mg_none_of X G z_set,
    n_sorted := PySem.W.mg_none_of X G z_sorted,
    c_NOUGHT := ⟨.ref f_NOUGHT, .ref f_NOUGHT, PySem.W.mg_of X G a_NOUGHT, rfl, fun B => .tup (xs := [.int 0, .int 1]) (.inr ⟨_, _, _, l_NOUGHT, rfl, rfl, (show 2 ≤ sizeLine by decide), (.cons ⟨_, rfl⟩ (.cons ⟨_, rfl⟩ .nil))⟩) (.cons (.int _) (.cons (.int _) .nil))⟩ }
  exact ⟨_, fun s v => .of_eq rfl, fun base _ _ => (ok_law Y).imp (law_sp law_true)⟩
end K18
open PySem PySem.W PyProof.Rows
set_option maxHeartbeats 0 in
theorem PySem.Challenge.cw_farcuts_k18_whole_hung_cuts_holds : PySem.Challenge.rw_farcuts_k18_whole_hung_cuts.Holds := by
  w_on; o_law; k_head; (case hw => w_witness2)
  k_fill
  refine L2.walk_of (l := PySem.Challenge.rw_farcuts_k18_whole_hung_cuts) (n := 63) (k := 5) (x := "script") (CX := fun w => L2.CX PySem.Challenge.rw_farcuts_k18_whole_hung_cuts.prog w) (sp := fun w => MD.spLaw _ 63) rfl (by decide) rfl ⟨rfl, by decide, by decide⟩ (fun w h Y => PySem.W.kIn_of Y) ?F (fun _ _ a ns hl _ hS => ⟨a, ns, rfl, hS, hl, fun _ => rfl⟩) (fun _ _ _ _ _ h => by obtain ⟨_, _, _, _, _, _, _, _, _, _, _, _, z⟩ := h; exact z)
  case F =>
    intro w mg fa h KX G hmg
    refine' K18.all_mk KX G hmg ?a__law_pool ?l__law_pool ?c__law_pool ?k__law_pool ?a__law_take ?l__law_take ?c__law_take ?k__law_take ?a__law_once ?l__law_once ?c__law_once ?k__law_once ?a__law_lowest ?l__law_lowest ?c__law_lowest ?k__law_lowest ?a__law_figures ?l__law_figures ?c__law_figures ?k__law_figures ?a__law_weight ?l__law_weight ?c__law_weight ?k__law_weight ?a__law_cuts ?l__law_cuts ?c__law_cuts ?k__law_cuts ?a_cut_of ?l_cut_of ?c_cut_of ?k_cut_of ?a__law_sides ?l__law_sides ?c__law_sides ?k__law_sides ?a_common_of ?l_common_of ?c_common_of ?k_common_of ?a_fraction ?l_fraction ?c_fraction ?k_fraction ?a_plus ?l_plus ?c_plus ?k_plus ?a__law_merged ?l__law_merged ?c__law_merged ?k__law_merged ?a_hung_together ?l_hung_together ?c_hung_together ?k_hung_together ?a_table_of ?l_table_of ?c_table_of ?k_table_of ?a_do_cross ?l_do_cross ?c_do_cross ?k_do_cross ?a_first_crossing ?l_first_crossing ?c_first_crossing ?k_first_crossing ?a_law ?l_law ?c_law ?k_law ?z_abs ?z_enumerate ?z_int ?z_len ?z_list ?z_max ?z_min ?z_range ?z_set ?z_sorted ?a_NOUGHT ?l_NOUGHT
    (case a__law_pool => k_is)
    (case l__law_pool => k_is)
    (case c__law_pool => k_is)
    (case k__law_pool => k_is)
    (case a__law_take => k_is)
    (case l__law_take => k_is)
    (case c__law_take => k_is)
    (case k__law_take => k_is)
    (case a__law_once => k_is)
    (case l__law_once => k_is)
    (case c__law_once => k_is)
    (case k__law_once => k_is)
    (case a__law_lowest => k_is)
    (case l__law_lowest => k_is)
    (case c__law_lowest => k_is)
    (case k__law_lowest => k_is)
    (case a__law_figures => k_is)
    (case l__law_figures => k_is)
    (case c__law_figures => k_is)
    (case k__law_figures => k_is)
    (case a__law_weight => k_is)
    (case l__law_weight => k_is)
    (case c__law_weight => k_is)
    (case k__law_weight => k_is)
    (case a__law_cuts => k_is)
    (case l__law_cuts => k_is)
    (case c__law_cuts => k_is)
    (case k__law_cuts => k_is)
    (case a_cut_of => k_is)
    (case l_cut_of => k_is)
    (case c_cut_of => k_is)
    (case k_cut_of => k_is)
    (case a__law_sides => k_is)
    (case l__law_sides => k_is)
    (case c__law_sides => k_is)
    (case k__law_sides => k_is)
    (case a_common_of => k_is)
    (case l_common_of => k_is)
    (case c_common_of => k_is)
    (case k_common_of => k_is)
    (case a_fraction => k_is)
    (case l_fraction => k_is)
    (case c_fraction => k_is)
    (case k_fraction => k_is)
    (case a_plus => k_is)
    (case l_plus => k_is)
    (case c_plus => k_is)
    (case k_plus => k_is)
    (case a__law_merged => k_is)
    (case l__law_merged => k_is)
    (case c__law_merged => k_is)
    (case k__law_merged => k_is)
    (case a_hung_together => k_is)
    (case l_hung_together => k_is)
    (case c_hung_together => k_is)
    (case k_hung_together => k_is)
    (case a_table_of => k_is)
    (case l_table_of => k_is)
    (case c_table_of => k_is)
    (case k_table_of => k_is)
    (case a_do_cross => k_is)
    (case l_do_cross => k_is)
    (case c_do_cross => k_is)
    (case k_do_cross => k_is)
    (case a_first_crossing => k_is)
    (case l_first_crossing => k_is)
    (case c_first_crossing => k_is)
    (case k_first_crossing => k_is)
    (case a_law => k_is)
    (case l_law => k_is)
    (case c_law => k_is)
    (case k_law => k_is)
    (case z_abs => k_is)
    (case z_enumerate => k_is)
    (case z_int => k_is)
    (case z_len => k_is)
    (case z_list => k_is)
    (case z_max => k_is)
    (case z_min => k_is)
    (case z_range => k_is)
    (case z_set => k_is)
    (case z_sorted => k_is)
    (case a_NOUGHT => k_is)
    (case l_NOUGHT => k_is)


