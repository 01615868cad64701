/- The statement TwiceEqualSaid: the call returns true for every input, and its arguments read as before; no condition. -/
import Derived.Test.YtedihdnkalmoiaaB4
import Derived.Below
import Derived.ChangeArms
import Derived.DataReads
import Derived.WideShapes
import Derived.Carry
import Derived.OpenShut
import Derived.RowKit3
import Derived.ProofKit
import Derived.ChangeCalls
import Derived.Test.YtedihdnkalmoiaaRows
set_option linter.unusedVariables false
set_option linter.unusedSimpArgs false
/- From a contract over plain values to the call itself: what it hands back, and that nothing that was there has turned. -/
namespace Go.Gh
open Go.RowKit
variable {Pg : Program}

/-- Where no code waits for a yield. -/
def Env.base (Pg : Program) : Env Pg where
  α := Unit
  yv := .nilFunc
  one := rfl
  Res := fun _ S _ _ => ∀ b, ¬ S b
  Can := fun _ _ => False
  Y := fun _ _ _ _ => False
  stable := fun h _ _ _ _ _ => h
  ycall := fun h => h.elim
/-- What a world's cells hold. -/
def cellsP (w : World) : PM := fun b o => w.cell? ⟨b, o, none⟩
theorem base_rel (w : World) : Rel (Env.base Pg) (cellsP w) (fun _ => ⟨0, .nilFunc, 0⟩) (mkHp []) () (fun _ => False) w where
  know := fun _ _ _ h => h
  objs := fun id => by simp [ORel, mkHp_nil]
  apart := fun i j b hij h => by simp [live, mkHp_nil] at h
  sep := fun i b h => by simp [live, mkHp_nil] at h
  res := fun b h => h
  inb := fun b h => h.elim
theorem calls_of {f : FuncId} {ps : List P} {v : P} {vs : List Value} {w : World} (hs : PSpec Pg f ps (.ok v)) (hv : PRels (cellsP w) ps vs) :
    Calls Pg f ⟨vs⟩ w fun e w' => ∃ u π', e = .returned u ∧ PRel π' v u ∧ Below w.heap.size w w' := by
  have h := hs (Env.base Pg) () (cellsP w) (fun _ => ⟨0, .nilFunc, 0⟩) (fun _ => False) w vs (base_rel w) (VRels.of_PRels hv)
  refine (callsIn_wide.1 h).mono fun e w' k => ?_
  have key : ∀ {π' ρ' h' A' S'}, Behind (Env.base Pg) (cellsP w) (fun _ => ⟨0, .nilFunc, 0⟩) (mkHp []) (fun _ => False) w π' ρ' h' A' S' w' → Below w.heap.size w w' := fun b => by
    have t := b.trans
    refine ⟨t.os, t.tape, t.output, t.size, fun b hb => (t.keep b hb fun ho => ?_).1⟩
    rcases ho with ho | ⟨id, ho⟩
    · exact ho
    · simp [live, mkHp_nil] at ho
  cases e with
  | returned u =>
    obtain ⟨π', ρ', h', A', S', g, b, hvr, _, hR⟩ := k
    simp only [PRes.at, GRes.ok.injEq] at hR
    obtain ⟨rfl, _, _⟩ := hR
    exact ⟨u, π', rfl, by simpa only [VRel] using hvr, key b⟩
  | panicked chain =>
    obtain ⟨π', ρ', h', A', S', p, v', b, _, _, hR⟩ := k
    simp [PRes.at] at hR
  | outgrown => exact k.elim
end Go.Gh

/- What a call's arguments hold, read as data, are ghost values of the shape that their types have. -/
namespace Go.Gh
open Go.RowKit

/-- The shape of one cell. -/
inductive S where
  | bool | int (k : IntKind) | str
  | list (es : List S) (agg : Bool)

/-- The shape of a type's cells, as far as we read them: slices of slices are left out. -/
def shpF (sh : TypeId → Option (List S)) (P : Program) : List Field → Nat → Option (List S)
  | [], _ => some []
  | f :: fs, o => (sh f.type).bind fun a => if f.offset = o ∧ P.cellsOf f.type = a.length then (shpF sh P fs (o + a.length)).map (a ++ ·) else none
def shp (P : Program) : Nat → Bool → TypeId → Option (List S)
  | 0, _, _ => none
  | n + 1, deep, t => match P.underlying t with
    | some .bool => some [.bool]
    | some (.int k) => some [.int k]
    | some .string => some [.str]
    | some (.slice e) => if deep then none else (shp P n true e).bind fun es => if P.cellsOf e = es.length then (match P.underlying e with
      | some (.struct _) => some [.list es true]
      | some (.array _ _) => some [.list es true]
      | _ => if es.length = 1 then some [.list es false] else none) else none
    | some (.struct fs) => shpF (shp P n deep) P fs.toList 0
    | some (.array m e) => (shp P n deep e).bind fun es => if P.cellsOf e = es.length then some (List.replicate m es).flatten else none
    | _ => none

mutual
def Fits : S → P → Prop
  | .bool, x => ∃ b, x = .bool b
  | .int k, x => ∃ n, x = .int k n ∧ (Lit.int k n).wf = true
  | .str, x => ∃ s, x = .str s ∧ s.length ≤ maxLen
  | .list es agg, x => ∃ xs, x = .list xs ∧ xs.length ≤ maxLen ∧ ∀ y ∈ xs, ∃ cs, Fitss es cs ∧ (agg = true → y = .agg cs) ∧ (agg = false → cs = [y])
def Fitss : List S → List P → Prop
  | [], xs => xs = []
  | e :: es, xs => ∃ y ys, xs = y :: ys ∧ Fits e y ∧ Fitss es ys
end
theorem Fits.one {s : S} {x : P} (h : Fits s x) : x.one = true := by
  cases s <;> simp only [Fits] at h
  · obtain ⟨_, rfl⟩ := h; rfl
  · obtain ⟨_, rfl, _⟩ := h; rfl
  · obtain ⟨_, rfl, _⟩ := h; rfl
  · obtain ⟨_, rfl, _⟩ := h; rfl
theorem Fitss.length : ∀ {ss : List S} {xs : List P}, Fitss ss xs → xs.length = ss.length
  | [], xs, h => by simp only [Fitss] at h; subst h; rfl
  | s :: ss, xs, h => by
    simp only [Fitss] at h
    obtain ⟨y, ys, rfl, _, k⟩ := h
    simp [Fitss.length k]
theorem Fitss.one : ∀ {ss : List S} {xs : List P}, Fitss ss xs → ∀ x ∈ xs, x.one = true
  | [], xs, h, x, hx => by simp only [Fitss] at h; subst h; simp at hx
  | s :: ss, xs, h, x, hx => by
    simp only [Fitss] at h
    obtain ⟨y, ys, rfl, k1, k2⟩ := h
    rcases List.mem_cons.1 hx with rfl | hx
    · exact k1.one
    · exact Fitss.one k2 x hx
theorem Fitss.append : ∀ {ss ts : List S} {xs ys : List P}, Fitss ss xs → Fitss ts ys → Fitss (ss ++ ts) (xs ++ ys)
  | [], ts, xs, ys, h, k => by simp only [Fitss] at h; subst h; simpa using k
  | s :: ss, ts, xs, ys, h, k => by
    simp only [Fitss] at h
    obtain ⟨y, zs, rfl, k1, k2⟩ := h
    simp only [List.cons_append, Fitss]
    exact ⟨y, _, rfl, k1, Fitss.append k2 k⟩
theorem PRels.append' {π : PM} {xs ys : List P} {us vs : List Value} (h : PRels π xs us) (k : PRels π ys vs) : PRels π (xs ++ ys) (us ++ vs) := by
  induction xs generalizing us with
  | nil => simp only [PRels] at h; subst h; simpa using k
  | cons x xs ih =>
    simp only [PRels] at h
    obtain ⟨v, ws, rfl, h1, h2⟩ := h
    simp only [List.cons_append, PRels]
    exact ⟨v, _, rfl, h1, ih h2⟩
/-- No cell leads into a part of an interface value. -/
def Spots (cs : List Value) : Prop := ∀ a len cap, Value.slice (some a) len cap ∈ cs → a.spot = none

variable {H : Type} {enc : TypeId × Value → H} {Pg : Program} {w : World} {base : Nat} {spare : Nat → Bool} {held : Bool}
theorem mapM_get {α β : Type} {f : α → Option β} : ∀ {l : List α} {r : List β}, l.mapM f = some r → r.length = l.length ∧ ∀ (i : Nat) x, l[i]? = some x → f x = r[i]?
  | l, r, h => ⟨mapM_some_length h, fun i x hx => mapM_some_get h i x hx⟩
theorem add_none (b o j : Nat) : (⟨b, o, none⟩ : Addr).add j = ⟨b, o + j, none⟩ := by simp [Addr.add]
/-- A row of cells, relation by relation. -/
theorem row_of {a : Addr} {n : Nat} {cs : List Value} {ps : List P} (hs : a.spot = none) (h : w.cells? base a n = some cs) (hr : PRels (cellsP w) ps cs) (h1 : ∀ x ∈ ps, x.one = true) : PRow (cellsP w) a.block a.off ps := by
  obtain ⟨_, hl, hc⟩ := World.cells?_some h
  refine PRow.mk fun j c hj => ?_
  obtain ⟨u, hu, hk⟩ := hr.get j c hj
  refine ⟨u, ?_, hk, h1 c (List.mem_of_getElem? hj)⟩
  have hjn : j < n := by
    have := (List.getElem?_eq_some_iff.1 hu).1
    omega
  have := hc j hjn
  rw [hu] at this
  rw [← this]
  obtain ⟨b, o, s⟩ := a
  simp only at hs; subst hs
  simp only [cellsP, add_none]
theorem PElems.of_rows {π : PM} {b c : Nat} : ∀ {xs : List P} {o : Nat}, (∀ (i : Nat) x, xs[i]? = some x → x.cells.length = c ∧ PRow π b (o + i * c) x.cells) → PElems π b o xs := by
  intro xs
  induction xs with
  | nil => intro o _; simp only [PElems]
  | cons x xs ih =>
    intro o h
    have h0 := h 0 x (by simp)
    rw [PElems.row, List.flatMap_cons, PRow.append, ← PElems.row]
    refine ⟨by simpa using h0.2, ?_⟩
    rw [h0.1]
    refine ih fun i y hy => ?_
    have := h (i + 1) y (by simpa using hy)
    refine ⟨this.1, ?_⟩
    have e : o + c + i * c = o + (i + 1) * c := by rw [Nat.add_mul]; omega
    rw [e]; exact this.2
theorem exists_list {α : Type} {n : Nat} {R : Nat → α → Prop} (h : ∀ i, i < n → ∃ x, R i x) : ∃ xs : List α, xs.length = n ∧ ∀ (i : Nat) x, xs[i]? = some x → R i x := by
  induction n with
  | zero => exact ⟨[], rfl, fun i x hx => by simp at hx⟩
  | succ n ih =>
    obtain ⟨xs, hl, hx⟩ := ih fun i hi => h i (by omega)
    obtain ⟨x, hr⟩ := h n (by omega)
    refine ⟨xs ++ [x], by simp [hl], fun i y hy => ?_⟩
    by_cases hi : i < n
    · rw [List.getElem?_append_left (by omega)] at hy; exact hx i y hy
    · have hi' : i = n := by
        have := (List.getElem?_eq_some_iff.1 hy).1
        simp [hl] at this; omega
      subst hi'
      rw [List.getElem?_append_right (by omega), hl] at hy
      simp at hy; subst hy; exact hr

theorem Spots.sub {cs ds : List Value} (h : Spots cs) (hs : ∀ v ∈ ds, v ∈ cs) : Spots ds := fun a l c k => h a l c (hs _ k)

theorem shpF_sound {sh : TypeId → Option (List S)} {R : TypeId → List Value → Prop} {cs : List Value}
    (ih : ∀ t ss ds, sh t = some ss → Pg.cellsOf t = ss.length → R t ds → (∀ v ∈ ds, v ∈ cs) → ∃ ps, PRels (cellsP w) ps ds ∧ Fitss ss ps) :
    ∀ (fs : List Field) (o : Nat) (ss : List S), shpF sh Pg fs o = some ss → o + ss.length = cs.length → (∀ f ∈ fs, R f.type ((cs.drop f.offset).take (Pg.cellsOf f.type))) →
      ∃ ps, PRels (cellsP w) ps (cs.drop o) ∧ Fitss ss ps
  | [], o, ss, h, hl, _ => by
    simp only [shpF, Option.some.injEq] at h; subst h
    simp at hl; subst hl
    exact ⟨[], by simp [PRels], by simp [Fitss]⟩
  | f :: fs, o, ss, h, hl, hr => by
    simp only [shpF, Option.bind_eq_some_iff] at h
    obtain ⟨a, ha, h⟩ := h
    split at h
    · rename_i hc
      obtain ⟨rfl, hc⟩ := hc
      simp only [Option.map_eq_some_iff] at h
      obtain ⟨b, hb, rfl⟩ := h
      obtain ⟨p1, q1, g1⟩ := ih f.type a _ ha hc (hr f (by simp)) (fun v hv => List.mem_of_mem_drop (List.mem_of_mem_take hv))
      obtain ⟨p2, q2, g2⟩ := shpF_sound ih fs _ b hb (by simp at hl; omega) (fun g hg => hr g (by simp [hg]))
      refine ⟨p1 ++ p2, ?_, g1.append g2⟩
      have := q1.append' q2
      rw [hc] at this
      rw [← List.drop_drop] at this
      rwa [List.take_append_drop] at this
    · cases h

theorem flat_sound {es : List S} {cs : List Value} {c : Nat} (hc : c = es.length) :
    ∀ (m o : Nat), (∀ i, o ≤ i → i < o + m → ∃ ps, PRels (cellsP w) ps ((cs.drop (i * c)).take c) ∧ Fitss es ps) →
      ∃ ps, PRels (cellsP w) ps ((cs.drop (o * c)).take (m * c)) ∧ Fitss (List.replicate m es).flatten ps := by
  intro m
  induction m with
  | zero => intro o _; exact ⟨[], by simp [PRels], by simp [Fitss]⟩
  | succ m ih =>
    intro o h
    obtain ⟨p1, q1, g1⟩ := h o (by omega) (by omega)
    obtain ⟨p2, q2, g2⟩ := ih (o + 1) fun i h1 h2 => h i (by omega) (by omega)
    refine ⟨p1 ++ p2, ?_, ?_⟩
    · have := q1.append' q2
      have e : (cs.drop (o * c)).take ((m + 1) * c) = (cs.drop (o * c)).take c ++ (cs.drop ((o + 1) * c)).take (m * c) := by
        rw [Nat.add_mul, Nat.one_mul, Nat.add_comm (m * c), List.take_add, List.drop_drop, Nat.add_mul, Nat.one_mul]
      rw [e]; exact this
    · rw [List.replicate_succ, List.flatten_cons]; exact g1.append g2

theorem trod_arr {k : Nat} {t e : TypeId} {m : Nat} {cs : List Value} {x : DataW H × List MemPlace} (ht : Pg.underlying t = some (.array k e)) (h : DataW.trod enc Pg w base spare held m t cs = some x) :
    ∃ n, cs.length = Pg.cellsOf t ∧ ∀ i, i < k → ∃ y, DataW.trod enc Pg w base spare held n e ((cs.drop (i * Pg.cellsOf e)).take (Pg.cellsOf e)) = some y := by
  cases m with
  | zero => simp [DataW.trod] at h
  | succ n =>
    unfold DataW.trod at h
    rw [ht] at h
    split at h <;> simp_all
    obtain ⟨hl, xs, hxs, _⟩ := h
    refine ⟨n, fun i hi => ?_⟩
    obtain ⟨h1, h2⟩ := mapM_get hxs
    have := h2 i i (by simp [hi])
    simp at h1
    exact ⟨_, _, by rw [this]; exact List.getElem?_eq_getElem (by omega)⟩
theorem shp_sound : ∀ (n : Nat) (deep : Bool) (t : TypeId) (ss : List S), shp Pg n deep t = some ss →
    ∀ (m : Nat) (cs : List Value) (x : DataW H × List MemPlace), DataW.trod enc Pg w base spare held m t cs = some x → (deep = false → Spots cs) → Pg.cellsOf t = ss.length →
      ∃ ps, PRels (cellsP w) ps cs ∧ Fitss ss ps := by
  intro n
  induction n with
  | zero => intro _ _ _ h; simp [shp] at h
  | succ n ih =>
    intro deep t ss h m cs x hx hsp hct
    unfold shp at h
    split at h
    · rename_i ht
      simp only [Option.some.injEq] at h; subst h
      obtain ⟨b, rfl, _⟩ := DataW.trod_bool ht hx
      exact ⟨[.bool b], by simp [PRels, PRel], by simp [Fitss, Fits]⟩
    · rename_i k ht
      simp only [Option.some.injEq] at h; subst h
      obtain ⟨b, rfl, _, hw⟩ := DataW.trod_int ht hx
      exact ⟨[.int k b], by simp [PRels, PRel], by simp [Fitss, Fits, hw]⟩
    · rename_i ht
      simp only [Option.some.injEq] at h; subst h
      obtain ⟨s, rfl, _, hw⟩ := DataW.trod_string ht hx
      exact ⟨[.str s.data.toList], by simp [PRels, PRel], by simp [Fitss, Fits]; exact hw⟩
    · rename_i e ht
      split at h
      · cases h
      · rename_i hdeep
        simp only [Option.bind_eq_some_iff] at h
        obtain ⟨es, hes, h⟩ := h
        split at h
        · rename_i hce
          have agg : ∃ g : Bool, ss = [.list es g] ∧ (g = false → es.length = 1) := by
            split at h
            · simp only [Option.some.injEq] at h; subst h; exact ⟨true, rfl, fun k => by cases k⟩
            · simp only [Option.some.injEq] at h; subst h; exact ⟨true, rfl, fun k => by cases k⟩
            · split at h
              · rename_i h1
                simp only [Option.some.injEq] at h; subst h; exact ⟨false, rfl, fun _ => h1⟩
              · cases h
          obtain ⟨g, rfl, hg⟩ := agg
          clear h
          rcases DataW.trod_slice ht hx with ⟨rfl, _⟩ | ⟨a, len, cap, elems, rest, n', _, rfl, _, hb, hl, hm, hlen, hel, _, _⟩
          · refine ⟨[.list []], ?_, by simp [Fitss, Fits]⟩
            simp only [PRels, PRel]
            exact ⟨_, _, rfl, ⟨none, 0, 0, rfl, rfl, Nat.le_refl _, .inl ⟨rfl, rfl⟩⟩, rfl⟩
          · have hspot : a.spot = none := hsp (by simpa using hdeep) a len cap (by simp)
            have each : ∀ i, i < len → ∃ y : P, ∃ cs, PRow (cellsP w) a.block (a.off + i * es.length) cs ∧ cs.length = es.length ∧ y.cells = cs ∧ Fitss es cs ∧ (g = true → y = .agg cs) ∧ (g = false → cs = [y]) := by
              intro i hi
              have hh := hel i hi
              rw [List.getElem?_eq_getElem (by omega)] at hh
              simp only [Option.bind_eq_some_iff] at hh
              obtain ⟨ds, hds, hy⟩ := hh
              obtain ⟨ps, q1, q2⟩ := ih true e es hes _ _ _ hy (fun k => by cases k) hce
              have hrow' : PRow (cellsP w) a.block (a.off + i * es.length) ps := by
                obtain ⟨b, o, s⟩ := a
                simp only at hspot; subst hspot
                rw [add_none] at hds
                have := row_of rfl hds q1 q2.one
                rwa [hce] at this
              cases g with
              | true => exact ⟨.agg ps, ps, hrow', q2.length, rfl, q2, fun _ => rfl, (fun k => by cases k)⟩
              | false =>
                have := hg rfl
                have hl1 := q2.length
                rw [this] at hl1
                obtain ⟨y, rfl⟩ := List.length_eq_one_iff.1 hl1
                refine ⟨y, [y], hrow', by simp [this], ?_, q2, (fun k => by cases k), fun _ => rfl⟩
                have := q2.one y (by simp)
                cases y <;> first | rfl | simp [P.one] at this
            obtain ⟨xs, hxl, hxs⟩ := exists_list each
            refine ⟨[.list xs], ?_, ?_⟩
            · obtain ⟨b, o, s⟩ := a
              simp only at hspot; subst hspot
              simp only [PRels, PRel]
              refine ⟨_, _, rfl, ⟨_, len, cap, rfl, by omega, hl, .inr ⟨b, o, rfl, ?_⟩⟩, rfl⟩
              refine PElems.of_rows (c := es.length) fun i x hi => ?_
              obtain ⟨cs, k1, k2, k3, _⟩ := hxs i x hi
              rw [k3]; exact ⟨k2, k1⟩
            · simp only [Fitss, Fits]
              refine ⟨_, _, rfl, ⟨xs, rfl, by omega, fun y hy => ?_⟩, rfl⟩
              obtain ⟨i, hi⟩ := List.getElem?_of_mem hy
              obtain ⟨cs, _, _, _, k4, k5, k6⟩ := hxs i y hi
              exact ⟨cs, k4, k5, k6⟩
        · cases h
    · rename_i fs ht
      obtain ⟨xs, n', _, _, hl, hxl, hf⟩ := DataW.trod_struct ht hx
      have := shpF_sound (w := w) (Pg := Pg) (sh := shp Pg n deep) (R := fun t ds => ∃ y, DataW.trod enc Pg w base spare held n' t ds = some y) (cs := cs) ?_ fs.toList 0 ss h (by omega) ?_
      · simpa using this
      · rintro t' ss' ds' hs' hc' ⟨y, hy⟩ hsub
        exact ih deep t' ss' hs' _ _ _ hy (fun k => (hsp k).sub hsub) hc'
      · intro f hf'
        obtain ⟨i, hi⟩ := List.getElem?_of_mem hf'
        have hi' : fs[i]? = some f := by simpa using hi
        have := hf i f hi'
        have hlt : i < xs.length := by
          rw [hxl]
          exact (Array.getElem?_eq_some_iff.1 hi').1
        exact ⟨_, by rw [this]; exact List.getElem?_eq_getElem hlt⟩
    · rename_i k e ht
      simp only [Option.bind_eq_some_iff] at h
      obtain ⟨es, hes, h⟩ := h
      split at h
      · rename_i hce
        simp only [Option.some.injEq] at h; subst h
        obtain ⟨n', hl, hf⟩ := trod_arr ht hx
        have hlen : cs.length = k * es.length := by
          rw [hl, hct]; simp
        have := flat_sound (w := w) (cs := cs) (es := es) (c := Pg.cellsOf e) hce k 0 ?_
        · simp only [Nat.zero_mul, List.drop_zero] at this
          rwa [List.take_of_length_le (by rw [hce]; omega)] at this
        · intro i _ hi
          obtain ⟨y, hy⟩ := hf i (by omega)
          exact ih deep e es hes _ _ _ hy (fun q => (hsp q).sub fun v hv => List.mem_of_mem_drop (List.mem_of_mem_take hv)) hce
      · cases h
    · cases h
end Go.Gh

/- The join of a law: from a contract over plain values, for all values of the parameters' shapes, to what the row asks of the call. -/
namespace Go.Gh
open Go.RowKit Go.ChangeShapes Go.WideShapes Go.ChangeAt

def argS (P : Program) (n : Nat) (t : TypeId) : Option (Bool × List S) :=
  match P.underlying t with
  | some (.struct _) => (shp P n false t).bind fun ss => if P.cellsOf t = ss.length then some (true, ss) else none
  | some (.array _ _) => (shp P n false t).bind fun ss => if P.cellsOf t = ss.length then some (true, ss) else none
  | _ => (shp P n false t).bind fun ss => if P.cellsOf t = ss.length ∧ ss.length = 1 then some (false, ss) else none
def argSs (P : Program) (n : Nat) : List TypeId → Option (List (Bool × List S))
  | [] => some []
  | t :: ts => match argS P n t, argSs P n ts with
    | some s, some ss => some (s :: ss)
    | _, _ => none
def FitA : Bool × List S → P → Prop
  | (true, ss), x => ∃ cs, x = .agg cs ∧ Fitss ss cs
  | (false, ss), x => Fitss ss [x]
def FitAs : List (Bool × List S) → List P → Prop
  | [], xs => xs = []
  | s :: ss, xs => ∃ y ys, xs = y :: ys ∧ FitA s y ∧ FitAs ss ys

variable {H : Type} {enc : TypeId × Value → H} {Pg : Program} {W : World} {base : Nat} {spare : Nat → Bool} {held : Bool}
theorem cell_spot {u : TypeId} {a : Addr} {len cap : Nat} {r : Reach} (h : Cell.okWide Pg W r base u (.slice (some a) len cap)) : a.spot = none := by
  unfold Cell.okWide at h
  cases hu : Pg.underlying u with
  | none => simp [hu, Cell.ok] at h
  | some d =>
    rw [hu] at h
    cases d <;> simp [Cell.ok, hu] at h
    exact h.2.2.2.1
theorem agg_spots {t : TypeId} {cs : Array Value} {r : Reach} (h : Row.okWide Pg W r base t cs) : Spots cs.toList := fun a len cap hm => by
  obtain ⟨ts, _, _, h⟩ := h
  obtain ⟨i, hi⟩ := List.getElem?_of_mem hm
  obtain ⟨u, _, hk⟩ := h i _ (by simpa using hi)
  exact cell_spot hk
theorem arg_of {n : Nat} {t : TypeId} {v : Value} {d : DataW H} {p : List MemPlace} {s : Bool × List S} {r : Reach} {b0 : Nat} (h : DataW.Trod enc Pg W base spare held t v d p) (hv : Value.okWide Pg W r b0 t v) (hs : argS Pg n t = some s) :
    ∃ x, PRel (cellsP W) x v ∧ FitA s x := by
  obtain ⟨fuel, h⟩ := h
  have aggs : (∃ cs, v = .agg cs ∧ cs.size = Pg.cellsOf t ∧ Row.okWide Pg W r b0 t cs) → (((shp Pg n false t).bind fun ss => if Pg.cellsOf t = ss.length then some (true, ss) else none) = some s) → ∃ x, PRel (cellsP W) x v ∧ FitA s x := by
    rintro ⟨cs, rfl, hl, ho⟩ hs
    simp only [Option.bind_eq_some_iff] at hs
    obtain ⟨ss, hss, hs⟩ := hs
    split at hs
    · rename_i hc
      simp only [Option.some.injEq] at hs; subst hs
      obtain ⟨ps, q1, q2⟩ := shp_sound n false t ss hss _ _ _ h (fun _ => agg_spots ho) hc
      refine ⟨.agg ps, ?_, ps, rfl, q2⟩
      simp only [PRel]
      exact ⟨_, rfl, q1⟩
    · cases hs
  have ones : v.cells = #[v] → Cell.okWide Pg W r b0 t v → (((shp Pg n false t).bind fun ss => if Pg.cellsOf t = ss.length ∧ ss.length = 1 then some (false, ss) else none) = some s) → ∃ x, PRel (cellsP W) x v ∧ FitA s x := by
    intro hv1 ho hs
    simp only [Option.bind_eq_some_iff] at hs
    obtain ⟨ss, hss, hs⟩ := hs
    split at hs
    · rename_i hc
      simp only [Option.some.injEq] at hs; subst hs
      obtain ⟨ps, q1, q2⟩ := shp_sound n false t ss hss _ _ _ h (fun _ => by
        rw [hv1]
        intro a len cap hm
        simp at hm; subst hm
        exact cell_spot ho) hc.1
      have hl := q2.length
      rw [hc.2] at hl
      obtain ⟨x, rfl⟩ := List.length_eq_one_iff.1 hl
      rw [hv1] at q1
      simp only [PRels] at q1
      obtain ⟨v', vs, e, q, e'⟩ := q1
      subst e'
      simp at e; subst e
      exact ⟨x, q, q2⟩
    · cases hs
  unfold argS at hs
  unfold Value.okWide at hv
  split at hs
  · rename_i hu; rw [hu] at hv; exact aggs hv hs
  · rename_i hu; rw [hu] at hv; exact aggs hv hs
  · rename_i h1 h2
    have ho : Cell.okWide Pg W r b0 t v := by
      revert hv
      cases hu : Pg.underlying t with
      | none => exact id
      | some d => cases d <;> first | exact id | exact absurd hu (h1 _) | exact absurd hu (h2 _ _)
    refine ones ?_ ho hs
    revert ho
    unfold Cell.okWide
    cases v with
    | agg cs => cases hu : Pg.underlying t with
      | none => simp [Cell.ok, hu]
      | some d => cases d <;> simp [Cell.ok, hu]
    | _ => intro _; rfl
theorem args_of {n : Nat} : ∀ {ts : List TypeId} {vs : List Value} {ds : List (DataW H)} {p : List MemPlace} {ss : List (Bool × List S)} {r : Reach} {b0 : Nat}, DataW.TrodAll enc Pg W base spare held ts vs ds p →
    (∀ (j : Nat) t v, ts[j]? = some t → vs[j]? = some v → Value.okWide Pg W r b0 t v) → argSs Pg n ts = some ss → ∃ ps, PRels (cellsP W) ps vs ∧ FitAs ss ps
  | [], vs, ds, p, ss, r, b0, h, _, hs => by
    obtain ⟨rfl, _⟩ := trodAll_nil h
    simp only [argSs, Option.some.injEq] at hs; subst hs
    exact ⟨[], by simp [PRels], by simp [FitAs]⟩
  | t :: ts, vs, ds, p, ss, r, b0, h, hv, hs => by
    obtain ⟨v, vs', d, ds', p', q, rfl, rfl, rfl, h1, h2⟩ := trodAll_cons h
    unfold argSs at hs
    split at hs
    · rename_i s ss' e1 e2
      simp only [Option.some.injEq] at hs; subst hs
      obtain ⟨x, k1, k2⟩ := arg_of h1 (hv 0 t v rfl rfl) e1
      obtain ⟨xs, k3, k4⟩ := args_of h2 (fun j t v a b => hv (j + 1) t v (by simpa using a) (by simpa using b)) e2
      refine ⟨x :: xs, ?_, ?_⟩
      · simp only [PRels]; exact ⟨_, _, rfl, k1, k3⟩
      · simp only [FitAs]; exact ⟨_, _, rfl, k2, k4⟩
    · cases hs
/-- The arguments read as before. -/
theorem trodAll_stays (hl : laidOutB Pg = true) {W W' : World} (hb : Below W.heap.size W W') : ∀ {ts : List TypeId} {vs : List Value} {ds : List (DataW H)} {p : List MemPlace},
    (ts.all fun t => Pg.readableRec t && decide (t < Pg.types.size)) = true → DataW.TrodAll enc Pg W 0 (fun _ => true) true ts vs ds p →
    DataW.TrodAll enc Pg W' 0 (fun b => decide (b < W.heap.size)) true ts vs ds p
  | [], vs, ds, p, _, h => by
    obtain ⟨rfl, rfl, rfl⟩ := trodAll_nil h
    exact trodAll_mk0
  | t :: ts, vs, ds, p, ht, h => by
    obtain ⟨v, vs', d, ds', p', q, rfl, rfl, rfl, h1, h2⟩ := trodAll_cons h
    simp only [List.all_cons, Bool.and_eq_true, decide_eq_true_eq] at ht
    have lt : ∀ x ∈ p', x.block < W.heap.size := by obtain ⟨m, hm⟩ := h1; exact DataW.trod_lt m _ _ _ hm
    exact trodAll_cons_mk (Below.trod hl ht.1.1 ht.1.2 h1 hb lt) (trodAll_stays hl hb ht.2 h2)
/-- What a law's row asks of the call. -/
theorem law_post {sp : ChangeSpec} {fn : Func} {f : FuncId} {n : Nat} {ss : List (Bool × List S)} {b : TypeId}
    (hl : laidOutB Pg = true) (hrd : (fn.params.toList.all fun t => Pg.readableRec t && decide (t < Pg.types.size)) = true)
    (hss : argSs Pg n fn.params.toList = some ss) (hres : fn.resultTypes = #[b]) (hb : Pg.underlying b = some .bool) (hvars : sp.vars = [])
    (hsp : ∀ ds : List (DataW H), ds.length = fn.params.size → sp.fn H ds = { results := [.lit (.bool true)], args := ds })
    (hlaw : ∀ ps, FitAs ss ps → PSpec Pg f ps (.ok (.bool true)))
    {args : Array Value} {ds gs : List (DataW H)} {before : List MemPlace} {base : Nat}
    (hval : ∀ (j : Nat) t v, fn.params[j]? = some t → args[j]? = some v → Value.okWide Pg W .any base t v)
    (hW : DataW.Whole enc Pg fn.params.toList sp.vars false W args.toList ds gs before) :
    Calls Pg f args W fun e W' => ∃ v, e = .returned v ∧ sp.post enc Pg fn false true false false W args v W' := by
  have hW' := hW
  obtain ⟨p, q, hA, hV, rfl, hfz, hnd⟩ := hW
  rw [hvars] at hV
  obtain ⟨rfl, rfl⟩ := trodVars_none hV
  have hval' : ∀ (j : Nat) t v, fn.params.toList[j]? = some t → args.toList[j]? = some v → Value.okWide Pg W .any base t v := fun j t v h1 h2 =>
    hval j t v (by simpa using h1) (by simpa using h2)
  obtain ⟨ps, k1, k2⟩ := args_of hA hval' hss
  have hds : ds.length = fn.params.size := by
    have := (trodAll_length hA).2
    simpa using this
  have := calls_of (w := W) (hlaw ps k2) k1
  refine (Calls.mono this) fun e W' ⟨u, π', he, hu, hbel⟩ => ?_
  simp only [PRel] at hu; subst hu
  refine ⟨_, he, ds, [], _, [], p, [], hW', ?_, ?_, ?_, hbel.frame _, fun h => by cases h⟩
  · rw [List.append_nil, hsp ds hds, hres]
    exact trodAll_mk1 (shut_bool hb _)
  · rw [List.append_nil, hsp ds hds]
    exact trodAll_stays hl hbel hrd hA
  · rw [List.append_nil, hsp ds hds, hvars]
    rfl
end Go.Gh

/- What the parameters of this seat's statements read as. -/
namespace Go.Proofs.Ytedihdnkalmoiaa
open Go.Gh
theorem own : ownKnob Try.prog.godebug = none := by kernel_rfl
theorem laidOut : laidOutB Try.prog = true := by kernel_rfl
def intS : S := .int .i64
def shSS : List S := [.int .i64, .list [.int .i64] false, .int .i64, .int .i64, .list [.int .i64, .int .i64, .bool] true]
theorem list_of {α : Type} {f : α → P} {Q : α → Prop} : ∀ {xs : List P}, (∀ y ∈ xs, ∃ a, y = f a ∧ Q a) → ∃ l : List α, xs = l.map f ∧ ∀ a ∈ l, Q a
  | [], _ => ⟨[], rfl, fun a h => by simp at h⟩
  | x :: xs, h => by
    obtain ⟨l, rfl, hl⟩ := list_of (xs := xs) fun y hy => h y (List.mem_cons_of_mem _ hy)
    obtain ⟨a, rfl, ha⟩ := h x (by simp)
    exact ⟨a :: l, rfl, fun b hb => by
      rcases List.mem_cons.1 hb with rfl | hb
      · exact ha
      · exact hl b hb⟩
theorem wf_i64 {n : Int} (h : (Lit.int .i64 n).wf = true) : inI n := by
  simpa [Lit.wf, IntKind.min, IntKind.max, IntKind.signed, IntKind.bits, inI] using h
theorem sh_of {x : P} (h : FitA (true, shSS) x) : ∃ s : Sh, x = .agg [.int .i64 s.num, .list (s.sizes.map (.int .i64)), .int .i64 s.lo, .int .i64 s.hi, .list (s.notes.map pn)] ∧
    inI s.num ∧ inI s.lo ∧ inI s.hi ∧ (∀ n ∈ s.sizes, inI n) ∧ ∀ n ∈ s.notes, inI n.a ∧ inI n.b := by
  simp only [FitA, shSS, Fitss, Fits] at h
  obtain ⟨cs, rfl, _, _, rfl, ⟨num, rfl, h1⟩, _, _, rfl, ⟨xs, rfl, _, hxs⟩, _, _, rfl, ⟨lo, rfl, h2⟩, _, _, rfl, ⟨hi, rfl, h3⟩, _, _, rfl, ⟨ys, rfl, _, hys⟩, rfl⟩ := h
  obtain ⟨l, rfl, hl⟩ := list_of (f := fun n : Int => P.int .i64 n) (Q := inI) (xs := xs) fun y hy => by
    obtain ⟨cs, ⟨_, _, rfl, ⟨n, rfl, hn⟩, rfl⟩, _, h⟩ := hxs y hy
    have := h trivial
    simp at this
    exact ⟨n, this.symm, wf_i64 hn⟩
  obtain ⟨m, rfl, hm⟩ := list_of (f := pn) (Q := fun n => inI n.a ∧ inI n.b) (xs := ys) fun y hy => by
    obtain ⟨cs, ⟨_, _, rfl, ⟨a, rfl, ha⟩, _, _, rfl, ⟨b, rfl, hb⟩, _, _, rfl, ⟨c, rfl⟩, rfl⟩, h, _⟩ := hys y hy
    exact ⟨⟨a, b, c⟩, h trivial, wf_i64 ha, wf_i64 hb⟩
  exact ⟨⟨num, l, lo, hi, m⟩, rfl, wf_i64 h1, wf_i64 h2, wf_i64 h3, hl, hm⟩
theorem int_of {x : P} (h : FitA (false, [.int .i64]) x) : ∃ n, x = .int .i64 n ∧ inI n := by
  simp only [FitA, Fitss, Fits] at h
  obtain ⟨_, _, e, ⟨n, rfl, h1⟩, rfl⟩ := h
  simp at e; subst e
  exact ⟨n, rfl, wf_i64 h1⟩
end Go.Proofs.Ytedihdnkalmoiaa

/- What the parameters of this seat's statements read as: small numbers, lists of them, a note. -/
namespace Go.Proofs.Ytedihdnkalmoiaa
open Go.Gh
theorem wf_u8 {n : Int} (h : (Lit.int .u8 n).wf = true) : 0 ≤ n ∧ n ≤ 255 := by
  simpa [Lit.wf, IntKind.min, IntKind.max, IntKind.signed, IntKind.bits] using h
theorem wf_u16 {n : Int} (h : (Lit.int .u16 n).wf = true) : 0 ≤ n ∧ n ≤ 65535 := by
  simpa [Lit.wf, IntKind.min, IntKind.max, IntKind.signed, IntKind.bits] using h
theorem u8_of {x : P} (h : FitA (false, [.int .u8]) x) : ∃ n : Nat, x = .int .u8 (n : Nat) ∧ n ≤ 255 := by
  simp only [FitA, Fitss, Fits] at h
  obtain ⟨_, _, e, ⟨n, rfl, h1⟩, rfl⟩ := h
  simp at e; subst e
  have := wf_u8 h1
  exact ⟨n.toNat, by rw [Int.toNat_of_nonneg this.1], by omega⟩
theorem u16_of {x : P} (h : FitA (false, [.int .u16]) x) : ∃ n : Nat, x = .int .u16 (n : Nat) ∧ n ≤ 65535 := by
  simp only [FitA, Fitss, Fits] at h
  obtain ⟨_, _, e, ⟨n, rfl, h1⟩, rfl⟩ := h
  simp at e; subst e
  have := wf_u16 h1
  exact ⟨n.toNat, by rw [Int.toNat_of_nonneg this.1], by omega⟩
theorem bytes_of {x : P} (h : FitA (false, [.list [.int .u8] false]) x) : ∃ bs : List Int, x = .list (bs.map (.int .u8)) ∧ bs.length ≤ maxLen ∧ ∀ b ∈ bs, 0 ≤ b ∧ b ≤ 255 := by
  simp only [FitA, Fitss, Fits] at h
  obtain ⟨_, _, e, ⟨xs, rfl, hl, hxs⟩, rfl⟩ := h
  simp at e; subst e
  obtain ⟨l, rfl, hl'⟩ := list_of (f := fun n : Int => P.int .u8 n) (Q := fun n => 0 ≤ n ∧ n ≤ 255) (xs := xs) fun y hy => by
    obtain ⟨cs, ⟨_, _, rfl, ⟨n, rfl, hn⟩, rfl⟩, _, h⟩ := hxs y hy
    have := h trivial
    simp at this
    exact ⟨n, this.symm, wf_u8 hn⟩
  exact ⟨l, rfl, by simpa using hl, hl'⟩
theorem u16s_of {x : P} (h : FitA (false, [.list [.int .u16] false]) x) : ∃ bs : List Int, x = .list (bs.map (.int .u16)) ∧ bs.length ≤ maxLen ∧ ∀ b ∈ bs, 0 ≤ b ∧ b ≤ 65535 := by
  simp only [FitA, Fitss, Fits] at h
  obtain ⟨_, _, e, ⟨xs, rfl, hl, hxs⟩, rfl⟩ := h
  simp at e; subst e
  obtain ⟨l, rfl, hl'⟩ := list_of (f := fun n : Int => P.int .u16 n) (Q := fun n => 0 ≤ n ∧ n ≤ 65535) (xs := xs) fun y hy => by
    obtain ⟨cs, ⟨_, _, rfl, ⟨n, rfl, hn⟩, rfl⟩, _, h⟩ := hxs y hy
    have := h trivial
    simp at this
    exact ⟨n, this.symm, wf_u16 hn⟩
  exact ⟨l, rfl, by simpa using hl, hl'⟩
theorem note_of {x : P} (h : FitA (true, [.int .i64, .int .i64, .bool]) x) : ∃ n : Nt, x = pn n ∧ inI n.a ∧ inI n.b := by
  simp only [FitA, Fitss, Fits] at h
  obtain ⟨_, rfl, _, _, rfl, ⟨a, rfl, ha⟩, _, _, rfl, ⟨b, rfl, hb⟩, _, _, rfl, ⟨c, rfl⟩, rfl⟩ := h
  exact ⟨⟨a, b, c⟩, rfl, wf_i64 ha, wf_i64 hb⟩
end Go.Proofs.Ytedihdnkalmoiaa

/- The document's ways: what they are, and that they come in order. -/
namespace Go.Proofs.Ytedihdnkalmoiaa
open Go.Gh
/-- A list that has for each number the least number that is the same plate. -/
def canon (w : List Int) : Prop := ∀ (i : Nat) v, w[i]? = some v → 0 ≤ v ∧ v ≤ (i : Int) ∧ w[v.toNat]? = some v
def cands : Nat → List Int → List (List Int)
  | 0, b => [b]
  | d + 1, b => (List.range (b.length + 1)).flatMap fun i => if least b i then cands d (b ++ [(i : Int)]) else []
theorem waysM_cands (s : Sh) (set : Nat) : ∀ (d : Nat) (b : List Int) (out : List (List Int)), waysM s set d b out = out ++ (cands d b).filter (wayM s set)
  | 0, b, out => by
    simp only [waysM, cands]
    cases h : wayM s set b <;> simp [h]
  | d + 1, b, out => by
    simp only [waysM, cands]
    rw [foldl_flat _ (fun i => (if least b i then cands d (b ++ [(i : Int)]) else []).filter (wayM s set)), List.filter_flatMap]
    intro i _ out
    cases h : least b i
    · simp
    · simp only [if_true]; exact waysM_cands s set d _ out
theorem allM_cands (s : Sh) (set : Nat) : allM s set = (cands s.sizes.length []).filter (wayM s set) := by
  rw [allM, waysM_cands, List.nil_append]
theorem canon_nil : canon [] := fun i v h => by simp at h
theorem canon_snoc {b : List Int} {i : Nat} (hb : canon b) (h : least b i = true) (hi : i ≤ b.length) : canon (b ++ [(i : Int)]) := fun j v hj => by
  by_cases hl : j < b.length
  · rw [List.getElem?_append_left hl] at hj
    obtain ⟨h1, h2, h3⟩ := hb j v hj
    refine ⟨h1, h2, ?_⟩
    rw [List.getElem?_append_left (by omega)]; exact h3
  · have hjl : j = b.length := by
      have := (List.getElem?_eq_some_iff.1 hj).1
      simp at this; omega
    subst hjl
    rw [List.getElem?_append_right (Nat.le_refl _)] at hj
    simp at hj; subst hj
    refine ⟨by omega, by omega, ?_⟩
    simp only [Int.toNat_natCast]
    simp only [least, Bool.or_eq_true, decide_eq_true_eq] at h
    rcases h with h | h
    · subst h; simp
    · have hlt := (List.getElem?_eq_some_iff.1 h).1
      rw [List.getElem?_append_left hlt]; exact h
theorem canon_take {w : List Int} (h : canon w) (n : Nat) : canon (w.take n) := fun i v hi => by
  rw [List.getElem?_take] at hi
  split at hi
  · rename_i hn
    obtain ⟨h1, h2, h3⟩ := h i v hi
    refine ⟨h1, h2, ?_⟩
    rw [List.getElem?_take, if_pos (by omega)]; exact h3
  · cases hi
theorem mem_cands : ∀ (d : Nat) (b : List Int), canon b → ∀ w, w ∈ cands d b ↔ (w.length = b.length + d ∧ b <+: w ∧ canon w)
  | 0, b, hb, w => by
    simp only [cands, List.mem_singleton]
    constructor
    · rintro rfl; exact ⟨rfl, List.prefix_refl _, hb⟩
    · rintro ⟨h1, h2, _⟩
      exact (List.IsPrefix.eq_of_length h2 (by omega)).symm
  | d + 1, b, hb, w => by
    simp only [cands, List.mem_flatMap, List.mem_range]
    constructor
    · rintro ⟨i, hi, hw⟩
      cases hl : least b i
      · rw [hl] at hw; simp at hw
      · rw [hl, if_pos rfl, mem_cands d _ (canon_snoc hb hl (by omega))] at hw
        obtain ⟨h1, h2, h3⟩ := hw
        refine ⟨by simp at h1; omega, List.IsPrefix.trans (List.prefix_append _ _) h2, h3⟩
    · rintro ⟨h1, h2, h3⟩
      obtain ⟨t, rfl⟩ := h2
      cases t with
      | nil => simp at h1
      | cons v t =>
        have hv : (b ++ v :: t)[b.length]? = some v := by rw [List.getElem?_append_right (Nat.le_refl _)]; simp
        obtain ⟨k1, k2, k3⟩ := h3 _ _ hv
        have hl : least b v.toNat = true := by
          simp only [least, Bool.or_eq_true, decide_eq_true_eq]
          by_cases e : v.toNat = b.length
          · exact .inl e
          · right
            rw [List.getElem?_append_left (by omega)] at k3
            rw [k3]; congr 1; omega
        have e : ((v.toNat : Nat) : Int) = v := by omega
        refine ⟨v.toNat, by omega, ?_⟩
        rw [hl, if_pos rfl, mem_cands d _ (canon_snoc hb hl (by omega)), e]
        refine ⟨by simp at h1 ⊢; omega, ⟨t, by simp⟩, h3⟩
theorem mem_allM {s : Sh} {set : Nat} {w : List Int} : w ∈ allM s set ↔ w.length = s.sizes.length ∧ canon w ∧ wayM s set w = true := by
  rw [allM_cands, List.mem_filter, mem_cands _ _ canon_nil]
  simp only [List.length_nil, Nat.zero_add, List.nil_prefix, true_and, and_assoc]

/-- One list comes before another one. -/
def lexL (u v : List Int) : Prop := ∃ k x y, u.take k = v.take k ∧ u[k]? = some x ∧ v[k]? = some y ∧ x < y
theorem cands_prefix {d : Nat} {b w : List Int} (h : w ∈ cands d b) : b <+: w := by
  induction d generalizing b with
  | zero => simp only [cands, List.mem_singleton] at h; subst h; exact List.prefix_refl _
  | succ d ih =>
    simp only [cands, List.mem_flatMap, List.mem_range] at h
    obtain ⟨i, _, hw⟩ := h
    cases hl : least b i
    · rw [hl] at hw; simp at hw
    · rw [hl, if_pos rfl] at hw
      exact List.IsPrefix.trans (List.prefix_append _ _) (ih hw)
theorem pairwise_flatMap_range {β : Type} {R : β → β → Prop} {f : Nat → List β} : ∀ n, (∀ i, i < n → (f i).Pairwise R) → (∀ i j, i < j → j < n → ∀ x ∈ f i, ∀ y ∈ f j, R x y) → ((List.range n).flatMap f).Pairwise R
  | 0, _, _ => by simp
  | n + 1, h1, h2 => by
    rw [List.range_succ, List.flatMap_append, List.pairwise_append]
    refine ⟨pairwise_flatMap_range n (fun i hi => h1 i (by omega)) (fun i j a b => h2 i j a (by omega)), by simpa using h1 n (by omega), ?_⟩
    intro x hx y hy
    simp only [List.mem_flatMap, List.mem_range] at hx
    obtain ⟨i, hi, hx⟩ := hx
    simp at hy
    exact h2 i n hi (by omega) x hx y hy
theorem cands_sorted : ∀ (d : Nat) (b : List Int), (cands d b).Pairwise lexL
  | 0, b => by simp [cands]
  | d + 1, b => by
    simp only [cands]
    refine pairwise_flatMap_range _ ?_ ?_
    · intro i _
      split
      · exact cands_sorted d _
      · exact List.Pairwise.nil
    · intro i j hij _ x hx y hy
      split at hx
      · split at hy
        · obtain ⟨t, rfl⟩ := cands_prefix hx
          obtain ⟨u, rfl⟩ := cands_prefix hy
          refine ⟨b.length, i, j, by simp, by simp, by simp, by omega⟩
        · simp at hy
      · simp at hx
theorem allM_sorted (s : Sh) (set : Nat) : (allM s set).Pairwise lexL := by
  rw [allM_cands]; exact (cands_sorted _ _).sublist List.filter_sublist
theorem lexL_ne {u v : List Int} (h : lexL u v) : u ≠ v := by
  rintro rfl
  obtain ⟨k, x, y, _, h1, h2, h3⟩ := h
  rw [h1] at h2; simp at h2; omega
theorem allM_nodup (s : Sh) (set : Nat) : (allM s set).Nodup := (allM_sorted s set).imp fun h => lexL_ne h
/-- The first way is not behind another one. -/
theorem first_le {s : Sh} {set : Nat} {l w : List Int} (hl : (allM s set)[0]? = some l) (hw : w ∈ allM s set) : w = l ∨ lexL l w := by
  have hp := allM_sorted s set
  cases h : allM s set with
  | nil => rw [h] at hl; simp at hl
  | cons a t =>
    rw [h] at hl hw hp
    simp at hl; subst hl
    rcases List.mem_cons.1 hw with rfl | hw
    · exact .inl rfl
    · exact .inr (List.rel_of_pairwise_cons hp hw)
end Go.Proofs.Ytedihdnkalmoiaa

/- What the program says of a valid shelf, in the words of its ways. -/
namespace Go.Proofs.Ytedihdnkalmoiaa
open Go.Gh
set_option maxRecDepth 100000
set_option maxHeartbeats 4000000
theorem heavy_len {s : Sh} {n m : Int} (h : heavyB s n m = false) : s.sizes.length ≤ 1048576 ∧ s.notes.length ≤ 1048576 := by
  simp only [heavyB, Bool.or_eq_false_iff, decide_eq_false_iff_not] at h
  omega
/-- All ways, with all notes. -/
def wA (s : Sh) : List (List Int) := allM s (everyN s)
def errA (s : Sh) : Int := if wA s = [] then 10 else 0
def sameA (s : Sh) (a b : Int) : Int := if wA s = [] then 0 else sameR a b (wA s)
def firstA (s : Sh) : List Int := (wA s).headD []
def loA (s : Sh) : Int := if wA s = [] then 0 else (spanR (wA s)).1
def hiA (s : Sh) : Int := if wA s = [] then 0 else (spanR (wA s)).2
def idleA (s : Sh) : Nat := if wA s = [] then 0 else idleR s s.notes.length
theorem c_same (s : Sh) (hv : s.valid = true) {a b : Int} (ha : 0 ≤ a ∧ a < s.num) (hb : 0 ≤ b ∧ b < s.num) : PSpec Try.prog 14 [.agg [.int .i64 s.num, .list (s.sizes.map (.int .i64)), .int .i64 s.lo, .int .i64 s.hi, .list (s.notes.map pn)], .int .i64 a, .int .i64 b] (.ok (.tuple [.int .i64 (sameA s a b), .int .i64 (errA s)])) := by
  have ha' : 0 ≤ a ∧ a ≤ s.num - 1 := by omega
  have hb' : 0 ≤ b ∧ b ≤ s.num - 1 := by omega
  cases hcb : canB s (onN s) (everyN s) with
  | true =>
    rw [sameA, errA, if_neg (show ¬ wA s = [] from can_ne hv hcb), if_neg (show ¬ wA s = [] from can_ne hv hcb), wA, ← same_eq hv hcb ha' hb']
    exact fun E A => p_same_t s hv hcb a b ha' hb'
  | false =>
    rw [sameA, errA, if_pos (show wA s = [] from can_nil hv hcb), if_pos (show wA s = [] from can_nil hv hcb)]
    exact fun E A => p_same_c s hv hcb a b ha' hb'
theorem c_first (s : Sh) (hv : s.valid = true) : PSpec Try.prog 18 [.agg [.int .i64 s.num, .list (s.sizes.map (.int .i64)), .int .i64 s.lo, .int .i64 s.hi, .list (s.notes.map pn)]] (.ok (.tuple [.list ((firstA s).map (.int .i64)), .int .i64 (errA s)])) := by
  cases hcb : canB s (onN s) (everyN s) with
  | true =>
    have hpos : 0 < ((onN s).filter (rightW s (everyN s))).length := by
      obtain ⟨w, hw, hr⟩ := List.any_eq_true.1 hcb
      exact List.length_pos_of_mem (List.mem_filter.2 ⟨hw, hr⟩)
    obtain ⟨w0, hw0⟩ : ∃ w, ((onN s).filter (rightW s (everyN s)))[0]? = some w := ⟨_, List.getElem?_eq_getElem hpos⟩
    have h1 := first_eq hv hw0
    rw [errA, if_neg (show ¬ wA s = [] from can_ne hv hcb), firstA, wA, headD_of h1]
    exact fun E A => p_first_t s hv hcb w0 hw0
  | false =>
    have h0 : wA s = [] := can_nil hv hcb
    rw [errA, if_pos h0, firstA, h0]
    exact fun E A => p_first_c s hv hcb
theorem c_count (s : Sh) (hv : s.valid = true) : PSpec Try.prog 16 [.agg [.int .i64 s.num, .list (s.sizes.map (.int .i64)), .int .i64 s.lo, .int .i64 s.hi, .list (s.notes.map pn)]] (.ok (.tuple [.int .i64 (wA s).length, .int .i64 0])) := by
  rw [wA, ← count_eq hv]
  exact fun E A => p_count s hv
theorem c_plates (s : Sh) (hv : s.valid = true) : PSpec Try.prog 20 [.agg [.int .i64 s.num, .list (s.sizes.map (.int .i64)), .int .i64 s.lo, .int .i64 s.hi, .list (s.notes.map pn)]] (.ok (.tuple [.agg [.int .i64 (loA s), .int .i64 (hiA s)], .int .i64 (errA s)])) := by
  cases hcb : canB s (onN s) (everyN s) with
  | true =>
    obtain ⟨e1, e2⟩ := plates_eq hv hcb
    have hne : ¬ wA s = [] := can_ne hv hcb
    rw [errA, loA, hiA, if_neg hne, if_neg hne, if_neg hne, wA, ← e1, ← e2]
    exact fun E A => p_plates_t s hv hcb
  | false =>
    have h0 : wA s = [] := can_nil hv hcb
    rw [errA, loA, hiA, if_pos h0, if_pos h0, if_pos h0]
    exact fun E A => p_plates_c s hv hcb
theorem c_clash (s : Sh) (hv : s.valid = true) : PSpec Try.prog 25 [.agg [.int .i64 s.num, .list (s.sizes.map (.int .i64)), .int .i64 s.lo, .int .i64 s.hi, .list (s.notes.map pn)]] (.ok (.tuple [.int .i64 (clashR s), .int .i64 0])) := by
  rw [← clash_eq hv]
  exact fun E A => p_clash s hv
theorem c_drop (s : Sh) (hv : s.valid = true) : PSpec Try.prog 27 [.agg [.int .i64 s.num, .list (s.sizes.map (.int .i64)), .int .i64 s.lo, .int .i64 s.hi, .list (s.notes.map pn)]] (.ok (.tuple [.int .i64 (dropR s), .int .i64 0])) := by
  rw [← drop_eq hv]
  exact fun E A => p_drop s hv
theorem c_idle (s : Sh) (hv : s.valid = true) : PSpec Try.prog 22 [.agg [.int .i64 s.num, .list (s.sizes.map (.int .i64)), .int .i64 s.lo, .int .i64 s.hi, .list (s.notes.map pn)]] (.ok (.tuple [.int .i64 (idleA s), .int .i64 (errA s)])) := by
  cases hcb : canB s (onN s) (everyN s) with
  | true =>
    have hne : ¬ wA s = [] := can_ne hv hcb
    rw [errA, idleA, if_neg hne, if_neg hne, ← idle_eq hv _ (Nat.le_refl _)]
    exact fun E A => p_idle_t s hv hcb
  | false =>
    have h0 : wA s = [] := can_nil hv hcb
    rw [errA, idleA, if_pos h0, if_pos h0]
    exact fun E A => p_idle_c s hv hcb
theorem c_count_f (s : Sh) (h1 : s.sizes.length ≤ 1048576) (h2 : s.notes.length ≤ 1048576) (hv : s.valid = false) : PSpec Try.prog 16 [.agg [.int .i64 s.num, .list (s.sizes.map (.int .i64)), .int .i64 s.lo, .int .i64 s.hi, .list (s.notes.map pn)]] (.ok (.tuple [.int .i64 0, .int .i64 1])) := fun E A => p_count_f s h1 h2 hv
theorem c_idle_f (s : Sh) (h1 : s.sizes.length ≤ 1048576) (h2 : s.notes.length ≤ 1048576) (hv : s.valid = false) : PSpec Try.prog 22 [.agg [.int .i64 s.num, .list (s.sizes.map (.int .i64)), .int .i64 s.lo, .int .i64 s.hi, .list (s.notes.map pn)]] (.ok (.tuple [.int .i64 0, .int .i64 1])) := fun E A => p_idle_f s h1 h2 hv
theorem c_clash_f (s : Sh) (h1 : s.sizes.length ≤ 1048576) (h2 : s.notes.length ≤ 1048576) (hv : s.valid = false) : PSpec Try.prog 25 [.agg [.int .i64 s.num, .list (s.sizes.map (.int .i64)), .int .i64 s.lo, .int .i64 s.hi, .list (s.notes.map pn)]] (.ok (.tuple [.int .i64 0, .int .i64 1])) := fun E A => p_clash_f s h1 h2 hv
theorem c_drop_f (s : Sh) (h1 : s.sizes.length ≤ 1048576) (h2 : s.notes.length ≤ 1048576) (hv : s.valid = false) : PSpec Try.prog 27 [.agg [.int .i64 s.num, .list (s.sizes.map (.int .i64)), .int .i64 s.lo, .int .i64 s.hi, .list (s.notes.map pn)]] (.ok (.tuple [.int .i64 0, .int .i64 1])) := fun E A => p_drop_f s h1 h2 hv
theorem c_first_f (s : Sh) (h1 : s.sizes.length ≤ 1048576) (h2 : s.notes.length ≤ 1048576) (hv : s.valid = false) : PSpec Try.prog 18 [.agg [.int .i64 s.num, .list (s.sizes.map (.int .i64)), .int .i64 s.lo, .int .i64 s.hi, .list (s.notes.map pn)]] (.ok (.tuple [.list [], .int .i64 1])) := fun E A => p_first_f s h1 h2 hv
theorem c_plates_f (s : Sh) (h1 : s.sizes.length ≤ 1048576) (h2 : s.notes.length ≤ 1048576) (hv : s.valid = false) : PSpec Try.prog 20 [.agg [.int .i64 s.num, .list (s.sizes.map (.int .i64)), .int .i64 s.lo, .int .i64 s.hi, .list (s.notes.map pn)]] (.ok (.tuple [.agg [.int .i64 0, .int .i64 0], .int .i64 1])) := fun E A => p_plates_f s h1 h2 hv
theorem mem_wA {s : Sh} {w : List Int} : w ∈ wA s ↔ w.length = s.sizes.length ∧ canon w ∧ wayM s (everyN s) w = true := mem_allM
theorem wayM_iff {s : Sh} {set : Nat} {w : List Int} : wayM s set w = true ↔ (∀ i, i < w.length → ∀ k, k < i → sizeOk s w i k = true) ∧ (∀ i, i < s.notes.length → noteOk s set w i = true) ∧ s.lo ≤ (cntP w w.length : Int) ∧ (cntP w w.length : Int) ≤ s.hi := by
  simp only [wayM, Bool.and_eq_true, List.all_eq_true, List.mem_range, decide_eq_true_eq, and_assoc]
theorem every_bit {s : Sh} {i : Nat} (h : i < s.notes.length) : (everyN s).testBit i = true := by
  simp only [everyN, Nat.testBit_two_pow_sub_one, h, decide_true]
end Go.Proofs.Ytedihdnkalmoiaa

/- What is told of two numbers, in plain Lean. -/
namespace Go.Proofs.Ytedihdnkalmoiaa
open Go.Gh
theorem nd_t {p : Prop} [Decidable p] (h : ¬ p) : (!decide p) = true := by simp [h]
theorem nd_f {p : Prop} [Decidable p] (h : p) : (!decide p) = false := by simp [h]
theorem sameR_one {a b : Int} {ls : List (List Int)} : sameR a b ls = 1 ↔ ∀ w ∈ ls, eqAt a b w = true := by
  have hl := List.length_filter_eq_length_iff (p := eqAt a b) (l := ls)
  unfold sameR
  constructor
  · intro h
    split at h
    · rename_i h1; exact hl.1 h1
    · split at h <;> simp at h
  · intro h; rw [if_pos (hl.2 h)]
theorem sameR_zero {a b : Int} {ls : List (List Int)} (hne : ls ≠ []) : sameR a b ls = 0 ↔ ∀ w ∈ ls, eqAt a b w = false := by
  have hp : 0 < ls.length := List.length_pos_iff.2 hne
  have h0 : (ls.filter (eqAt a b)).length = 0 ↔ ∀ w ∈ ls, eqAt a b w = false := by
    rw [List.length_eq_zero_iff, List.filter_eq_nil_iff]
    simp
  unfold sameR
  constructor
  · intro h
    split at h
    · simp at h
    · split at h
      · rename_i h1; exact h0.1 h1
      · simp at h
  · intro h
    have := h0.2 h
    rw [if_neg (by omega), if_pos this]
theorem sameR_range (a b : Int) (ls : List (List Int)) : sameR a b ls = 0 ∨ sameR a b ls = 1 ∨ sameR a b ls = 2 := by
  unfold sameR
  split
  · exact .inr (.inl rfl)
  · split
    · exact .inl rfl
    · exact .inr (.inr rfl)
theorem eqAt_comm (a b : Int) : eqAt a b = eqAt b a := by
  funext w; simp only [eqAt, eq_comm]
theorem sameR_comm (a b : Int) (ls : List (List Int)) : sameR a b ls = sameR b a ls := by
  unfold sameR; rw [eqAt_comm]
theorem sameR_self (a : Int) (ls : List (List Int)) : sameR a a ls = 1 := sameR_one.2 fun w _ => by simp [eqAt]
theorem sameR_trans {a b c : Int} {ls : List (List Int)} (h : sameR a b ls = 1) : sameR b c ls = sameR a c ls := by
  have h1 := sameR_one.1 h
  have e : ls.filter (eqAt b c) = ls.filter (eqAt a c) := List.filter_congr fun w hw => by
    have := h1 w hw
    simp only [eqAt, decide_eq_true_eq] at this ⊢
    rw [this]
  unfold sameR; rw [e]
theorem sizes_not {s : Sh} (hv : s.valid = true) {set a b : Nat} {p q : Int} {w : List Int} (hw : wayM s set w = true) (hl : w.length = s.sizes.length) (ha : s.sizes[a]? = some p) (hb : s.sizes[b]? = some q) (hp : p ≠ 0) (hq : q ≠ 0) (hpq : p ≠ q) : w[a]? ≠ w[b]? := by
  have key : ∀ {i k : Nat} {p q : Int}, k < i → s.sizes[i]? = some p → s.sizes[k]? = some q → p ≠ 0 → q ≠ 0 → p ≠ q → w[i]? ≠ w[k]? := by
    intro i k p q hk hi hq' h1 h2 h3 he
    have hil := (List.getElem?_eq_some_iff.1 hi).1
    have hkl := (List.getElem?_eq_some_iff.1 hq').1
    have hz := (wayM_iff.1 hw).1 i (by omega) k hk
    obtain ⟨x, hx⟩ : ∃ x, w[i]? = some x := ⟨_, List.getElem?_eq_getElem (by omega)⟩
    have hp0 := okS_of hv hi
    have hq0 := okS_of hv hq'
    rw [sizeOk, ← he, hx, hi, hq'] at hz
    have e1 : decide (p = q) = false := decide_eq_false h3
    have e2 : decide (0 < p) = true := decide_eq_true (by omega)
    have e3 : decide (0 < q) = true := decide_eq_true (by omega)
    simp [e1, e2, e3] at hz
  rcases Nat.lt_trichotomy a b with h | h | h
  · exact fun e => key h hb ha hq hp (Ne.symm hpq) e.symm
  · subst h; rw [ha] at hb; exact absurd (Option.some.inj hb) hpq
  · exact key h ha hb hp hq hpq
theorem note_eq {s : Sh} {k : Nat} {x : Nt} {w : List Int} (hw : wayM s (everyN s) w = true) (hx : s.notes[k]? = some x) : eqAt x.a x.b w = x.s := by
  have hk := (List.getElem?_eq_some_iff.1 hx).1
  have hn := (wayM_iff.1 hw).2.1 k hk
  simp only [noteOk, hx, every_bit hk, Bool.not_true, Bool.false_or, beq_iff_eq] at hn
  exact hn
/-! In the words of the shelf. -/
theorem sameA_range (s : Sh) (a b : Int) : sameA s a b = 0 ∨ sameA s a b = 1 ∨ sameA s a b = 2 := by
  unfold sameA
  split
  · exact .inl rfl
  · exact sameR_range _ _ _
theorem errA_ok {s : Sh} (h : wA s ≠ []) : errA s = 0 := if_neg h
theorem errA_no {s : Sh} (h : wA s = []) : errA s = 10 := if_pos h
theorem sameA_no {s : Sh} (h : wA s = []) (a b : Int) : sameA s a b = 0 := if_pos h
theorem sameA_eq {s : Sh} (h : wA s ≠ []) (a b : Int) : sameA s a b = sameR a b (wA s) := if_neg h
theorem sameA_comm (s : Sh) (a b : Int) : sameA s a b = sameA s b a := by
  unfold sameA; rw [sameR_comm]
theorem sameA_self {s : Sh} (h : wA s ≠ []) (a : Int) : sameA s a a = 1 := by rw [sameA_eq h]; exact sameR_self _ _
theorem sameA_trans {s : Sh} (h : wA s ≠ []) {a b : Int} (c : Int) (hab : sameA s a b = 1) : sameA s b c = sameA s a c := by
  rw [sameA_eq h] at hab ⊢
  rw [sameA_eq h]; exact sameR_trans hab
theorem sameA_sizes {s : Sh} (hv : s.valid = true) (h : wA s ≠ []) {a b : Nat} {p q : Int} (ha : s.sizes[a]? = some p) (hb : s.sizes[b]? = some q) (hp : p ≠ 0) (hq : q ≠ 0) (hpq : p ≠ q) : sameA s a b = 0 := by
  rw [sameA_eq h]
  refine (sameR_zero h).2 fun w hw => ?_
  obtain ⟨h1, _, h3⟩ := mem_wA.1 hw
  have := sizes_not hv h3 h1 ha hb hp hq hpq
  simp only [eqAt, Int.toNat_natCast, decide_eq_false_iff_not]
  exact this
theorem sameA_note {s : Sh} (h : wA s ≠ []) {k : Nat} {x : Nt} (hx : s.notes[k]? = some x) : sameA s x.a x.b = if x.s then 1 else 0 := by
  rw [sameA_eq h]
  cases hs : x.s with
  | true => exact sameR_one.2 fun w hw => by rw [note_eq (mem_wA.1 hw).2.2 hx, hs]
  | false =>
    have := (sameR_zero h).2 fun w hw => by rw [note_eq (mem_wA.1 hw).2.2 hx, hs]
    simpa using this
end Go.Proofs.Ytedihdnkalmoiaa

/- One cell of an object read otherwise; an element of a slice that nobody turns, as an object. -/
namespace Go.Gh
open Go.RowKit
variable {Pg : Program} {E : Env Pg} {C : Cx E} {r : Option Nat} {ops : Array Oper} {Q : GE → Sg E → Prop} {l l' : List (Nat × G)} {m m' : List (Nat × Ob)} {A : E.α} {df : List GD} {σ σ0 : Sg E} {c : Code} {rest : List Oper} {cp : Prop}

theorem Le.convCell {id off fz : Nat} {cs : List G} {g g' : G} {s : Sp} {q : Prop} (ho : σ.h id = .cells cs fz) (hc : cs[off]? = some g) (hcv : cvS σ.h s g = some (q, g')) (hq : q) (h1 : g'.one = true) :
    Le C σ { σ with h := upd σ.h id (.cells (cs.set off g') fz) } := fun a w ⟨π, ρ, S, H⟩ => by
  have hob := H.rel.objs id
  simp only [ho] at hob
  obtain ⟨vs, et, hw, hv, hone, hf, hn⟩ := hob
  have hnew := VRels_setcell (g' := g') hv hc fun v hr => cvS_ok H.rel hcv hq hr
  have hrefl : upd ρ id (ρ id) = ρ := by funext j; unfold upd; split <;> simp_all
  have T := H.rel.turn (w' := w) (π' := π) id (ρ id) (.cells (cs.set off g') fz) (Nat.le_refl _) rfl rfl rfl (fun b _ _ => ⟨rfl, rfl⟩) (PM.le_refl _) H.rel.know (fun _ _ _ => .inl rfl) ?_ (fun b hb => ?_)
  · rw [hrefl] at T
    have hne : ∀ i, σ.h i ≠ .none → upd σ.h id (Ob.cells (cs.set off g') fz) i ≠ .none := fun i hi => by
      simp only [upd]; split
      · simp
      · exact hi
    refine ⟨π, ρ, S, H.putObj T.1 T.2 (fun _ _ => .inl rfl) (fun _ _ => .inl rfl) hne fun j i hm => ?_⟩
    simp only [upd] at hm
    split at hm
    · refine hne i ?_
      simp only [Ob.men] at hm
      obtain ⟨x, hx, hxm⟩ := mens_true.1 hm
      rcases List.mem_or_eq_of_mem_set hx with hx | hx
      · exact H.wfh id i (by rw [ho]; exact mens_true.2 ⟨x, hx, hxm⟩)
      · subst hx
        exact cvS_men H.wfh hcv (fun i hi => H.wfh id i (by rw [ho]; exact mens_true.2 ⟨g, List.mem_of_getElem? hc, hi⟩)) i hxm
    · exact hne i (H.wfh j i hm)
  · rw [hrefl]
    refine ⟨vs, et, hw, hnew, fun c hc' => ?_, hf, hn⟩
    rcases List.mem_or_eq_of_mem_set hc' with h | h
    · exact hone c h
    · subst h; exact h1
  · rw [hrefl] at hb
    exact .inl (by rw [ho]; exact hb)
theorem gc_cell (id off : Nat) (s : Sp) {cs cs2 : List G} {g g' : G} {fz : Nat} (ho : mkHp m id = .cells cs fz) (hc : cs[off]? = some g) (hcv : cvS (mkHp m) s g = some (cp, g')) (hq : cp) (h1 : g'.one = true) (he : cs.set off g' = cs2)
    (k : gwp C r c Q (sg l ((id, .cells cs2 fz) :: m) A df)) : gwp C r c Q (sg l m A df) :=
  gwp_le (Le.convCell (σ := sg l m A df) ho hc hcv hq h1) (by subst he; exact k)
theorem go_cell {lst : List Oper} (id off : Nat) (s : Sp) {cs cs2 : List G} {g g' : G} {fz : Nat} (ho : mkHp m id = .cells cs fz) (hc : cs[off]? = some g) (hcv : cvS (mkHp m) s g = some (cp, g')) (hq : cp) (h1 : g'.one = true) (he : cs.set off g' = cs2)
    (k : gops C r ops Q lst (sg l ((id, .cells cs2 fz) :: m) A df)) : gops C r ops Q lst (sg l m A df) :=
  gops_le (Le.convCell (σ := sg l m A df) ho hc hcv hq h1) (by subst he; exact k)
/-- A nil slice in a register read as an object of no elements. -/
theorem Le.adoptReg {t d : Nat} (e : TypeId) (sz : Nat) (fl : Bool) (hr : σ.fr t = .nils) (hd : σ.h d = .none) (hd2 : C.lim ≤ d) :
    Le C σ { σ with h := upd σ.h d (.arr e sz [] fl), fr := upd σ.fr t (.own d 0) } := fun a w ⟨π, ρ, S, H⟩ => by
  have hdm : ∀ j, (σ.h j).men d = false := fun j => by
    cases hm : (σ.h j).men d with
    | false => rfl
    | true => exact absurd hd (H.wfh j d hm)
  obtain ⟨U1, U2⟩ := H.rel.newNil d hd hdm e sz fl
  have hne : ∀ i, σ.h i ≠ .none → upd σ.h d (Ob.arr e sz [] fl) i ≠ .none := fun i hi => by
    simp only [upd]; split
    · simp
    · exact hi
  have H1 : St C { σ with h := upd σ.h d (.arr e sz [] fl) } a w π (upd ρ d ⟨0, .slice none 0 0, 0⟩) S := by
    refine H.putObj U1 U2 (fun j hj => ?_) (fun j hj => ?_) hne (fun j i hm => ?_)
    · have : j ≠ d := fun e => hj (e ▸ hd)
      rw [upd_other _ _ this]; exact .inl rfl
    · rw [upd_other _ _ (by omega)]; exact .inl rfl
    · simp only [upd] at hm
      split at hm
      · simp [Ob.men] at hm
      · exact hne i (H.wfh j i hm)
  refine ⟨π, _, S, H1.size, fun k => ?_, H1.defs, H1.rel, H1.trans, H1.step, fun k i hm => ?_, H1.wfh, H1.wfd⟩
  · have hv := H1.vals k
    show VRel π _ E.yv (upd σ.fr t (.own d 0) k) _
    simp only [upd]
    split
    · rename_i e; subst e
      replace hv : VRel π _ E.yv (σ.fr k) _ := hv
      rw [hr] at hv
      simp only [VRel] at hv ⊢
      rw [hv, upd_same]
      exact ⟨Nat.le_refl _, fun _ => rfl⟩
    · exact hv
  · replace hm : (upd σ.fr t (.own d 0) k).men i = true := hm
    simp only [upd] at hm
    split at hm
    · simp only [G.men, beq_iff_eq] at hm
      subst hm
      show upd σ.h d (Ob.arr e sz [] fl) d ≠ .none
      rw [upd_same]; simp
    · exact H1.wfr k i hm
theorem gc_adoptR (t d : Nat) (e : TypeId) (sz : Nat) (fl : Bool) (hr : mkFr l t = .nils) (hd : mkHp m d = .none) (hd2 : C.lim ≤ d)
    (k : gwp C r c Q (sg ((t, .own d 0) :: l) ((d, .arr e sz [] fl) :: m) A df)) : gwp C r c Q (sg l m A df) :=
  gwp_le (Le.adoptReg (σ := sg l m A df) e sz fl hr hd hd2) k
/-- A region's ways brought together. -/
theorem gwp_cut {l1 : List (Nat × G)} {m1 : List (Nat × Ob)} {x y : Code} {Q2 : GE → Sg E → Prop} (h1 : gwp C r x (gthen (fun σ' => Le C σ' (sg l1 m1 A df)) Q) (sg l m A df)) (h2 : gwp C r y Q2 (sg l1 m1 A df)) : gwp C r x (gthen (gwp C r y Q2) Q) (sg l m A df) :=
  gwp_mono h1 fun e σ' k => by
    cases e with
    | normal => exact gwp_le k h2
    | _ => exact k
/-! A slice of slices that is filled one by one: what is done, what is being filled, what is to come. -/
def toldC (done : List P) (x : List G) (m : Nat) : List G := done.map .p ++ (x ++ List.replicate m .nils)
theorem idls_app : ∀ (a b : List G), G.idls (a ++ b) = G.idls a ++ G.idls b
  | [], b => by simp [G.idls]
  | g :: a, b => by simp [G.idls, idls_app a b]
theorem idls_rep : ∀ m, G.idls (List.replicate m .nils) = []
  | 0 => rfl
  | m + 1 => by rw [List.replicate_succ]; simp [G.idls, G.idl, idls_rep m]
theorem idls_told (done : List P) (x : List G) (m : Nat) : G.idls (toldC done x m) = G.idls x := by
  rw [toldC, idls_app, idls_app, idls_rep, idls_p]; simp
theorem idls_nil1 : G.idls ([] : List G) = [] := rfl
theorem told_len (done : List P) (x : List G) (m : Nat) : (toldC done x m).length = done.length + (x.length + m) := by simp [toldC]
theorem told_get {done : List P} {x : G} {m a : Nat} (h : done.length = a) : (toldC done [x] m)[a]? = some x := by
  subst h
  rw [toldC, List.getElem?_append_right (by simp)]; simp
theorem told_set {done : List P} {x : G} {m a : Nat} (h : done.length = a) (y : G) : (toldC done [x] m).set a y = toldC done [y] m := by
  subst h
  rw [toldC, List.set_append_right _ _ (by simp)]; simp [toldC]
theorem told_next (done : List P) (m : Nat) : toldC done [] (m + 1) = toldC done [.nils] m := by simp [toldC, List.replicate_succ]
theorem told_done (done : List P) (v : P) (m : Nat) : toldC done [.p v] m = toldC (done ++ [v]) [] m := by simp [toldC]
theorem told_end (done : List P) : toldC done [] 0 = done.map .p := by simp [toldC]
theorem told_make (n : Nat) : ((List.range (n * 1)).map fun i => [G.nils].getD (i % 1) .undef) = toldC [] [] n := by
  rw [toldC, List.map_nil, List.nil_append, List.nil_append, List.eq_replicate_iff]
  refine ⟨by simp, fun g hg => ?_⟩
  simp only [List.mem_map, List.mem_range] at hg
  obtain ⟨i, _, rfl⟩ := hg
  have : i % 1 = 0 := Nat.mod_one i
  rw [this]; rfl
end Go.Gh

/- More rules of written-out states: a region's ways brought together; objects that hold slices of the call's own. -/
namespace Go.Proofs.Ytedihdnkalmoiaa
open Go.Gh
set_option maxRecDepth 100000
variable {E : Env Try.prog} {C : Cx E} {r : Option Nat} {ops : Array Oper} {Q : GE → Sg E → Prop} {rest lst : List Oper} {l l' : List (Nat × G)} {m : List (Nat × Ob)} {A : E.α} {df : List GD} {c : Prop} {g : G} {cd : Code}
theorem lcut (vs : List Nat) {m' : List (Nat × Ob)} {I : List Nat} (hl : (vs.map fun v => (v, mkFr l v)) = l' := by (simp only [List.map_cons, List.map_nil, mkFr_cons, mkFr_nil, Nat.reduceEqDiff, reduceIte] <;> rfl)) (hI : reach l' m df = I := by (simp only [reach, frIds, dfIds, gdIdl, obIdl, hpIds, restrictL, dedupL, pickL, subB, G.idl, G.idls, idls_p, List.nil_append, List.append_nil, List.cons_append, mkHp_cons, mkHp_nil, Nat.reduceEqDiff, reduceIte, List.mem_cons, List.not_mem_nil, or_false, or_true, true_or, false_or, List.filter_cons, List.filter_nil, ne_eq, not_true_eq_false, not_false_eq_true, decide_true, decide_false, Bool.false_eq_true, List.all_cons, List.all_nil, Bool.and_true, idls_told, idls_nil1] <;> rfl)) (hm : restrictL I m = m' := by (simp only [frIds, dfIds, gdIdl, obIdl, hpIds, restrictL, dedupL, pickL, subB, G.idl, G.idls, idls_p, List.nil_append, List.append_nil, List.cons_append, mkHp_cons, mkHp_nil, Nat.reduceEqDiff, reduceIte, List.mem_cons, List.not_mem_nil, or_false, or_true, true_or, false_or, List.filter_cons, List.filter_nil, ne_eq, not_true_eq_false, not_false_eq_true, decide_true, decide_false, Bool.false_eq_true, List.all_cons, List.all_nil, Bool.and_true, idls_told, idls_nil1] <;> rfl)) (h1 : subB (frIds l') I = true := by (simp only [frIds, dfIds, gdIdl, obIdl, hpIds, restrictL, dedupL, pickL, subB, G.idl, G.idls, idls_p, List.nil_append, List.append_nil, List.cons_append, mkHp_cons, mkHp_nil, Nat.reduceEqDiff, reduceIte, List.mem_cons, List.not_mem_nil, or_false, or_true, true_or, false_or, List.filter_cons, List.filter_nil, ne_eq, not_true_eq_false, not_false_eq_true, decide_true, decide_false, Bool.false_eq_true, List.all_cons, List.all_nil, Bool.and_true, idls_told, idls_nil1] <;> rfl)) (h2 : subB (dfIds df) I = true := by (simp only [frIds, dfIds, gdIdl, obIdl, hpIds, restrictL, dedupL, pickL, subB, G.idl, G.idls, idls_p, List.nil_append, List.append_nil, List.cons_append, mkHp_cons, mkHp_nil, Nat.reduceEqDiff, reduceIte, List.mem_cons, List.not_mem_nil, or_false, or_true, true_or, false_or, List.filter_cons, List.filter_nil, ne_eq, not_true_eq_false, not_false_eq_true, decide_true, decide_false, Bool.false_eq_true, List.all_cons, List.all_nil, Bool.and_true, idls_told, idls_nil1] <;> rfl)) (h3 : subB (hpIds m I) I = true := by (simp only [frIds, dfIds, gdIdl, obIdl, hpIds, restrictL, dedupL, pickL, subB, G.idl, G.idls, idls_p, List.nil_append, List.append_nil, List.cons_append, mkHp_cons, mkHp_nil, Nat.reduceEqDiff, reduceIte, List.mem_cons, List.not_mem_nil, or_false, or_true, true_or, false_or, List.filter_cons, List.filter_nil, ne_eq, not_true_eq_false, not_false_eq_true, decide_true, decide_false, Bool.false_eq_true, List.all_cons, List.all_nil, Bool.and_true, idls_told, idls_nil1] <;> rfl)) : gthen (fun σ' => Le C σ' (sg l' m' A df)) Q .normal (sg l m A df : Sg E) := le_clean2 vs hl hm h1 h2 h3
theorem clx (vs : List Nat) {m' : List (Nat × Ob)} {I : List Nat} (hl : (vs.map fun v => (v, mkFr l v)) = l' := by (simp only [List.map_cons, List.map_nil, mkFr_cons, mkFr_nil, Nat.reduceEqDiff, reduceIte] <;> rfl)) (hI : reach l' m df = I := by (simp only [reach, frIds, dfIds, gdIdl, obIdl, hpIds, restrictL, dedupL, pickL, subB, G.idl, G.idls, idls_p, List.nil_append, List.append_nil, List.cons_append, mkHp_cons, mkHp_nil, Nat.reduceEqDiff, reduceIte, List.mem_cons, List.not_mem_nil, or_false, or_true, true_or, false_or, List.filter_cons, List.filter_nil, ne_eq, not_true_eq_false, not_false_eq_true, decide_true, decide_false, Bool.false_eq_true, List.all_cons, List.all_nil, Bool.and_true, idls_told, idls_nil1] <;> rfl)) (hm : restrictL I m = m' := by (simp only [frIds, dfIds, gdIdl, obIdl, hpIds, restrictL, dedupL, pickL, subB, G.idl, G.idls, idls_p, List.nil_append, List.append_nil, List.cons_append, mkHp_cons, mkHp_nil, Nat.reduceEqDiff, reduceIte, List.mem_cons, List.not_mem_nil, or_false, or_true, true_or, false_or, List.filter_cons, List.filter_nil, ne_eq, not_true_eq_false, not_false_eq_true, decide_true, decide_false, Bool.false_eq_true, List.all_cons, List.all_nil, Bool.and_true, idls_told, idls_nil1] <;> rfl)) (h1 : subB (frIds l') I = true := by (simp only [frIds, dfIds, gdIdl, obIdl, hpIds, restrictL, dedupL, pickL, subB, G.idl, G.idls, idls_p, List.nil_append, List.append_nil, List.cons_append, mkHp_cons, mkHp_nil, Nat.reduceEqDiff, reduceIte, List.mem_cons, List.not_mem_nil, or_false, or_true, true_or, false_or, List.filter_cons, List.filter_nil, ne_eq, not_true_eq_false, not_false_eq_true, decide_true, decide_false, Bool.false_eq_true, List.all_cons, List.all_nil, Bool.and_true, idls_told, idls_nil1] <;> rfl)) (h2 : subB (dfIds df) I = true := by (simp only [frIds, dfIds, gdIdl, obIdl, hpIds, restrictL, dedupL, pickL, subB, G.idl, G.idls, idls_p, List.nil_append, List.append_nil, List.cons_append, mkHp_cons, mkHp_nil, Nat.reduceEqDiff, reduceIte, List.mem_cons, List.not_mem_nil, or_false, or_true, true_or, false_or, List.filter_cons, List.filter_nil, ne_eq, not_true_eq_false, not_false_eq_true, decide_true, decide_false, Bool.false_eq_true, List.all_cons, List.all_nil, Bool.and_true, idls_told, idls_nil1] <;> rfl)) (h3 : subB (hpIds m I) I = true := by (simp only [frIds, dfIds, gdIdl, obIdl, hpIds, restrictL, dedupL, pickL, subB, G.idl, G.idls, idls_p, List.nil_append, List.append_nil, List.cons_append, mkHp_cons, mkHp_nil, Nat.reduceEqDiff, reduceIte, List.mem_cons, List.not_mem_nil, or_false, or_true, true_or, false_or, List.filter_cons, List.filter_nil, ne_eq, not_true_eq_false, not_false_eq_true, decide_true, decide_false, Bool.false_eq_true, List.all_cons, List.all_nil, Bool.and_true, idls_told, idls_nil1] <;> rfl)) (k : gwp C r cd Q (sg l' m' A df)) : gwp C r cd Q (sg l m A df) := gc_clean2 vs hl hm h1 h2 h3 k
theorem lendx (vs : List Nat) {m' : List (Nat × Ob)} {n n' : Nat} {IV : Nat → Sg E → Prop} {I : List Nat} (hl : (vs.map fun v => (v, mkFr l v)) = l' := by (simp only [List.map_cons, List.map_nil, mkFr_cons, mkFr_nil, Nat.reduceEqDiff, reduceIte] <;> rfl)) (hI : reach l' m df = I := by (simp only [reach, frIds, dfIds, gdIdl, obIdl, hpIds, restrictL, dedupL, pickL, subB, G.idl, G.idls, idls_p, List.nil_append, List.append_nil, List.cons_append, mkHp_cons, mkHp_nil, Nat.reduceEqDiff, reduceIte, List.mem_cons, List.not_mem_nil, or_false, or_true, true_or, false_or, List.filter_cons, List.filter_nil, ne_eq, not_true_eq_false, not_false_eq_true, decide_true, decide_false, Bool.false_eq_true, List.all_cons, List.all_nil, Bool.and_true, idls_told, idls_nil1] <;> rfl)) (hm : restrictL I m = m' := by (simp only [frIds, dfIds, gdIdl, obIdl, hpIds, restrictL, dedupL, pickL, subB, G.idl, G.idls, idls_p, List.nil_append, List.append_nil, List.cons_append, mkHp_cons, mkHp_nil, Nat.reduceEqDiff, reduceIte, List.mem_cons, List.not_mem_nil, or_false, or_true, true_or, false_or, List.filter_cons, List.filter_nil, ne_eq, not_true_eq_false, not_false_eq_true, decide_true, decide_false, Bool.false_eq_true, List.all_cons, List.all_nil, Bool.and_true, idls_told, idls_nil1] <;> rfl)) (h1 : subB (frIds l') I = true := by (simp only [frIds, dfIds, gdIdl, obIdl, hpIds, restrictL, dedupL, pickL, subB, G.idl, G.idls, idls_p, List.nil_append, List.append_nil, List.cons_append, mkHp_cons, mkHp_nil, Nat.reduceEqDiff, reduceIte, List.mem_cons, List.not_mem_nil, or_false, or_true, true_or, false_or, List.filter_cons, List.filter_nil, ne_eq, not_true_eq_false, not_false_eq_true, decide_true, decide_false, Bool.false_eq_true, List.all_cons, List.all_nil, Bool.and_true, idls_told, idls_nil1] <;> rfl)) (h2 : subB (dfIds df) I = true := by (simp only [frIds, dfIds, gdIdl, obIdl, hpIds, restrictL, dedupL, pickL, subB, G.idl, G.idls, idls_p, List.nil_append, List.append_nil, List.cons_append, mkHp_cons, mkHp_nil, Nat.reduceEqDiff, reduceIte, List.mem_cons, List.not_mem_nil, or_false, or_true, true_or, false_or, List.filter_cons, List.filter_nil, ne_eq, not_true_eq_false, not_false_eq_true, decide_true, decide_false, Bool.false_eq_true, List.all_cons, List.all_nil, Bool.and_true, idls_told, idls_nil1] <;> rfl)) (h3 : subB (hpIds m I) I = true := by (simp only [frIds, dfIds, gdIdl, obIdl, hpIds, restrictL, dedupL, pickL, subB, G.idl, G.idls, idls_p, List.nil_append, List.append_nil, List.cons_append, mkHp_cons, mkHp_nil, Nat.reduceEqDiff, reduceIte, List.mem_cons, List.not_mem_nil, or_false, or_true, true_or, false_or, List.filter_cons, List.filter_nil, ne_eq, not_true_eq_false, not_false_eq_true, decide_true, decide_false, Bool.false_eq_true, List.all_cons, List.all_nil, Bool.and_true, idls_told, idls_nil1] <;> rfl)) (h : n' < n) (hV : IV n' (sg l' m' A df)) :
    gthen (fun σ' => ∃ n' σ'', n' < n ∧ Le C σ' σ'' ∧ IV n' σ'') Q .normal (sg l m A df : Sg E) := ⟨n', _, h, le_clean2 vs hl hm h1 h2 h3, hV⟩
theorem lbegx (vs : List Nat) {m' : List (Nat × Ob)} {IV : Nat → Sg E → Prop} {I : List Nat} (hl : (vs.map fun v => (v, mkFr l v)) = l' := by (simp only [List.map_cons, List.map_nil, mkFr_cons, mkFr_nil, Nat.reduceEqDiff, reduceIte] <;> rfl)) (hI : reach l' m df = I := by (simp only [reach, frIds, dfIds, gdIdl, obIdl, hpIds, restrictL, dedupL, pickL, subB, G.idl, G.idls, idls_p, List.nil_append, List.append_nil, List.cons_append, mkHp_cons, mkHp_nil, Nat.reduceEqDiff, reduceIte, List.mem_cons, List.not_mem_nil, or_false, or_true, true_or, false_or, List.filter_cons, List.filter_nil, ne_eq, not_true_eq_false, not_false_eq_true, decide_true, decide_false, Bool.false_eq_true, List.all_cons, List.all_nil, Bool.and_true, idls_told, idls_nil1] <;> rfl)) (hm : restrictL I m = m' := by (simp only [frIds, dfIds, gdIdl, obIdl, hpIds, restrictL, dedupL, pickL, subB, G.idl, G.idls, idls_p, List.nil_append, List.append_nil, List.cons_append, mkHp_cons, mkHp_nil, Nat.reduceEqDiff, reduceIte, List.mem_cons, List.not_mem_nil, or_false, or_true, true_or, false_or, List.filter_cons, List.filter_nil, ne_eq, not_true_eq_false, not_false_eq_true, decide_true, decide_false, Bool.false_eq_true, List.all_cons, List.all_nil, Bool.and_true, idls_told, idls_nil1] <;> rfl)) (h1 : subB (frIds l') I = true := by (simp only [frIds, dfIds, gdIdl, obIdl, hpIds, restrictL, dedupL, pickL, subB, G.idl, G.idls, idls_p, List.nil_append, List.append_nil, List.cons_append, mkHp_cons, mkHp_nil, Nat.reduceEqDiff, reduceIte, List.mem_cons, List.not_mem_nil, or_false, or_true, true_or, false_or, List.filter_cons, List.filter_nil, ne_eq, not_true_eq_false, not_false_eq_true, decide_true, decide_false, Bool.false_eq_true, List.all_cons, List.all_nil, Bool.and_true, idls_told, idls_nil1] <;> rfl)) (h2 : subB (dfIds df) I = true := by (simp only [frIds, dfIds, gdIdl, obIdl, hpIds, restrictL, dedupL, pickL, subB, G.idl, G.idls, idls_p, List.nil_append, List.append_nil, List.cons_append, mkHp_cons, mkHp_nil, Nat.reduceEqDiff, reduceIte, List.mem_cons, List.not_mem_nil, or_false, or_true, true_or, false_or, List.filter_cons, List.filter_nil, ne_eq, not_true_eq_false, not_false_eq_true, decide_true, decide_false, Bool.false_eq_true, List.all_cons, List.all_nil, Bool.and_true, idls_told, idls_nil1] <;> rfl)) (h3 : subB (hpIds m I) I = true := by (simp only [frIds, dfIds, gdIdl, obIdl, hpIds, restrictL, dedupL, pickL, subB, G.idl, G.idls, idls_p, List.nil_append, List.append_nil, List.cons_append, mkHp_cons, mkHp_nil, Nat.reduceEqDiff, reduceIte, List.mem_cons, List.not_mem_nil, or_false, or_true, true_or, false_or, List.filter_cons, List.filter_nil, ne_eq, not_true_eq_false, not_false_eq_true, decide_true, decide_false, Bool.false_eq_true, List.all_cons, List.all_nil, Bool.and_true, idls_told, idls_nil1] <;> rfl)) (hV : ∃ n, IV n (sg l' m' A df)) :
    ∃ n σ'', Le C (sg l m A df : Sg E) σ'' ∧ IV n σ'' := by
  obtain ⟨n, hV⟩ := hV
  exact ⟨n, _, le_clean2 vs hl hm h1 h2 h3, hV⟩
end Go.Proofs.Ytedihdnkalmoiaa
