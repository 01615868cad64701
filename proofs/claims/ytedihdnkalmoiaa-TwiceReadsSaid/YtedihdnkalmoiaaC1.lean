/- The statement TwiceReadsSaid: the call returns true for every input, and its arguments read as before; no condition. -/
import Derived.Test.YtedihdnkalmoiaaB4
import Derived.Below
import Derived.ChangeArms
import Derived.DataReads
import Derived.WideShapes
import Derived.Carry
import Derived.OpenShut
import Derived.RowKit3
import Derived.ProofKit
import Derived.ChangeCalls
import Derived.Test.YtedihdnkalmoiaaRows
set_option linter.unusedVariables false
set_option linter.unusedSimpArgs false
/- From a contract over plain values to the call itself: what it hands back, and that nothing that was there has turned. -/
namespace Go.Gh
open Go.RowKit
variable {Pg : Program}

/-- Where no code waits for a yield. -/
def Env.base (Pg : Program) : Env Pg where
  α := Unit
  yv := .nilFunc
  one := rfl
  Res := fun _ S _ _ => ∀ b, ¬ S b
  Can := fun _ _ => False
  Y := fun _ _ _ _ => False
  stable := fun h _ _ _ _ _ => h
  ycall := fun h => h.elim
/-- What a world's cells hold. -/
def cellsP (w : World) : PM := fun b o => w.cell? ⟨b, o, none⟩
theorem base_rel (w : World) : Rel (Env.base Pg) (cellsP w) (fun _ => ⟨0, .nilFunc, 0⟩) (mkHp []) () (fun _ => False) w where
  know := fun _ _ _ h => h
  objs := fun id => by simp [ORel, mkHp_nil]
  apart := fun i j b hij h => by simp [live, mkHp_nil] at h
  sep := fun i b h => by simp [live, mkHp_nil] at h
  res := fun b h => h
  inb := fun b h => h.elim
theorem calls_of {f : FuncId} {ps : List P} {v : P} {vs : List Value} {w : World} (hs : PSpec Pg f ps (.ok v)) (hv : PRels (cellsP w) ps vs) :
    Calls Pg f ⟨vs⟩ w fun e w' => ∃ u π', e = .returned u ∧ PRel π' v u ∧ Below w.heap.size w w' := by
  have h := hs (Env.base Pg) () (cellsP w) (fun _ => ⟨0, .nilFunc, 0⟩) (fun _ => False) w vs (base_rel w) (VRels.of_PRels hv)
  refine (callsIn_wide.1 h).mono fun e w' k => ?_
  have key : ∀ {π' ρ' h' A' S'}, Behind (Env.base Pg) (cellsP w) (fun _ => ⟨0, .nilFunc, 0⟩) (mkHp []) (fun _ => False) w π' ρ' h' A' S' w' → Below w.heap.size w w' := fun b => by
    have t := b.trans
    refine ⟨t.os, t.tape, t.output, t.size, fun b hb => (t.keep b hb fun ho => ?_).1⟩
    rcases ho with ho | ⟨id, ho⟩
    · exact ho
    · simp [live, mkHp_nil] at ho
  cases e with
  | returned u =>
    obtain ⟨π', ρ', h', A', S', g, b, hvr, _, hR⟩ := k
    simp only [PRes.at, GRes.ok.injEq] at hR
    obtain ⟨rfl, _, _⟩ := hR
    exact ⟨u, π', rfl, by simpa only [VRel] using hvr, key b⟩
  | panicked chain =>
    obtain ⟨π', ρ', h', A', S', p, v', b, _, _, hR⟩ := k
    simp [PRes.at] at hR
  | outgrown => exact k.elim
end Go.Gh

/- What a call's arguments hold, read as data, are ghost values of the shape that their types have. -/
namespace Go.Gh
open Go.RowKit

/-- The shape of one cell. -/
inductive S where
  | bool | int (k : IntKind) | str
  | list (es : List S) (agg : Bool)

/-- The shape of a type's cells, as far as we read them: slices of slices are left out. -/
def shpF (sh : TypeId → Option (List S)) (P : Program) : List Field → Nat → Option (List S)
  | [], _ => some []
  | f :: fs, o => (sh f.type).bind fun a => if f.offset = o ∧ P.cellsOf f.type = a.length then (shpF sh P fs (o + a.length)).map (a ++ ·) else none
def shp (P : Program) : Nat → Bool → TypeId → Option (List S)
  | 0, _, _ => none
  | n + 1, deep, t => match P.underlying t with
    | some .bool => some [.bool]
    | some (.int k) => some [.int k]
    | some .string => some [.str]
    | some (.slice e) => if deep then none else (shp P n true e).bind fun es => if P.cellsOf e = es.length then (match P.underlying e with
      | some (.struct _) => some [.list es true]
      | some (.array _ _) => some [.list es true]
      | _ => if es.length = 1 then some [.list es false] else none) else none
    | some (.struct fs) => shpF (shp P n deep) P fs.toList 0
    | some (.array m e) => (shp P n deep e).bind fun es => if P.cellsOf e = es.length then some (List.replicate m es).flatten else none
    | _ => none

mutual
def Fits : S → P → Prop
  | .bool, x => ∃ b, x = .bool b
  | .int k, x => ∃ n, x = .int k n ∧ (Lit.int k n).wf = true
  | .str, x => ∃ s, x = .str s ∧ s.length ≤ maxLen
  | .list es agg, x => ∃ xs, x = .list xs ∧ xs.length ≤ maxLen ∧ ∀ y ∈ xs, ∃ cs, Fitss es cs ∧ (agg = true → y = .agg cs) ∧ (agg = false → cs = [y])
def Fitss : List S → List P → Prop
  | [], xs => xs = []
  | e :: es, xs => ∃ y ys, xs = y :: ys ∧ Fits e y ∧ Fitss es ys
end
theorem Fits.one {s : S} {x : P} (h : Fits s x) : x.one = true := by
  cases s <;> simp only [Fits] at h
  · obtain ⟨_, rfl⟩ := h; rfl
  · obtain ⟨_, rfl, _⟩ := h; rfl
  · obtain ⟨_, rfl, _⟩ := h; rfl
  · obtain ⟨_, rfl, _⟩ := h; rfl
theorem Fitss.length : ∀ {ss : List S} {xs : List P}, Fitss ss xs → xs.length = ss.length
  | [], xs, h => by simp only [Fitss] at h; subst h; rfl
  | s :: ss, xs, h => by
    simp only [Fitss] at h
    obtain ⟨y, ys, rfl, _, k⟩ := h
    simp [Fitss.length k]
theorem Fitss.one : ∀ {ss : List S} {xs : List P}, Fitss ss xs → ∀ x ∈ xs, x.one = true
  | [], xs, h, x, hx => by simp only [Fitss] at h; subst h; simp at hx
  | s :: ss, xs, h, x, hx => by
    simp only [Fitss] at h
    obtain ⟨y, ys, rfl, k1, k2⟩ := h
    rcases List.mem_cons.1 hx with rfl | hx
    · exact k1.one
    · exact Fitss.one k2 x hx
theorem Fitss.append : ∀ {ss ts : List S} {xs ys : List P}, Fitss ss xs → Fitss ts ys → Fitss (ss ++ ts) (xs ++ ys)
  | [], ts, xs, ys, h, k => by simp only [Fitss] at h; subst h; simpa using k
  | s :: ss, ts, xs, ys, h, k => by
    simp only [Fitss] at h
    obtain ⟨y, zs, rfl, k1, k2⟩ := h
    simp only [List.cons_append, Fitss]
    exact ⟨y, _, rfl, k1, Fitss.append k2 k⟩
theorem PRels.append' {π : PM} {xs ys : List P} {us vs : List Value} (h : PRels π xs us) (k : PRels π ys vs) : PRels π (xs ++ ys) (us ++ vs) := by
  induction xs generalizing us with
  | nil => simp only [PRels] at h; subst h; simpa using k
  | cons x xs ih =>
    simp only [PRels] at h
    obtain ⟨v, ws, rfl, h1, h2⟩ := h
    simp only [List.cons_append, PRels]
    exact ⟨v, _, rfl, h1, ih h2⟩
/-- No cell leads into a part of an interface value. -/
def Spots (cs : List Value) : Prop := ∀ a len cap, Value.slice (some a) len cap ∈ cs → a.spot = none

variable {H : Type} {enc : TypeId × Value → H} {Pg : Program} {w : World} {base : Nat} {spare : Nat → Bool} {held : Bool}
theorem mapM_get {α β : Type} {f : α → Option β} : ∀ {l : List α} {r : List β}, l.mapM f = some r → r.length = l.length ∧ ∀ (i : Nat) x, l[i]? = some x → f x = r[i]?
  | l, r, h => ⟨mapM_some_length h, fun i x hx => mapM_some_get h i x hx⟩
theorem add_none (b o j : Nat) : (⟨b, o, none⟩ : Addr).add j = ⟨b, o + j, none⟩ := by simp [Addr.add]
/-- A row of cells, relation by relation. -/
theorem row_of {a : Addr} {n : Nat} {cs : List Value} {ps : List P} (hs : a.spot = none) (h : w.cells? base a n = some cs) (hr : PRels (cellsP w) ps cs) (h1 : ∀ x ∈ ps, x.one = true) : PRow (cellsP w) a.block a.off ps := by
  obtain ⟨_, hl, hc⟩ := World.cells?_some h
  refine PRow.mk fun j c hj => ?_
  obtain ⟨u, hu, hk⟩ := hr.get j c hj
  refine ⟨u, ?_, hk, h1 c (List.mem_of_getElem? hj)⟩
  have hjn : j < n := by
    have := (List.getElem?_eq_some_iff.1 hu).1
    omega
  have := hc j hjn
  rw [hu] at this
  rw [← this]
  obtain ⟨b, o, s⟩ := a
  simp only at hs; subst hs
  simp only [cellsP, add_none]
theorem PElems.of_rows {π : PM} {b c : Nat} : ∀ {xs : List P} {o : Nat}, (∀ (i : Nat) x, xs[i]? = some x → x.cells.length = c ∧ PRow π b (o + i * c) x.cells) → PElems π b o xs := by
  intro xs
  induction xs with
  | nil => intro o _; simp only [PElems]
  | cons x xs ih =>
    intro o h
    have h0 := h 0 x (by simp)
    rw [PElems.row, List.flatMap_cons, PRow.append, ← PElems.row]
    refine ⟨by simpa using h0.2, ?_⟩
    rw [h0.1]
    refine ih fun i y hy => ?_
    have := h (i + 1) y (by simpa using hy)
    refine ⟨this.1, ?_⟩
    have e : o + c + i * c = o + (i + 1) * c := by rw [Nat.add_mul]; omega
    rw [e]; exact this.2
theorem exists_list {α : Type} {n : Nat} {R : Nat → α → Prop} (h : ∀ i, i < n → ∃ x, R i x) : ∃ xs : List α, xs.length = n ∧ ∀ (i : Nat) x, xs[i]? = some x → R i x := by
  induction n with
  | zero => exact ⟨[], rfl, fun i x hx => by simp at hx⟩
  | succ n ih =>
    obtain ⟨xs, hl, hx⟩ := ih fun i hi => h i (by omega)
    obtain ⟨x, hr⟩ := h n (by omega)
    refine ⟨xs ++ [x], by simp [hl], fun i y hy => ?_⟩
    by_cases hi : i < n
    · rw [List.getElem?_append_left (by omega)] at hy; exact hx i y hy
    · have hi' : i = n := by
        have := (List.getElem?_eq_some_iff.1 hy).1
        simp [hl] at this; omega
      subst hi'
      rw [List.getElem?_append_right (by omega), hl] at hy
      simp at hy; subst hy; exact hr

theorem Spots.sub {cs ds : List Value} (h : Spots cs) (hs : ∀ v ∈ ds, v ∈ cs) : Spots ds := fun a l c k => h a l c (hs _ k)

theorem shpF_sound {sh : TypeId → Option (List S)} {R : TypeId → List Value → Prop} {cs : List Value}
    (ih : ∀ t ss ds, sh t = some ss → Pg.cellsOf t = ss.length → R t ds → (∀ v ∈ ds, v ∈ cs) → ∃ ps, PRels (cellsP w) ps ds ∧ Fitss ss ps) :
    ∀ (fs : List Field) (o : Nat) (ss : List S), shpF sh Pg fs o = some ss → o + ss.length = cs.length → (∀ f ∈ fs, R f.type ((cs.drop f.offset).take (Pg.cellsOf f.type))) →
      ∃ ps, PRels (cellsP w) ps (cs.drop o) ∧ Fitss ss ps
  | [], o, ss, h, hl, _ => by
    simp only [shpF, Option.some.injEq] at h; subst h
    simp at hl; subst hl
    exact ⟨[], by simp [PRels], by simp [Fitss]⟩
  | f :: fs, o, ss, h, hl, hr => by
    simp only [shpF, Option.bind_eq_some_iff] at h
    obtain ⟨a, ha, h⟩ := h
    split at h
    · rename_i hc
      obtain ⟨rfl, hc⟩ := hc
      simp only [Option.map_eq_some_iff] at h
      obtain ⟨b, hb, rfl⟩ := h
      obtain ⟨p1, q1, g1⟩ := ih f.type a _ ha hc (hr f (by simp)) (fun v hv => List.mem_of_mem_drop (List.mem_of_mem_take hv))
      obtain ⟨p2, q2, g2⟩ := shpF_sound ih fs _ b hb (by simp at hl; omega) (fun g hg => hr g (by simp [hg]))
      refine ⟨p1 ++ p2, ?_, g1.append g2⟩
      have := q1.append' q2
      rw [hc] at this
      rw [← List.drop_drop] at this
      rwa [List.take_append_drop] at this
    · cases h

theorem flat_sound {es : List S} {cs : List Value} {c : Nat} (hc : c = es.length) :
    ∀ (m o : Nat), (∀ i, o ≤ i → i < o + m → ∃ ps, PRels (cellsP w) ps ((cs.drop (i * c)).take c) ∧ Fitss es ps) →
      ∃ ps, PRels (cellsP w) ps ((cs.drop (o * c)).take (m * c)) ∧ Fitss (List.replicate m es).flatten ps := by
  intro m
  induction m with
  | zero => intro o _; exact ⟨[], by simp [PRels], by simp [Fitss]⟩
  | succ m ih =>
    intro o h
    obtain ⟨p1, q1, g1⟩ := h o (by omega) (by omega)
    obtain ⟨p2, q2, g2⟩ := ih (o + 1) fun i h1 h2 => h i (by omega) (by omega)
    refine ⟨p1 ++ p2, ?_, ?_⟩
    · have := q1.append' q2
      have e : (cs.drop (o * c)).take ((m + 1) * c) = (cs.drop (o * c)).take c ++ (cs.drop ((o + 1) * c)).take (m * c) := by
        rw [Nat.add_mul, Nat.one_mul, Nat.add_comm (m * c), List.take_add, List.drop_drop, Nat.add_mul, Nat.one_mul]
      rw [e]; exact this
    · rw [List.replicate_succ, List.flatten_cons]; exact g1.append g2

theorem trod_arr {k : Nat} {t e : TypeId} {m : Nat} {cs : List Value} {x : DataW H × List MemPlace} (ht : Pg.underlying t = some (.array k e)) (h : DataW.trod enc Pg w base spare held m t cs = some x) :
    ∃ n, cs.length = Pg.cellsOf t ∧ ∀ i, i < k → ∃ y, DataW.trod enc Pg w base spare held n e ((cs.drop (i * Pg.cellsOf e)).take (Pg.cellsOf e)) = some y := by
  cases m with
  | zero => simp [DataW.trod] at h
  | succ n =>
    unfold DataW.trod at h
    rw [ht] at h
    split at h <;> simp_all
    obtain ⟨hl, xs, hxs, _⟩ := h
    refine ⟨n, fun i hi => ?_⟩
    obtain ⟨h1, h2⟩ := mapM_get hxs
    have := h2 i i (by simp [hi])
    simp at h1
    exact ⟨_, _, by rw [this]; exact List.getElem?_eq_getElem (by omega)⟩
theorem shp_sound : ∀ (n : Nat) (deep : Bool) (t : TypeId) (ss : List S), shp Pg n deep t = some ss →
    ∀ (m : Nat) (cs : List Value) (x : DataW H × List MemPlace), DataW.trod enc Pg w base spare held m t cs = some x → (deep = false → Spots cs) → Pg.cellsOf t = ss.length →
      ∃ ps, PRels (cellsP w) ps cs ∧ Fitss ss ps := by
  intro n
  induction n with
  | zero => intro _ _ _ h; simp [shp] at h
  | succ n ih =>
    intro deep t ss h m cs x hx hsp hct
    unfold shp at h
    split at h
    · rename_i ht
      simp only [Option.some.injEq] at h; subst h
      obtain ⟨b, rfl, _⟩ := DataW.trod_bool ht hx
      exact ⟨[.bool b], by simp [PRels, PRel], by simp [Fitss, Fits]⟩
    · rename_i k ht
      simp only [Option.some.injEq] at h; subst h
      obtain ⟨b, rfl, _, hw⟩ := DataW.trod_int ht hx
      exact ⟨[.int k b], by simp [PRels, PRel], by simp [Fitss, Fits, hw]⟩
    · rename_i ht
      simp only [Option.some.injEq] at h; subst h
      obtain ⟨s, rfl, _, hw⟩ := DataW.trod_string ht hx
      exact ⟨[.str s.data.toList], by simp [PRels, PRel], by simp [Fitss, Fits]; exact hw⟩
    · rename_i e ht
      split at h
      · cases h
      · rename_i hdeep
        simp only [Option.bind_eq_some_iff] at h
        obtain ⟨es, hes, h⟩ := h
        split at h
        · rename_i hce
          have agg : ∃ g : Bool, ss = [.list es g] ∧ (g = false → es.length = 1) := by
            split at h
            · simp only [Option.some.injEq] at h; subst h; exact ⟨true, rfl, fun k => by cases k⟩
            · simp only [Option.some.injEq] at h; subst h; exact ⟨true, rfl, fun k => by cases k⟩
            · split at h
              · rename_i h1
                simp only [Option.some.injEq] at h; subst h; exact ⟨false, rfl, fun _ => h1⟩
              · cases h
          obtain ⟨g, rfl, hg⟩ := agg
          clear h
          rcases DataW.trod_slice ht hx with ⟨rfl, _⟩ | ⟨a, len, cap, elems, rest, n', _, rfl, _, hb, hl, hm, hlen, hel, _, _⟩
          · refine ⟨[.list []], ?_, by simp [Fitss, Fits]⟩
            simp only [PRels, PRel]
            exact ⟨_, _, rfl, ⟨none, 0, 0, rfl, rfl, Nat.le_refl _, .inl ⟨rfl, rfl⟩⟩, rfl⟩
          · have hspot : a.spot = none := hsp (by simpa using hdeep) a len cap (by simp)
            have each : ∀ i, i < len → ∃ y : P, ∃ cs, PRow (cellsP w) a.block (a.off + i * es.length) cs ∧ cs.length = es.length ∧ y.cells = cs ∧ Fitss es cs ∧ (g = true → y = .agg cs) ∧ (g = false → cs = [y]) := by
              intro i hi
              have hh := hel i hi
              rw [List.getElem?_eq_getElem (by omega)] at hh
              simp only [Option.bind_eq_some_iff] at hh
              obtain ⟨ds, hds, hy⟩ := hh
              obtain ⟨ps, q1, q2⟩ := ih true e es hes _ _ _ hy (fun k => by cases k) hce
              have hrow' : PRow (cellsP w) a.block (a.off + i * es.length) ps := by
                obtain ⟨b, o, s⟩ := a
                simp only at hspot; subst hspot
                rw [add_none] at hds
                have := row_of rfl hds q1 q2.one
                rwa [hce] at this
              cases g with
              | true => exact ⟨.agg ps, ps, hrow', q2.length, rfl, q2, fun _ => rfl, (fun k => by cases k)⟩
              | false =>
                have := hg rfl
                have hl1 := q2.length
                rw [this] at hl1
                obtain ⟨y, rfl⟩ := List.length_eq_one_iff.1 hl1
                refine ⟨y, [y], hrow', by simp [this], ?_, q2, (fun k => by cases k), fun _ => rfl⟩
                have := q2.one y (by simp)
                cases y <;> first | rfl | simp [P.one] at this
            obtain ⟨xs, hxl, hxs⟩ := exists_list each
            refine ⟨[.list xs], ?_, ?_⟩
            · obtain ⟨b, o, s⟩ := a
              simp only at hspot; subst hspot
              simp only [PRels, PRel]
              refine ⟨_, _, rfl, ⟨_, len, cap, rfl, by omega, hl, .inr ⟨b, o, rfl, ?_⟩⟩, rfl⟩
              refine PElems.of_rows (c := es.length) fun i x hi => ?_
              obtain ⟨cs, k1, k2, k3, _⟩ := hxs i x hi
              rw [k3]; exact ⟨k2, k1⟩
            · simp only [Fitss, Fits]
              refine ⟨_, _, rfl, ⟨xs, rfl, by omega, fun y hy => ?_⟩, rfl⟩
              obtain ⟨i, hi⟩ := List.getElem?_of_mem hy
              obtain ⟨cs, _, _, _, k4, k5, k6⟩ := hxs i y hi
              exact ⟨cs, k4, k5, k6⟩
        · cases h
    · rename_i fs ht
      obtain ⟨xs, n', _, _, hl, hxl, hf⟩ := DataW.trod_struct ht hx
      have := shpF_sound (w := w) (Pg := Pg) (sh := shp Pg n deep) (R := fun t ds => ∃ y, DataW.trod enc Pg w base spare held n' t ds = some y) (cs := cs) ?_ fs.toList 0 ss h (by omega) ?_
      · simpa using this
      · rintro t' ss' ds' hs' hc' ⟨y, hy⟩ hsub
        exact ih deep t' ss' hs' _ _ _ hy (fun k => (hsp k).sub hsub) hc'
      · intro f hf'
        obtain ⟨i, hi⟩ := List.getElem?_of_mem hf'
        have hi' : fs[i]? = some f := by simpa using hi
        have := hf i f hi'
        have hlt : i < xs.length := by
          rw [hxl]
          exact (Array.getElem?_eq_some_iff.1 hi').1
        exact ⟨_, by rw [this]; exact List.getElem?_eq_getElem hlt⟩
    · rename_i k e ht
      simp only [Option.bind_eq_some_iff] at h
      obtain ⟨es, hes, h⟩ := h
      split at h
      · rename_i hce
        simp only [Option.some.injEq] at h; subst h
        obtain ⟨n', hl, hf⟩ := trod_arr ht hx
        have hlen : cs.length = k * es.length := by
          rw [hl, hct]; simp
        have := flat_sound (w := w) (cs := cs) (es := es) (c := Pg.cellsOf e) hce k 0 ?_
        · simp only [Nat.zero_mul, List.drop_zero] at this
          rwa [List.take_of_length_le (by rw [hce]; omega)] at this
        · intro i _ hi
          obtain ⟨y, hy⟩ := hf i (by omega)
          exact ih deep e es hes _ _ _ hy (fun q => (hsp q).sub fun v hv => List.mem_of_mem_drop (List.mem_of_mem_take hv)) hce
      · cases h
    · cases h
end Go.Gh

/- The join of a law: from a contract over plain values, for all values of the parameters' shapes, to what the row asks of the call. -/
namespace Go.Gh
open Go.RowKit Go.ChangeShapes Go.WideShapes Go.ChangeAt

def argS (P : Program) (n : Nat) (t : TypeId) : Option (Bool × List S) :=
  match P.underlying t with
  | some (.struct _) => (shp P n false t).bind fun ss => if P.cellsOf t = ss.length then some (true, ss) else none
  | some (.array _ _) => (shp P n false t).bind fun ss => if P.cellsOf t = ss.length then some (true, ss) else none
  | _ => (shp P n false t).bind fun ss => if P.cellsOf t = ss.length ∧ ss.length = 1 then some (false, ss) else none
def argSs (P : Program) (n : Nat) : List TypeId → Option (List (Bool × List S))
  | [] => some []
  | t :: ts => match argS P n t, argSs P n ts with
    | some s, some ss => some (s :: ss)
    | _, _ => none
def FitA : Bool × List S → P → Prop
  | (true, ss), x => ∃ cs, x = .agg cs ∧ Fitss ss cs
  | (false, ss), x => Fitss ss [x]
def FitAs : List (Bool × List S) → List P → Prop
  | [], xs => xs = []
  | s :: ss, xs => ∃ y ys, xs = y :: ys ∧ FitA s y ∧ FitAs ss ys

variable {H : Type} {enc : TypeId × Value → H} {Pg : Program} {W : World} {base : Nat} {spare : Nat → Bool} {held : Bool}
theorem cell_spot {u : TypeId} {a : Addr} {len cap : Nat} {r : Reach} (h : Cell.okWide Pg W r base u (.slice (some a) len cap)) : a.spot = none := by
  unfold Cell.okWide at h
  cases hu : Pg.underlying u with
  | none => simp [hu, Cell.ok] at h
  | some d =>
    rw [hu] at h
    cases d <;> simp [Cell.ok, hu] at h
    exact h.2.2.2.1
theorem agg_spots {t : TypeId} {cs : Array Value} {r : Reach} (h : Row.okWide Pg W r base t cs) : Spots cs.toList := fun a len cap hm => by
  obtain ⟨ts, _, _, h⟩ := h
  obtain ⟨i, hi⟩ := List.getElem?_of_mem hm
  obtain ⟨u, _, hk⟩ := h i _ (by simpa using hi)
  exact cell_spot hk
theorem arg_of {n : Nat} {t : TypeId} {v : Value} {d : DataW H} {p : List MemPlace} {s : Bool × List S} {r : Reach} {b0 : Nat} (h : DataW.Trod enc Pg W base spare held t v d p) (hv : Value.okWide Pg W r b0 t v) (hs : argS Pg n t = some s) :
    ∃ x, PRel (cellsP W) x v ∧ FitA s x := by
  obtain ⟨fuel, h⟩ := h
  have aggs : (∃ cs, v = .agg cs ∧ cs.size = Pg.cellsOf t ∧ Row.okWide Pg W r b0 t cs) → (((shp Pg n false t).bind fun ss => if Pg.cellsOf t = ss.length then some (true, ss) else none) = some s) → ∃ x, PRel (cellsP W) x v ∧ FitA s x := by
    rintro ⟨cs, rfl, hl, ho⟩ hs
    simp only [Option.bind_eq_some_iff] at hs
    obtain ⟨ss, hss, hs⟩ := hs
    split at hs
    · rename_i hc
      simp only [Option.some.injEq] at hs; subst hs
      obtain ⟨ps, q1, q2⟩ := shp_sound n false t ss hss _ _ _ h (fun _ => agg_spots ho) hc
      refine ⟨.agg ps, ?_, ps, rfl, q2⟩
      simp only [PRel]
      exact ⟨_, rfl, q1⟩
    · cases hs
  have ones : v.cells = #[v] → Cell.okWide Pg W r b0 t v → (((shp Pg n false t).bind fun ss => if Pg.cellsOf t = ss.length ∧ ss.length = 1 then some (false, ss) else none) = some s) → ∃ x, PRel (cellsP W) x v ∧ FitA s x := by
    intro hv1 ho hs
    simp only [Option.bind_eq_some_iff] at hs
    obtain ⟨ss, hss, hs⟩ := hs
    split at hs
    · rename_i hc
      simp only [Option.some.injEq] at hs; subst hs
      obtain ⟨ps, q1, q2⟩ := shp_sound n false t ss hss _ _ _ h (fun _ => by
        rw [hv1]
        intro a len cap hm
        simp at hm; subst hm
        exact cell_spot ho) hc.1
      have hl := q2.length
      rw [hc.2] at hl
      obtain ⟨x, rfl⟩ := List.length_eq_one_iff.1 hl
      rw [hv1] at q1
      simp only [PRels] at q1
      obtain ⟨v', vs, e, q, e'⟩ := q1
      subst e'
      simp at e; subst e
      exact ⟨x, q, q2⟩
    · cases hs
  unfold argS at hs
  unfold Value.okWide at hv
  split at hs
  · rename_i hu; rw [hu] at hv; exact aggs hv hs
  · rename_i hu; rw [hu] at hv; exact aggs hv hs
  · rename_i h1 h2
    have ho : Cell.okWide Pg W r b0 t v := by
      revert hv
      cases hu : Pg.underlying t with
      | none => exact id
      | some d => cases d <;> first | exact id | exact absurd hu (h1 _) | exact absurd hu (h2 _ _)
    refine ones ?_ ho hs
    revert ho
    unfold Cell.okWide
    cases v with
    | agg cs => cases hu : Pg.underlying t with
      | none => simp [Cell.ok, hu]
      | some d => cases d <;> simp [Cell.ok, hu]
    | _ => intro _; rfl
theorem args_of {n : Nat} : ∀ {ts : List TypeId} {vs : List Value} {ds : List (DataW H)} {p : List MemPlace} {ss : List (Bool × List S)} {r : Reach} {b0 : Nat}, DataW.TrodAll enc Pg W base spare held ts vs ds p →
    (∀ (j : Nat) t v, ts[j]? = some t → vs[j]? = some v → Value.okWide Pg W r b0 t v) → argSs Pg n ts = some ss → ∃ ps, PRels (cellsP W) ps vs ∧ FitAs ss ps
  | [], vs, ds, p, ss, r, b0, h, _, hs => by
    obtain ⟨rfl, _⟩ := trodAll_nil h
    simp only [argSs, Option.some.injEq] at hs; subst hs
    exact ⟨[], by simp [PRels], by simp [FitAs]⟩
  | t :: ts, vs, ds, p, ss, r, b0, h, hv, hs => by
    obtain ⟨v, vs', d, ds', p', q, rfl, rfl, rfl, h1, h2⟩ := trodAll_cons h
    unfold argSs at hs
    split at hs
    · rename_i s ss' e1 e2
      simp only [Option.some.injEq] at hs; subst hs
      obtain ⟨x, k1, k2⟩ := arg_of h1 (hv 0 t v rfl rfl) e1
      obtain ⟨xs, k3, k4⟩ := args_of h2 (fun j t v a b => hv (j + 1) t v (by simpa using a) (by simpa using b)) e2
      refine ⟨x :: xs, ?_, ?_⟩
      · simp only [PRels]; exact ⟨_, _, rfl, k1, k3⟩
      · simp only [FitAs]; exact ⟨_, _, rfl, k2, k4⟩
    · cases hs
/-- The arguments read as before. -/
theorem trodAll_stays (hl : laidOutB Pg = true) {W W' : World} (hb : Below W.heap.size W W') : ∀ {ts : List TypeId} {vs : List Value} {ds : List (DataW H)} {p : List MemPlace},
    (ts.all fun t => Pg.readableRec t && decide (t < Pg.types.size)) = true → DataW.TrodAll enc Pg W 0 (fun _ => true) true ts vs ds p →
    DataW.TrodAll enc Pg W' 0 (fun b => decide (b < W.heap.size)) true ts vs ds p
  | [], vs, ds, p, _, h => by
    obtain ⟨rfl, rfl, rfl⟩ := trodAll_nil h
    exact trodAll_mk0
  | t :: ts, vs, ds, p, ht, h => by
    obtain ⟨v, vs', d, ds', p', q, rfl, rfl, rfl, h1, h2⟩ := trodAll_cons h
    simp only [List.all_cons, Bool.and_eq_true, decide_eq_true_eq] at ht
    have lt : ∀ x ∈ p', x.block < W.heap.size := by obtain ⟨m, hm⟩ := h1; exact DataW.trod_lt m _ _ _ hm
    exact trodAll_cons_mk (Below.trod hl ht.1.1 ht.1.2 h1 hb lt) (trodAll_stays hl hb ht.2 h2)
/-- What a law's row asks of the call. -/
theorem law_post {sp : ChangeSpec} {fn : Func} {f : FuncId} {n : Nat} {ss : List (Bool × List S)} {b : TypeId}
    (hl : laidOutB Pg = true) (hrd : (fn.params.toList.all fun t => Pg.readableRec t && decide (t < Pg.types.size)) = true)
    (hss : argSs Pg n fn.params.toList = some ss) (hres : fn.resultTypes = #[b]) (hb : Pg.underlying b = some .bool) (hvars : sp.vars = [])
    (hsp : ∀ ds : List (DataW H), ds.length = fn.params.size → sp.fn H ds = { results := [.lit (.bool true)], args := ds })
    (hlaw : ∀ ps, FitAs ss ps → PSpec Pg f ps (.ok (.bool true)))
    {args : Array Value} {ds gs : List (DataW H)} {before : List MemPlace} {base : Nat}
    (hval : ∀ (j : Nat) t v, fn.params[j]? = some t → args[j]? = some v → Value.okWide Pg W .any base t v)
    (hW : DataW.Whole enc Pg fn.params.toList sp.vars false W args.toList ds gs before) :
    Calls Pg f args W fun e W' => ∃ v, e = .returned v ∧ sp.post enc Pg fn false true false false W args v W' := by
  have hW' := hW
  obtain ⟨p, q, hA, hV, rfl, hfz, hnd⟩ := hW
  rw [hvars] at hV
  obtain ⟨rfl, rfl⟩ := trodVars_none hV
  have hval' : ∀ (j : Nat) t v, fn.params.toList[j]? = some t → args.toList[j]? = some v → Value.okWide Pg W .any base t v := fun j t v h1 h2 =>
    hval j t v (by simpa using h1) (by simpa using h2)
  obtain ⟨ps, k1, k2⟩ := args_of hA hval' hss
  have hds : ds.length = fn.params.size := by
    have := (trodAll_length hA).2
    simpa using this
  have := calls_of (w := W) (hlaw ps k2) k1
  refine (Calls.mono this) fun e W' ⟨u, π', he, hu, hbel⟩ => ?_
  simp only [PRel] at hu; subst hu
  refine ⟨_, he, ds, [], _, [], p, [], hW', ?_, ?_, ?_, hbel.frame _, fun h => by cases h⟩
  · rw [List.append_nil, hsp ds hds, hres]
    exact trodAll_mk1 (shut_bool hb _)
  · rw [List.append_nil, hsp ds hds]
    exact trodAll_stays hl hbel hrd hA
  · rw [List.append_nil, hsp ds hds, hvars]
    rfl
end Go.Gh

/- What the parameters of this seat's statements read as. -/
namespace Go.Proofs.Ytedihdnkalmoiaa
open Go.Gh
theorem own : ownKnob Try.prog.godebug = none := by kernel_rfl
theorem laidOut : laidOutB Try.prog = true := by kernel_rfl
def intS : S := .int .i64
def shSS : List S := [.int .i64, .list [.int .i64] false, .int .i64, .int .i64, .list [.int .i64, .int .i64, .bool] true]
theorem list_of {α : Type} {f : α → P} {Q : α → Prop} : ∀ {xs : List P}, (∀ y ∈ xs, ∃ a, y = f a ∧ Q a) → ∃ l : List α, xs = l.map f ∧ ∀ a ∈ l, Q a
  | [], _ => ⟨[], rfl, fun a h => by simp at h⟩
  | x :: xs, h => by
    obtain ⟨l, rfl, hl⟩ := list_of (xs := xs) fun y hy => h y (List.mem_cons_of_mem _ hy)
    obtain ⟨a, rfl, ha⟩ := h x (by simp)
    exact ⟨a :: l, rfl, fun b hb => by
      rcases List.mem_cons.1 hb with rfl | hb
      · exact ha
      · exact hl b hb⟩
theorem wf_i64 {n : Int} (h : (Lit.int .i64 n).wf = true) : inI n := by
  simpa [Lit.wf, IntKind.min, IntKind.max, IntKind.signed, IntKind.bits, inI] using h
theorem sh_of {x : P} (h : FitA (true, shSS) x) : ∃ s : Sh, x = .agg [.int .i64 s.num, .list (s.sizes.map (.int .i64)), .int .i64 s.lo, .int .i64 s.hi, .list (s.notes.map pn)] ∧
    inI s.num ∧ inI s.lo ∧ inI s.hi ∧ (∀ n ∈ s.sizes, inI n) ∧ ∀ n ∈ s.notes, inI n.a ∧ inI n.b := by
  simp only [FitA, shSS, Fitss, Fits] at h
  obtain ⟨cs, rfl, _, _, rfl, ⟨num, rfl, h1⟩, _, _, rfl, ⟨xs, rfl, _, hxs⟩, _, _, rfl, ⟨lo, rfl, h2⟩, _, _, rfl, ⟨hi, rfl, h3⟩, _, _, rfl, ⟨ys, rfl, _, hys⟩, rfl⟩ := h
  obtain ⟨l, rfl, hl⟩ := list_of (f := fun n : Int => P.int .i64 n) (Q := inI) (xs := xs) fun y hy => by
    obtain ⟨cs, ⟨_, _, rfl, ⟨n, rfl, hn⟩, rfl⟩, _, h⟩ := hxs y hy
    have := h trivial
    simp at this
    exact ⟨n, this.symm, wf_i64 hn⟩
  obtain ⟨m, rfl, hm⟩ := list_of (f := pn) (Q := fun n => inI n.a ∧ inI n.b) (xs := ys) fun y hy => by
    obtain ⟨cs, ⟨_, _, rfl, ⟨a, rfl, ha⟩, _, _, rfl, ⟨b, rfl, hb⟩, _, _, rfl, ⟨c, rfl⟩, rfl⟩, h, _⟩ := hys y hy
    exact ⟨⟨a, b, c⟩, h trivial, wf_i64 ha, wf_i64 hb⟩
  exact ⟨⟨num, l, lo, hi, m⟩, rfl, wf_i64 h1, wf_i64 h2, wf_i64 h3, hl, hm⟩
theorem int_of {x : P} (h : FitA (false, [.int .i64]) x) : ∃ n, x = .int .i64 n ∧ inI n := by
  simp only [FitA, Fitss, Fits] at h
  obtain ⟨_, _, e, ⟨n, rfl, h1⟩, rfl⟩ := h
  simp at e; subst e
  exact ⟨n, rfl, wf_i64 h1⟩
end Go.Proofs.Ytedihdnkalmoiaa

/- The statement TwiceReads, for every shelf and any two numbers: the law returns true, and its arguments read as they did. -/
namespace Go.Proofs.Ytedihdnkalmoiaa
open Go.Gh Go.ChangeShapes Go.WideShapes Go.ChangeAt Go.RowKit
set_option maxRecDepth 100000
theorem a_reads : ∀ ps, FitAs [(true, shSS), (false, [.int .i64]), (false, [.int .i64])] ps → PSpec Try.prog 3 ps (.ok (.bool true)) := fun ps h => by
  simp only [FitAs] at h
  obtain ⟨_, _, rfl, h1, _, _, rfl, h2, _, _, rfl, h3, rfl⟩ := h
  obtain ⟨s, rfl, _⟩ := sh_of h1
  obtain ⟨a, rfl, _⟩ := int_of h2
  obtain ⟨b, rfl, _⟩ := int_of h3
  exact l_reads s a b
theorem reads_lifted (os : Os) (started : os.Started) (H : Type) (enc : TypeId × Value → H) :
    ReturnsInHanded {} Try.checked os 3 .any (Rows.twiceReadsSpec.pre6 enc Try.prog Try.f3 Rows.twiceReadsRow.domain false) (Rows.twiceReadsSpec.post enc Try.prog Try.f3 false true false false) := by
  refine returnsInHanded_of_change (C := Try.checked) own started (by kernel_rfl) Try.func3
    (ChangeSpec.witness6 (enc := enc) (C := Try.checked) false ⟨#[], #[.agg #[.int .i64 0, .slice none 0 0, .int .i64 0, .int .i64 0, .slice none 0 0], .int .i64 0, .int .i64 0], []⟩ 8 (by kernel_rfl) (by kernel_rfl) (by kernel_rfl) (by kernel_rfl)) ?_
  intro W base args ds gs before hval hW _ _
  exact law_post (n := 9) (ss := [(true, shSS), (false, [.int .i64]), (false, [.int .i64])]) (b := 4) laidOut (by kernel_rfl) (by kernel_rfl) (by kernel_rfl) (by kernel_rfl) rfl
    (fun ds hd => by
      have hd' : ds.length = 3 := hd
      match ds, hd' with
      | [a, b, c], _ => rfl) a_reads hval hW
theorem reads_holds : Rows.TwiceReadsSaid :=
  OpenClaim.holds_of_wide 3 Try.f3 rfl rfl rfl rfl rfl rfl rfl ⟨rfl, rfl, rfl, rfl, rfl⟩ rfl rfl rfl rfl rfl (by kernel_rfl) Try.func3 (by kernel_rfl)
    (of_decide_eq_true (by kernel_rfl)) (by unfold Func.isWrapper; first | (rw [if_pos (by decide +kernel)]; kernel_rfl) | (rw [if_neg (by decide +kernel)]; exact ⟨rfl, rfl⟩))
    (fun os started H enc _ => reads_lifted os started H enc)
end Go.Proofs.Ytedihdnkalmoiaa
